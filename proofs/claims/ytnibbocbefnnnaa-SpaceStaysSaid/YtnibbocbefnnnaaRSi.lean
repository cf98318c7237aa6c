import Derived.Test.YtnibbocbefnnnaaRPlainSp
import Derived.Test.YtnibbocbefnnnaaRSc
import Derived.Test.YtnibbocbefnnnaaRSf
import Derived.Test.YtnibbocbefnnnaaRSp
set_option linter.unusedVariables false
set_option linter.unusedSimpArgs false
namespace Go.Vk
open Go.Proofs
variable {D : List Deferred}
set_option maxHeartbeats 4000000 in
set_option maxRecDepth 100000 in
theorem f44 (V : VT) (w : World) (bp : Nat) (Ap : Option Addr) (cp mp : Nat) (pL : List (Str × List (Int × Str × Bool))) (pl pm : Int) (hS : St V w [spE bp Ap cp mp (pL) (pl) (pm)]) (h5 : pL.length ≤ 99000) (hb : ∀ y, (lkD y pL).length ≤ 4398046511104) :
    Calls Try.prog 44 #[.pointer (some ⟨bp, 0, none⟩)] w (Ret V w [spE bp Ap cp mp (pL) (pl) (pm)] fun rv V' E' => ∃ (A1 : Option Addr), ∃ (c1 : Nat), rv = .slice A1 (pL).length c1 ∧ E' = [spE bp Ap cp mp (pL) (pl) (pm)] ∧ Rd (prK strK (slK (prK (intK .i64) (prK strK boolK)))) V' A1 c1 (pL)) := by
  refine calls_env (n := 32) Try.func44 (c := _) rfl Try.ntmps44 (by kernel_rfl) (fun R hRet => ?_)
  have hV := hS.inW
  have hM0 : Step V w [spE bp Ap cp mp (pL) (pl) (pm)] V w [spE bp Ap cp mp (pL) (pl) (pm)] := Step.refl hS
  have hup : SpI pL := hM0.spOk 0 rfl
  have hlk := len_keys pL
  refine wp_seq_k (fun K1 hK1 => ?_)
  refine wp_reg ?_
  refine wpF_seg 1 (by kernel_rfl) ?_
  refine wpF_end _ (by kernel_rfl) (then_n (hK1 _ _ ?_))
  refine wp_seq_k (fun K2 hK2 => ?_)
  refine wp_seq_k (fun K3 hK3 => ?_)
  refine wp_reg ?_
  refine wpF_seg 1 (by kernel_rfl) ?_
  have hM4 := hM0.front 0 rfl
  have hM12 : Step V w [spE bp Ap cp mp (pL) (pl) (pm)] V _ ([spE bp Ap cp mp (pL) (pl) (pm)]) := hM4
  refine wpF_callE [spE bp Ap cp mp (pL) (pl) (pm)] ([]) hM12 (f := 81) (caps := #[]) (h := (by kernel_rfl : opAt _ _ _ _ _ = some (.call (.mk (.value (.func 81)) #[(.tmp 6)] #[53]), some 7))) (by kernel_rfl) (by kernel_rfl) (by kernel_rfl) (f81 _ _ bp Ap cp mp (pL) (pl) (pm) (St.part (E := [spE bp Ap cp mp (pL) (pl) (pm)]) (F := ([])) hM12.ok)) (fun v5 V6 w7 Eo8 le9 hM10 hp11 => ?_)
  obtain ⟨rfl, rfl⟩ := hp11
  have hM13 : Step V w [spE bp Ap cp mp (pL) (pl) (pm)] V6 _ ([spE bp Ap cp mp ((pL)) ((pl)) ((pm))]) := hM10
  refine wpF_seg 1 (by kernel_rfl) ?_
  refine wpF_end _ (by kernel_rfl) (then_n (hK3 _ _ ?_))
  refine wp_cf (by kernel_rfl) ?_
  refine wp_skip (then_n (hK2 _ _ ?_))
  refine wp_seq_k (fun K14 hK14 => ?_)
  refine wp_reg ?_
  refine wpF_seg 1 (by kernel_rfl) ?_
  refine wpF_end _ (by kernel_rfl) (then_n (hK14 _ _ ?_))
  refine wp_seq_k (fun K15 hK15 => ?_)
  refine wp_seq_k (fun K16 hK16 => ?_)
  refine wp_reg ?_
  refine wpF_seg 3 (by kernel_rfl) ?_
  have hM17 := hM13.openSp 0 rfl
  have hs18 : SpI ((pL)) := (hM13.spOk 0 rfl)
  have hM19 : Step V w [spE bp Ap cp mp (pL) (pl) (pm)] V6 _ ([.blk bp (.cells #[.slice Ap (keysOf ((pL))).length cp, .map (some mp), .int .i64 ((pl)), .int .i64 ((pm))] 71), .row strK 9 Ap cp (keysOf ((pL))), mapE false (slK (prK (intK .i64) (prK strK boolK))) mp (fun k_ => lk k_ ((pL)))]) := hM17
  refine gF hM19 (.load 22 (.tmp 11)) (some 12) (by kernel_rfl) (Y_load 0 rfl (off := 0) (by kernel_rfl) (.slice Ap (keysOf ((pL))).length cp) (by kernel_rfl)) ?_
  refine wpF_seg 2 (by kernel_rfl) ?_
  refine wpF_end _ (by kernel_rfl) (then_n (hK16 _ _ ?_))
  refine wp_block ?_
  have hM21 := hM19.front 2 rfl
  have hM22 := hM21.front 2 rfl
  have hM23 := hM22.front 2 rfl
  have hM24 : Step V w [spE bp Ap cp mp (pL) (pl) (pm)] V6 _ ([.blk bp (.cells #[.slice Ap (keysOf ((pL))).length cp, .map (some mp), .int .i64 ((pl)), .int .i64 ((pm))] 71), .row strK 9 Ap cp (keysOf ((pL))), mapE false (slK (prK (intK .i64) (prK strK boolK))) mp (fun k_ => lk k_ ((pL)))]) := hM23
  have hk25 : keysOf ((pL)) = keysOf ((pL)) := rfl
  have hf26 : (fun k_ => lk k_ ((pL))) = (fun k_ => lk k_ ((pL))) := rfl
  have ho27 : SpI ((pL)) := hs18
  have hM28 : Step V w [spE bp Ap cp mp (pL) (pl) (pm)] V6 _ (spE bp Ap cp mp ((pL)) ((pl)) ((pm)) :: []) := Step.closeSp hk25 hf26 ho27 (by exact hM24)
  have hM29 : Step V w [spE bp Ap cp mp (pL) (pl) (pm)] V6 _ ([spE bp Ap cp mp ((pL)) ((pl)) ((pm))]) := hM28
  have hM30 := hM29.nilrow (prK strK (slK (prK (intK .i64) (prK strK boolK)))) 80
  have hM31 : Step V w [spE bp Ap cp mp (pL) (pl) (pm)] V6 _ ([.row (prK strK (slK (prK (intK .i64) (prK strK boolK)))) 80 none 0 (([] : List ((Str × (List ((Int × Str × Bool))))))), spE bp Ap cp mp ((pL)) ((pl)) ((pm))]) := hM30
  refine wp_base [(0, .pointer (some ⟨bp, 0, none⟩)), (2, .slice none 0 0), (3, .slice none (([] : List Item)).length 0), (12, .slice Ap (keysOf ((pL))).length cp), (13, .int .i64 (((keysOf ((pL))).length : Int))), (14, .int .i64 ((0 : Int)))] (by kernel_rfl) (fun g32 => ?_)
  refine wp_loopX (fun (x_ : Nat × List Item) a_ w_ => ∃ (g : Nat → Value) (V_ : VT), ∃ (Ar3 : Option Addr) (cr3 : Nat), a_ = env [] 32 [(0, .pointer (some ⟨bp, 0, none⟩)), (2, .slice none 0 0), (3, .slice Ar3 (x_.2).length cr3), (12, .slice Ap (keysOf ((pL))).length cp), (13, .int .i64 (((keysOf ((pL))).length : Int))), (14, .int .i64 ((x_.1 : Int)))] g ∧ Step V w [spE bp Ap cp mp (pL) (pl) (pm)] V_ w_ [.row (prK strK (slK (prK (intK .i64) (prK strK boolK)))) 80 Ar3 cr3 (x_.2), spE bp Ap cp mp ((pL)) ((pl)) ((pm))] ∧ VT.le V6 V_ ∧ (x_.1 ≤ (keysOf pL).length) ∧ (x_.2 = pL.take (x_.1))) (fun (x_ : Nat × List Item) => (keysOf pL).length - x_.1) ((0 : Nat), (([] : List Item) : List Item)) ⟨g32, V6, none, 0, rfl, hM31, VT.le.refl _, by omega, by rfl⟩ ?_
  rintro ⟨k, o⟩ a_ w34 ⟨g33, Vl20, Ar_373, cr_373, rfl, hM35, le36, hi37_0, hi37_1⟩ K37 hK37
  replace hi37_0 : k ≤ (keysOf pL).length := hi37_0
  replace hi37_1 : o = pL.take (k) := hi37_1
  refine wp_seq_k (fun K38 hK38 => ?_)
  refine wp_reg ?_
  refine wpF_seg 1 (by kernel_rfl) ?_
  refine wpF_end _ (by kernel_rfl) (then_n (hK38 _ _ ?_))
  refine wp_seq_k (fun K39 hK39 => ?_)
  refine wp_if (decide (((k : Int)) < (((keysOf ((pL))).length : Int)))) (by kernel_rfl) (fun h40 => ?_) (fun h40 => ?_)
  · -- Lt
    have p41 : (((k : Int)) < (((keysOf ((pL))).length : Int))) := of_decide_eq_true h40
    refine wp_skip (then_n (hK39 _ _ ?_))
    refine wp_seq_k (fun K42 hK42 => ?_)
    refine wp_block ?_
    refine wp_seq_k (fun K43 hK43 => ?_)
    refine wp_reg ?_
    have hM44 := hM35.openSp 1 rfl
    have hs45 : SpI ((pL)) := (hM35.spOk 1 rfl)
    have hM46 : Step V w [spE bp Ap cp mp (pL) (pl) (pm)] Vl20 _ ([.blk bp (.cells #[.slice Ap (keysOf ((pL))).length cp, .map (some mp), .int .i64 ((pl)), .int .i64 ((pm))] 71), .row strK 9 Ap cp (keysOf ((pL))), mapE false (slK (prK (intK .i64) (prK strK boolK))) mp (fun k_ => lk k_ ((pL))), .row (prK strK (slK (prK (intK .i64) (prK strK boolK)))) 80 Ar_373 cr_373 (o)]) := hM44
    refine wpF_indexW hM46 1 rfl .i64 ((k : Int)) (h := (by kernel_rfl : opAt _ _ _ _ _ = some (.indexAddr 22 (.tmp 12) (.tmp 14), some 16))) (e' := 9) (by kernel_rfl) (by kernel_rfl) (by kernel_rfl) (k) rfl (by omega) (fun b47 hA48 => ?_)
    refine wpF_loadW (m := (k)) hM46 1 rfl hA48 (h := (by kernel_rfl : opAt _ _ _ _ _ = some (.load 9 (.tmp 16), some 17))) (by kernel_rfl) (by kernel_rfl) (by omega) (fun l49 => ?_)
    refine wpF_seg 1 (by kernel_rfl) ?_
    refine wpF_end _ (by kernel_rfl) (then_n (hK43 _ _ ?_))
    refine wp_reg ?_
    refine wpF_seg 5 (by kernel_rfl) ?_
    refine gF hM46 (.load 69 (.tmp 22)) (some 23) (by kernel_rfl) (Y_load 0 rfl (off := 1) (by kernel_rfl) (.map (some mp)) (by kernel_rfl)) ?_
    refine wpF_seg 1 (by kernel_rfl) ?_
    refine wpF_lookup (kt := 9) (e := 78) (z := .slice none 0 0) hM46 2 rfl (((keysOf ((pL))).getD (k) [])) (h := (by kernel_rfl : opAt _ _ _ _ _ = some (.lookup 69 (.tmp 23) (.tmp 24) false, some 25))) (by kernel_rfl) (by kernel_rfl) (elemV.of_sl (Rd.nil _ _)) (by kernel_rfl) (by kernel_rfl) (fun v50 hv51 => ?_)
    obtain ⟨A53, c54, rfl, r52⟩ := elemV.sl (xs := ((lk (((keysOf ((pL))).getD (k) [])) ((pL))).getD [])) hv51
    have l55 : (((lk (((keysOf ((pL))).getD (k) [])) ((pL))).getD [])).length ≤ 140737488355328 := r52.max
    refine wpF_callP hM46 (f := 79) (caps := #[]) (h := (by kernel_rfl : opAt _ _ _ _ _ = some (.call (.mk (.value (.func 79)) #[(.tmp 25)] #[78]), some 26))) (by kernel_rfl) (by kernel_rfl) (by kernel_rfl) (f79 _ _ hM46.inW A53 c54 (((lk (((keysOf ((pL))).getD (k) [])) ((pL))).getD [])) r52 (by exact hb _)) (fun v56 V57 w58 le59 hM60 hp61 => ?_)
    obtain ⟨Ar61_1, cr61_1, rfl, r62⟩ := hp61
    have l63 : ((((lk (((keysOf ((pL))).getD (k) [])) ((pL))).getD []))).length ≤ 140737488355328 := r62.max
    refine wpF_seg 1 (by kernel_rfl) ?_
    refine wpF_litR (prK strK (slK (prK (intK .i64) (prK strK boolK)))) hM60 #[bs (((keysOf ((pL))).getD (k) [])), .slice Ar61_1 ((((lk (((keysOf ((pL))).getD (k) [])) ((pL))).getD []))).length cr61_1] (h := (by kernel_rfl : opAt _ _ _ _ _ = some (.buildSlice 46 1 #[(0, (.tmp 27))], some 28))) (e := 80) (by kernel_rfl) ([(((keysOf ((pL))).getD (k) []), (((lk (((keysOf ((pL))).getD (k) [])) ((pL))).getD [])))]) (Reps.single (K := (prK strK (slK (prK (intK .i64) (prK strK boolK))))) (x := (((keysOf ((pL))).getD (k) []), (((lk (((keysOf ((pL))).getD (k) [])) ((pL))).getD [])))) ⟨[bs (((keysOf ((pL))).getD (k) []))], [.slice Ar61_1 ((((lk (((keysOf ((pL))).getD (k) [])) ((pL))).getD []))).length cr61_1], rfl, ⟨rfl, l49⟩, ⟨Ar61_1, cr61_1, rfl, r62⟩⟩) rfl (by simp [maxL]) (fun A64 c65 V68 w66 le69 hM67 r70 => ?_)
    refine wpF_append (by_ := 40) hM67 3 rfl (h := (by kernel_rfl : opAt _ _ _ _ _ = some (.call (.mk (.builtin .append) #[(.tmp 18), (.tmp 28)] #[46, 46]), some 29))) (by kernel_rfl) (by kernel_rfl) (by kernel_rfl) (by kernel_rfl) (by kernel_rfl) (by kernel_rfl) (by kernel_rfl) (Src.rd r70) (by have hol : o.length ≤ k := Nat.le_trans (Nat.le_of_eq (congrArg List.length (by assumption : o = pL.take k))) (List.length_take_le _ _); simp only [List.length_append, List.length_cons, List.length_nil]; omega) (fun A71 c72 w73 hM74 => ?_)
    have hM75 : Step V w [spE bp Ap cp mp (pL) (pl) (pm)] V68 _ ([.row (prK strK (slK (prK (intK .i64) (prK strK boolK)))) 80 A71 c72 (o ++ [(((keysOf ((pL))).getD (k) []), (((lk (((keysOf ((pL))).getD (k) [])) ((pL))).getD [])))]), .blk bp (.cells #[.slice Ap (keysOf ((pL))).length cp, .map (some mp), .int .i64 ((pl)), .int .i64 ((pm))] 71), .row strK 9 Ap cp (keysOf ((pL))), mapE false (slK (prK (intK .i64) (prK strK boolK))) mp (fun k_ => lk k_ ((pL)))]) := hM74
    refine wpF_seg 1 (by kernel_rfl) ?_
    refine wpF_end _ (by kernel_rfl) (blk_n (then_n (hK42 _ _ ?_)))
    refine wp_reg ?_
    refine gF hM75 (.binOp .add 3 (.tmp 14) (.const (.int .i64 1)) 3) (some 30) (by kernel_rfl) (Y_add .i64 ((k : Int)) (1) ((k : Int) + 1) (by kernel_rfl) (by kernel_rfl) (wrap64_ok _ (by omega))) ?_
    refine wpF_seg 1 (by kernel_rfl) ?_
    have hM76 := hM75.front 3 rfl
    have hM77 := hM76.front 3 rfl
    have hM78 := hM77.front 3 rfl
    have hM79 : Step V w [spE bp Ap cp mp (pL) (pl) (pm)] V68 _ ([.blk bp (.cells #[.slice Ap (keysOf ((pL))).length cp, .map (some mp), .int .i64 ((pl)), .int .i64 ((pm))] 71), .row strK 9 Ap cp (keysOf ((pL))), mapE false (slK (prK (intK .i64) (prK strK boolK))) mp (fun k_ => lk k_ ((pL))), .row (prK strK (slK (prK (intK .i64) (prK strK boolK)))) 80 A71 c72 (o ++ [(((keysOf ((pL))).getD (k) []), (((lk (((keysOf ((pL))).getD (k) [])) ((pL))).getD [])))])]) := hM78
    have hk80 : keysOf ((pL)) = keysOf ((pL)) := rfl
    have hf81 : (fun k_ => lk k_ ((pL))) = (fun k_ => lk k_ ((pL))) := rfl
    have ho82 : SpI ((pL)) := hs45
    have hM83 : Step V w [spE bp Ap cp mp (pL) (pl) (pm)] V68 _ (spE bp Ap cp mp ((pL)) ((pl)) ((pm)) :: [.row (prK strK (slK (prK (intK .i64) (prK strK boolK)))) 80 A71 c72 (o ++ [(((keysOf ((pL))).getD (k) []), (((lk (((keysOf ((pL))).getD (k) [])) ((pL))).getD [])))])]) := Step.closeSp hk80 hf81 ho82 (by exact hM79)
    have hM84 : Step V w [spE bp Ap cp mp (pL) (pl) (pm)] V68 _ ([spE bp Ap cp mp ((pL)) ((pl)) ((pm)), .row (prK strK (slK (prK (intK .i64) (prK strK boolK)))) 80 A71 c72 (o ++ [(((keysOf ((pL))).getD (k) []), (((lk (((keysOf ((pL))).getD (k) [])) ((pL))).getD [])))])]) := hM83
    refine wpF_base [(0, .pointer (some ⟨bp, 0, none⟩)), (2, .slice none 0 0), (3, .slice A71 (o ++ ([((keysOf (pL)).getD (k) [], ((lk ((keysOf (pL)).getD (k) []) (pL)).getD []))] : List Item)).length c72), (12, .slice Ap (keysOf ((pL))).length cp), (13, .int .i64 (((keysOf ((pL))).length : Int))), (14, .int .i64 ((k + 1 : Int)))] (by kernel_rfl) (fun g85 => ?_)
    have hM86 := hM84.front 0 rfl
    have hM87 := hM86.front 1 rfl
    refine wpF_end _ (by kernel_rfl) (then_n (hK37 _ _ (k + 1, o ++ ([((keysOf (pL)).getD (k) [], ((lk ((keysOf (pL)).getD (k) []) (pL)).getD []))] : List Item)) (by omega) ?_))
    refine ⟨g85, V68, A71, c72, rfl, hM87, ((le36.trans le59).trans le69), ?_, ?_⟩
    · -- Lt inv 0
      omega
    · -- Lt inv 1
      exact items_step hup.1 (by omega) (by assumption)
  · -- Lf
    have p88 : ¬ (((k : Int)) < (((keysOf ((pL))).length : Int))) := of_decide_eq_false h40
    refine wp_exit (then_x (then_x (blk_hit (then_n (hK15 _ _ ?_)))))
    obtain rfl : k = (keysOf pL).length := by omega
    refine wp_seq_k (fun K89 hK89 => ?_)
    refine wp_reg ?_
    refine wpF_seg 2 (by kernel_rfl) ?_
    refine wpF_end _ (by kernel_rfl) (then_n (hK89 _ _ ?_))
    refine wp_ret ?_
    obtain ⟨V90, le91, hM92, r93⟩ := hM35.settleRow 0 rfl
    have hM94 : Step V w [spE bp Ap cp mp (pL) (pl) (pm)] V90 _ ([spE bp Ap cp mp ((pL)) ((pl)) ((pm))]) := hM92
    have hM95 := hM94.front 0 rfl
    have hM96 : Step V w [spE bp Ap cp mp (pL) (pl) (pm)] V90 _ ([spE bp Ap cp mp ((pL)) ((pl)) ((pm))]) := hM95
    refine retN [.slice Ar_373 (o).length cr_373] (.slice Ar_373 (o).length cr_373) Try.results44 (.tmp (by kernel_rfl) (by kernel_rfl) .nil) (by kernel_rfl) (hRet _ _ ⟨_, _, _, rfl, hM96, ?_⟩)
    -- end Lf
    have ho : o = pL := (by assumption : o = pL.take (keysOf pL).length).trans (by rw [hlk, List.take_length])
    refine ⟨Ar_373, cr_373, ?_, ?_, ?_⟩
    · rw [ho]
    · rfl
    · first | exact r93 | (exact Rd.eq r93 (by exact ho))

set_option maxHeartbeats 4000000 in
set_option maxRecDepth 100000 in
theorem f45 (V : VT) (w : World) (bp : Nat) (Ap : Option Addr) (cp mp : Nat) (pL : List (Str × List (Int × Str × Bool))) (pl pm : Int) (hS : St V w [spE bp Ap cp mp (pL) (pl) (pm)]) (h5 : pL.length ≤ 98000) (hb : ∀ y, (lkD y pL).length ≤ 4398046511104) :
    Calls Try.prog 45 #[.pointer (some ⟨bp, 0, none⟩)] w (Ret V w [spE bp Ap cp mp (pL) (pl) (pm)] fun rv V' E' => ∃ (b1 : Nat), ∃ (A1 : Option Addr), ∃ (c1 : Nat), ∃ (m1 : Nat), rv = .pointer (some ⟨b1, 0, none⟩) ∧ E' = [spE bp Ap cp mp (pL) (pl) (pm), spE b1 A1 c1 m1 (pL) (pl) (pm)]) := by
  refine calls_env (n := 39) Try.func45 (c := _) rfl Try.ntmps45 (by kernel_rfl) (fun R hRet => ?_)
  have hV := hS.inW
  have hM0 : Step V w [spE bp Ap cp mp (pL) (pl) (pm)] V w [spE bp Ap cp mp (pL) (pl) (pm)] := Step.refl hS
  have hup : SpI pL := hM0.spOk 0 rfl
  refine wp_seq_k (fun K1 hK1 => ?_)
  refine wp_reg ?_
  refine wpF_seg 1 (by kernel_rfl) ?_
  refine wpF_end _ (by kernel_rfl) (then_n (hK1 _ _ ?_))
  refine wp_seq_k (fun K2 hK2 => ?_)
  refine wp_seq_k (fun K3 hK3 => ?_)
  refine wp_reg ?_
  refine wpF_seg 1 (by kernel_rfl) ?_
  have hM4 := hM0.front 0 rfl
  have hM12 : Step V w [spE bp Ap cp mp (pL) (pl) (pm)] V _ ([spE bp Ap cp mp (pL) (pl) (pm)]) := hM4
  refine wpF_callE [spE bp Ap cp mp (pL) (pl) (pm)] ([]) hM12 (f := 81) (caps := #[]) (h := (by kernel_rfl : opAt _ _ _ _ _ = some (.call (.mk (.value (.func 81)) #[(.tmp 6)] #[53]), some 7))) (by kernel_rfl) (by kernel_rfl) (by kernel_rfl) (f81 _ _ bp Ap cp mp (pL) (pl) (pm) (St.part (E := [spE bp Ap cp mp (pL) (pl) (pm)]) (F := ([])) hM12.ok)) (fun v5 V6 w7 Eo8 le9 hM10 hp11 => ?_)
  obtain ⟨rfl, rfl⟩ := hp11
  have hM13 : Step V w [spE bp Ap cp mp (pL) (pl) (pm)] V6 _ ([spE bp Ap cp mp ((pL)) ((pl)) ((pm))]) := hM10
  refine wpF_seg 1 (by kernel_rfl) ?_
  refine wpF_end _ (by kernel_rfl) (then_n (hK3 _ _ ?_))
  refine wp_cf (by kernel_rfl) ?_
  refine wp_skip (then_n (hK2 _ _ ?_))
  refine wp_seq_k (fun K14 hK14 => ?_)
  refine wp_reg ?_
  have hM22 : Step V w [spE bp Ap cp mp (pL) (pl) (pm)] V6 _ ([spE bp Ap cp mp ((pL)) ((pl)) ((pm))]) := hM13
  refine wpF_callE [] ([spE bp Ap cp mp ((pL)) ((pl)) ((pm))]) hM22 (f := 33) (caps := #[]) (h := (by kernel_rfl : opAt _ _ _ _ _ = some (.call (.mk (.value (.func 33)) #[] #[]), some 9))) (by kernel_rfl) (by kernel_rfl) (by kernel_rfl) (f33 _ _ hM22.inW) (fun v15 V16 w17 Eo18 le19 hM20 hp21 => ?_)
  obtain ⟨br22_1, Ar22_1, cr22_1, mr22_1, rfl, rfl⟩ := hp21
  have hM23 : Step V w [spE bp Ap cp mp (pL) (pl) (pm)] V16 _ ([spE br22_1 Ar22_1 cr22_1 mr22_1 (([] : List Item)) (0) (0), spE bp Ap cp mp ((pL)) ((pl)) ((pm))]) := hM20
  refine wpF_seg 1 (by kernel_rfl) ?_
  refine wpF_end _ (by kernel_rfl) (then_n (hK14 _ _ ?_))
  refine wp_seq_k (fun K24 hK24 => ?_)
  have hM25 := hM23.openSp 0 rfl
  have hs26 : SpI (([] : List Item)) := (hM23.spOk 0 rfl)
  have hM27 : Step V w [spE bp Ap cp mp (pL) (pl) (pm)] V16 _ ([.blk br22_1 (.cells #[.slice Ar22_1 (keysOf (([] : List Item))).length cr22_1, .map (some mr22_1), .int .i64 (0), .int .i64 (0)] 71), .row strK 9 Ar22_1 cr22_1 (keysOf (([] : List Item))), mapE false (slK (prK (intK .i64) (prK strK boolK))) mr22_1 (fun k_ => lk k_ (([] : List Item))), spE bp Ap cp mp ((pL)) ((pl)) ((pm))]) := hM25
  have hM28 := hM27.openSp 3 rfl
  have hs29 : SpI ((pL)) := (hM27.spOk 3 rfl)
  have hM30 : Step V w [spE bp Ap cp mp (pL) (pl) (pm)] V16 _ ([.blk bp (.cells #[.slice Ap (keysOf ((pL))).length cp, .map (some mp), .int .i64 ((pl)), .int .i64 ((pm))] 71), .row strK 9 Ap cp (keysOf ((pL))), mapE false (slK (prK (intK .i64) (prK strK boolK))) mp (fun k_ => lk k_ ((pL))), .blk br22_1 (.cells #[.slice Ar22_1 (keysOf (([] : List Item))).length cr22_1, .map (some mr22_1), .int .i64 (0), .int .i64 (0)] 71), .row strK 9 Ar22_1 cr22_1 (keysOf (([] : List Item))), mapE false (slK (prK (intK .i64) (prK strK boolK))) mr22_1 (fun k_ => lk k_ (([] : List Item)))]) := hM28
  refine wp_base [(0, .pointer (some ⟨bp, 0, none⟩)), (2, .pointer none), (3, .pointer (some ⟨br22_1, 0, none⟩))] (by kernel_rfl) (fun g31 => ?_)
  refine wp_drawN hM30 [(.blk bp (.cells #[.slice Ap (keysOf ((pL))).length cp, .map (some mp), .int .i64 ((pl)), .int .i64 ((pm))] 71), 9999)] (and_held 0 rfl no_held) [] [0, 1, 2, 3, 4, 5, 6, 7, 8, 9, 10, 11] [.a 12, .p 13, .p 14, .a 15] [.p 0, .p 1, .p 2, .p 3, .p 4, .p 5, .p 6, .p 7, .p 8, .p 9, .p 10, .p 11, .s, .a 12, .p 13, .p 14, .a 15] rfl (by kernel_rfl) (by kernel_rfl) ?_
  refine h_seg 5 (by kernel_rfl) ?_
  refine gH (.load 3 (.tmp 14)) (some 15) (by kernel_rfl) (Y_load 0 (by kernel_rfl : (FOf _ _ _)[0]? = some (.blk bp (.cells #[.slice Ap (keysOf ((pL))).length cp, .map (some mp), .int .i64 ((pl)), .int .i64 ((pm))] 71))) (off := 2) (by kernel_rfl) (.int .i64 ((pl))) (by kernel_rfl)) ?_
  refine h_seg 3 (by kernel_rfl) ?_
  refine gH (.load 3 (.tmp 18)) (some 19) (by kernel_rfl) (Y_load 0 (by kernel_rfl : (FOf _ _ _)[0]? = some (.blk bp (.cells #[.slice Ap (keysOf ((pL))).length cp, .map (some mp), .int .i64 ((pl)), .int .i64 ((pm))] 71))) (off := 3) (by kernel_rfl) (.int .i64 ((pm))) (by kernel_rfl)) ?_
  refine h_seg 2 (by kernel_rfl) ?_
  refine h_s no_fs ?_
  refine h_a (by kernel_rfl) (by kernel_rfl) (fun w32 X33 hM34 => ?_)
  refine wpF_store hM34 3 rfl (h := (by kernel_rfl : opAt _ _ _ _ _ = some (.store 3 (.tmp 21) (.tmp 15), none))) (off := 2) (by kernel_rfl) #[.int .i64 ((pl))] (by kernel_rfl) (by kernel_rfl) (by kernel_rfl) (by kernel_rfl) (fun w36 hM35 => ?_)
  have hM37 : Step V w [spE bp Ap cp mp (pL) (pl) (pm)] V16 _ ([.blk bp (.cells #[.slice Ap (keysOf ((pL))).length cp, .map (some mp), .int .i64 ((pl)), .int .i64 ((pm))] 71), .row strK 9 Ap cp (keysOf ((pL))), mapE false (slK (prK (intK .i64) (prK strK boolK))) mp (fun k_ => lk k_ ((pL))), .blk br22_1 (.cells #[.slice Ar22_1 (keysOf (([] : List Item))).length cr22_1, .map (some mr22_1), .int .i64 ((pl)), .int .i64 (0)] 71), .row strK 9 Ar22_1 cr22_1 (keysOf (([] : List Item))), mapE false (slK (prK (intK .i64) (prK strK boolK))) mr22_1 (fun k_ => lk k_ (([] : List Item)))] ++ X33) := hM35
  refine wpF_end _ (by kernel_rfl) (then_n (h_d [(.blk bp (.cells #[.slice Ap (keysOf ((pL))).length cp, .map (some mp), .int .i64 ((pl)), .int .i64 ((pm))] 71), 9999)] (by kernel_rfl) [.blk bp (.cells #[.slice Ap (keysOf ((pL))).length cp, .map (some mp), .int .i64 ((pl)), .int .i64 ((pm))] 71), .row strK 9 Ap cp (keysOf ((pL))), mapE false (slK (prK (intK .i64) (prK strK boolK))) mp (fun k_ => lk k_ ((pL))), .blk br22_1 (.cells #[.slice Ar22_1 (keysOf (([] : List Item))).length cr22_1, .map (some mr22_1), .int .i64 ((pl)), .int .i64 (0)] 71), .row strK 9 Ar22_1 cr22_1 (keysOf (([] : List Item))), mapE false (slK (prK (intK .i64) (prK strK boolK))) mr22_1 (fun k_ => lk k_ (([] : List Item)))] hM37 (and_held 0 rfl no_held) (VT.le.refl _) ?_))
  refine h_seg 2 (by kernel_rfl) ?_
  refine h_a (by kernel_rfl) (by kernel_rfl) (fun w38 X39 hM40 => ?_)
  refine wpF_store hM40 3 rfl (h := (by kernel_rfl : opAt _ _ _ _ _ = some (.store 3 (.tmp 23) (.tmp 19), none))) (off := 3) (by kernel_rfl) #[.int .i64 ((pm))] (by kernel_rfl) (by kernel_rfl) (by kernel_rfl) (by kernel_rfl) (fun w42 hM41 => ?_)
  have hM43 : Step V w [spE bp Ap cp mp (pL) (pl) (pm)] V16 _ ([.blk bp (.cells #[.slice Ap (keysOf ((pL))).length cp, .map (some mp), .int .i64 ((pl)), .int .i64 ((pm))] 71), .row strK 9 Ap cp (keysOf ((pL))), mapE false (slK (prK (intK .i64) (prK strK boolK))) mp (fun k_ => lk k_ ((pL))), .blk br22_1 (.cells #[.slice Ar22_1 (keysOf (([] : List Item))).length cr22_1, .map (some mr22_1), .int .i64 ((pl)), .int .i64 ((pm))] 71), .row strK 9 Ar22_1 cr22_1 (keysOf (([] : List Item))), mapE false (slK (prK (intK .i64) (prK strK boolK))) mr22_1 (fun k_ => lk k_ (([] : List Item)))] ++ X39) := hM41
  refine wpF_end _ (by kernel_rfl) (then_n (h_d [(.blk bp (.cells #[.slice Ap (keysOf ((pL))).length cp, .map (some mp), .int .i64 ((pl)), .int .i64 ((pm))] 71), 9999)] (by kernel_rfl) [.blk bp (.cells #[.slice Ap (keysOf ((pL))).length cp, .map (some mp), .int .i64 ((pl)), .int .i64 ((pm))] 71), .row strK 9 Ap cp (keysOf ((pL))), mapE false (slK (prK (intK .i64) (prK strK boolK))) mp (fun k_ => lk k_ ((pL))), .blk br22_1 (.cells #[.slice Ar22_1 (keysOf (([] : List Item))).length cr22_1, .map (some mr22_1), .int .i64 ((pl)), .int .i64 ((pm))] 71), .row strK 9 Ar22_1 cr22_1 (keysOf (([] : List Item))), mapE false (slK (prK (intK .i64) (prK strK boolK))) mr22_1 (fun k_ => lk k_ (([] : List Item)))] hM43 (and_held 0 rfl no_held) (VT.le.refl _) ?_))
  refine h_n (fun w44 hM45 => ?_)
  refine  (then_n (hK24 _ _ ?_))
  refine wp_seq_k (fun K46 hK46 => ?_)
  refine wp_seq_k (fun K47 hK47 => ?_)
  refine wp_reg ?_
  refine wpF_seg 1 (by kernel_rfl) ?_
  have hM48 := hM45.front 2 rfl
  have hM49 := hM48.front 2 rfl
  have hM50 := hM49.front 2 rfl
  have hM51 : Step V w [spE bp Ap cp mp (pL) (pl) (pm)] V16 _ ([.blk bp (.cells #[.slice Ap (keysOf ((pL))).length cp, .map (some mp), .int .i64 ((pl)), .int .i64 ((pm))] 71), .row strK 9 Ap cp (keysOf ((pL))), mapE false (slK (prK (intK .i64) (prK strK boolK))) mp (fun k_ => lk k_ ((pL))), .blk br22_1 (.cells #[.slice Ar22_1 (keysOf (([] : List Item))).length cr22_1, .map (some mr22_1), .int .i64 ((pl)), .int .i64 ((pm))] 71), .row strK 9 Ar22_1 cr22_1 (keysOf (([] : List Item))), mapE false (slK (prK (intK .i64) (prK strK boolK))) mr22_1 (fun k_ => lk k_ (([] : List Item)))]) := hM50
  have hk52 : keysOf ((pL)) = keysOf ((pL)) := rfl
  have hf53 : (fun k_ => lk k_ ((pL))) = (fun k_ => lk k_ ((pL))) := rfl
  have ho54 : SpI ((pL)) := hs29
  have hM55 : Step V w [spE bp Ap cp mp (pL) (pl) (pm)] V16 _ (spE bp Ap cp mp ((pL)) ((pl)) ((pm)) :: [.blk br22_1 (.cells #[.slice Ar22_1 (keysOf (([] : List Item))).length cr22_1, .map (some mr22_1), .int .i64 ((pl)), .int .i64 ((pm))] 71), .row strK 9 Ar22_1 cr22_1 (keysOf (([] : List Item))), mapE false (slK (prK (intK .i64) (prK strK boolK))) mr22_1 (fun k_ => lk k_ (([] : List Item)))]) := Step.closeSp hk52 hf53 ho54 (by exact hM51)
  have hM56 : Step V w [spE bp Ap cp mp (pL) (pl) (pm)] V16 _ ([spE bp Ap cp mp ((pL)) ((pl)) ((pm)), .blk br22_1 (.cells #[.slice Ar22_1 (keysOf (([] : List Item))).length cr22_1, .map (some mr22_1), .int .i64 ((pl)), .int .i64 ((pm))] 71), .row strK 9 Ar22_1 cr22_1 (keysOf (([] : List Item))), mapE false (slK (prK (intK .i64) (prK strK boolK))) mr22_1 (fun k_ => lk k_ (([] : List Item)))]) := hM55
  have hM57 := hM56.front 0 rfl
  have hM65 : Step V w [spE bp Ap cp mp (pL) (pl) (pm)] V16 _ ([spE bp Ap cp mp ((pL)) ((pl)) ((pm)), .blk br22_1 (.cells #[.slice Ar22_1 (keysOf (([] : List Item))).length cr22_1, .map (some mr22_1), .int .i64 ((pl)), .int .i64 ((pm))] 71), .row strK 9 Ar22_1 cr22_1 (keysOf (([] : List Item))), mapE false (slK (prK (intK .i64) (prK strK boolK))) mr22_1 (fun k_ => lk k_ (([] : List Item)))]) := hM57
  refine wpF_callE [spE bp Ap cp mp ((pL)) ((pl)) ((pm))] ([.blk br22_1 (.cells #[.slice Ar22_1 (keysOf (([] : List Item))).length cr22_1, .map (some mr22_1), .int .i64 ((pl)), .int .i64 ((pm))] 71), .row strK 9 Ar22_1 cr22_1 (keysOf (([] : List Item))), mapE false (slK (prK (intK .i64) (prK strK boolK))) mr22_1 (fun k_ => lk k_ (([] : List Item)))]) hM65 (f := 44) (caps := #[]) (h := (by kernel_rfl : opAt _ _ _ _ _ = some (.call (.mk (.value (.func 44)) #[(.tmp 24)] #[53]), some 25))) (by kernel_rfl) (by kernel_rfl) (by kernel_rfl) (f44 _ _ bp Ap cp mp ((pL)) ((pl)) ((pm)) (St.part (E := [spE bp Ap cp mp ((pL)) ((pl)) ((pm))]) (F := ([.blk br22_1 (.cells #[.slice Ar22_1 (keysOf (([] : List Item))).length cr22_1, .map (some mr22_1), .int .i64 ((pl)), .int .i64 ((pm))] 71), .row strK 9 Ar22_1 cr22_1 (keysOf (([] : List Item))), mapE false (slK (prK (intK .i64) (prK strK boolK))) mr22_1 (fun k_ => lk k_ (([] : List Item)))])) hM65.ok) (by omega) (by assumption)) (fun v58 V59 w60 Eo61 le62 hM63 hp64 => ?_)
  obtain ⟨Ar65_1, cr65_1, rfl, rfl, r66⟩ := hp64
  have hM67 : Step V w [spE bp Ap cp mp (pL) (pl) (pm)] V59 _ ([spE bp Ap cp mp (((pL))) (((pl))) (((pm))), .blk br22_1 (.cells #[.slice Ar22_1 (keysOf (([] : List Item))).length cr22_1, .map (some mr22_1), .int .i64 ((pl)), .int .i64 ((pm))] 71), .row strK 9 Ar22_1 cr22_1 (keysOf (([] : List Item))), mapE false (slK (prK (intK .i64) (prK strK boolK))) mr22_1 (fun k_ => lk k_ (([] : List Item)))]) := hM63
  have l68 : (((pL))).length ≤ 140737488355328 := r66.max
  refine wpF_seg 2 (by kernel_rfl) ?_
  refine wpF_end _ (by kernel_rfl) (then_n (hK47 _ _ ?_))
  refine wp_block ?_
  have hM70 := hM67.front 3 rfl
  have hM71 := hM70.front 3 rfl
  have hM72 := hM71.front 3 rfl
  have hM73 : Step V w [spE bp Ap cp mp (pL) (pl) (pm)] V59 _ ([.blk br22_1 (.cells #[.slice Ar22_1 (keysOf (([] : List Item))).length cr22_1, .map (some mr22_1), .int .i64 ((pl)), .int .i64 ((pm))] 71), .row strK 9 Ar22_1 cr22_1 (keysOf (([] : List Item))), mapE false (slK (prK (intK .i64) (prK strK boolK))) mr22_1 (fun k_ => lk k_ (([] : List Item))), spE bp Ap cp mp (((pL))) (((pl))) (((pm)))]) := hM72
  have hk74 : keysOf (([] : List Item)) = keysOf (([] : List Item)) := rfl
  have hf75 : (fun k_ => lk k_ (([] : List Item))) = (fun k_ => lk k_ (([] : List Item))) := rfl
  have ho76 : SpI (([] : List Item)) := hs26
  have hM77 : Step V w [spE bp Ap cp mp (pL) (pl) (pm)] V59 _ (spE br22_1 Ar22_1 cr22_1 mr22_1 (([] : List Item)) ((pl)) ((pm)) :: [spE bp Ap cp mp (((pL))) (((pl))) (((pm)))]) := Step.closeSp hk74 hf75 ho76 (by exact hM73)
  have hM78 : Step V w [spE bp Ap cp mp (pL) (pl) (pm)] V59 _ ([spE br22_1 Ar22_1 cr22_1 mr22_1 (([] : List Item)) ((pl)) ((pm)), spE bp Ap cp mp (((pL))) (((pl))) (((pm)))]) := hM77
  have hq79 : ([] : List Item) = pL.take (0) := by first | rfl | simp | exact (vacK_0 _ _).symm
  have hM80 : Step V w [spE bp Ap cp mp (pL) (pl) (pm)] V59 _ ([spE br22_1 Ar22_1 cr22_1 mr22_1 (pL.take (0)) ((pl)) ((pm)), spE bp Ap cp mp (((pL))) (((pl))) (((pm)))]) := Step.reSp (B := []) (F := [spE bp Ap cp mp (((pL))) (((pl))) (((pm)))]) hq79 hM78
  refine wp_base [(2, .pointer none), (3, .pointer (some ⟨br22_1, 0, none⟩)), (25, .slice Ar65_1 (((pL))).length cr65_1), (26, .int .i64 (((((pL))).length : Int))), (27, .int .i64 ((0 : Int)))] (by kernel_rfl) (fun g81 => ?_)
  refine wp_loopX (fun (x_ : Nat) a_ w_ => ∃ (g : Nat → Value) (V_ : VT), ∃ (Ars3 : Option Addr) (crs3 : Nat), a_ = env [] 39 [(2, .pointer none), (3, .pointer (some ⟨br22_1, 0, none⟩)), (25, .slice Ar65_1 (((pL))).length cr65_1), (26, .int .i64 (((((pL))).length : Int))), (27, .int .i64 ((x_ : Int)))] g ∧ Step V w [spE bp Ap cp mp (pL) (pl) (pm)] V_ w_ [spE br22_1 Ars3 crs3 mr22_1 (pL.take (x_)) (pl) (pm), spE bp Ap cp mp (((pL))) (((pl))) (((pm)))] ∧ VT.le V59 V_ ∧ (x_ ≤ pL.length)) (fun (x_ : Nat) => pL.length - x_) (0) ⟨g81, V59, Ar22_1, cr22_1, rfl, hM80, VT.le.refl _, by omega⟩ ?_
  rintro k a_ w83 ⟨g82, Vl69, Ar_86s3, cr_86s3, rfl, hM84, le85, hi86_0⟩ K86 hK86
  refine wp_seq_k (fun K87 hK87 => ?_)
  refine wp_reg ?_
  refine wpF_seg 1 (by kernel_rfl) ?_
  refine wpF_end _ (by kernel_rfl) (then_n (hK87 _ _ ?_))
  refine wp_seq_k (fun K88 hK88 => ?_)
  refine wp_if (decide (((k : Int)) < (((((pL))).length : Int)))) (by kernel_rfl) (fun h89 => ?_) (fun h89 => ?_)
  · -- Lt
    have p90 : (((k : Int)) < (((((pL))).length : Int))) := of_decide_eq_true h89
    refine wp_skip (then_n (hK88 _ _ ?_))
    refine wp_seq_k (fun K91 hK91 => ?_)
    refine wp_block ?_
    refine wp_seq_k (fun K92 hK92 => ?_)
    refine wp_reg ?_
    refine gF_index (A := Ar65_1) (c := cr65_1) (r66.up le85) .i64 ((k : Int)) (h := (by kernel_rfl : opAt _ _ _ _ _ = some (.indexAddr 46 (.tmp 25) (.tmp 27), some 29))) (e := 80) (by kernel_rfl) (by kernel_rfl) (by kernel_rfl) (k) rfl (by omega) (fun b93 o94 at_b93 => ?_)
    have c95 : Vl69 b93 o94 = some (bs ((((pL))).getD (k) ([], [])).1) := (At.str (At.pr at_b93).1).1
    have l96 : ((((pL))).getD (k) ([], [])).1.length ≤ 140737488355328 := (At.str (At.pr at_b93).1).2
    obtain ⟨A97, c98, c99, r100⟩ := At.sl (At.pr at_b93).2
    have c99 : Vl69 b93 (o94 + 1) = some (.slice A97 (((((pL))).getD (k) ([], [])).2).length c98) := c99
    have r100 : Rd (prK (intK .i64) (prK strK boolK)) Vl69 A97 c98 (((((pL))).getD (k) ([], [])).2) := r100
    have l101 : (((((pL))).getD (k) ([], [])).2).length ≤ 140737488355328 := r100.max
    refine gF hM84 (.load 80 (.tmp 29)) (some 30) (by kernel_rfl) (Y_loadS (b := b93) (off := o94) [bs (((((pL))).getD (k) ([], [])).1), .slice A97 (((((pL))).getD (k) ([], [])).2).length c98] (cells2 c95 c99) (by kernel_rfl) (by kernel_rfl) (by kernel_rfl)) ?_
    refine wpF_alloc hM84 #[bs ([]), .slice none 0 0] (h := (by kernel_rfl : opAt _ _ _ _ _ = some (.alloc 80, some 5))) (by kernel_rfl) (fun b102 w103 hM104 => ?_)
    refine wpF_store hM104 0 rfl (h := (by kernel_rfl : opAt _ _ _ _ _ = some (.store 80 (.tmp 5) (.tmp 30), none))) (off := 0) (by kernel_rfl) #[bs (((((pL))).getD (k) ([], [])).1), .slice A97 (((((pL))).getD (k) ([], [])).2).length c98] (by kernel_rfl) (by kernel_rfl) (by kernel_rfl) (by kernel_rfl) (fun w106 hM105 => ?_)
    have hM107 : Step V w [spE bp Ap cp mp (pL) (pl) (pm)] Vl69 _ ([.blk b102 (.cells #[bs (((((pL))).getD (k) ([], [])).1), .slice A97 (((((pL))).getD (k) ([], [])).2).length c98] 80), spE br22_1 Ar_86s3 cr_86s3 mr22_1 (pL.take (k)) (pl) (pm), spE bp Ap cp mp (((pL))) (((pl))) (((pm)))]) := hM105
    refine wpF_end _ (by kernel_rfl) (then_n (hK92 _ _ ?_))
    refine wp_reg ?_
    refine wpF_seg 2 (by kernel_rfl) ?_
    refine gF hM107 (.load 9 (.tmp 32)) (some 33) (by kernel_rfl) (Y_load 0 rfl (off := 0) (by kernel_rfl) (bs (((((pL))).getD (k) ([], [])).1)) (by kernel_rfl)) ?_
    refine wpF_seg 1 (by kernel_rfl) ?_
    refine gF hM107 (.load 78 (.tmp 34)) (some 35) (by kernel_rfl) (Y_load 0 rfl (off := 1) (by kernel_rfl) (.slice A97 (((((pL))).getD (k) ([], [])).2).length c98) (by kernel_rfl)) ?_
    have hM108 := hM107.front 1 rfl
    have hM116 : Step V w [spE bp Ap cp mp (pL) (pl) (pm)] Vl69 _ ([spE br22_1 Ar_86s3 cr_86s3 mr22_1 (pL.take (k)) (pl) (pm), .blk b102 (.cells #[bs (((((pL))).getD (k) ([], [])).1), .slice A97 (((((pL))).getD (k) ([], [])).2).length c98] 80), spE bp Ap cp mp (((pL))) (((pl))) (((pm)))]) := hM108
    refine wpF_callE [spE br22_1 Ar_86s3 cr_86s3 mr22_1 (pL.take (k)) (pl) (pm)] ([.blk b102 (.cells #[bs (((((pL))).getD (k) ([], [])).1), .slice A97 (((((pL))).getD (k) ([], [])).2).length c98] 80), spE bp Ap cp mp (((pL))) (((pl))) (((pm)))]) hM116 (f := 78) (caps := #[]) (h := (by kernel_rfl : opAt _ _ _ _ _ = some (.call (.mk (.value (.func 78)) #[(.tmp 31), (.tmp 33), (.tmp 35)] #[53, 9, 78]), some 36))) (by kernel_rfl) (by kernel_rfl) (by kernel_rfl) (f78 _ _ br22_1 Ar_86s3 cr_86s3 mr22_1 (pL.take (k)) (pl) (pm) (((((pL))).getD (k) ([], [])).1) (l96) A97 c98 (((((pL))).getD (k) ([], [])).2) r100 (St.part (E := [spE br22_1 Ar_86s3 cr_86s3 mr22_1 (pL.take (k)) (pl) (pm)]) (F := ([.blk b102 (.cells #[bs (((((pL))).getD (k) ([], [])).1), .slice A97 (((((pL))).getD (k) ([], [])).2).length c98] 80), spE bp Ap cp mp (((pL))) (((pl))) (((pm)))])) hM116.ok) (by simp; omega)) (fun v109 V110 w111 Eo112 le113 hM114 hp115 => ?_)
    obtain ⟨Aor116_p, cor116_p, rfl, rfl⟩ := hp115
    have hM117 : Step V w [spE bp Ap cp mp (pL) (pl) (pm)] V110 _ ([spE br22_1 Aor116_p cor116_p mr22_1 (setL (pL.take (k)) (((((pL))).getD (k) ([], [])).1) (((((pL))).getD (k) ([], [])).2)) ((pl)) ((pm)), .blk b102 (.cells #[bs (((((pL))).getD (k) ([], [])).1), .slice A97 (((((pL))).getD (k) ([], [])).2).length c98] 80), spE bp Ap cp mp (((pL))) (((pl))) (((pm)))]) := hM114
    have hq118 : setL (pL.take (k)) (((((pL))).getD (k) ([], [])).1) (((((pL))).getD (k) ([], [])).2) = pL.take (k + 1) := by exact set_take hup.1 (by omega) (hup.2 _ (getD_mem (by omega)))
    have hM119 : Step V w [spE bp Ap cp mp (pL) (pl) (pm)] V110 _ ([spE br22_1 Aor116_p cor116_p mr22_1 (pL.take (k + 1)) ((pl)) ((pm)), .blk b102 (.cells #[bs (((((pL))).getD (k) ([], [])).1), .slice A97 (((((pL))).getD (k) ([], [])).2).length c98] 80), spE bp Ap cp mp (((pL))) (((pl))) (((pm)))]) := Step.reSp (B := []) (F := [.blk b102 (.cells #[bs (((((pL))).getD (k) ([], [])).1), .slice A97 (((((pL))).getD (k) ([], [])).2).length c98] 80), spE bp Ap cp mp (((pL))) (((pl))) (((pm)))]) hq118 hM117
    refine wpF_end _ (by kernel_rfl) (blk_n (then_n (hK91 _ _ ?_)))
    refine wp_reg ?_
    refine gF hM119 (.binOp .add 3 (.tmp 27) (.const (.int .i64 1)) 3) (some 37) (by kernel_rfl) (Y_add .i64 ((k : Int)) (1) ((k : Int) + 1) (by kernel_rfl) (by kernel_rfl) (wrap64_ok _ (by omega))) ?_
    refine wpF_seg 1 (by kernel_rfl) ?_
    refine wpF_base [(2, .pointer none), (3, .pointer (some ⟨br22_1, 0, none⟩)), (25, .slice Ar65_1 (((pL))).length cr65_1), (26, .int .i64 (((((pL))).length : Int))), (27, .int .i64 ((k + 1 : Int)))] (by kernel_rfl) (fun g120 => ?_)
    have hM121 := (hM119.front 1 rfl).drop
    refine wpF_end _ (by kernel_rfl) (then_n (hK86 _ _ (k + 1) (by omega) ?_))
    refine ⟨g120, V110, Aor116_p, cor116_p, rfl, hM121, (le85.trans le113), ?_⟩
    · -- Lt inv 0
      omega
  · -- Lf
    have p122 : ¬ (((k : Int)) < (((((pL))).length : Int))) := of_decide_eq_false h89
    refine wp_exit (then_x (then_x (blk_hit (then_n (hK46 _ _ ?_)))))
    obtain rfl : k = pL.length := by omega
    refine wp_seq_k (fun K123 hK123 => ?_)
    refine wp_reg ?_
    refine wpF_seg 2 (by kernel_rfl) ?_
    refine wpF_end _ (by kernel_rfl) (then_n (hK123 _ _ ?_))
    refine wp_ret ?_
    have hM124 := hM84.front 0 rfl
    have hM125 := hM124.front 1 rfl
    have hM126 : Step V w [spE bp Ap cp mp (pL) (pl) (pm)] Vl69 _ ([spE bp Ap cp mp (((pL))) (((pl))) (((pm))), spE br22_1 Ar_86s3 cr_86s3 mr22_1 (pL.take ((pL.length))) (pl) (pm)]) := hM125
    refine retN [.pointer (some ⟨br22_1, 0, none⟩)] (.pointer (some ⟨br22_1, 0, none⟩)) Try.results45 (.tmp (by kernel_rfl) (by kernel_rfl) .nil) (by kernel_rfl) (hRet _ _ ⟨_, _, _, rfl, hM126, ?_⟩)
    -- end Lf
    refine ⟨br22_1, Ar_86s3, cr_86s3, mr22_1, ?_, ?_⟩
    · rfl
    · rw [List.take_length]

end Go.Vk
