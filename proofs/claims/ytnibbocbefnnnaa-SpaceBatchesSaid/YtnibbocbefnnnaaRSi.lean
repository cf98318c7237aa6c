import Derived.Test.YtnibbocbefnnnaaRPlainSp
import Derived.Test.YtnibbocbefnnnaaRSc
import Derived.Test.YtnibbocbefnnnaaRSf
import Derived.Test.YtnibbocbefnnnaaRSp
set_option linter.unusedVariables false
set_option linter.unusedSimpArgs false
namespace Go.Vk
open Go.Proofs
variable {D : List Deferred}
set_option maxHeartbeats 4000000 in
set_option maxRecDepth 100000 in
theorem f44 (V : VT) (w : World) (bp : Nat) (Ap : Option Addr) (cp mp : Nat) (pL : List (Str × List (Int × Str × Bool))) (pl pm : Int) (hS : St V w [spE bp Ap cp mp (pL) (pl) (pm)]) (h5 : pL.length ≤ 99000) (hb : ∀ y, (lkD y pL).length ≤ 4398046511104) :
    Calls Try.prog 44 #[.pointer (some ⟨bp, 0, none⟩)] w (Ret V w [spE bp Ap cp mp (pL) (pl) (pm)] fun rv V' E' => ∃ (A1 : Option Addr), ∃ (c1 : Nat), rv = .slice A1 (pL).length c1 ∧ E' = [spE bp Ap cp mp (pL) (pl) (pm)] ∧ Rd (prK strK (slK (prK (intK .i64) (prK strK boolK)))) V' A1 c1 (pL)) := by
  refine calls_env (n := 32) Try.func44 (c := _) rfl Try.ntmps44 (by kernel_rfl) (fun R hRet => ?_)
  have hV := hS.inW
  have hM0 : Step V w [spE bp Ap cp mp (pL) (pl) (pm)] V w [spE bp Ap cp mp (pL) (pl) (pm)] := Step.refl hS
  have hup : SpI pL := hM0.spOk 0 rfl
  have hlk := len_keys pL
  refine wp_seq_k (fun K1 hK1 => ?_)
  refine wp_reg ?_
  refine wpF_seg 1 (by kernel_rfl) ?_
  refine wpF_end _ (by kernel_rfl) (then_n (hK1 _ _ ?_))
  refine wp_seq_k (fun K2 hK2 => ?_)
  refine wp_seq_k (fun K3 hK3 => ?_)
  refine wp_reg ?_
  refine wpF_seg 1 (by kernel_rfl) ?_
  have hM4 := hM0.front 0 rfl
  have hM12 : Step V w [spE bp Ap cp mp (pL) (pl) (pm)] V _ ([spE bp Ap cp mp (pL) (pl) (pm)]) := hM4
  refine wpF_callE [spE bp Ap cp mp (pL) (pl) (pm)] ([]) hM12 (f := 81) (caps := #[]) (h := (by kernel_rfl : opAt _ _ _ _ _ = some (.call (.mk (.value (.func 81)) #[(.tmp 6)] #[53]), some 7))) (by kernel_rfl) (by kernel_rfl) (by kernel_rfl) (f81 _ _ bp Ap cp mp (pL) (pl) (pm) (St.part (E := [spE bp Ap cp mp (pL) (pl) (pm)]) (F := ([])) hM12.ok)) (fun v5 V6 w7 Eo8 le9 hM10 hp11 => ?_)
  obtain ⟨rfl, rfl⟩ := hp11
  have hM13 : Step V w [spE bp Ap cp mp (pL) (pl) (pm)] V6 _ ([spE bp Ap cp mp ((pL)) ((pl)) ((pm))]) := hM10
  refine wpF_seg 1 (by kernel_rfl) ?_
  refine wpF_end _ (by kernel_rfl) (then_n (hK3 _ _ ?_))
  refine wp_cf (by kernel_rfl) ?_
  refine wp_skip (then_n (hK2 _ _ ?_))
  refine wp_seq_k (fun K14 hK14 => ?_)
  refine wp_reg ?_
  refine wpF_seg 1 (by kernel_rfl) ?_
  refine wpF_end _ (by kernel_rfl) (then_n (hK14 _ _ ?_))
  refine wp_seq_k (fun K15 hK15 => ?_)
  refine wp_seq_k (fun K16 hK16 => ?_)
  refine wp_reg ?_
  refine wpF_seg 3 (by kernel_rfl) ?_
  have hM17 := hM13.openSp 0 rfl
  have hs18 : SpI ((pL)) := (hM13.spOk 0 rfl)
  have hM19 : Step V w [spE bp Ap cp mp (pL) (pl) (pm)] V6 _ ([.blk bp (.cells #[.slice Ap (keysOf ((pL))).length cp, .map (some mp), .int .i64 ((pl)), .int .i64 ((pm))] 71), .row strK 9 Ap cp (keysOf ((pL))), mapE false (slK (prK (intK .i64) (prK strK boolK))) mp (fun k_ => lk k_ ((pL)))]) := hM17
  refine gF hM19 (.load 22 (.tmp 11)) (some 12) (by kernel_rfl) (Y_load 0 rfl (off := 0) (by kernel_rfl) (.slice Ap (keysOf ((pL))).length cp) (by kernel_rfl)) ?_
  refine wpF_seg 2 (by kernel_rfl) ?_
  refine wpF_end _ (by kernel_rfl) (then_n (hK16 _ _ ?_))
  refine wp_block ?_
  have hM21 := hM19.front 2 rfl
  have hM22 := hM21.front 2 rfl
  have hM23 := hM22.front 2 rfl
  have hM24 : Step V w [spE bp Ap cp mp (pL) (pl) (pm)] V6 _ ([.blk bp (.cells #[.slice Ap (keysOf ((pL))).length cp, .map (some mp), .int .i64 ((pl)), .int .i64 ((pm))] 71), .row strK 9 Ap cp (keysOf ((pL))), mapE false (slK (prK (intK .i64) (prK strK boolK))) mp (fun k_ => lk k_ ((pL)))]) := hM23
  have hk25 : keysOf ((pL)) = keysOf ((pL)) := rfl
  have hf26 : (fun k_ => lk k_ ((pL))) = (fun k_ => lk k_ ((pL))) := rfl
  have ho27 : SpI ((pL)) := hs18
  have hM28 : Step V w [spE bp Ap cp mp (pL) (pl) (pm)] V6 _ (spE bp Ap cp mp ((pL)) ((pl)) ((pm)) :: []) := Step.closeSp hk25 hf26 ho27 (by exact hM24)
  have hM29 : Step V w [spE bp Ap cp mp (pL) (pl) (pm)] V6 _ ([spE bp Ap cp mp ((pL)) ((pl)) ((pm))]) := hM28
  have hM30 := hM29.nilrow (prK strK (slK (prK (intK .i64) (prK strK boolK)))) 80
  have hM31 : Step V w [spE bp Ap cp mp (pL) (pl) (pm)] V6 _ ([.row (prK strK (slK (prK (intK .i64) (prK strK boolK)))) 80 none 0 (([] : List ((Str × (List ((Int × Str × Bool))))))), spE bp Ap cp mp ((pL)) ((pl)) ((pm))]) := hM30
  refine wp_base [(0, .pointer (some ⟨bp, 0, none⟩)), (2, .slice none 0 0), (3, .slice none (([] : List Item)).length 0), (12, .slice Ap (keysOf ((pL))).length cp), (13, .int .i64 (((keysOf ((pL))).length : Int))), (14, .int .i64 ((0 : Int)))] (by kernel_rfl) (fun g32 => ?_)
  refine wp_loopX (fun (x_ : Nat × List Item) a_ w_ => ∃ (g : Nat → Value) (V_ : VT), ∃ (Ar3 : Option Addr) (cr3 : Nat), a_ = env [] 32 [(0, .pointer (some ⟨bp, 0, none⟩)), (2, .slice none 0 0), (3, .slice Ar3 (x_.2).length cr3), (12, .slice Ap (keysOf ((pL))).length cp), (13, .int .i64 (((keysOf ((pL))).length : Int))), (14, .int .i64 ((x_.1 : Int)))] g ∧ Step V w [spE bp Ap cp mp (pL) (pl) (pm)] V_ w_ [.row (prK strK (slK (prK (intK .i64) (prK strK boolK)))) 80 Ar3 cr3 (x_.2), spE bp Ap cp mp ((pL)) ((pl)) ((pm))] ∧ VT.le V6 V_ ∧ (x_.1 ≤ (keysOf pL).length) ∧ (x_.2 = pL.take (x_.1))) (fun (x_ : Nat × List Item) => (keysOf pL).length - x_.1) ((0 : Nat), (([] : List Item) : List Item)) ⟨g32, V6, none, 0, rfl, hM31, VT.le.refl _, by omega, by rfl⟩ ?_
  rintro ⟨k, o⟩ a_ w34 ⟨g33, Vl20, Ar_373, cr_373, rfl, hM35, le36, hi37_0, hi37_1⟩ K37 hK37
  replace hi37_0 : k ≤ (keysOf pL).length := hi37_0
  replace hi37_1 : o = pL.take (k) := hi37_1
  refine wp_seq_k (fun K38 hK38 => ?_)
  refine wp_reg ?_
  refine wpF_seg 1 (by kernel_rfl) ?_
  refine wpF_end _ (by kernel_rfl) (then_n (hK38 _ _ ?_))
  refine wp_seq_k (fun K39 hK39 => ?_)
  refine wp_if (decide (((k : Int)) < (((keysOf ((pL))).length : Int)))) (by kernel_rfl) (fun h40 => ?_) (fun h40 => ?_)
  · -- Lt
    have p41 : (((k : Int)) < (((keysOf ((pL))).length : Int))) := of_decide_eq_true h40
    refine wp_skip (then_n (hK39 _ _ ?_))
    refine wp_seq_k (fun K42 hK42 => ?_)
    refine wp_block ?_
    refine wp_seq_k (fun K43 hK43 => ?_)
    refine wp_reg ?_
    have hM44 := hM35.openSp 1 rfl
    have hs45 : SpI ((pL)) := (hM35.spOk 1 rfl)
    have hM46 : Step V w [spE bp Ap cp mp (pL) (pl) (pm)] Vl20 _ ([.blk bp (.cells #[.slice Ap (keysOf ((pL))).length cp, .map (some mp), .int .i64 ((pl)), .int .i64 ((pm))] 71), .row strK 9 Ap cp (keysOf ((pL))), mapE false (slK (prK (intK .i64) (prK strK boolK))) mp (fun k_ => lk k_ ((pL))), .row (prK strK (slK (prK (intK .i64) (prK strK boolK)))) 80 Ar_373 cr_373 (o)]) := hM44
    refine wpF_indexW hM46 1 rfl .i64 ((k : Int)) (h := (by kernel_rfl : opAt _ _ _ _ _ = some (.indexAddr 22 (.tmp 12) (.tmp 14), some 16))) (e' := 9) (by kernel_rfl) (by kernel_rfl) (by kernel_rfl) (k) rfl (by omega) (fun b47 hA48 => ?_)
    refine wpF_loadW (m := (k)) hM46 1 rfl hA48 (h := (by kernel_rfl : opAt _ _ _ _ _ = some (.load 9 (.tmp 16), some 17))) (by kernel_rfl) (by kernel_rfl) (by omega) (fun l49 => ?_)
    refine wpF_seg 1 (by kernel_rfl) ?_
    refine wpF_end _ (by kernel_rfl) (then_n (hK43 _ _ ?_))
    refine wp_reg ?_
    refine wpF_seg 5 (by kernel_rfl) ?_
    refine gF hM46 (.load 69 (.tmp 22)) (some 23) (by kernel_rfl) (Y_load 0 rfl (off := 1) (by kernel_rfl) (.map (some mp)) (by kernel_rfl)) ?_
    refine wpF_seg 1 (by kernel_rfl) ?_
    refine wpF_lookup (kt := 9) (e := 78) (z := .slice none 0 0) hM46 2 rfl (((keysOf ((pL))).getD (k) [])) (h := (by kernel_rfl : opAt _ _ _ _ _ = some (.lookup 69 (.tmp 23) (.tmp 24) false, some 25))) (by kernel_rfl) (by kernel_rfl) (elemV.of_sl (Rd.nil _ _)) (by kernel_rfl) (by kernel_rfl) (fun v50 hv51 => ?_)
    obtain ⟨A53, c54, rfl, r52⟩ := elemV.sl (xs := ((lk (((keysOf ((pL))).getD (k) [])) ((pL))).getD [])) hv51
    have l55 : (((lk (((keysOf ((pL))).getD (k) [])) ((pL))).getD [])).length ≤ 140737488355328 := r52.max
    refine wpF_callP hM46 (f := 79) (caps := #[]) (h := (by kernel_rfl : opAt _ _ _ _ _ = some (.call (.mk (.value (.func 79)) #[(.tmp 25)] #[78]), some 26))) (by kernel_rfl) (by kernel_rfl) (by kernel_rfl) (f79 _ _ hM46.inW A53 c54 (((lk (((keysOf ((pL))).getD (k) [])) ((pL))).getD [])) r52 (by exact hb _)) (fun v56 V57 w58 le59 hM60 hp61 => ?_)
    obtain ⟨Ar61_1, cr61_1, rfl, r62⟩ := hp61
    have l63 : ((((lk (((keysOf ((pL))).getD (k) [])) ((pL))).getD []))).length ≤ 140737488355328 := r62.max
    refine wpF_seg 1 (by kernel_rfl) ?_
    refine wpF_litR (prK strK (slK (prK (intK .i64) (prK strK boolK)))) hM60 #[bs (((keysOf ((pL))).getD (k) [])), .slice Ar61_1 ((((lk (((keysOf ((pL))).getD (k) [])) ((pL))).getD []))).length cr61_1] (h := (by kernel_rfl : opAt _ _ _ _ _ = some (.buildSlice 46 1 #[(0, (.tmp 27))], some 28))) (e := 80) (by kernel_rfl) ([(((keysOf ((pL))).getD (k) []), (((lk (((keysOf ((pL))).getD (k) [])) ((pL))).getD [])))]) (Reps.single (K := (prK strK (slK (prK (intK .i64) (prK strK boolK))))) (x := (((keysOf ((pL))).getD (k) []), (((lk (((keysOf ((pL))).getD (k) [])) ((pL))).getD [])))) ⟨[bs (((keysOf ((pL))).getD (k) []))], [.slice Ar61_1 ((((lk (((keysOf ((pL))).getD (k) [])) ((pL))).getD []))).length cr61_1], rfl, ⟨rfl, l49⟩, ⟨Ar61_1, cr61_1, rfl, r62⟩⟩) rfl (by simp [maxL]) (fun A64 c65 V68 w66 le69 hM67 r70 => ?_)
    refine wpF_append (by_ := 40) hM67 3 rfl (h := (by kernel_rfl : opAt _ _ _ _ _ = some (.call (.mk (.builtin .append) #[(.tmp 18), (.tmp 28)] #[46, 46]), some 29))) (by kernel_rfl) (by kernel_rfl) (by kernel_rfl) (by kernel_rfl) (by kernel_rfl) (by kernel_rfl) (by kernel_rfl) (Src.rd r70) (by have hol : o.length ≤ k := Nat.le_trans (Nat.le_of_eq (congrArg List.length (by assumption : o = pL.take k))) (List.length_take_le _ _); simp only [List.length_append, List.length_cons, List.length_nil]; omega) (fun A71 c72 w73 hM74 => ?_)
    have hM75 : Step V w [spE bp Ap cp mp (pL) (pl) (pm)] V68 _ ([.row (prK strK (slK (prK (intK .i64) (prK strK boolK)))) 80 A71 c72 (o ++ [(((keysOf ((pL))).getD (k) []), (((lk (((keysOf ((pL))).getD (k) [])) ((pL))).getD [])))]), .blk bp (.cells #[.slice Ap (keysOf ((pL))).length cp, .map (some mp), .int .i64 ((pl)), .int .i64 ((pm))] 71), .row strK 9 Ap cp (keysOf ((pL))), mapE false (slK (prK (intK .i64) (prK strK boolK))) mp (fun k_ => lk k_ ((pL)))]) := hM74
    refine wpF_seg 1 (by kernel_rfl) ?_
    refine wpF_end _ (by kernel_rfl) (blk_n (then_n (hK42 _ _ ?_)))
    refine wp_reg ?_
    refine gF hM75 (.binOp .add 3 (.tmp 14) (.const (.int .i64 1)) 3) (some 30) (by kernel_rfl) (Y_add .i64 ((k : Int)) (1) ((k : Int) + 1) (by kernel_rfl) (by kernel_rfl) (wrap64_ok _ (by omega))) ?_
    refine wpF_seg 1 (by kernel_rfl) ?_
    have hM76 := hM75.front 3 rfl
    have hM77 := hM76.front 3 rfl
    have hM78 := hM77.front 3 rfl
    have hM79 : Step V w [spE bp Ap cp mp (pL) (pl) (pm)] V68 _ ([.blk bp (.cells #[.slice Ap (keysOf ((pL))).length cp, .map (some mp), .int .i64 ((pl)), .int .i64 ((pm))] 71), .row strK 9 Ap cp (keysOf ((pL))), mapE false (slK (prK (intK .i64) (prK strK boolK))) mp (fun k_ => lk k_ ((pL))), .row (prK strK (slK (prK (intK .i64) (prK strK boolK)))) 80 A71 c72 (o ++ [(((keysOf ((pL))).getD (k) []), (((lk (((keysOf ((pL))).getD (k) [])) ((pL))).getD [])))])]) := hM78
    have hk80 : keysOf ((pL)) = keysOf ((pL)) := rfl
    have hf81 : (fun k_ => lk k_ ((pL))) = (fun k_ => lk k_ ((pL))) := rfl
    have ho82 : SpI ((pL)) := hs45
    have hM83 : Step V w [spE bp Ap cp mp (pL) (pl) (pm)] V68 _ (spE bp Ap cp mp ((pL)) ((pl)) ((pm)) :: [.row (prK strK (slK (prK (intK .i64) (prK strK boolK)))) 80 A71 c72 (o ++ [(((keysOf ((pL))).getD (k) []), (((lk (((keysOf ((pL))).getD (k) [])) ((pL))).getD [])))])]) := Step.closeSp hk80 hf81 ho82 (by exact hM79)
    have hM84 : Step V w [spE bp Ap cp mp (pL) (pl) (pm)] V68 _ ([spE bp Ap cp mp ((pL)) ((pl)) ((pm)), .row (prK strK (slK (prK (intK .i64) (prK strK boolK)))) 80 A71 c72 (o ++ [(((keysOf ((pL))).getD (k) []), (((lk (((keysOf ((pL))).getD (k) [])) ((pL))).getD [])))])]) := hM83
    refine wpF_base [(0, .pointer (some ⟨bp, 0, none⟩)), (2, .slice none 0 0), (3, .slice A71 (o ++ ([((keysOf (pL)).getD (k) [], ((lk ((keysOf (pL)).getD (k) []) (pL)).getD []))] : List Item)).length c72), (12, .slice Ap (keysOf ((pL))).length cp), (13, .int .i64 (((keysOf ((pL))).length : Int))), (14, .int .i64 ((k + 1 : Int)))] (by kernel_rfl) (fun g85 => ?_)
    have hM86 := hM84.front 0 rfl
    have hM87 := hM86.front 1 rfl
    refine wpF_end _ (by kernel_rfl) (then_n (hK37 _ _ (k + 1, o ++ ([((keysOf (pL)).getD (k) [], ((lk ((keysOf (pL)).getD (k) []) (pL)).getD []))] : List Item)) (by omega) ?_))
    refine ⟨g85, V68, A71, c72, rfl, hM87, ((le36.trans le59).trans le69), ?_, ?_⟩
    · -- Lt inv 0
      omega
    · -- Lt inv 1
      exact items_step hup.1 (by omega) (by assumption)
  · -- Lf
    have p88 : ¬ (((k : Int)) < (((keysOf ((pL))).length : Int))) := of_decide_eq_false h40
    refine wp_exit (then_x (then_x (blk_hit (then_n (hK15 _ _ ?_)))))
    obtain rfl : k = (keysOf pL).length := by omega
    refine wp_seq_k (fun K89 hK89 => ?_)
    refine wp_reg ?_
    refine wpF_seg 2 (by kernel_rfl) ?_
    refine wpF_end _ (by kernel_rfl) (then_n (hK89 _ _ ?_))
    refine wp_ret ?_
    obtain ⟨V90, le91, hM92, r93⟩ := hM35.settleRow 0 rfl
    have hM94 : Step V w [spE bp Ap cp mp (pL) (pl) (pm)] V90 _ ([spE bp Ap cp mp ((pL)) ((pl)) ((pm))]) := hM92
    have hM95 := hM94.front 0 rfl
    have hM96 : Step V w [spE bp Ap cp mp (pL) (pl) (pm)] V90 _ ([spE bp Ap cp mp ((pL)) ((pl)) ((pm))]) := hM95
    refine retN [.slice Ar_373 (o).length cr_373] (.slice Ar_373 (o).length cr_373) Try.results44 (.tmp (by kernel_rfl) (by kernel_rfl) .nil) (by kernel_rfl) (hRet _ _ ⟨_, _, _, rfl, hM96, ?_⟩)
    -- end Lf
    have ho : o = pL := (by assumption : o = pL.take (keysOf pL).length).trans (by rw [hlk, List.take_length])
    refine ⟨Ar_373, cr_373, ?_, ?_, ?_⟩
    · rw [ho]
    · rfl
    · first | exact r93 | (exact Rd.eq r93 (by exact ho))

end Go.Vk
