import Derived.Test.YtnibbocbefnnnaaRIt
import Derived.Test.YtnibbocbefnnnaaRMathSp
import Derived.Test.YtnibbocbefnnnaaRMathSq
import Derived.Test.YtnibbocbefnnnaaRPlainSp
import Derived.Test.YtnibbocbefnnnaaRSg
import Derived.Test.YtnibbocbefnnnaaRSh
import Derived.Test.YtnibbocbefnnnaaRSi
import Derived.Test.YtnibbocbefnnnaaRSj
import Derived.Test.YtnibbocbefnnnaaRSp
import Derived.Test.YtnibbocbefnnnaaRSu
set_option linter.unusedVariables false
set_option linter.unusedSimpArgs false
namespace Go.Vk
open Go.Proofs
variable {D : List Deferred}
set_option maxHeartbeats 4000000 in
set_option maxRecDepth 100000 in
theorem f49 (V : VT) (w : World) (bp : Nat) (Ap : Option Addr) (cp mp : Nat) (pL : List (Str × List (Int × Str × Bool))) (pl pm : Int) (AsL : Option Addr) (csL : Nat) (sL : List ((Str × (List ((Int × Str × Bool)))))) (hsL : Rd (prK strK (slK (prK (intK .i64) (prK strK boolK)))) V AsL csL sL) (sa : Int) (sb : Int) (dk : Int) (dn : Int) (Adl : Option Addr) (cdl : Nat) (dl : List ((Str × Str × Bool))) (hdl : Rd (prK strK (prK strK boolK)) V Adl cdl dl) (hS : St V w [spE bp Ap cp mp (pL) (pl) (pm)]) (hld : ldB pL pl pm = true) (hsl : sL = pL) (hsa : sa = pl) (hsb : sb = pm) (h5 : pL.length ≤ 90000) (hdc : dl.length ≤ 1000) (hb : ∀ y, (lkD y pL).length ≤ 100000) (hdn : -100 ≤ dn ∧ dn ≤ 1099511627776) :
    Calls Try.prog 49 #[.pointer (some ⟨bp, 0, none⟩), .agg #[.slice AsL (sL).length csL, .int .i64 (sa), .int .i64 (sb)], .agg #[.int .i64 (dk), .int .i64 (dn), .slice Adl (dl).length cdl]] w (Ret V w [spE bp Ap cp mp (pL) (pl) (pm)] fun rv V' E' => ∃ (b1 : Nat), ∃ (A1 : Option Addr), ∃ (c1 : Nat), ∃ (m1 : Nat), ∃ (A2 : Option Addr), ∃ (c2 : Nat), rv = .tuple #[.pointer (some ⟨b1, 0, none⟩), .agg #[.slice A2 (stpS pL pl pm dk dn dl).length c2, .int .i64 (stpT pl dk dn dl), .int .i64 (stpM pl pm dk dn)], .bool (true)] ∧ E' = [spE b1 A1 c1 m1 (stpS pL pl pm dk dn dl) (stpT pl dk dn dl) (stpM pl pm dk dn)] ∧ Rd (prK strK (slK (prK (intK .i64) (prK strK boolK)))) V' A2 c2 (stpS pL pl pm dk dn dl)) := by
  have mxsL : sL.length ≤ 140737488355328 := hsL.max
  have mxdl : dl.length ≤ 140737488355328 := hdl.max
  refine calls_env (n := 103) Try.func49 (c := _) rfl Try.ntmps49 (by kernel_rfl) (fun R hRet => ?_)
  have hV := hS.inW
  have hM0 : Step V w [spE bp Ap cp mp (pL) (pl) (pm)] V w [spE bp Ap cp mp (pL) (pl) (pm)] := Step.refl hS
  have hup : SpI pL := hM0.spOk 0 rfl
  have hrg := ld_rng hld
  have hb2 : ∀ y, (lkD y pL).length ≤ 4398046511104 := fun y => Nat.le_trans (hb y) (by omega)
  have hbp := bnd_at hup.1 hb2
  have hbs : ∀ i, i < sL.length → (sL.getD i ([], [])).2.length ≤ 4398046511104 := by rw [hsl]; exact hbp
  refine wp_seq_k (fun K1 hK1 => ?_)
  refine wp_reg ?_
  refine wpF_box hM0 #[.slice AsL (sL).length csL, .int .i64 (sa), .int .i64 (sb)] (h := (by kernel_rfl : opAt _ _ _ _ _ = some (.box 50 (.tmp 1), some 4))) (by kernel_rfl) (fun b2 w3 hM4 => ?_)
  obtain ⟨V5, le6, hM7, hc8⟩ := hM4.settle 0 rfl
  have hM9 : Step V w [spE bp Ap cp mp (pL) (pl) (pm)] V5 _ ([spE bp Ap cp mp (pL) (pl) (pm)]) := hM7
  refine wpF_box hM9 #[.int .i64 (dk), .int .i64 (dn), .slice Adl (dl).length cdl] (h := (by kernel_rfl : opAt _ _ _ _ _ = some (.box 89 (.tmp 2), some 5))) (by kernel_rfl) (fun b10 w11 hM12 => ?_)
  obtain ⟨V13, le14, hM15, hc16⟩ := hM12.settle 0 rfl
  have hM17 : Step V w [spE bp Ap cp mp (pL) (pl) (pm)] V13 _ ([spE bp Ap cp mp (pL) (pl) (pm)]) := hM15
  refine wpF_seg 1 (by kernel_rfl) ?_
  refine wpF_alloc hM17 #[.slice none 0 0, .int .i64 (0), .int .i64 (0)] (h := (by kernel_rfl : opAt _ _ _ _ _ = some (.alloc 50, some 7))) (by kernel_rfl) (fun b18 w19 hM20 => ?_)
  refine wpF_seg 1 (by kernel_rfl) ?_
  refine wpF_end _ (by kernel_rfl) (then_n (hK1 _ _ ?_))
  refine wp_seq_k (fun K21 hK21 => ?_)
  refine wp_seq_k (fun K22 hK22 => ?_)
  refine wp_reg ?_
  refine wpF_seg 1 (by kernel_rfl) ?_
  refine gF hM20 (.load 3 (.tmp 16)) (some 17) (by kernel_rfl) (Y_loadB #[.int .i64 (dk), .int .i64 (dn), .slice Adl (dl).length cdl] hc16 (off := 0) (by kernel_rfl) (.int .i64 (dk)) (by kernel_rfl)) ?_
  refine wpF_end _ (by kernel_rfl) (then_n (hK22 _ _ ?_))
  refine wp_block ?_
  refine wp_seq_k (fun K23 hK23 => ?_)
  refine wp_reg ?_
  refine wpF_seg 2 (by kernel_rfl) ?_
  refine wpF_end _ (by kernel_rfl) (then_n (hK23 _ _ ?_))
  refine wp_if (decide ((dk) = (1))) (by kernel_rfl) (fun h24 => ?_) (fun h24 => ?_)
  · -- t
    have p25 : ((dk) = (1)) := of_decide_eq_true h24
    refine wp_seq_k (fun K26 hK26 => ?_)
    refine wp_reg ?_
    refine gF hM20 (.load 50 (.tmp 4)) (some 21) (by kernel_rfl) (Y_loadB #[.slice AsL (sL).length csL, .int .i64 (sa), .int .i64 (sb)] (fun i v hi => le14 _ _ _ (hc8 i v hi)) (off := 0) (by kernel_rfl) (.agg #[.slice AsL (sL).length csL, .int .i64 (sa), .int .i64 (sb)]) (by kernel_rfl)) ?_
    refine wpF_seg 1 (by kernel_rfl) ?_
    refine gF hM20 (.load 3 (.tmp 22)) (some 23) (by kernel_rfl) (Y_loadB #[.slice AsL (sL).length csL, .int .i64 (sa), .int .i64 (sb)] (fun i v hi => le14 _ _ _ (hc8 i v hi)) (off := 2) (by kernel_rfl) (.int .i64 (sb)) (by kernel_rfl)) ?_
    refine wpF_seg 1 (by kernel_rfl) ?_
    refine gF hM20 (.load 3 (.tmp 24)) (some 25) (by kernel_rfl) (Y_loadB #[.int .i64 (dk), .int .i64 (dn), .slice Adl (dl).length cdl] hc16 (off := 1) (by kernel_rfl) (.int .i64 (dn)) (by kernel_rfl)) ?_
    refine gF hM20 (.binOp .add 3 (.tmp 23) (.tmp 25) 3) (some 26) (by kernel_rfl) (Y_add .i64 (sb) (dn) (sb + dn) (by kernel_rfl) (by kernel_rfl) (wrap64_ok _ (by omega))) ?_
    refine wpF_callP hM20 (f := 94) (caps := #[]) (h := (by kernel_rfl : opAt _ _ _ _ _ = some (.call (.mk (.value (.func 94)) #[(.tmp 21), (.tmp 26)] #[50, 3]), some 27))) (by kernel_rfl) (by kernel_rfl) (by kernel_rfl) (f94 _ _ hM20.inW AsL csL (sL) (hsL.up hM20.le) (sa) (sb) (sb + dn) (by rw [hsl]; omega) (by assumption)) (fun v27 V28 w29 le30 hM31 hp32 => ?_)
    obtain ⟨Ar32_1, cr32_1, rfl, r33⟩ := hp32
    have l34 : (vmS (sb + dn) (sL) (sa) (sb)).length ≤ 140737488355328 := r33.max
    refine wpF_seg 3 (by kernel_rfl) ?_
    refine wpF_alloc hM31 #[.slice none 0 0, .int .i64 (0), .int .i64 (0)] (h := (by kernel_rfl : opAt _ _ _ _ _ = some (.alloc 50, some 9))) (by kernel_rfl) (fun b35 w36 hM37 => ?_)
    refine wpF_store hM37 0 rfl (h := (by kernel_rfl : opAt _ _ _ _ _ = some (.store 50 (.tmp 9) (.tmp 28), none))) (off := 0) (by kernel_rfl) #[.slice Ar32_1 (vmS (sb + dn) (sL) (sa) (sb)).length cr32_1, .int .i64 ((sa)), .int .i64 (vmM (sb + dn) (sa) (sb))] (by kernel_rfl) (by kernel_rfl) (by kernel_rfl) (by kernel_rfl) (fun w39 hM38 => ?_)
    have hM40 : Step V w [spE bp Ap cp mp (pL) (pl) (pm)] V28 _ ([.blk b35 (.cells #[.slice Ar32_1 (vmS (sb + dn) (sL) (sa) (sb)).length cr32_1, .int .i64 ((sa)), .int .i64 (vmM (sb + dn) (sa) (sb))] 50), .blk b18 (.cells #[.slice none 0 0, .int .i64 (0), .int .i64 (0)] 50), spE bp Ap cp mp (pL) (pl) (pm)]) := hM38
    refine wpF_seg 1 (by kernel_rfl) ?_
    refine wpF_end _ (by kernel_rfl) (then_n (hK26 _ _ ?_))
    refine wp_seq_k (fun K41 hK41 => ?_)
    have hM42 := hM40.openSp 2 rfl
    have hs43 : SpI (pL) := (hM40.spOk 2 rfl)
    have hM44 : Step V w [spE bp Ap cp mp (pL) (pl) (pm)] V28 _ ([.blk bp (.cells #[.slice Ap (keysOf (pL)).length cp, .map (some mp), .int .i64 (pl), .int .i64 (pm)] 71), .row strK 9 Ap cp (keysOf (pL)), mapE false (slK (prK (intK .i64) (prK strK boolK))) mp (fun k_ => lk k_ (pL)), .blk b35 (.cells #[.slice Ar32_1 (vmS (sb + dn) (sL) (sa) (sb)).length cr32_1, .int .i64 ((sa)), .int .i64 (vmM (sb + dn) (sa) (sb))] 50), .blk b18 (.cells #[.slice none 0 0, .int .i64 (0), .int .i64 (0)] 50)]) := hM42
    refine wp_base [(0, .pointer (some ⟨bp, 0, none⟩)), (4, .pointer (some ⟨b2, 0, none⟩)), (5, .pointer (some ⟨b10, 0, none⟩)), (6, .pointer none), (7, .pointer (some ⟨b18, 0, none⟩)), (8, .bool (false)), (9, .pointer (some ⟨b35, 0, none⟩)), (10, .int .i64 (vmE (sb + dn) (sa) (sb)))] (by kernel_rfl) (fun g45 => ?_)
    refine wp_drawN hM44 [(.blk b35 (.cells #[.slice Ar32_1 (vmS (sb + dn) (sL) (sa) (sb)).length cr32_1, .int .i64 ((sa)), .int .i64 (vmM (sb + dn) (sa) (sb))] 50), 9999)] (and_held 3 rfl no_held) [] [0, 1, 2, 3, 4, 5, 6, 7, 9] [.a 8, .p 10, .p 11, .a 12, .p 13] [.p 0, .p 1, .p 2, .p 3, .p 4, .p 5, .p 6, .p 7, .p 9, .s, .a 8, .p 10, .p 11, .a 12, .p 13] rfl (by kernel_rfl) (by kernel_rfl) ?_
    refine h_seg 1 (by kernel_rfl) ?_
    refine gH (.load 50 (.tmp 9)) (some 31) (by kernel_rfl) (Y_load 0 (by kernel_rfl : (FOf _ _ _)[0]? = some (.blk b35 (.cells #[.slice Ar32_1 (vmS (sb + dn) (sL) (sa) (sb)).length cr32_1, .int .i64 ((sa)), .int .i64 (vmM (sb + dn) (sa) (sb))] 50))) (off := 0) (by kernel_rfl) (.agg #[.slice Ar32_1 (vmS (sb + dn) (sL) (sa) (sb)).length cr32_1, .int .i64 ((sa)), .int .i64 (vmM (sb + dn) (sa) (sb))]) (by kernel_rfl)) ?_
    refine h_seg 2 (by kernel_rfl) ?_
    refine gH (.load 3 (.tmp 33)) (some 34) (by kernel_rfl) (Y_loadB #[.slice AsL (sL).length csL, .int .i64 (sa), .int .i64 (sb)] (fun i v hi => (le14.trans le30) _ _ _ (hc8 i v hi)) (off := 2) (by kernel_rfl) (.int .i64 (sb)) (by kernel_rfl)) ?_
    refine h_seg 1 (by kernel_rfl) ?_
    refine gH (.load 3 (.tmp 35)) (some 36) (by kernel_rfl) (Y_loadB #[.int .i64 (dk), .int .i64 (dn), .slice Adl (dl).length cdl] (fun i v hi => le30 _ _ _ (hc16 i v hi)) (off := 1) (by kernel_rfl) (.int .i64 (dn)) (by kernel_rfl)) ?_
    refine gH (.binOp .add 3 (.tmp 34) (.tmp 36) 3) (some 37) (by kernel_rfl) (Y_add .i64 (sb) (dn) (sb + dn) (by kernel_rfl) (by kernel_rfl) (wrap64_ok _ (by omega))) ?_
    refine h_seg 1 (by kernel_rfl) ?_
    refine h_s no_fs ?_
    refine h_a (by kernel_rfl) (by kernel_rfl) (fun w46 X47 hM48 => ?_)
    have hM49 := hM48.front 2 rfl
    have hM50 := hM49.front 2 rfl
    have hM51 := hM50.front 2 rfl
    have hM52 : Step V w [spE bp Ap cp mp (pL) (pl) (pm)] V28 _ ([.blk bp (.cells #[.slice Ap (keysOf (pL)).length cp, .map (some mp), .int .i64 (pl), .int .i64 (pm)] 71), .row strK 9 Ap cp (keysOf (pL)), mapE false (slK (prK (intK .i64) (prK strK boolK))) mp (fun k_ => lk k_ (pL)), .blk b35 (.cells #[.slice Ar32_1 (vmS (sb + dn) (sL) (sa) (sb)).length cr32_1, .int .i64 ((sa)), .int .i64 (vmM (sb + dn) (sa) (sb))] 50), .blk b18 (.cells #[.slice none 0 0, .int .i64 (0), .int .i64 (0)] 50)] ++ X47) := hM51
    have hk53 : keysOf (pL) = keysOf (pL) := rfl
    have hf54 : (fun k_ => lk k_ (pL)) = (fun k_ => lk k_ (pL)) := rfl
    have ho55 : SpI (pL) := hs43
    have hM56 : Step V w [spE bp Ap cp mp (pL) (pl) (pm)] V28 _ (spE bp Ap cp mp (pL) (pl) (pm) :: [.blk b35 (.cells #[.slice Ar32_1 (vmS (sb + dn) (sL) (sa) (sb)).length cr32_1, .int .i64 ((sa)), .int .i64 (vmM (sb + dn) (sa) (sb))] 50), .blk b18 (.cells #[.slice none 0 0, .int .i64 (0), .int .i64 (0)] 50)] ++ X47) := Step.closeSp hk53 hf54 ho55 (by exact hM52)
    have hM57 : Step V w [spE bp Ap cp mp (pL) (pl) (pm)] V28 _ ([spE bp Ap cp mp (pL) (pl) (pm), .blk b35 (.cells #[.slice Ar32_1 (vmS (sb + dn) (sL) (sa) (sb)).length cr32_1, .int .i64 ((sa)), .int .i64 (vmM (sb + dn) (sa) (sb))] 50), .blk b18 (.cells #[.slice none 0 0, .int .i64 (0), .int .i64 (0)] 50)] ++ X47) := hM56
    have hM58 := hM57.front 0 rfl
    have hM66 : Step V w [spE bp Ap cp mp (pL) (pl) (pm)] V28 _ ([spE bp Ap cp mp (pL) (pl) (pm), .blk b35 (.cells #[.slice Ar32_1 (vmS (sb + dn) (sL) (sa) (sb)).length cr32_1, .int .i64 ((sa)), .int .i64 (vmM (sb + dn) (sa) (sb))] 50), .blk b18 (.cells #[.slice none 0 0, .int .i64 (0), .int .i64 (0)] 50)] ++ X47) := hM58
    refine wpF_callE [spE bp Ap cp mp (pL) (pl) (pm)] ([.blk b35 (.cells #[.slice Ar32_1 (vmS (sb + dn) (sL) (sa) (sb)).length cr32_1, .int .i64 ((sa)), .int .i64 (vmM (sb + dn) (sa) (sb))] 50), .blk b18 (.cells #[.slice none 0 0, .int .i64 (0), .int .i64 (0)] 50)] ++ X47) hM66 (f := 41) (caps := #[]) (h := (by kernel_rfl : opAt _ _ _ _ _ = some (.call (.mk (.value (.func 41)) #[(.tmp 32), (.tmp 37)] #[53, 3]), some 38))) (by kernel_rfl) (by kernel_rfl) (by kernel_rfl) (f41 _ _ bp Ap cp mp (pL) (pl) (pm) (sb + dn) (St.part (E := [spE bp Ap cp mp (pL) (pl) (pm)]) (F := ([.blk b35 (.cells #[.slice Ar32_1 (vmS (sb + dn) (sL) (sa) (sb)).length cr32_1, .int .i64 ((sa)), .int .i64 (vmM (sb + dn) (sa) (sb))] 50), .blk b18 (.cells #[.slice none 0 0, .int .i64 (0), .int .i64 (0)] 50)] ++ X47)) hM66.ok) (by omega) (by assumption)) (fun v59 V60 w61 Eo62 le63 hM64 hp65 => ?_)
    obtain ⟨Aor66_p, cor66_p, rfl, rfl⟩ := hp65
    have hM67 : Step V w [spE bp Ap cp mp (pL) (pl) (pm)] V60 _ ([spE bp Aor66_p cor66_p mp (vmS (sb + dn) (pL) (pl) (pm)) ((pl)) (vmM (sb + dn) (pl) (pm)), .blk b35 (.cells #[.slice Ar32_1 (vmS (sb + dn) (sL) (sa) (sb)).length cr32_1, .int .i64 ((sa)), .int .i64 (vmM (sb + dn) (sa) (sb))] 50), .blk b18 (.cells #[.slice none 0 0, .int .i64 (0), .int .i64 (0)] 50)] ++ X47) := hM64
    refine wpF_end _ (by kernel_rfl) (then_n (h_d [(.blk b35 (.cells #[.slice Ar32_1 (vmS (sb + dn) (sL) (sa) (sb)).length cr32_1, .int .i64 ((sa)), .int .i64 (vmM (sb + dn) (sa) (sb))] 50), 9999)] (by kernel_rfl) [spE bp Aor66_p cor66_p mp (vmS (sb + dn) (pL) (pl) (pm)) ((pl)) (vmM (sb + dn) (pl) (pm)), .blk b35 (.cells #[.slice Ar32_1 (vmS (sb + dn) (sL) (sa) (sb)).length cr32_1, .int .i64 ((sa)), .int .i64 (vmM (sb + dn) (sa) (sb))] 50), .blk b18 (.cells #[.slice none 0 0, .int .i64 (0), .int .i64 (0)] 50)] hM67 (and_held 1 rfl no_held) le63 ?_))
    refine h_seg 2 (by kernel_rfl) ?_
    refine h_a (by kernel_rfl) (by kernel_rfl) (fun w68 X69 hM70 => ?_)
    refine wpF_store hM70 2 rfl (h := (by kernel_rfl : opAt _ _ _ _ _ = some (.store 50 (.tmp 7) (.tmp 31), none))) (off := 0) (by kernel_rfl) #[.slice Ar32_1 (vmS (sb + dn) (sL) (sa) (sb)).length cr32_1, .int .i64 ((sa)), .int .i64 (vmM (sb + dn) (sa) (sb))] (by kernel_rfl) (by kernel_rfl) (by kernel_rfl) (by kernel_rfl) (fun w72 hM71 => ?_)
    have hM73 : Step V w [spE bp Ap cp mp (pL) (pl) (pm)] V60 _ ([spE bp Aor66_p cor66_p mp (vmS (sb + dn) (pL) (pl) (pm)) ((pl)) (vmM (sb + dn) (pl) (pm)), .blk b35 (.cells #[.slice Ar32_1 (vmS (sb + dn) (sL) (sa) (sb)).length cr32_1, .int .i64 ((sa)), .int .i64 (vmM (sb + dn) (sa) (sb))] 50), .blk b18 (.cells #[.slice Ar32_1 (vmS (sb + dn) (sL) (sa) (sb)).length cr32_1, .int .i64 ((sa)), .int .i64 (vmM (sb + dn) (sa) (sb))] 50)] ++ X69) := hM71
    refine wpF_end _ (by kernel_rfl) (then_n (h_d [(.blk b35 (.cells #[.slice Ar32_1 (vmS (sb + dn) (sL) (sa) (sb)).length cr32_1, .int .i64 ((sa)), .int .i64 (vmM (sb + dn) (sa) (sb))] 50), 9999)] (by kernel_rfl) [spE bp Aor66_p cor66_p mp (vmS (sb + dn) (pL) (pl) (pm)) ((pl)) (vmM (sb + dn) (pl) (pm)), .blk b35 (.cells #[.slice Ar32_1 (vmS (sb + dn) (sL) (sa) (sb)).length cr32_1, .int .i64 ((sa)), .int .i64 (vmM (sb + dn) (sa) (sb))] 50), .blk b18 (.cells #[.slice Ar32_1 (vmS (sb + dn) (sL) (sa) (sb)).length cr32_1, .int .i64 ((sa)), .int .i64 (vmM (sb + dn) (sa) (sb))] 50)] hM73 (and_held 1 rfl no_held) (VT.le.refl _) ?_))
    refine h_seg 1 (by kernel_rfl) ?_
    refine h_n (fun w74 hM75 => ?_)
    refine  (then_n (hK41 _ _ ?_))
    refine wp_ret (blk_r (then_r (?_)))
    have hM76 := hM75.front 0 rfl
    have hM77 := (hM76.front 2 rfl).drop
    have hM78 := (hM77.front 1 rfl).drop
    have hM79 : Step V w [spE bp Ap cp mp (pL) (pl) (pm)] V60 _ ([spE bp Aor66_p cor66_p mp (vmS (sb + dn) (pL) (pl) (pm)) ((pl)) (vmM (sb + dn) (pl) (pm))]) := hM78
    refine retN [.pointer (some ⟨bp, 0, none⟩), .agg #[.slice Ar32_1 (vmS (sb + dn) (sL) (sa) (sb)).length cr32_1, .int .i64 ((sa)), .int .i64 (vmM (sb + dn) (sa) (sb))], .bool (decide ((vmE (sb + dn) (pl) (pm)) = (vmE (sb + dn) (sa) (sb))))] (.tuple #[.pointer (some ⟨bp, 0, none⟩), .agg #[.slice Ar32_1 (vmS (sb + dn) (sL) (sa) (sb)).length cr32_1, .int .i64 ((sa)), .int .i64 (vmM (sb + dn) (sa) (sb))], .bool (decide ((vmE (sb + dn) (pl) (pm)) = (vmE (sb + dn) (sa) (sb))))]) Try.results49 (.tmp (by kernel_rfl) (by kernel_rfl) (.cell (by kernel_rfl) (by kernel_rfl) hM75 2 rfl (by kernel_rfl) (.tmp (by kernel_rfl) (by kernel_rfl) .nil))) (by kernel_rfl) (hRet _ _ ⟨_, _, _, rfl, hM79, ?_⟩)
    -- end t
    refine ⟨bp, Aor66_p, cor66_p, mp, Ar32_1, cr32_1, ?_, ?_, ?_⟩
    · simp only [stpS, stpT, stpM, hsl, hsa, hsb, h24, cond_true, cond_false, decide_true]
    · simp only [stpS, stpT, stpM, hsl, hsa, hsb, h24, cond_true, cond_false, decide_true]
    · first | exact (r33.up le63) | (exact Rd.eq (r33.up le63) (by simp only [stpS, stpT, stpM, hsl, hsa, hsb, h24, cond_true, cond_false, decide_true]))
  · -- f
    have p80 : ¬ ((dk) = (1)) := of_decide_eq_false h24
    refine wp_seq_k (fun K81 hK81 => ?_)
    refine wp_reg ?_
    refine wpF_seg 2 (by kernel_rfl) ?_
    refine wpF_end _ (by kernel_rfl) (then_n (hK81 _ _ ?_))
    refine wp_if (decide ((dk) = (2))) (by kernel_rfl) (fun h82 => ?_) (fun h82 => ?_)
    · -- ft
      have p83 : ((dk) = (2)) := of_decide_eq_true h82
      refine wp_seq_k (fun K84 hK84 => ?_)
      refine wp_reg ?_
      refine wpF_seg 1 (by kernel_rfl) ?_
      have hM85 := hM20.front 1 rfl
      have hM93 : Step V w [spE bp Ap cp mp (pL) (pl) (pm)] V13 _ ([spE bp Ap cp mp (pL) (pl) (pm), .blk b18 (.cells #[.slice none 0 0, .int .i64 (0), .int .i64 (0)] 50)]) := hM85
      refine wpF_callE [spE bp Ap cp mp (pL) (pl) (pm)] ([.blk b18 (.cells #[.slice none 0 0, .int .i64 (0), .int .i64 (0)] 50)]) hM93 (f := 45) (caps := #[]) (h := (by kernel_rfl : opAt _ _ _ _ _ = some (.call (.mk (.value (.func 45)) #[(.tmp 43)] #[53]), some 44))) (by kernel_rfl) (by kernel_rfl) (by kernel_rfl) (f45 _ _ bp Ap cp mp (pL) (pl) (pm) (St.part (E := [spE bp Ap cp mp (pL) (pl) (pm)]) (F := ([.blk b18 (.cells #[.slice none 0 0, .int .i64 (0), .int .i64 (0)] 50)])) hM93.ok) (by omega) (by assumption)) (fun v86 V87 w88 Eo89 le90 hM91 hp92 => ?_)
      obtain ⟨br93_1, Ar93_1, cr93_1, mr93_1, rfl, rfl⟩ := hp92
      have hM94 : Step V w [spE bp Ap cp mp (pL) (pl) (pm)] V87 _ ([spE bp Ap cp mp ((pL)) ((pl)) ((pm)), spE br93_1 Ar93_1 cr93_1 mr93_1 ((pL)) ((pl)) ((pm)), .blk b18 (.cells #[.slice none 0 0, .int .i64 (0), .int .i64 (0)] 50)]) := hM91
      refine wpF_seg 1 (by kernel_rfl) ?_
      refine wpF_end _ (by kernel_rfl) (then_n (hK84 _ _ ?_))
      refine wp_seq_k (fun K95 hK95 => ?_)
      refine wp_reg ?_
      refine wpF_seg 2 (by kernel_rfl) ?_
      refine gF hM94 (.load 3 (.tmp 46)) (some 47) (by kernel_rfl) (Y_loadB #[.slice AsL (sL).length csL, .int .i64 (sa), .int .i64 (sb)] (fun i v hi => (le14.trans le90) _ _ _ (hc8 i v hi)) (off := 1) (by kernel_rfl) (.int .i64 (sa)) (by kernel_rfl)) ?_
      refine gF hM94 (.binOp .add 3 (.tmp 47) (.const (.int .i64 1)) 3) (some 48) (by kernel_rfl) (Y_add .i64 (sa) (1) (sa + 1) (by kernel_rfl) (by kernel_rfl) (wrap64_ok _ (by omega))) ?_
      refine wpF_seg 1 (by kernel_rfl) ?_
      refine wpF_litR (prK strK (prK strK boolK)) hM94 #[bs (([122, 122] : Str)), bs (([122, 122] : Str)), .bool (false)] (h := (by kernel_rfl : opAt _ _ _ _ _ = some (.buildSlice 45 1 #[(0, (.tmp 49))], some 50))) (e := 105) (by kernel_rfl) ([(([122, 122] : Str), ([122, 122] : Str), false)]) (Reps.single (K := (prK strK (prK strK boolK))) (x := (([122, 122] : Str), ([122, 122] : Str), false)) ⟨[bs (([122, 122] : Str))], [bs (([122, 122] : Str)), .bool (false)], rfl, ⟨rfl, by first | decide | (simp only [maxL, List.length_append, List.length_cons, List.length_nil]; omega)⟩, ⟨[bs (([122, 122] : Str))], [.bool (false)], rfl, ⟨rfl, by first | decide | (simp only [maxL, List.length_append, List.length_cons, List.length_nil]; omega)⟩, rfl⟩⟩) rfl (by simp [maxL]) (fun A96 c97 V100 w98 le101 hM99 r102 => ?_)
      have hM103 := hM99.front 0 rfl
      have hM111 : Step V w [spE bp Ap cp mp (pL) (pl) (pm)] V100 _ ([spE bp Ap cp mp ((pL)) ((pl)) ((pm)), spE br93_1 Ar93_1 cr93_1 mr93_1 ((pL)) ((pl)) ((pm)), .blk b18 (.cells #[.slice none 0 0, .int .i64 (0), .int .i64 (0)] 50)]) := hM103
      refine wpF_callE [spE bp Ap cp mp ((pL)) ((pl)) ((pm))] ([spE br93_1 Ar93_1 cr93_1 mr93_1 ((pL)) ((pl)) ((pm)), .blk b18 (.cells #[.slice none 0 0, .int .i64 (0), .int .i64 (0)] 50)]) hM111 (f := 35) (caps := #[]) (h := (by kernel_rfl : opAt _ _ _ _ _ = some (.call (.mk (.value (.func 35)) #[(.tmp 45), (.tmp 48), (.tmp 50)] #[53, 3, 45]), some 51))) (by kernel_rfl) (by kernel_rfl) (by kernel_rfl) (f35 _ _ bp Ap cp mp ((pL)) ((pl)) ((pm)) (sa + 1) A96 c97 ([(([122, 122] : Str), ([122, 122] : Str), false)]) r102 (St.part (E := [spE bp Ap cp mp ((pL)) ((pl)) ((pm))]) (F := ([spE br93_1 Ar93_1 cr93_1 mr93_1 ((pL)) ((pl)) ((pm)), .blk b18 (.cells #[.slice none 0 0, .int .i64 (0), .int .i64 (0)] 50)])) hM111.ok) (by first | omega | (simp; omega) | (simp only [List.length_append, List.length_nil]; omega)) (by exact fun y => by have := hb y; first | omega | (simp; omega)) (by exact i64_ok (by omega) (by omega))) (fun v104 V105 w106 Eo107 le108 hM109 hp110 => ?_)
      obtain ⟨Aor111_p, cor111_p, rfl, rfl⟩ := hp110
      have hM112 : Step V w [spE bp Ap cp mp (pL) (pl) (pm)] V105 _ ([spE bp Aor111_p cor111_p mp (appS (sa + 1) ((pL)) ((pl)) ([(([122, 122] : Str), ([122, 122] : Str), false)])) (appT (sa + 1) ((pl)) ([(([122, 122] : Str), ([122, 122] : Str), false)])) (((pm))), spE br93_1 Ar93_1 cr93_1 mr93_1 ((pL)) ((pl)) ((pm)), .blk b18 (.cells #[.slice none 0 0, .int .i64 (0), .int .i64 (0)] 50)]) := hM109
      refine wpF_end _ (by kernel_rfl) (then_n (hK95 _ _ ?_))
      refine wp_seq_k (fun K113 hK113 => ?_)
      have hM114 := hM112.openSp 1 rfl
      have hs115 : SpI ((pL)) := (hM112.spOk 1 rfl)
      have hM116 : Step V w [spE bp Ap cp mp (pL) (pl) (pm)] V105 _ ([.blk br93_1 (.cells #[.slice Ar93_1 (keysOf ((pL))).length cr93_1, .map (some mr93_1), .int .i64 ((pl)), .int .i64 ((pm))] 71), .row strK 9 Ar93_1 cr93_1 (keysOf ((pL))), mapE false (slK (prK (intK .i64) (prK strK boolK))) mr93_1 (fun k_ => lk k_ ((pL))), spE bp Aor111_p cor111_p mp (appS (sa + 1) ((pL)) ((pl)) ([(([122, 122] : Str), ([122, 122] : Str), false)])) (appT (sa + 1) ((pl)) ([(([122, 122] : Str), ([122, 122] : Str), false)])) (((pm))), .blk b18 (.cells #[.slice none 0 0, .int .i64 (0), .int .i64 (0)] 50)]) := hM114
      refine wp_base [(0, .pointer (some ⟨bp, 0, none⟩)), (4, .pointer (some ⟨b2, 0, none⟩)), (5, .pointer (some ⟨b10, 0, none⟩)), (6, .pointer none), (7, .pointer (some ⟨b18, 0, none⟩)), (8, .bool (false)), (11, .pointer (some ⟨br93_1, 0, none⟩))] (by kernel_rfl) (fun g117 => ?_)
      refine wp_drawN hM116 [] no_held [] [0, 1, 2, 3, 4] [.a 5, .p 6] [.p 0, .p 1, .p 2, .p 3, .p 4, .s, .a 5, .p 6] rfl (by kernel_rfl) (by kernel_rfl) ?_
      refine h_seg 1 (by kernel_rfl) ?_
      refine gH (.load 50 (.tmp 4)) (some 53) (by kernel_rfl) (Y_loadB #[.slice AsL (sL).length csL, .int .i64 (sa), .int .i64 (sb)] (fun i v hi => (((le14.trans le90).trans le101).trans le108) _ _ _ (hc8 i v hi)) (off := 0) (by kernel_rfl) (.agg #[.slice AsL (sL).length csL, .int .i64 (sa), .int .i64 (sb)]) (by kernel_rfl)) ?_
      refine h_seg 1 (by kernel_rfl) ?_
      refine gH (.binOp .neq 53 (.tmp 54) (.const (.pointer none)) 53) (some 55) (by kernel_rfl) (Y_neq (.pointer (some ⟨br93_1, 0, none⟩)) (.pointer none) (false) (by kernel_rfl) (by kernel_rfl) (by kernel_rfl)) ?_
      refine h_seg 1 (by kernel_rfl) ?_
      refine h_s no_fs ?_
      refine h_a (by kernel_rfl) (by kernel_rfl) (fun w118 X119 hM120 => ?_)
      refine wpF_store hM120 4 rfl (h := (by kernel_rfl : opAt _ _ _ _ _ = some (.store 50 (.tmp 7) (.tmp 53), none))) (off := 0) (by kernel_rfl) #[.slice AsL (sL).length csL, .int .i64 (sa), .int .i64 (sb)] (by kernel_rfl) (by kernel_rfl) (by kernel_rfl) (by kernel_rfl) (fun w122 hM121 => ?_)
      have hM123 : Step V w [spE bp Ap cp mp (pL) (pl) (pm)] V105 _ ([.blk br93_1 (.cells #[.slice Ar93_1 (keysOf ((pL))).length cr93_1, .map (some mr93_1), .int .i64 ((pl)), .int .i64 ((pm))] 71), .row strK 9 Ar93_1 cr93_1 (keysOf ((pL))), mapE false (slK (prK (intK .i64) (prK strK boolK))) mr93_1 (fun k_ => lk k_ ((pL))), spE bp Aor111_p cor111_p mp (appS (sa + 1) ((pL)) ((pl)) ([(([122, 122] : Str), ([122, 122] : Str), false)])) (appT (sa + 1) ((pl)) ([(([122, 122] : Str), ([122, 122] : Str), false)])) (((pm))), .blk b18 (.cells #[.slice AsL (sL).length csL, .int .i64 (sa), .int .i64 (sb)] 50)] ++ X119) := hM121
      refine wpF_end _ (by kernel_rfl) (then_n (h_d [] (by kernel_rfl) [.blk br93_1 (.cells #[.slice Ar93_1 (keysOf ((pL))).length cr93_1, .map (some mr93_1), .int .i64 ((pl)), .int .i64 ((pm))] 71), .row strK 9 Ar93_1 cr93_1 (keysOf ((pL))), mapE false (slK (prK (intK .i64) (prK strK boolK))) mr93_1 (fun k_ => lk k_ ((pL))), spE bp Aor111_p cor111_p mp (appS (sa + 1) ((pL)) ((pl)) ([(([122, 122] : Str), ([122, 122] : Str), false)])) (appT (sa + 1) ((pl)) ([(([122, 122] : Str), ([122, 122] : Str), false)])) (((pm))), .blk b18 (.cells #[.slice AsL (sL).length csL, .int .i64 (sa), .int .i64 (sb)] 50)] hM123 no_held (VT.le.refl _) ?_))
      refine h_seg 1 (by kernel_rfl) ?_
      refine h_n (fun w124 hM125 => ?_)
      refine  (then_n (hK113 _ _ ?_))
      refine wp_ret (blk_r (then_r (?_)))
      have hM126 := hM125.front 2 rfl
      have hM127 := hM126.front 2 rfl
      have hM128 := hM127.front 2 rfl
      have hM129 : Step V w [spE bp Ap cp mp (pL) (pl) (pm)] V105 _ ([.blk br93_1 (.cells #[.slice Ar93_1 (keysOf ((pL))).length cr93_1, .map (some mr93_1), .int .i64 ((pl)), .int .i64 ((pm))] 71), .row strK 9 Ar93_1 cr93_1 (keysOf ((pL))), mapE false (slK (prK (intK .i64) (prK strK boolK))) mr93_1 (fun k_ => lk k_ ((pL))), spE bp Aor111_p cor111_p mp (appS (sa + 1) ((pL)) ((pl)) ([(([122, 122] : Str), ([122, 122] : Str), false)])) (appT (sa + 1) ((pl)) ([(([122, 122] : Str), ([122, 122] : Str), false)])) (((pm))), .blk b18 (.cells #[.slice AsL (sL).length csL, .int .i64 (sa), .int .i64 (sb)] 50)]) := hM128
      have hk130 : keysOf ((pL)) = keysOf ((pL)) := rfl
      have hf131 : (fun k_ => lk k_ ((pL))) = (fun k_ => lk k_ ((pL))) := rfl
      have ho132 : SpI ((pL)) := hs115
      have hM133 : Step V w [spE bp Ap cp mp (pL) (pl) (pm)] V105 _ (spE br93_1 Ar93_1 cr93_1 mr93_1 ((pL)) ((pl)) ((pm)) :: [spE bp Aor111_p cor111_p mp (appS (sa + 1) ((pL)) ((pl)) ([(([122, 122] : Str), ([122, 122] : Str), false)])) (appT (sa + 1) ((pl)) ([(([122, 122] : Str), ([122, 122] : Str), false)])) (((pm))), .blk b18 (.cells #[.slice AsL (sL).length csL, .int .i64 (sa), .int .i64 (sb)] 50)]) := Step.closeSp hk130 hf131 ho132 (by exact hM129)
      have hM134 : Step V w [spE bp Ap cp mp (pL) (pl) (pm)] V105 _ ([spE br93_1 Ar93_1 cr93_1 mr93_1 ((pL)) ((pl)) ((pm)), spE bp Aor111_p cor111_p mp (appS (sa + 1) ((pL)) ((pl)) ([(([122, 122] : Str), ([122, 122] : Str), false)])) (appT (sa + 1) ((pl)) ([(([122, 122] : Str), ([122, 122] : Str), false)])) (((pm))), .blk b18 (.cells #[.slice AsL (sL).length csL, .int .i64 (sa), .int .i64 (sb)] 50)]) := hM133
      have hM135 := hM134.front 0 rfl
      have hM136 := (hM135.front 2 rfl).drop
      have hM137 := (hM136.front 1 rfl).drop
      have hM138 : Step V w [spE bp Ap cp mp (pL) (pl) (pm)] V105 _ ([spE br93_1 Ar93_1 cr93_1 mr93_1 ((pL)) ((pl)) ((pm))]) := hM137
      refine retN [.pointer (some ⟨br93_1, 0, none⟩), .agg #[.slice AsL (sL).length csL, .int .i64 (sa), .int .i64 (sb)], .bool (true)] (.tuple #[.pointer (some ⟨br93_1, 0, none⟩), .agg #[.slice AsL (sL).length csL, .int .i64 (sa), .int .i64 (sb)], .bool (true)]) Try.results49 (.tmp (by kernel_rfl) (by kernel_rfl) (.cell (by kernel_rfl) (by kernel_rfl) hM134 2 rfl (by kernel_rfl) (.tmp (by kernel_rfl) (by kernel_rfl) .nil))) (by kernel_rfl) (hRet _ _ ⟨_, _, _, rfl, hM138, ?_⟩)
      -- end ft
      refine ⟨br93_1, Ar93_1, cr93_1, mr93_1, AsL, csL, ?_, ?_, ?_⟩
      · simp only [stpS, stpT, stpM, hsl, hsa, hsb, h24, h82, cond_true, cond_false, decide_true]
      · simp only [stpS, stpT, stpM, hsl, hsa, hsb, h24, h82, cond_true, cond_false, decide_true]
      · first | exact (hsL.up hM138.le) | (exact Rd.eq (hsL.up hM138.le) (by simp only [stpS, stpT, stpM, hsl, hsa, hsb, h24, h82, cond_true, cond_false, decide_true]))
    · -- ff
      have p139 : ¬ ((dk) = (2)) := of_decide_eq_false h82
      refine wp_seq_k (fun K140 hK140 => ?_)
      refine wp_reg ?_
      refine wpF_seg 2 (by kernel_rfl) ?_
      refine wpF_end _ (by kernel_rfl) (then_n (hK140 _ _ ?_))
      refine wp_if (decide ((dk) = (3))) (by kernel_rfl) (fun h141 => ?_) (fun h141 => ?_)
      · -- fft
        have p142 : ((dk) = (3)) := of_decide_eq_true h141
        refine wp_seq_k (fun K143 hK143 => ?_)
        refine wp_reg ?_
        refine wpF_seg 1 (by kernel_rfl) ?_
        have hM144 := hM20.front 1 rfl
        have hM152 : Step V w [spE bp Ap cp mp (pL) (pl) (pm)] V13 _ ([spE bp Ap cp mp (pL) (pl) (pm), .blk b18 (.cells #[.slice none 0 0, .int .i64 (0), .int .i64 (0)] 50)]) := hM144
        refine wpF_callE [spE bp Ap cp mp (pL) (pl) (pm)] ([.blk b18 (.cells #[.slice none 0 0, .int .i64 (0), .int .i64 (0)] 50)]) hM152 (f := 44) (caps := #[]) (h := (by kernel_rfl : opAt _ _ _ _ _ = some (.call (.mk (.value (.func 44)) #[(.tmp 59)] #[53]), some 60))) (by kernel_rfl) (by kernel_rfl) (by kernel_rfl) (f44 _ _ bp Ap cp mp (pL) (pl) (pm) (St.part (E := [spE bp Ap cp mp (pL) (pl) (pm)]) (F := ([.blk b18 (.cells #[.slice none 0 0, .int .i64 (0), .int .i64 (0)] 50)])) hM152.ok) (by omega) (by assumption)) (fun v145 V146 w147 Eo148 le149 hM150 hp151 => ?_)
        obtain ⟨Ar152_1, cr152_1, rfl, rfl, r153⟩ := hp151
        have hM154 : Step V w [spE bp Ap cp mp (pL) (pl) (pm)] V146 _ ([spE bp Ap cp mp ((pL)) ((pl)) ((pm)), .blk b18 (.cells #[.slice none 0 0, .int .i64 (0), .int .i64 (0)] 50)]) := hM150
        have l155 : ((pL)).length ≤ 140737488355328 := r153.max
        refine wpF_seg 1 (by kernel_rfl) ?_
        have hM156 := hM154.front 0 rfl
        have hM164 : Step V w [spE bp Ap cp mp (pL) (pl) (pm)] V146 _ ([spE bp Ap cp mp ((pL)) ((pl)) ((pm)), .blk b18 (.cells #[.slice none 0 0, .int .i64 (0), .int .i64 (0)] 50)]) := hM156
        refine wpF_callE [spE bp Ap cp mp ((pL)) ((pl)) ((pm))] ([.blk b18 (.cells #[.slice none 0 0, .int .i64 (0), .int .i64 (0)] 50)]) hM164 (f := 39) (caps := #[]) (h := (by kernel_rfl : opAt _ _ _ _ _ = some (.call (.mk (.value (.func 39)) #[(.tmp 61)] #[53]), some 62))) (by kernel_rfl) (by kernel_rfl) (by kernel_rfl) (f39 _ _ bp Ap cp mp ((pL)) ((pl)) ((pm)) (St.part (E := [spE bp Ap cp mp ((pL)) ((pl)) ((pm))]) (F := ([.blk b18 (.cells #[.slice none 0 0, .int .i64 (0), .int .i64 (0)] 50)])) hM164.ok)) (fun v157 V158 w159 Eo160 le161 hM162 hp163 => ?_)
        obtain ⟨rfl, rfl⟩ := hp163
        have hM165 : Step V w [spE bp Ap cp mp (pL) (pl) (pm)] V158 _ ([spE bp Ap cp mp (((pL))) (((pl))) (((pm))), .blk b18 (.cells #[.slice none 0 0, .int .i64 (0), .int .i64 (0)] 50)]) := hM162
        refine wpF_seg 1 (by kernel_rfl) ?_
        have hM166 := hM165.front 0 rfl
        have hM174 : Step V w [spE bp Ap cp mp (pL) (pl) (pm)] V158 _ ([spE bp Ap cp mp (((pL))) (((pl))) (((pm))), .blk b18 (.cells #[.slice none 0 0, .int .i64 (0), .int .i64 (0)] 50)]) := hM166
        refine wpF_callE [spE bp Ap cp mp (((pL))) (((pl))) (((pm)))] ([.blk b18 (.cells #[.slice none 0 0, .int .i64 (0), .int .i64 (0)] 50)]) hM174 (f := 43) (caps := #[]) (h := (by kernel_rfl : opAt _ _ _ _ _ = some (.call (.mk (.value (.func 43)) #[(.tmp 63)] #[53]), some 64))) (by kernel_rfl) (by kernel_rfl) (by kernel_rfl) (f43 _ _ bp Ap cp mp (((pL))) (((pl))) (((pm))) (St.part (E := [spE bp Ap cp mp (((pL))) (((pl))) (((pm)))]) (F := ([.blk b18 (.cells #[.slice none 0 0, .int .i64 (0), .int .i64 (0)] 50)])) hM174.ok)) (fun v167 V168 w169 Eo170 le171 hM172 hp173 => ?_)
        obtain ⟨rfl, rfl⟩ := hp173
        have hM175 : Step V w [spE bp Ap cp mp (pL) (pl) (pm)] V168 _ ([spE bp Ap cp mp ((((pL)))) ((((pl)))) ((((pm)))), .blk b18 (.cells #[.slice none 0 0, .int .i64 (0), .int .i64 (0)] 50)]) := hM172
        have hM183 : Step V w [spE bp Ap cp mp (pL) (pl) (pm)] V168 _ ([spE bp Ap cp mp ((((pL)))) ((((pl)))) ((((pm)))), .blk b18 (.cells #[.slice none 0 0, .int .i64 (0), .int .i64 (0)] 50)]) := hM175
        refine wpF_callE [] ([spE bp Ap cp mp ((((pL)))) ((((pl)))) ((((pm)))), .blk b18 (.cells #[.slice none 0 0, .int .i64 (0), .int .i64 (0)] 50)]) hM183 (f := 31) (caps := #[]) (h := (by kernel_rfl : opAt _ _ _ _ _ = some (.call (.mk (.value (.func 31)) #[(.tmp 60), (.tmp 62), (.tmp 64)] #[46, 3, 3]), some 65))) (by kernel_rfl) (by kernel_rfl) (by kernel_rfl) (f31y _ _ hM183.inW Ar152_1 cr152_1 ((pL)) (r153.up (le161.trans le171)) (((pl))) ((((pm)))) (by omega) (by assumption) (by assumption)) (fun v176 V177 w178 Eo179 le180 hM181 hp182 => ?_)
        obtain ⟨br183_1, Ar183_1, cr183_1, mr183_1, rfl, rfl⟩ := hp182
        have hM184 : Step V w [spE bp Ap cp mp (pL) (pl) (pm)] V177 _ ([spE br183_1 Ar183_1 cr183_1 mr183_1 (((pL))) ((((pl)))) (((((pm))))), spE bp Ap cp mp ((((pL)))) ((((pl)))) ((((pm)))), .blk b18 (.cells #[.slice none 0 0, .int .i64 (0), .int .i64 (0)] 50)]) := hM181
        refine wpF_seg 5 (by kernel_rfl) ?_
        refine wpF_end _ (by kernel_rfl) (then_n (hK143 _ _ ?_))
        refine wp_seq_k (fun K185 hK185 => ?_)
        have hM186 := hM184.openSp 0 rfl
        have hs187 : SpI (((pL))) := (hM184.spOk 0 rfl)
        have hM188 : Step V w [spE bp Ap cp mp (pL) (pl) (pm)] V177 _ ([.blk br183_1 (.cells #[.slice Ar183_1 (keysOf (((pL)))).length cr183_1, .map (some mr183_1), .int .i64 ((((pl)))), .int .i64 (((((pm)))))] 71), .row strK 9 Ar183_1 cr183_1 (keysOf (((pL)))), mapE false (slK (prK (intK .i64) (prK strK boolK))) mr183_1 (fun k_ => lk k_ (((pL)))), spE bp Ap cp mp ((((pL)))) ((((pl)))) ((((pm)))), .blk b18 (.cells #[.slice none 0 0, .int .i64 (0), .int .i64 (0)] 50)]) := hM186
        refine wp_base [(0, .pointer (some ⟨bp, 0, none⟩)), (4, .pointer (some ⟨b2, 0, none⟩)), (5, .pointer (some ⟨b10, 0, none⟩)), (6, .pointer none), (7, .pointer (some ⟨b18, 0, none⟩)), (8, .bool (false)), (12, .pointer (some ⟨br183_1, 0, none⟩)), (13, .int .i64 (0))] (by kernel_rfl) (fun g189 => ?_)
        refine wp_drawN hM188 [] no_held [] [0, 1, 2, 3, 4, 5, 6, 7, 8] [.a 9, .p 10] [.p 0, .p 1, .p 2, .p 3, .p 4, .p 5, .p 6, .p 7, .p 8, .s, .a 9, .p 10] rfl (by kernel_rfl) (by kernel_rfl) ?_
        refine h_seg 1 (by kernel_rfl) ?_
        refine gH (.load 50 (.tmp 4)) (some 69) (by kernel_rfl) (Y_loadB #[.slice AsL (sL).length csL, .int .i64 (sa), .int .i64 (sb)] (fun i v hi => ((((le14.trans le149).trans le161).trans le171).trans le180) _ _ _ (hc8 i v hi)) (off := 0) (by kernel_rfl) (.agg #[.slice AsL (sL).length csL, .int .i64 (sa), .int .i64 (sb)]) (by kernel_rfl)) ?_
        refine h_seg 4 (by kernel_rfl) ?_
        refine gH (.binOp .neq 53 (.tmp 73) (.const (.pointer none)) 53) (some 74) (by kernel_rfl) (Y_neq (.pointer (some ⟨br183_1, 0, none⟩)) (.pointer none) (false) (by kernel_rfl) (by kernel_rfl) (by kernel_rfl)) ?_
        refine h_seg 2 (by kernel_rfl) ?_
        refine h_s no_fs ?_
        refine h_a (by kernel_rfl) (by kernel_rfl) (fun w190 X191 hM192 => ?_)
        refine wpF_store hM192 4 rfl (h := (by kernel_rfl : opAt _ _ _ _ _ = some (.store 50 (.tmp 7) (.tmp 69), none))) (off := 0) (by kernel_rfl) #[.slice AsL (sL).length csL, .int .i64 (sa), .int .i64 (sb)] (by kernel_rfl) (by kernel_rfl) (by kernel_rfl) (by kernel_rfl) (fun w194 hM193 => ?_)
        have hM195 : Step V w [spE bp Ap cp mp (pL) (pl) (pm)] V177 _ ([.blk br183_1 (.cells #[.slice Ar183_1 (keysOf (((pL)))).length cr183_1, .map (some mr183_1), .int .i64 ((((pl)))), .int .i64 (((((pm)))))] 71), .row strK 9 Ar183_1 cr183_1 (keysOf (((pL)))), mapE false (slK (prK (intK .i64) (prK strK boolK))) mr183_1 (fun k_ => lk k_ (((pL)))), spE bp Ap cp mp ((((pL)))) ((((pl)))) ((((pm)))), .blk b18 (.cells #[.slice AsL (sL).length csL, .int .i64 (sa), .int .i64 (sb)] 50)] ++ X191) := hM193
        refine wpF_end _ (by kernel_rfl) (then_n (h_d [] (by kernel_rfl) [.blk br183_1 (.cells #[.slice Ar183_1 (keysOf (((pL)))).length cr183_1, .map (some mr183_1), .int .i64 ((((pl)))), .int .i64 (((((pm)))))] 71), .row strK 9 Ar183_1 cr183_1 (keysOf (((pL)))), mapE false (slK (prK (intK .i64) (prK strK boolK))) mr183_1 (fun k_ => lk k_ (((pL)))), spE bp Ap cp mp ((((pL)))) ((((pl)))) ((((pm)))), .blk b18 (.cells #[.slice AsL (sL).length csL, .int .i64 (sa), .int .i64 (sb)] 50)] hM195 no_held (VT.le.refl _) ?_))
        refine h_seg 1 (by kernel_rfl) ?_
        refine h_n (fun w196 hM197 => ?_)
        refine  (then_n (hK185 _ _ ?_))
        refine wp_ret (blk_r (then_r (?_)))
        have hM198 := hM197.front 2 rfl
        have hM199 := hM198.front 2 rfl
        have hM200 := hM199.front 2 rfl
        have hM201 : Step V w [spE bp Ap cp mp (pL) (pl) (pm)] V177 _ ([.blk br183_1 (.cells #[.slice Ar183_1 (keysOf (((pL)))).length cr183_1, .map (some mr183_1), .int .i64 ((((pl)))), .int .i64 (((((pm)))))] 71), .row strK 9 Ar183_1 cr183_1 (keysOf (((pL)))), mapE false (slK (prK (intK .i64) (prK strK boolK))) mr183_1 (fun k_ => lk k_ (((pL)))), spE bp Ap cp mp ((((pL)))) ((((pl)))) ((((pm)))), .blk b18 (.cells #[.slice AsL (sL).length csL, .int .i64 (sa), .int .i64 (sb)] 50)]) := hM200
        have hk202 : keysOf (((pL))) = keysOf (((pL))) := rfl
        have hf203 : (fun k_ => lk k_ (((pL)))) = (fun k_ => lk k_ (((pL)))) := rfl
        have ho204 : SpI (((pL))) := hs187
        have hM205 : Step V w [spE bp Ap cp mp (pL) (pl) (pm)] V177 _ (spE br183_1 Ar183_1 cr183_1 mr183_1 (((pL))) ((((pl)))) (((((pm))))) :: [spE bp Ap cp mp ((((pL)))) ((((pl)))) ((((pm)))), .blk b18 (.cells #[.slice AsL (sL).length csL, .int .i64 (sa), .int .i64 (sb)] 50)]) := Step.closeSp hk202 hf203 ho204 (by exact hM201)
        have hM206 : Step V w [spE bp Ap cp mp (pL) (pl) (pm)] V177 _ ([spE br183_1 Ar183_1 cr183_1 mr183_1 (((pL))) ((((pl)))) (((((pm))))), spE bp Ap cp mp ((((pL)))) ((((pl)))) ((((pm)))), .blk b18 (.cells #[.slice AsL (sL).length csL, .int .i64 (sa), .int .i64 (sb)] 50)]) := hM205
        have hM207 := hM206.front 0 rfl
        have hM208 := (hM207.front 2 rfl).drop
        have hM209 := (hM208.front 1 rfl).drop
        have hM210 : Step V w [spE bp Ap cp mp (pL) (pl) (pm)] V177 _ ([spE br183_1 Ar183_1 cr183_1 mr183_1 (((pL))) ((((pl)))) (((((pm)))))]) := hM209
        refine retN [.pointer (some ⟨br183_1, 0, none⟩), .agg #[.slice AsL (sL).length csL, .int .i64 (sa), .int .i64 (sb)], .bool (true)] (.tuple #[.pointer (some ⟨br183_1, 0, none⟩), .agg #[.slice AsL (sL).length csL, .int .i64 (sa), .int .i64 (sb)], .bool (true)]) Try.results49 (.tmp (by kernel_rfl) (by kernel_rfl) (.cell (by kernel_rfl) (by kernel_rfl) hM206 2 rfl (by kernel_rfl) (.tmp (by kernel_rfl) (by kernel_rfl) .nil))) (by kernel_rfl) (hRet _ _ ⟨_, _, _, rfl, hM210, ?_⟩)
        -- end fft
        refine ⟨br183_1, Ar183_1, cr183_1, mr183_1, AsL, csL, ?_, ?_, ?_⟩
        · simp only [stpS, stpT, stpM, hsl, hsa, hsb, h141, h24, h82, cond_true, cond_false, decide_true]
        · simp only [stpS, stpT, stpM, hsl, hsa, hsb, h141, h24, h82, cond_true, cond_false, decide_true]
        · first | exact (hsL.up hM210.le) | (exact Rd.eq (hsL.up hM210.le) (by simp only [stpS, stpT, stpM, hsl, hsa, hsb, h141, h24, h82, cond_true, cond_false, decide_true]))
      · -- fff
        have p211 : ¬ ((dk) = (3)) := of_decide_eq_false h141
        refine wp_skip (blk_n (then_n (hK21 _ _ ?_)))
        refine wp_seq_k (fun K212 hK212 => ?_)
        refine wp_reg ?_
        refine gF hM20 (.load 50 (.tmp 4)) (some 77) (by kernel_rfl) (Y_loadB #[.slice AsL (sL).length csL, .int .i64 (sa), .int .i64 (sb)] (fun i v hi => le14 _ _ _ (hc8 i v hi)) (off := 0) (by kernel_rfl) (.agg #[.slice AsL (sL).length csL, .int .i64 (sa), .int .i64 (sb)]) (by kernel_rfl)) ?_
        refine wpF_seg 1 (by kernel_rfl) ?_
        refine gF hM20 (.load 3 (.tmp 78)) (some 79) (by kernel_rfl) (Y_loadB #[.slice AsL (sL).length csL, .int .i64 (sa), .int .i64 (sb)] (fun i v hi => le14 _ _ _ (hc8 i v hi)) (off := 1) (by kernel_rfl) (.int .i64 (sa)) (by kernel_rfl)) ?_
        refine wpF_seg 1 (by kernel_rfl) ?_
        refine gF hM20 (.load 3 (.tmp 80)) (some 81) (by kernel_rfl) (Y_loadB #[.int .i64 (dk), .int .i64 (dn), .slice Adl (dl).length cdl] hc16 (off := 1) (by kernel_rfl) (.int .i64 (dn)) (by kernel_rfl)) ?_
        refine gF hM20 (.binOp .add 3 (.tmp 79) (.tmp 81) 3) (some 82) (by kernel_rfl) (Y_add .i64 (sa) (dn) (sa + dn) (by kernel_rfl) (by kernel_rfl) (wrap64_ok _ (by omega))) ?_
        refine wpF_seg 1 (by kernel_rfl) ?_
        refine gF hM20 (.load 45 (.tmp 83)) (some 84) (by kernel_rfl) (Y_loadB #[.int .i64 (dk), .int .i64 (dn), .slice Adl (dl).length cdl] hc16 (off := 2) (by kernel_rfl) (.slice Adl (dl).length cdl) (by kernel_rfl)) ?_
        refine wpF_callP hM20 (f := 95) (caps := #[]) (h := (by kernel_rfl : opAt _ _ _ _ _ = some (.call (.mk (.value (.func 95)) #[(.tmp 77), (.tmp 82), (.tmp 84)] #[50, 3, 45]), some 85))) (by kernel_rfl) (by kernel_rfl) (by kernel_rfl) (f95 _ _ hM20.inW AsL csL (sL) (hsL.up hM20.le) (sa) (sb) (sa + dn) Adl cdl (dl) (hdl.up hM20.le) (by rw [hsl]; exact hup) (by rw [hsl]; omega) (by rw [hsl]; exact fun y => Nat.lt_of_le_of_lt (hb y) (by omega)) (by exact i64_ok (by omega) (by omega))) (fun v213 V214 w215 le216 hM217 hp218 => ?_)
        obtain ⟨Ar218_1, cr218_1, rfl, r219⟩ := hp218
        have l220 : (appS (sa + dn) (sL) (sa) (dl)).length ≤ 140737488355328 := r219.max
        refine wpF_seg 3 (by kernel_rfl) ?_
        refine wpF_alloc hM217 #[.slice none 0 0, .int .i64 (0), .int .i64 (0)] (h := (by kernel_rfl : opAt _ _ _ _ _ = some (.alloc 50, some 14))) (by kernel_rfl) (fun b221 w222 hM223 => ?_)
        refine wpF_store hM223 0 rfl (h := (by kernel_rfl : opAt _ _ _ _ _ = some (.store 50 (.tmp 14) (.tmp 86), none))) (off := 0) (by kernel_rfl) #[.slice Ar218_1 (appS (sa + dn) (sL) (sa) (dl)).length cr218_1, .int .i64 (appT (sa + dn) (sa) (dl)), .int .i64 ((sb))] (by kernel_rfl) (by kernel_rfl) (by kernel_rfl) (by kernel_rfl) (fun w225 hM224 => ?_)
        have hM226 : Step V w [spE bp Ap cp mp (pL) (pl) (pm)] V214 _ ([.blk b221 (.cells #[.slice Ar218_1 (appS (sa + dn) (sL) (sa) (dl)).length cr218_1, .int .i64 (appT (sa + dn) (sa) (dl)), .int .i64 ((sb))] 50), .blk b18 (.cells #[.slice none 0 0, .int .i64 (0), .int .i64 (0)] 50), spE bp Ap cp mp (pL) (pl) (pm)]) := hM224
        refine wpF_seg 1 (by kernel_rfl) ?_
        refine wpF_end _ (by kernel_rfl) (then_n (hK212 _ _ ?_))
        refine wp_seq_k (fun K227 hK227 => ?_)
        have hM228 := hM226.openSp 2 rfl
        have hs229 : SpI (pL) := (hM226.spOk 2 rfl)
        have hM230 : Step V w [spE bp Ap cp mp (pL) (pl) (pm)] V214 _ ([.blk bp (.cells #[.slice Ap (keysOf (pL)).length cp, .map (some mp), .int .i64 (pl), .int .i64 (pm)] 71), .row strK 9 Ap cp (keysOf (pL)), mapE false (slK (prK (intK .i64) (prK strK boolK))) mp (fun k_ => lk k_ (pL)), .blk b221 (.cells #[.slice Ar218_1 (appS (sa + dn) (sL) (sa) (dl)).length cr218_1, .int .i64 (appT (sa + dn) (sa) (dl)), .int .i64 ((sb))] 50), .blk b18 (.cells #[.slice none 0 0, .int .i64 (0), .int .i64 (0)] 50)]) := hM228
        refine wp_base [(0, .pointer (some ⟨bp, 0, none⟩)), (4, .pointer (some ⟨b2, 0, none⟩)), (5, .pointer (some ⟨b10, 0, none⟩)), (6, .pointer none), (7, .pointer (some ⟨b18, 0, none⟩)), (8, .bool (false)), (14, .pointer (some ⟨b221, 0, none⟩)), (15, .int .i64 (appE (sa + dn) (sa) (dl)))] (by kernel_rfl) (fun g231 => ?_)
        refine wp_drawN hM230 [(.blk b221 (.cells #[.slice Ar218_1 (appS (sa + dn) (sL) (sa) (dl)).length cr218_1, .int .i64 (appT (sa + dn) (sa) (dl)), .int .i64 ((sb))] 50), 9999)] (and_held 3 rfl no_held) [] [0, 1, 2, 3, 4, 5, 6, 7, 9, 10, 13] [.a 8, .a 11, .a 12, .p 14, .p 15, .a 16, .p 17] [.p 0, .p 1, .p 2, .p 3, .p 4, .p 5, .p 6, .p 7, .p 9, .p 10, .p 13, .s, .a 8, .a 11, .a 12, .p 14, .p 15, .a 16, .p 17] rfl (by kernel_rfl) (by kernel_rfl) ?_
        refine h_seg 1 (by kernel_rfl) ?_
        refine gH (.load 50 (.tmp 14)) (some 89) (by kernel_rfl) (Y_load 0 (by kernel_rfl : (FOf _ _ _)[0]? = some (.blk b221 (.cells #[.slice Ar218_1 (appS (sa + dn) (sL) (sa) (dl)).length cr218_1, .int .i64 (appT (sa + dn) (sa) (dl)), .int .i64 ((sb))] 50))) (off := 0) (by kernel_rfl) (.agg #[.slice Ar218_1 (appS (sa + dn) (sL) (sa) (dl)).length cr218_1, .int .i64 (appT (sa + dn) (sa) (dl)), .int .i64 ((sb))]) (by kernel_rfl)) ?_
        refine h_seg 2 (by kernel_rfl) ?_
        refine gH (.load 3 (.tmp 91)) (some 92) (by kernel_rfl) (Y_loadB #[.slice AsL (sL).length csL, .int .i64 (sa), .int .i64 (sb)] (fun i v hi => (le14.trans le216) _ _ _ (hc8 i v hi)) (off := 1) (by kernel_rfl) (.int .i64 (sa)) (by kernel_rfl)) ?_
        refine h_seg 1 (by kernel_rfl) ?_
        refine gH (.load 3 (.tmp 93)) (some 94) (by kernel_rfl) (Y_loadB #[.int .i64 (dk), .int .i64 (dn), .slice Adl (dl).length cdl] (fun i v hi => le216 _ _ _ (hc16 i v hi)) (off := 1) (by kernel_rfl) (.int .i64 (dn)) (by kernel_rfl)) ?_
        refine gH (.binOp .add 3 (.tmp 92) (.tmp 94) 3) (some 95) (by kernel_rfl) (Y_add .i64 (sa) (dn) (sa + dn) (by kernel_rfl) (by kernel_rfl) (wrap64_ok _ (by omega))) ?_
        refine h_seg 1 (by kernel_rfl) ?_
        refine gH (.load 45 (.tmp 97)) (some 98) (by kernel_rfl) (Y_loadB #[.int .i64 (dk), .int .i64 (dn), .slice Adl (dl).length cdl] (fun i v hi => le216 _ _ _ (hc16 i v hi)) (off := 2) (by kernel_rfl) (.slice Adl (dl).length cdl) (by kernel_rfl)) ?_
        refine h_seg 1 (by kernel_rfl) ?_
        refine h_s no_fs ?_
        refine h_a (by kernel_rfl) (by kernel_rfl) (fun w232 X233 hM234 => ?_)
        refine wpF_litW (prK strK (prK strK boolK)) hM234 #[] (h := (by kernel_rfl : opAt _ _ _ _ _ = some (.buildSlice 45 0 #[], some 96))) (e := 105) (by kernel_rfl) (([] : List ((Str × Str × Bool)))) Reps.nils rfl (by simp [maxL]) (fun A235 c236 w237 hM238 => ?_)
        refine wpF_end _ (by kernel_rfl) (then_n (h_d [(.blk b221 (.cells #[.slice Ar218_1 (appS (sa + dn) (sL) (sa) (dl)).length cr218_1, .int .i64 (appT (sa + dn) (sa) (dl)), .int .i64 ((sb))] 50), 9999)] (by kernel_rfl) [.row (prK strK (prK strK boolK)) 105 A235 c236 (([] : List ((Str × Str × Bool)))), .blk bp (.cells #[.slice Ap (keysOf (pL)).length cp, .map (some mp), .int .i64 (pl), .int .i64 (pm)] 71), .row strK 9 Ap cp (keysOf (pL)), mapE false (slK (prK (intK .i64) (prK strK boolK))) mp (fun k_ => lk k_ (pL)), .blk b221 (.cells #[.slice Ar218_1 (appS (sa + dn) (sL) (sa) (dl)).length cr218_1, .int .i64 (appT (sa + dn) (sa) (dl)), .int .i64 ((sb))] 50), .blk b18 (.cells #[.slice none 0 0, .int .i64 (0), .int .i64 (0)] 50)] hM238 (and_held 4 rfl no_held) (VT.le.refl _) ?_))
        refine h_a (by kernel_rfl) (by kernel_rfl) (fun w239 X240 hM241 => ?_)
        refine wpF_append (by_ := 40) hM241 0 rfl (h := (by kernel_rfl : opAt _ _ _ _ _ = some (.call (.mk (.builtin .append) #[(.tmp 96), (.tmp 98)] #[45, 45]), some 99))) (by kernel_rfl) (by kernel_rfl) (by kernel_rfl) (by kernel_rfl) (by kernel_rfl) (by kernel_rfl) (by kernel_rfl) (Src.rd (hdl.up hM241.le)) (by first | omega | (simp only [List.length_append, List.length_cons, List.length_nil, List.length_take, List.length_drop]; omega)) (fun A242 c243 w244 hM245 => ?_)
        have hM246 : Step V w [spE bp Ap cp mp (pL) (pl) (pm)] V214 _ ([.row (prK strK (prK strK boolK)) 105 A242 c243 (dl), .blk bp (.cells #[.slice Ap (keysOf (pL)).length cp, .map (some mp), .int .i64 (pl), .int .i64 (pm)] 71), .row strK 9 Ap cp (keysOf (pL)), mapE false (slK (prK (intK .i64) (prK strK boolK))) mp (fun k_ => lk k_ (pL)), .blk b221 (.cells #[.slice Ar218_1 (appS (sa + dn) (sL) (sa) (dl)).length cr218_1, .int .i64 (appT (sa + dn) (sa) (dl)), .int .i64 ((sb))] 50), .blk b18 (.cells #[.slice none 0 0, .int .i64 (0), .int .i64 (0)] 50)] ++ X240) := hM245
        refine wpF_end _ (by kernel_rfl) (then_n (h_d [(.blk b221 (.cells #[.slice Ar218_1 (appS (sa + dn) (sL) (sa) (dl)).length cr218_1, .int .i64 (appT (sa + dn) (sa) (dl)), .int .i64 ((sb))] 50), 9999)] (by kernel_rfl) [.row (prK strK (prK strK boolK)) 105 A242 c243 (dl), .blk bp (.cells #[.slice Ap (keysOf (pL)).length cp, .map (some mp), .int .i64 (pl), .int .i64 (pm)] 71), .row strK 9 Ap cp (keysOf (pL)), mapE false (slK (prK (intK .i64) (prK strK boolK))) mp (fun k_ => lk k_ (pL)), .blk b221 (.cells #[.slice Ar218_1 (appS (sa + dn) (sL) (sa) (dl)).length cr218_1, .int .i64 (appT (sa + dn) (sa) (dl)), .int .i64 ((sb))] 50), .blk b18 (.cells #[.slice none 0 0, .int .i64 (0), .int .i64 (0)] 50)] hM246 (and_held 4 rfl no_held) (VT.le.refl _) ?_))
        refine h_a (by kernel_rfl) (by kernel_rfl) (fun w247 X248 hM249 => ?_)
        obtain ⟨V250, le251, hM252, r253⟩ := hM249.settleRow 0 rfl
        have hM254 : Step V w [spE bp Ap cp mp (pL) (pl) (pm)] V250 _ ([.blk bp (.cells #[.slice Ap (keysOf (pL)).length cp, .map (some mp), .int .i64 (pl), .int .i64 (pm)] 71), .row strK 9 Ap cp (keysOf (pL)), mapE false (slK (prK (intK .i64) (prK strK boolK))) mp (fun k_ => lk k_ (pL)), .blk b221 (.cells #[.slice Ar218_1 (appS (sa + dn) (sL) (sa) (dl)).length cr218_1, .int .i64 (appT (sa + dn) (sa) (dl)), .int .i64 ((sb))] 50), .blk b18 (.cells #[.slice none 0 0, .int .i64 (0), .int .i64 (0)] 50)] ++ X248) := hM252
        have hM255 := hM254.front 2 rfl
        have hM256 := hM255.front 2 rfl
        have hM257 := hM256.front 2 rfl
        have hM258 : Step V w [spE bp Ap cp mp (pL) (pl) (pm)] V250 _ ([.blk bp (.cells #[.slice Ap (keysOf (pL)).length cp, .map (some mp), .int .i64 (pl), .int .i64 (pm)] 71), .row strK 9 Ap cp (keysOf (pL)), mapE false (slK (prK (intK .i64) (prK strK boolK))) mp (fun k_ => lk k_ (pL)), .blk b221 (.cells #[.slice Ar218_1 (appS (sa + dn) (sL) (sa) (dl)).length cr218_1, .int .i64 (appT (sa + dn) (sa) (dl)), .int .i64 ((sb))] 50), .blk b18 (.cells #[.slice none 0 0, .int .i64 (0), .int .i64 (0)] 50)] ++ X248) := hM257
        have hk259 : keysOf (pL) = keysOf (pL) := rfl
        have hf260 : (fun k_ => lk k_ (pL)) = (fun k_ => lk k_ (pL)) := rfl
        have ho261 : SpI (pL) := hs229
        have hM262 : Step V w [spE bp Ap cp mp (pL) (pl) (pm)] V250 _ (spE bp Ap cp mp (pL) (pl) (pm) :: [.blk b221 (.cells #[.slice Ar218_1 (appS (sa + dn) (sL) (sa) (dl)).length cr218_1, .int .i64 (appT (sa + dn) (sa) (dl)), .int .i64 ((sb))] 50), .blk b18 (.cells #[.slice none 0 0, .int .i64 (0), .int .i64 (0)] 50)] ++ X248) := Step.closeSp hk259 hf260 ho261 (by exact hM258)
        have hM263 : Step V w [spE bp Ap cp mp (pL) (pl) (pm)] V250 _ ([spE bp Ap cp mp (pL) (pl) (pm), .blk b221 (.cells #[.slice Ar218_1 (appS (sa + dn) (sL) (sa) (dl)).length cr218_1, .int .i64 (appT (sa + dn) (sa) (dl)), .int .i64 ((sb))] 50), .blk b18 (.cells #[.slice none 0 0, .int .i64 (0), .int .i64 (0)] 50)] ++ X248) := hM262
        have hM264 := hM263.front 0 rfl
        have hM272 : Step V w [spE bp Ap cp mp (pL) (pl) (pm)] V250 _ ([spE bp Ap cp mp (pL) (pl) (pm), .blk b221 (.cells #[.slice Ar218_1 (appS (sa + dn) (sL) (sa) (dl)).length cr218_1, .int .i64 (appT (sa + dn) (sa) (dl)), .int .i64 ((sb))] 50), .blk b18 (.cells #[.slice none 0 0, .int .i64 (0), .int .i64 (0)] 50)] ++ X248) := hM264
        refine wpF_callE [spE bp Ap cp mp (pL) (pl) (pm)] ([.blk b221 (.cells #[.slice Ar218_1 (appS (sa + dn) (sL) (sa) (dl)).length cr218_1, .int .i64 (appT (sa + dn) (sa) (dl)), .int .i64 ((sb))] 50), .blk b18 (.cells #[.slice none 0 0, .int .i64 (0), .int .i64 (0)] 50)] ++ X248) hM272 (f := 35) (caps := #[]) (h := (by kernel_rfl : opAt _ _ _ _ _ = some (.call (.mk (.value (.func 35)) #[(.tmp 90), (.tmp 95), (.tmp 99)] #[53, 3, 45]), some 100))) (by kernel_rfl) (by kernel_rfl) (by kernel_rfl) (f35 _ _ bp Ap cp mp (pL) (pl) (pm) (sa + dn) A242 c243 (dl) r253 (St.part (E := [spE bp Ap cp mp (pL) (pl) (pm)]) (F := ([.blk b221 (.cells #[.slice Ar218_1 (appS (sa + dn) (sL) (sa) (dl)).length cr218_1, .int .i64 (appT (sa + dn) (sa) (dl)), .int .i64 ((sb))] 50), .blk b18 (.cells #[.slice none 0 0, .int .i64 (0), .int .i64 (0)] 50)] ++ X248)) hM272.ok) (by first | omega | (simp; omega) | (simp only [List.length_append, List.length_nil]; omega)) (by exact fun y => by have := hb y; first | omega | (simp; omega)) (by exact i64_ok (by omega) (by omega))) (fun v265 V266 w267 Eo268 le269 hM270 hp271 => ?_)
        obtain ⟨Aor272_p, cor272_p, rfl, rfl⟩ := hp271
        have hM273 : Step V w [spE bp Ap cp mp (pL) (pl) (pm)] V266 _ ([spE bp Aor272_p cor272_p mp (appS (sa + dn) (pL) (pl) (dl)) (appT (sa + dn) (pl) (dl)) ((pm)), .blk b221 (.cells #[.slice Ar218_1 (appS (sa + dn) (sL) (sa) (dl)).length cr218_1, .int .i64 (appT (sa + dn) (sa) (dl)), .int .i64 ((sb))] 50), .blk b18 (.cells #[.slice none 0 0, .int .i64 (0), .int .i64 (0)] 50)] ++ X248) := hM270
        refine wpF_end _ (by kernel_rfl) (then_n (h_d [(.blk b221 (.cells #[.slice Ar218_1 (appS (sa + dn) (sL) (sa) (dl)).length cr218_1, .int .i64 (appT (sa + dn) (sa) (dl)), .int .i64 ((sb))] 50), 9999)] (by kernel_rfl) [spE bp Aor272_p cor272_p mp (appS (sa + dn) (pL) (pl) (dl)) (appT (sa + dn) (pl) (dl)) ((pm)), .blk b221 (.cells #[.slice Ar218_1 (appS (sa + dn) (sL) (sa) (dl)).length cr218_1, .int .i64 (appT (sa + dn) (sa) (dl)), .int .i64 ((sb))] 50), .blk b18 (.cells #[.slice none 0 0, .int .i64 (0), .int .i64 (0)] 50)] hM273 (and_held 1 rfl no_held) (le251.trans le269) ?_))
        refine h_seg 2 (by kernel_rfl) ?_
        refine h_a (by kernel_rfl) (by kernel_rfl) (fun w274 X275 hM276 => ?_)
        refine wpF_store hM276 2 rfl (h := (by kernel_rfl : opAt _ _ _ _ _ = some (.store 50 (.tmp 7) (.tmp 89), none))) (off := 0) (by kernel_rfl) #[.slice Ar218_1 (appS (sa + dn) (sL) (sa) (dl)).length cr218_1, .int .i64 (appT (sa + dn) (sa) (dl)), .int .i64 ((sb))] (by kernel_rfl) (by kernel_rfl) (by kernel_rfl) (by kernel_rfl) (fun w278 hM277 => ?_)
        have hM279 : Step V w [spE bp Ap cp mp (pL) (pl) (pm)] V266 _ ([spE bp Aor272_p cor272_p mp (appS (sa + dn) (pL) (pl) (dl)) (appT (sa + dn) (pl) (dl)) ((pm)), .blk b221 (.cells #[.slice Ar218_1 (appS (sa + dn) (sL) (sa) (dl)).length cr218_1, .int .i64 (appT (sa + dn) (sa) (dl)), .int .i64 ((sb))] 50), .blk b18 (.cells #[.slice Ar218_1 (appS (sa + dn) (sL) (sa) (dl)).length cr218_1, .int .i64 (appT (sa + dn) (sa) (dl)), .int .i64 ((sb))] 50)] ++ X275) := hM277
        refine wpF_end _ (by kernel_rfl) (then_n (h_d [(.blk b221 (.cells #[.slice Ar218_1 (appS (sa + dn) (sL) (sa) (dl)).length cr218_1, .int .i64 (appT (sa + dn) (sa) (dl)), .int .i64 ((sb))] 50), 9999)] (by kernel_rfl) [spE bp Aor272_p cor272_p mp (appS (sa + dn) (pL) (pl) (dl)) (appT (sa + dn) (pl) (dl)) ((pm)), .blk b221 (.cells #[.slice Ar218_1 (appS (sa + dn) (sL) (sa) (dl)).length cr218_1, .int .i64 (appT (sa + dn) (sa) (dl)), .int .i64 ((sb))] 50), .blk b18 (.cells #[.slice Ar218_1 (appS (sa + dn) (sL) (sa) (dl)).length cr218_1, .int .i64 (appT (sa + dn) (sa) (dl)), .int .i64 ((sb))] 50)] hM279 (and_held 1 rfl no_held) (VT.le.refl _) ?_))
        refine h_seg 1 (by kernel_rfl) ?_
        refine h_n (fun w280 hM281 => ?_)
        refine  (then_n (hK227 _ _ ?_))
        refine wp_ret ?_
        have hM282 := hM281.front 0 rfl
        have hM283 := (hM282.front 2 rfl).drop
        have hM284 := (hM283.front 1 rfl).drop
        have hM285 : Step V w [spE bp Ap cp mp (pL) (pl) (pm)] V266 _ ([spE bp Aor272_p cor272_p mp (appS (sa + dn) (pL) (pl) (dl)) (appT (sa + dn) (pl) (dl)) ((pm))]) := hM284
        refine retN [.pointer (some ⟨bp, 0, none⟩), .agg #[.slice Ar218_1 (appS (sa + dn) (sL) (sa) (dl)).length cr218_1, .int .i64 (appT (sa + dn) (sa) (dl)), .int .i64 ((sb))], .bool (decide ((appE (sa + dn) (pl) (dl)) = (appE (sa + dn) (sa) (dl))))] (.tuple #[.pointer (some ⟨bp, 0, none⟩), .agg #[.slice Ar218_1 (appS (sa + dn) (sL) (sa) (dl)).length cr218_1, .int .i64 (appT (sa + dn) (sa) (dl)), .int .i64 ((sb))], .bool (decide ((appE (sa + dn) (pl) (dl)) = (appE (sa + dn) (sa) (dl))))]) Try.results49 (.tmp (by kernel_rfl) (by kernel_rfl) (.cell (by kernel_rfl) (by kernel_rfl) hM281 2 rfl (by kernel_rfl) (.tmp (by kernel_rfl) (by kernel_rfl) .nil))) (by kernel_rfl) (hRet _ _ ⟨_, _, _, rfl, hM285, ?_⟩)
        -- end fff
        refine ⟨bp, Aor272_p, cor272_p, mp, Ar218_1, cr218_1, ?_, ?_, ?_⟩
        · simp only [stpS, stpT, stpM, hsl, hsa, hsb, h141, h24, h82, cond_true, cond_false, decide_true]
        · simp only [stpS, stpT, stpM, hsl, hsa, hsb, h141, h24, h82, cond_true, cond_false, decide_true]
        · first | exact (r219.up (le251.trans le269)) | (exact Rd.eq (r219.up (le251.trans le269)) (by simp only [stpS, stpT, stpM, hsl, hsa, hsb, h141, h24, h82, cond_true, cond_false, decide_true]))

end Go.Vk
