import Derived.Test.YtnibbocbefnnnaaRPlainSp
import Derived.Test.YtnibbocbefnnnaaRSa
import Derived.Test.YtnibbocbefnnnaaRSc
import Derived.Test.YtnibbocbefnnnaaRSf
import Derived.Test.YtnibbocbefnnnaaRSp
set_option linter.unusedVariables false
set_option linter.unusedSimpArgs false
namespace Go.Vk
open Go.Proofs
variable {D : List Deferred}
set_option maxHeartbeats 4000000 in
set_option maxRecDepth 100000 in
theorem f77 (V : VT) (w : World) (hV : V.inW w) (xk : Str) (hxk : xk.length ≤ maxL) (Axv : Option Addr) (cxv : Nat) (xv : List ((Int × Str × Bool))) (hxv : Rd (prK (intK .i64) (prK strK boolK)) V Axv cxv xv) (a : Str) (ha : a.length ≤ maxL) (f : Bool) (t : Int) :
    Calls Try.prog 77 #[.agg #[bs (xk), .slice Axv (xv).length cxv], bs (a), .bool (f), .int .i64 (t)] w (RetP V w fun rv V' => rv = .bool (mayB xk xv a f t)) := by
  have mxxk : xk.length ≤ 140737488355328 := hxk
  have mxxv : xv.length ≤ 140737488355328 := hxv.max
  have mxa : a.length ≤ 140737488355328 := ha
  refine calls_env (n := 43) Try.func77 (c := _) rfl Try.ntmps77 (by kernel_rfl) (fun R hRet => ?_)
  have hM0 : Step V w [] V w [] := Step.refl (St.nilE hV)
  cases f with
  | false =>
    refine wp_seq_k (fun K1 hK1 => ?_)
    refine wp_reg ?_
    refine wpF_box hM0 #[bs (xk), .slice Axv (xv).length cxv] (h := (by kernel_rfl : opAt _ _ _ _ _ = some (.box 80 (.tmp 0), some 4))) (by kernel_rfl) (fun b2 w3 hM4 => ?_)
    refine wpF_seg 1 (by kernel_rfl) ?_
    refine wpF_end _ (by kernel_rfl) (then_n (hK1 _ _ ?_))
    refine wp_seq_k (fun K5 hK5 => ?_)
    refine wp_reg ?_
    refine wpF_seg 1 (by kernel_rfl) ?_
    refine gF hM4 (.load 9 (.tmp 9)) (some 10) (by kernel_rfl) (Y_load 0 rfl (off := 0) (by kernel_rfl) (bs (xk)) (by kernel_rfl)) ?_
    refine wpF_seg 3 (by kernel_rfl) ?_
    refine wpF_caseB 13 (decide (((xk.length : Int)) ≤ (128))) (by kernel_rfl) (by kernel_rfl) (fun h6 => ?_) (fun h6 => ?_)
    · -- Ft
      have p7 : (((xk.length : Int)) ≤ (128)) := of_decide_eq_true h6
      refine wpF_seg 4 (by kernel_rfl) ?_
      refine gF hM4 (.load 9 (.tmp 17)) (some 18) (by kernel_rfl) (Y_load 0 rfl (off := 0) (by kernel_rfl) (bs (xk)) (by kernel_rfl)) ?_
      refine wpF_seg 4 (by kernel_rfl) ?_
      refine wpF_caseB 22 (decide ((a) < (xk))) (by kernel_rfl) (by kernel_rfl) (fun h8 => ?_) (fun h8 => ?_)
      · -- Ftt
        have p9 : ((a) < (xk)) := of_decide_eq_true h8
        refine wpF_seg 1 (by kernel_rfl) ?_
        refine gF hM4 (.load 78 (.tmp 23)) (some 24) (by kernel_rfl) (Y_load 0 rfl (off := 1) (by kernel_rfl) (.slice Axv (xv).length cxv) (by kernel_rfl)) ?_
        refine wpF_seg 4 (by kernel_rfl) ?_
        refine wpF_caseB 28 (decide ((0) < ((xv.length : Int)))) (by kernel_rfl) (by kernel_rfl) (fun h10 => ?_) (fun h10 => ?_)
        · -- Fttt
          have p11 : ((0) < ((xv.length : Int))) := of_decide_eq_true h10
          refine wpF_seg 1 (by kernel_rfl) ?_
          refine gF hM4 (.load 78 (.tmp 29)) (some 30) (by kernel_rfl) (Y_load 0 rfl (off := 1) (by kernel_rfl) (.slice Axv (xv).length cxv) (by kernel_rfl)) ?_
          refine wpF_callP hM4 (f := 116) (caps := #[]) (h := (by kernel_rfl : opAt _ _ _ _ _ = some (.call (.mk (.value (.func 116)) #[(.tmp 30)] #[78]), some 31))) (by kernel_rfl) (by kernel_rfl) (by kernel_rfl) (f116 _ _ hM4.inW Axv cxv (xv) hxv) (fun v12 V13 w14 le15 hM16 hp17 => ?_)
          obtain rfl := hp17
          refine wpF_seg 3 (by kernel_rfl) ?_
          refine wpF_caseB 34 (decide ((chnE (xv)) = (0))) (by kernel_rfl) (by kernel_rfl) (fun h18 => ?_) (fun h18 => ?_)
          · -- Ftttt
            have p19 : ((chnE (xv)) = (0)) := of_decide_eq_true h18
            refine wpF_seg 1 (by kernel_rfl) ?_
            refine gF hM16 (.load 78 (.tmp 35)) (some 36) (by kernel_rfl) (Y_load 0 rfl (off := 1) (by kernel_rfl) (.slice Axv (xv).length cxv) (by kernel_rfl)) ?_
            refine gF_index (A := Axv) (c := cxv) (hxv.up hM16.le) .i64 (0) (h := (by kernel_rfl : opAt _ _ _ _ _ = some (.indexAddr 78 (.tmp 36) (.const (.int .i64 0)), some 37))) (e := 126) (by kernel_rfl) (by kernel_rfl) (by kernel_rfl) (0) (by omega) (by omega) (fun b20 o21 at_b20 => ?_)
            have c22 : V13 b20 o21 = some (.int .i64 (xv.getD (0) (0, [], false)).1) := (At.int (At.pr at_b20).1).1
            have l23 : IntKind.i64.min ≤ (xv.getD (0) (0, [], false)).1 ∧ (xv.getD (0) (0, [], false)).1 ≤ IntKind.i64.max := (At.int (At.pr at_b20).1).2
            have c24 : V13 b20 (o21 + 1) = some (bs (xv.getD (0) (0, [], false)).2.1) := (At.str (At.pr (At.pr at_b20).2).1).1
            have l25 : (xv.getD (0) (0, [], false)).2.1.length ≤ 140737488355328 := (At.str (At.pr (At.pr at_b20).2).1).2
            have c26 : V13 b20 (o21 + 2) = some (.bool (xv.getD (0) (0, [], false)).2.2) := At.bool (At.pr (At.pr at_b20).2).2
            refine wpF_seg 1 (by kernel_rfl) ?_
            refine gF hM16 (.load 3 (.tmp 38)) (some 39) (by kernel_rfl) (Y_loadV c22 (by kernel_rfl) (by kernel_rfl)) ?_
            refine wpF_seg 4 (by kernel_rfl) ?_
            refine wpF_end _ (by kernel_rfl) (then_n (hK5 _ _ ?_))
            refine wp_ret ?_
            refine retN [.bool (decide (((xv.getD (0) (0, [], false)).1) ≤ (t)))] (.bool (decide (((xv.getD (0) (0, [], false)).1) ≤ (t)))) Try.results77 (.tmp (by kernel_rfl) (by kernel_rfl) .nil) (by kernel_rfl) (hRet _ _ ⟨_, _, rfl, hM16.clear, ?_⟩)
            -- end Ftttt
            simp only [mayB, ← chn_dec, h10, h18, h6, h8, Bool.true_or, Bool.or_true, Bool.false_or, Bool.or_false, Bool.true_and, Bool.and_true, Bool.false_and, Bool.and_false]
          · -- Ftttf
            have p27 : ¬ ((chnE (xv)) = (0)) := of_decide_eq_false h18
            refine wpF_seg 9 (by kernel_rfl) ?_
            refine wpF_end _ (by kernel_rfl) (then_n (hK5 _ _ ?_))
            refine wp_ret ?_
            refine retN [.bool (false)] (.bool (false)) Try.results77 (.tmp (by kernel_rfl) (by kernel_rfl) .nil) (by kernel_rfl) (hRet _ _ ⟨_, _, rfl, hM16.clear, ?_⟩)
            -- end Ftttf
            simp only [mayB, ← chn_dec, h10, h18, h6, h8, Bool.true_or, Bool.or_true, Bool.false_or, Bool.or_false, Bool.true_and, Bool.and_true, Bool.false_and, Bool.and_false]
        · -- Fttf
          have p28 : ¬ ((0) < ((xv.length : Int))) := of_decide_eq_false h10
          refine wpF_seg 15 (by kernel_rfl) ?_
          refine wpF_end _ (by kernel_rfl) (then_n (hK5 _ _ ?_))
          refine wp_ret ?_
          refine retN [.bool (false)] (.bool (false)) Try.results77 (.tmp (by kernel_rfl) (by kernel_rfl) .nil) (by kernel_rfl) (hRet _ _ ⟨_, _, rfl, hM4.clear, ?_⟩)
          -- end Fttf
          simp only [mayB, ← chn_dec, h10, h6, h8, Bool.true_or, Bool.or_true, Bool.false_or, Bool.or_false, Bool.true_and, Bool.and_true, Bool.false_and, Bool.and_false]
      · -- Ftf
        have p29 : ¬ ((a) < (xk)) := of_decide_eq_false h8
        refine wpF_seg 21 (by kernel_rfl) ?_
        refine wpF_end _ (by kernel_rfl) (then_n (hK5 _ _ ?_))
        refine wp_ret ?_
        refine retN [.bool (false)] (.bool (false)) Try.results77 (.tmp (by kernel_rfl) (by kernel_rfl) .nil) (by kernel_rfl) (hRet _ _ ⟨_, _, rfl, hM4.clear, ?_⟩)
        -- end Ftf
        simp only [mayB, ← chn_dec, h6, h8, Bool.true_or, Bool.or_true, Bool.false_or, Bool.or_false, Bool.true_and, Bool.and_true, Bool.false_and, Bool.and_false]
    · -- Ff
      have p30 : ¬ (((xk.length : Int)) ≤ (128)) := of_decide_eq_false h6
      refine wpF_seg 30 (by kernel_rfl) ?_
      refine wpF_end _ (by kernel_rfl) (then_n (hK5 _ _ ?_))
      refine wp_ret ?_
      refine retN [.bool (false)] (.bool (false)) Try.results77 (.tmp (by kernel_rfl) (by kernel_rfl) .nil) (by kernel_rfl) (hRet _ _ ⟨_, _, rfl, hM4.clear, ?_⟩)
      -- end Ff
      simp only [mayB, ← chn_dec, h6, Bool.true_or, Bool.or_true, Bool.false_or, Bool.or_false, Bool.true_and, Bool.and_true, Bool.false_and, Bool.and_false]
  | true =>
    refine wp_seq_k (fun K31 hK31 => ?_)
    refine wp_reg ?_
    refine wpF_box hM0 #[bs (xk), .slice Axv (xv).length cxv] (h := (by kernel_rfl : opAt _ _ _ _ _ = some (.box 80 (.tmp 0), some 4))) (by kernel_rfl) (fun b32 w33 hM34 => ?_)
    refine wpF_seg 1 (by kernel_rfl) ?_
    refine wpF_end _ (by kernel_rfl) (then_n (hK31 _ _ ?_))
    refine wp_seq_k (fun K35 hK35 => ?_)
    refine wp_reg ?_
    refine wpF_seg 1 (by kernel_rfl) ?_
    refine gF hM34 (.load 9 (.tmp 9)) (some 10) (by kernel_rfl) (Y_load 0 rfl (off := 0) (by kernel_rfl) (bs (xk)) (by kernel_rfl)) ?_
    refine wpF_seg 3 (by kernel_rfl) ?_
    refine wpF_caseB 13 (decide (((xk.length : Int)) ≤ (128))) (by kernel_rfl) (by kernel_rfl) (fun h36 => ?_) (fun h36 => ?_)
    · -- Tt
      have p37 : (((xk.length : Int)) ≤ (128)) := of_decide_eq_true h36
      refine wpF_seg 10 (by kernel_rfl) ?_
      refine gF hM34 (.load 78 (.tmp 23)) (some 24) (by kernel_rfl) (Y_load 0 rfl (off := 1) (by kernel_rfl) (.slice Axv (xv).length cxv) (by kernel_rfl)) ?_
      refine wpF_seg 4 (by kernel_rfl) ?_
      refine wpF_caseB 28 (decide ((0) < ((xv.length : Int)))) (by kernel_rfl) (by kernel_rfl) (fun h38 => ?_) (fun h38 => ?_)
      · -- Ttt
        have p39 : ((0) < ((xv.length : Int))) := of_decide_eq_true h38
        refine wpF_seg 1 (by kernel_rfl) ?_
        refine gF hM34 (.load 78 (.tmp 29)) (some 30) (by kernel_rfl) (Y_load 0 rfl (off := 1) (by kernel_rfl) (.slice Axv (xv).length cxv) (by kernel_rfl)) ?_
        refine wpF_callP hM34 (f := 116) (caps := #[]) (h := (by kernel_rfl : opAt _ _ _ _ _ = some (.call (.mk (.value (.func 116)) #[(.tmp 30)] #[78]), some 31))) (by kernel_rfl) (by kernel_rfl) (by kernel_rfl) (f116 _ _ hM34.inW Axv cxv (xv) hxv) (fun v40 V41 w42 le43 hM44 hp45 => ?_)
        obtain rfl := hp45
        refine wpF_seg 3 (by kernel_rfl) ?_
        refine wpF_caseB 34 (decide ((chnE (xv)) = (0))) (by kernel_rfl) (by kernel_rfl) (fun h46 => ?_) (fun h46 => ?_)
        · -- Tttt
          have p47 : ((chnE (xv)) = (0)) := of_decide_eq_true h46
          refine wpF_seg 1 (by kernel_rfl) ?_
          refine gF hM44 (.load 78 (.tmp 35)) (some 36) (by kernel_rfl) (Y_load 0 rfl (off := 1) (by kernel_rfl) (.slice Axv (xv).length cxv) (by kernel_rfl)) ?_
          refine gF_index (A := Axv) (c := cxv) (hxv.up hM44.le) .i64 (0) (h := (by kernel_rfl : opAt _ _ _ _ _ = some (.indexAddr 78 (.tmp 36) (.const (.int .i64 0)), some 37))) (e := 126) (by kernel_rfl) (by kernel_rfl) (by kernel_rfl) (0) (by omega) (by omega) (fun b48 o49 at_b48 => ?_)
          have c50 : V41 b48 o49 = some (.int .i64 (xv.getD (0) (0, [], false)).1) := (At.int (At.pr at_b48).1).1
          have l51 : IntKind.i64.min ≤ (xv.getD (0) (0, [], false)).1 ∧ (xv.getD (0) (0, [], false)).1 ≤ IntKind.i64.max := (At.int (At.pr at_b48).1).2
          have c52 : V41 b48 (o49 + 1) = some (bs (xv.getD (0) (0, [], false)).2.1) := (At.str (At.pr (At.pr at_b48).2).1).1
          have l53 : (xv.getD (0) (0, [], false)).2.1.length ≤ 140737488355328 := (At.str (At.pr (At.pr at_b48).2).1).2
          have c54 : V41 b48 (o49 + 2) = some (.bool (xv.getD (0) (0, [], false)).2.2) := At.bool (At.pr (At.pr at_b48).2).2
          refine wpF_seg 1 (by kernel_rfl) ?_
          refine gF hM44 (.load 3 (.tmp 38)) (some 39) (by kernel_rfl) (Y_loadV c50 (by kernel_rfl) (by kernel_rfl)) ?_
          refine wpF_seg 4 (by kernel_rfl) ?_
          refine wpF_end _ (by kernel_rfl) (then_n (hK35 _ _ ?_))
          refine wp_ret ?_
          refine retN [.bool (decide (((xv.getD (0) (0, [], false)).1) ≤ (t)))] (.bool (decide (((xv.getD (0) (0, [], false)).1) ≤ (t)))) Try.results77 (.tmp (by kernel_rfl) (by kernel_rfl) .nil) (by kernel_rfl) (hRet _ _ ⟨_, _, rfl, hM44.clear, ?_⟩)
          -- end Tttt
          simp only [mayB, ← chn_dec, h36, h38, h46, Bool.true_or, Bool.or_true, Bool.false_or, Bool.or_false, Bool.true_and, Bool.and_true, Bool.false_and, Bool.and_false]
        · -- Tttf
          have p55 : ¬ ((chnE (xv)) = (0)) := of_decide_eq_false h46
          refine wpF_seg 9 (by kernel_rfl) ?_
          refine wpF_end _ (by kernel_rfl) (then_n (hK35 _ _ ?_))
          refine wp_ret ?_
          refine retN [.bool (false)] (.bool (false)) Try.results77 (.tmp (by kernel_rfl) (by kernel_rfl) .nil) (by kernel_rfl) (hRet _ _ ⟨_, _, rfl, hM44.clear, ?_⟩)
          -- end Tttf
          simp only [mayB, ← chn_dec, h36, h38, h46, Bool.true_or, Bool.or_true, Bool.false_or, Bool.or_false, Bool.true_and, Bool.and_true, Bool.false_and, Bool.and_false]
      · -- Ttf
        have p56 : ¬ ((0) < ((xv.length : Int))) := of_decide_eq_false h38
        refine wpF_seg 15 (by kernel_rfl) ?_
        refine wpF_end _ (by kernel_rfl) (then_n (hK35 _ _ ?_))
        refine wp_ret ?_
        refine retN [.bool (false)] (.bool (false)) Try.results77 (.tmp (by kernel_rfl) (by kernel_rfl) .nil) (by kernel_rfl) (hRet _ _ ⟨_, _, rfl, hM34.clear, ?_⟩)
        -- end Ttf
        simp only [mayB, ← chn_dec, h36, h38, Bool.true_or, Bool.or_true, Bool.false_or, Bool.or_false, Bool.true_and, Bool.and_true, Bool.false_and, Bool.and_false]
    · -- Tf
      have p57 : ¬ (((xk.length : Int)) ≤ (128)) := of_decide_eq_false h36
      refine wpF_seg 30 (by kernel_rfl) ?_
      refine wpF_end _ (by kernel_rfl) (then_n (hK35 _ _ ?_))
      refine wp_ret ?_
      refine retN [.bool (false)] (.bool (false)) Try.results77 (.tmp (by kernel_rfl) (by kernel_rfl) .nil) (by kernel_rfl) (hRet _ _ ⟨_, _, rfl, hM34.clear, ?_⟩)
      -- end Tf
      simp only [mayB, ← chn_dec, h36, Bool.true_or, Bool.or_true, Bool.false_or, Bool.or_false, Bool.true_and, Bool.and_true, Bool.false_and, Bool.and_false]

set_option maxHeartbeats 4000000 in
set_option maxRecDepth 100000 in
theorem f31y (V : VT) (w : World) (hV : V.inW w) (Al : Option Addr) (cl : Nat) (l : List ((Str × (List ((Int × Str × Bool)))))) (hl : Rd (prK strK (slK (prK (intK .i64) (prK strK boolK)))) V Al cl l) (t : Int) (m : Int) (h5 : l.length ≤ 98000) (hv : ∀ i, i < l.length → (l.getD i ([], [])).2.length ≤ 4398046511104) (hld : ldB l t m = true) :
    Calls Try.prog 31 #[.slice Al (l).length cl, .int .i64 (t), .int .i64 (m)] w (Ret V w [] fun rv V' E' => ∃ (b1 : Nat), ∃ (A1 : Option Addr), ∃ (c1 : Nat), ∃ (m1 : Nat), rv = .tuple #[.pointer (some ⟨b1, 0, none⟩), .int .i64 (0)] ∧ E' = [spE b1 A1 c1 m1 (l) (t) (m)]) := by
  have mxl : l.length ≤ 140737488355328 := hl.max
  refine calls_env (n := 61) Try.func31 (c := _) rfl Try.ntmps31 (by kernel_rfl) (fun R hRet => ?_)
  have hM0 : Step V w [] V w [] := Step.refl (St.nilE hV)
  have hrg := ld_rng hld
  refine wp_seq_k (fun K1 hK1 => ?_)
  refine wp_reg ?_
  refine wpF_seg 2 (by kernel_rfl) ?_
  refine wpF_end _ (by kernel_rfl) (then_n (hK1 _ _ ?_))
  refine wp_seq_k (fun K2 hK2 => ?_)
  refine wp_seq_k (fun K3 hK3 => ?_)
  refine wp_reg ?_
  refine wpF_seg 3 (by kernel_rfl) ?_
  refine wpF_caseB 14 (decide ((t) < (0))) (by kernel_rfl) (by kernel_rfl) (fun h4 => ?_) (fun h4 => ?_)
  · -- t
    have p5 : ((t) < (0)) := of_decide_eq_true h4
    exfalso; first | omega | (have hno := ldB_no (l := l) (la := t) (ma := m) (k := k) (by omega) (by assumption); exact absurd (hld.symm.trans hno) (by decide))
  · -- f
    have p6 : ¬ ((t) < (0)) := of_decide_eq_false h4
    refine wpF_seg 4 (by kernel_rfl) ?_
    refine wpF_caseB 18 (decide ((1152921504606846976) < (t))) (by kernel_rfl) (by kernel_rfl) (fun h7 => ?_) (fun h7 => ?_)
    · -- ft
      have p8 : ((1152921504606846976) < (t)) := of_decide_eq_true h7
      exfalso; first | omega | (have hno := ldB_no (l := l) (la := t) (ma := m) (k := k) (by omega) (by assumption); exact absurd (hld.symm.trans hno) (by decide))
    · -- ff
      have p9 : ¬ ((1152921504606846976) < (t)) := of_decide_eq_false h7
      refine wpF_seg 4 (by kernel_rfl) ?_
      refine wpF_caseB 22 (decide ((m) < (0))) (by kernel_rfl) (by kernel_rfl) (fun h10 => ?_) (fun h10 => ?_)
      · -- fft
        have p11 : ((m) < (0)) := of_decide_eq_true h10
        exfalso; first | omega | (have hno := ldB_no (l := l) (la := t) (ma := m) (k := k) (by omega) (by assumption); exact absurd (hld.symm.trans hno) (by decide))
      · -- fff
        have p12 : ¬ ((m) < (0)) := of_decide_eq_false h10
        refine wpF_seg 4 (by kernel_rfl) ?_
        refine wpF_end _ (by kernel_rfl) (then_n (hK3 _ _ ?_))
        refine wp_if (decide ((t) < (m))) (by kernel_rfl) (fun h13 => ?_) (fun h13 => ?_)
        · -- ffft
          have p14 : ((t) < (m)) := of_decide_eq_true h13
          exfalso; first | omega | (have hno := ldB_no (l := l) (la := t) (ma := m) (k := k) (by omega) (by assumption); exact absurd (hld.symm.trans hno) (by decide))
        · -- ffff
          have p15 : ¬ ((t) < (m)) := of_decide_eq_false h13
          refine wp_skip (then_n (hK2 _ _ ?_))
          refine wp_seq_k (fun K16 hK16 => ?_)
          refine wp_reg ?_
          have hM24 : Step V w [] V _ ([]) := hM0
          refine wpF_callE [] ([]) hM24 (f := 33) (caps := #[]) (h := (by kernel_rfl : opAt _ _ _ _ _ = some (.call (.mk (.value (.func 33)) #[] #[]), some 27))) (by kernel_rfl) (by kernel_rfl) (by kernel_rfl) (f33 _ _ hM24.inW) (fun v17 V18 w19 Eo20 le21 hM22 hp23 => ?_)
          obtain ⟨br24_1, Ar24_1, cr24_1, mr24_1, rfl, rfl⟩ := hp23
          have hM25 : Step V w [] V18 _ ([spE br24_1 Ar24_1 cr24_1 mr24_1 (([] : List Item)) (0) (0)]) := hM22
          refine wpF_seg 1 (by kernel_rfl) ?_
          refine wpF_end _ (by kernel_rfl) (then_n (hK16 _ _ ?_))
          refine wp_seq_k (fun K26 hK26 => ?_)
          refine wp_reg ?_
          refine wpF_seg 6 (by kernel_rfl) ?_
          have hM27 := hM25.openSp 0 rfl
          have hs28 : SpI (([] : List Item)) := (hM25.spOk 0 rfl)
          have hM29 : Step V w [] V18 _ ([.blk br24_1 (.cells #[.slice Ar24_1 (keysOf (([] : List Item))).length cr24_1, .map (some mr24_1), .int .i64 (0), .int .i64 (0)] 71), .row strK 9 Ar24_1 cr24_1 (keysOf (([] : List Item))), mapE false (slK (prK (intK .i64) (prK strK boolK))) mr24_1 (fun k_ => lk k_ (([] : List Item)))]) := hM27
          refine wpF_store hM29 0 rfl (h := (by kernel_rfl : opAt _ _ _ _ _ = some (.store 3 (.tmp 33) (.tmp 30), none))) (off := 2) (by kernel_rfl) #[.int .i64 (t)] (by kernel_rfl) (by kernel_rfl) (by kernel_rfl) (by kernel_rfl) (fun w31 hM30 => ?_)
          have hM32 : Step V w [] V18 _ ([.blk br24_1 (.cells #[.slice Ar24_1 (keysOf (([] : List Item))).length cr24_1, .map (some mr24_1), .int .i64 (t), .int .i64 (0)] 71), .row strK 9 Ar24_1 cr24_1 (keysOf (([] : List Item))), mapE false (slK (prK (intK .i64) (prK strK boolK))) mr24_1 (fun k_ => lk k_ (([] : List Item)))]) := hM30
          refine wpF_seg 2 (by kernel_rfl) ?_
          refine wpF_store hM32 0 rfl (h := (by kernel_rfl : opAt _ _ _ _ _ = some (.store 3 (.tmp 35) (.tmp 31), none))) (off := 3) (by kernel_rfl) #[.int .i64 (m)] (by kernel_rfl) (by kernel_rfl) (by kernel_rfl) (by kernel_rfl) (fun w34 hM33 => ?_)
          have hM35 : Step V w [] V18 _ ([.blk br24_1 (.cells #[.slice Ar24_1 (keysOf (([] : List Item))).length cr24_1, .map (some mr24_1), .int .i64 (t), .int .i64 (m)] 71), .row strK 9 Ar24_1 cr24_1 (keysOf (([] : List Item))), mapE false (slK (prK (intK .i64) (prK strK boolK))) mr24_1 (fun k_ => lk k_ (([] : List Item)))]) := hM33
          refine wpF_end _ (by kernel_rfl) (then_n (hK26 _ _ ?_))
          refine wp_seq_k (fun K36 hK36 => ?_)
          refine wp_reg ?_
          refine wpF_seg 1 (by kernel_rfl) ?_
          refine wpF_end _ (by kernel_rfl) (then_n (hK36 _ _ ?_))
          refine wp_seq_k (fun K37 hK37 => ?_)
          refine wp_seq_k (fun K38 hK38 => ?_)
          refine wp_reg ?_
          refine wpF_seg 3 (by kernel_rfl) ?_
          refine wpF_end _ (by kernel_rfl) (then_n (hK38 _ _ ?_))
          refine wp_block ?_
          have hM40 := hM35.front 2 rfl
          have hM41 := hM40.front 2 rfl
          have hM42 := hM41.front 2 rfl
          have hM43 : Step V w [] V18 _ ([.blk br24_1 (.cells #[.slice Ar24_1 (keysOf (([] : List Item))).length cr24_1, .map (some mr24_1), .int .i64 (t), .int .i64 (m)] 71), .row strK 9 Ar24_1 cr24_1 (keysOf (([] : List Item))), mapE false (slK (prK (intK .i64) (prK strK boolK))) mr24_1 (fun k_ => lk k_ (([] : List Item)))]) := hM42
          have hk44 : keysOf (([] : List Item)) = keysOf (([] : List Item)) := rfl
          have hf45 : (fun k_ => lk k_ (([] : List Item))) = (fun k_ => lk k_ (([] : List Item))) := rfl
          have ho46 : SpI (([] : List Item)) := hs28
          have hM47 : Step V w [] V18 _ (spE br24_1 Ar24_1 cr24_1 mr24_1 (([] : List Item)) (t) (m) :: []) := Step.closeSp hk44 hf45 ho46 (by exact hM43)
          have hM48 : Step V w [] V18 _ ([spE br24_1 Ar24_1 cr24_1 mr24_1 (([] : List Item)) (t) (m)]) := hM47
          have hq49 : ([] : List Item) = l.take (0) := by first | rfl | simp | exact (vacK_0 _ _).symm
          have hM50 : Step V w [] V18 _ ([spE br24_1 Ar24_1 cr24_1 mr24_1 (l.take (0)) (t) (m)]) := Step.reSp (B := []) (F := []) hq49 hM48
          refine wp_base [(1, .int .i64 (t)), (8, .pointer (some ⟨br24_1, 0, none⟩)), (9, bs (aheadK l (0))), (36, .slice Al (l).length cl), (37, .int .i64 ((l.length : Int))), (38, .int .i64 ((0 : Int)))] (by kernel_rfl) (fun g51 => ?_)
          refine wp_loopX (fun (x_ : Nat) a_ w_ => ∃ (g : Nat → Value) (V_ : VT), ∃ (Ars8 : Option Addr) (crs8 : Nat), a_ = env [] 61 [(1, .int .i64 (t)), (8, .pointer (some ⟨br24_1, 0, none⟩)), (9, bs (aheadK l (x_))), (36, .slice Al (l).length cl), (37, .int .i64 ((l.length : Int))), (38, .int .i64 ((x_ : Int)))] g ∧ Step V w [] V_ w_ [spE br24_1 Ars8 crs8 mr24_1 (l.take (x_)) (t) (m)] ∧ VT.le V18 V_ ∧ (x_ ≤ l.length) ∧ (ldK l t (x_) = true) ∧ ((aheadK l (x_)).length ≤ 140737488355328)) (fun (x_ : Nat) => l.length - x_) (0) ⟨g51, V18, Ar24_1, cr24_1, rfl, hM50, VT.le.refl _, by omega, by exact ldK_iff.2 (fun i hi => by omega), by exact Nat.zero_le _⟩ ?_
          rintro k a_ w53 ⟨g52, Vl39, Ar_56s8, cr_56s8, rfl, hM54, le55, hi56_0, hi56_1, hi56_2⟩ K56 hK56
          refine wp_seq_k (fun K57 hK57 => ?_)
          refine wp_reg ?_
          refine wpF_seg 1 (by kernel_rfl) ?_
          refine wpF_end _ (by kernel_rfl) (then_n (hK57 _ _ ?_))
          refine wp_seq_k (fun K58 hK58 => ?_)
          refine wp_if (decide (((k : Int)) < ((l.length : Int)))) (by kernel_rfl) (fun h59 => ?_) (fun h59 => ?_)
          · -- ffffLt
            have p60 : (((k : Int)) < ((l.length : Int))) := of_decide_eq_true h59
            refine wp_skip (then_n (hK58 _ _ ?_))
            refine wp_seq_k (fun K61 hK61 => ?_)
            refine wp_block ?_
            refine wp_seq_k (fun K62 hK62 => ?_)
            refine wp_reg ?_
            refine wpF_seg 1 (by kernel_rfl) ?_
            refine gF_index (A := Al) (c := cl) (hl.up hM54.le) .i64 ((k : Int)) (h := (by kernel_rfl : opAt _ _ _ _ _ = some (.indexAddr 46 (.tmp 36) (.tmp 38), some 41))) (e := 80) (by kernel_rfl) (by kernel_rfl) (by kernel_rfl) (k) rfl (by omega) (fun b63 o64 at_b63 => ?_)
            have c65 : Vl39 b63 o64 = some (bs (l.getD (k) ([], [])).1) := (At.str (At.pr at_b63).1).1
            have l66 : (l.getD (k) ([], [])).1.length ≤ 140737488355328 := (At.str (At.pr at_b63).1).2
            obtain ⟨A67, c68, c69, r70⟩ := At.sl (At.pr at_b63).2
            have c69 : Vl39 b63 (o64 + 1) = some (.slice A67 ((l.getD (k) ([], [])).2).length c68) := c69
            have r70 : Rd (prK (intK .i64) (prK strK boolK)) Vl39 A67 c68 ((l.getD (k) ([], [])).2) := r70
            have l71 : ((l.getD (k) ([], [])).2).length ≤ 140737488355328 := r70.max
            refine gF hM54 (.load 80 (.tmp 41)) (some 42) (by kernel_rfl) (Y_loadS (b := b63) (off := o64) [bs ((l.getD (k) ([], [])).1), .slice A67 ((l.getD (k) ([], [])).2).length c68] (cells2 c65 c69) (by kernel_rfl) (by kernel_rfl) (by kernel_rfl)) ?_
            refine wpF_alloc hM54 #[bs ([]), .slice none 0 0] (h := (by kernel_rfl : opAt _ _ _ _ _ = some (.alloc 80, some 11))) (by kernel_rfl) (fun b72 w73 hM74 => ?_)
            refine wpF_seg 1 (by kernel_rfl) ?_
            refine wpF_store hM74 0 rfl (h := (by kernel_rfl : opAt _ _ _ _ _ = some (.store 80 (.tmp 11) (.tmp 42), none))) (off := 0) (by kernel_rfl) #[bs ((l.getD (k) ([], [])).1), .slice A67 ((l.getD (k) ([], [])).2).length c68] (by kernel_rfl) (by kernel_rfl) (by kernel_rfl) (by kernel_rfl) (fun w76 hM75 => ?_)
            have hM77 : Step V w [] Vl39 _ ([.blk b72 (.cells #[bs ((l.getD (k) ([], [])).1), .slice A67 ((l.getD (k) ([], [])).2).length c68] 80), spE br24_1 Ar_56s8 cr_56s8 mr24_1 (l.take (k)) (t) (m)]) := hM75
            refine wpF_end _ (by kernel_rfl) (then_n (hK62 _ _ ?_))
            refine wp_seq_k (fun K78 hK78 => ?_)
            refine wp_seq_k (fun K79 hK79 => ?_)
            refine wp_reg ?_
            refine gF hM77 (.load 80 (.tmp 11)) (some 43) (by kernel_rfl) (Y_load 0 rfl (off := 0) (by kernel_rfl) (.agg #[bs ((l.getD (k) ([], [])).1), .slice A67 ((l.getD (k) ([], [])).2).length c68]) (by kernel_rfl)) ?_
            refine wpF_seg 4 (by kernel_rfl) ?_
            refine wpF_callP hM77 (f := 77) (caps := #[]) (h := (by kernel_rfl : opAt _ _ _ _ _ = some (.call (.mk (.value (.func 77)) #[(.tmp 43), (.tmp 44), (.tmp 46), (.tmp 47)] #[80, 9, 4, 3]), some 48))) (by kernel_rfl) (by kernel_rfl) (by kernel_rfl) (f77 _ _ hM77.inW ((l.getD (k) ([], [])).1) (l66) A67 c68 ((l.getD (k) ([], [])).2) r70 (aheadK l (k)) (by first | decide | (simp only [maxL, List.length_append, List.length_cons, List.length_nil]; omega)) (decide (((k : Int)) = (0))) (t)) (fun v80 V81 w82 le83 hM84 hp85 => ?_)
            obtain rfl := hp85
            refine wpF_seg 1 (by kernel_rfl) ?_
            refine wpF_end _ (by kernel_rfl) (then_n (hK79 _ _ ?_))
            refine wp_if (!(mayB ((l.getD (k) ([], [])).1) ((l.getD (k) ([], [])).2) (aheadK l (k)) (decide (((k : Int)) = (0))) (t))) (by kernel_rfl) (fun h86 => ?_) (fun h86 => ?_)
            · -- ffffLtt
              have h87 : (mayB ((l.getD (k) ([], [])).1) ((l.getD (k) ([], [])).2) (aheadK l (k)) (decide (((k : Int)) = (0))) (t)) = false := by simpa using h86
              exfalso; first | omega | (have hno := ldB_no (l := l) (la := t) (ma := m) (k := k) (by omega) (by assumption); exact absurd (hld.symm.trans hno) (by decide))
            · -- ffffLtf
              have h88 : (mayB ((l.getD (k) ([], [])).1) ((l.getD (k) ([], [])).2) (aheadK l (k)) (decide (((k : Int)) = (0))) (t)) = true := by simpa using h86
              refine wp_skip (then_n (hK78 _ _ ?_))
              refine wp_seq_k (fun K89 hK89 => ?_)
              refine wp_base [(1, .int .i64 (t)), (8, .pointer (some ⟨br24_1, 0, none⟩)), (9, bs (aheadK l (k))), (10, .int .i64 ((k : Int))), (11, .pointer (some ⟨b72, 0, none⟩)), (36, .slice Al (l).length cl), (37, .int .i64 ((l.length : Int))), (38, .int .i64 ((k : Int))), (39, .bool (decide (((k : Int)) < ((l.length : Int))))), (40, .int .i64 ((k : Int))), (41, .pointer (some ⟨b63, o64, none⟩)), (42, .agg #[bs ((l.getD (k) ([], [])).1), .slice A67 ((l.getD (k) ([], [])).2).length c68]), (43, .agg #[bs ((l.getD (k) ([], [])).1), .slice A67 ((l.getD (k) ([], [])).2).length c68]), (44, bs (aheadK l (k))), (45, .int .i64 ((k : Int))), (46, .bool (decide (((k : Int)) = (0)))), (47, .int .i64 (t)), (48, .bool (mayB ((l.getD (k) ([], [])).1) ((l.getD (k) ([], [])).2) (aheadK l (k)) (decide (((k : Int)) = (0))) (t))), (49, .bool (!(mayB ((l.getD (k) ([], [])).1) ((l.getD (k) ([], [])).2) (aheadK l (k)) (decide (((k : Int)) = (0))) (t))))] (by kernel_rfl) (fun g90 => ?_)
              refine wp_drawN hM84 [(.blk b72 (.cells #[bs ((l.getD (k) ([], [])).1), .slice A67 ((l.getD (k) ([], [])).2).length c68] 80), 9999)] (and_held 0 rfl no_held) [] [0, 1, 2, 3, 4] [.a 5, .a 6] [.p 0, .p 1, .p 2, .p 3, .p 4, .s, .a 5, .a 6] rfl (by kernel_rfl) (by kernel_rfl) ?_
              refine h_seg 2 (by kernel_rfl) ?_
              refine gH (.load 9 (.tmp 51)) (some 52) (by kernel_rfl) (Y_load 0 (by kernel_rfl : (FOf _ _ _)[0]? = some (.blk b72 (.cells #[bs ((l.getD (k) ([], [])).1), .slice A67 ((l.getD (k) ([], [])).2).length c68] 80))) (off := 0) (by kernel_rfl) (bs ((l.getD (k) ([], [])).1)) (by kernel_rfl)) ?_
              refine h_seg 1 (by kernel_rfl) ?_
              refine gH (.load 78 (.tmp 53)) (some 54) (by kernel_rfl) (Y_load 0 (by kernel_rfl : (FOf _ _ _)[0]? = some (.blk b72 (.cells #[bs ((l.getD (k) ([], [])).1), .slice A67 ((l.getD (k) ([], [])).2).length c68] 80))) (off := 1) (by kernel_rfl) (.slice A67 ((l.getD (k) ([], [])).2).length c68) (by kernel_rfl)) ?_
              refine h_s no_fs ?_
              refine h_a (by kernel_rfl) (by kernel_rfl) (fun w91 X92 hM93 => ?_)
              refine wpF_callP hM93 (f := 79) (caps := #[]) (h := (by kernel_rfl : opAt _ _ _ _ _ = some (.call (.mk (.value (.func 79)) #[(.tmp 54)] #[78]), some 55))) (by kernel_rfl) (by kernel_rfl) (by kernel_rfl) (f79 _ _ hM93.inW A67 c68 ((l.getD (k) ([], [])).2) (r70.up le83) (by exact hv k (by omega))) (fun v94 V95 w96 le97 hM98 hp99 => ?_)
              obtain ⟨Ar99_1, cr99_1, rfl, r100⟩ := hp99
              have l101 : (((l.getD (k) ([], [])).2)).length ≤ 140737488355328 := r100.max
              refine wpF_end _ (by kernel_rfl) (then_n (h_d [(.blk b72 (.cells #[bs ((l.getD (k) ([], [])).1), .slice A67 ((l.getD (k) ([], [])).2).length c68] 80), 9999)] (by kernel_rfl) [.blk b72 (.cells #[bs ((l.getD (k) ([], [])).1), .slice A67 ((l.getD (k) ([], [])).2).length c68] 80), spE br24_1 Ar_56s8 cr_56s8 mr24_1 (l.take (k)) (t) (m)] hM98 (and_held 0 rfl no_held) le97 ?_))
              refine h_a (by kernel_rfl) (by kernel_rfl) (fun w102 X103 hM104 => ?_)
              have hM105 := hM104.front 1 rfl
              have hM113 : Step V w [] V95 _ ([spE br24_1 Ar_56s8 cr_56s8 mr24_1 (l.take (k)) (t) (m), .blk b72 (.cells #[bs ((l.getD (k) ([], [])).1), .slice A67 ((l.getD (k) ([], [])).2).length c68] 80)] ++ X103) := hM105
              refine wpF_callE [spE br24_1 Ar_56s8 cr_56s8 mr24_1 (l.take (k)) (t) (m)] ([.blk b72 (.cells #[bs ((l.getD (k) ([], [])).1), .slice A67 ((l.getD (k) ([], [])).2).length c68] 80)] ++ X103) hM113 (f := 78) (caps := #[]) (h := (by kernel_rfl : opAt _ _ _ _ _ = some (.call (.mk (.value (.func 78)) #[(.tmp 50), (.tmp 52), (.tmp 55)] #[53, 9, 78]), some 56))) (by kernel_rfl) (by kernel_rfl) (by kernel_rfl) (f78 _ _ br24_1 Ar_56s8 cr_56s8 mr24_1 (l.take (k)) (t) (m) ((l.getD (k) ([], [])).1) (l66) Ar99_1 cr99_1 (((l.getD (k) ([], [])).2)) r100 (St.part (E := [spE br24_1 Ar_56s8 cr_56s8 mr24_1 (l.take (k)) (t) (m)]) (F := ([.blk b72 (.cells #[bs ((l.getD (k) ([], [])).1), .slice A67 ((l.getD (k) ([], [])).2).length c68] 80)] ++ X103)) hM113.ok) (by simp; omega)) (fun v106 V107 w108 Eo109 le110 hM111 hp112 => ?_)
              obtain ⟨Aor113_p, cor113_p, rfl, rfl⟩ := hp112
              have hM114 : Step V w [] V107 _ ([spE br24_1 Aor113_p cor113_p mr24_1 (setL (l.take (k)) ((l.getD (k) ([], [])).1) (((l.getD (k) ([], [])).2))) ((t)) ((m)), .blk b72 (.cells #[bs ((l.getD (k) ([], [])).1), .slice A67 ((l.getD (k) ([], [])).2).length c68] 80)] ++ X103) := hM111
              have hq115 : setL (l.take (k)) ((l.getD (k) ([], [])).1) (((l.getD (k) ([], [])).2)) = l.take (k + 1) := by exact ld_set (by omega) (by assumption) (by assumption)
              have hM116 : Step V w [] V107 _ ([spE br24_1 Aor113_p cor113_p mr24_1 (l.take (k + 1)) ((t)) ((m)), .blk b72 (.cells #[bs ((l.getD (k) ([], [])).1), .slice A67 ((l.getD (k) ([], [])).2).length c68] 80)] ++ X103) := Step.reSp (B := []) (F := [.blk b72 (.cells #[bs ((l.getD (k) ([], [])).1), .slice A67 ((l.getD (k) ([], [])).2).length c68] 80)] ++ X103) hq115 hM114
              refine wpF_end _ (by kernel_rfl) (then_n (h_d [(.blk b72 (.cells #[bs ((l.getD (k) ([], [])).1), .slice A67 ((l.getD (k) ([], [])).2).length c68] 80), 9999)] (by kernel_rfl) [spE br24_1 Aor113_p cor113_p mr24_1 (l.take (k + 1)) ((t)) ((m)), .blk b72 (.cells #[bs ((l.getD (k) ([], [])).1), .slice A67 ((l.getD (k) ([], [])).2).length c68] 80)] hM116 (and_held 1 rfl no_held) le110 ?_))
              refine h_n (fun w117 hM118 => ?_)
              refine  (then_n (hK89 _ _ ?_))
              refine wp_reg ?_
              refine wpF_seg 1 (by kernel_rfl) ?_
              refine gF hM118 (.load 9 (.tmp 57)) (some 58) (by kernel_rfl) (Y_load 1 rfl (off := 0) (by kernel_rfl) (bs ((l.getD (k) ([], [])).1)) (by kernel_rfl)) ?_
              refine wpF_seg 1 (by kernel_rfl) ?_
              refine wpF_slot 9 (bs ((l.getD (k) ([], [])).1)) (bs (aheadK l (k + 1))) (by kernel_rfl) (by kernel_rfl) (by exact congrArg bs (ahead_step l k)) ?_
              refine wpF_end _ (by kernel_rfl) (blk_n (then_n (hK61 _ _ ?_)))
              refine wp_reg ?_
              refine gF hM118 (.binOp .add 3 (.tmp 38) (.const (.int .i64 1)) 3) (some 59) (by kernel_rfl) (Y_add .i64 ((k : Int)) (1) ((k : Int) + 1) (by kernel_rfl) (by kernel_rfl) (wrap64_ok _ (by omega))) ?_
              refine wpF_seg 1 (by kernel_rfl) ?_
              refine wpF_base [(1, .int .i64 (t)), (8, .pointer (some ⟨br24_1, 0, none⟩)), (9, bs (aheadK l (k + 1))), (36, .slice Al (l).length cl), (37, .int .i64 ((l.length : Int))), (38, .int .i64 ((k + 1 : Int)))] (by kernel_rfl) (fun g119 => ?_)
              have hM120 := (hM118.front 1 rfl).drop
              refine wpF_end _ (by kernel_rfl) (then_n (hK56 _ _ (k + 1) (by omega) ?_))
              refine ⟨g119, V107, Aor113_p, cor113_p, rfl, hM120, (((le55.trans le83).trans le97).trans le110), ?_, ?_, ?_⟩
              · -- ffffLtf inv 0
                omega
              · -- ffffLtf inv 1
                exact ldK_step (by assumption) (by assumption)
              · -- ffffLtf inv 2
                rw [← ahead_step]; omega
          · -- ffffLf
            have p121 : ¬ (((k : Int)) < ((l.length : Int))) := of_decide_eq_false h59
            refine wp_exit (then_x (then_x (blk_hit (then_n (hK37 _ _ ?_)))))
            obtain rfl : k = l.length := by omega
            refine wp_seq_k (fun K122 hK122 => ?_)
            refine wp_reg ?_
            refine wpF_seg 3 (by kernel_rfl) ?_
            refine wpF_end _ (by kernel_rfl) (then_n (hK122 _ _ ?_))
            refine wp_ret ?_
            have hM123 := hM54.front 0 rfl
            have hM124 : Step V w [] Vl39 _ ([spE br24_1 Ar_56s8 cr_56s8 mr24_1 (l.take ((l.length))) (t) (m)]) := hM123
            refine retN [.pointer (some ⟨br24_1, 0, none⟩), .int .i64 (0)] (.tuple #[.pointer (some ⟨br24_1, 0, none⟩), .int .i64 (0)]) Try.results31 (.tmp (by kernel_rfl) (by kernel_rfl) (.tmp (by kernel_rfl) (by kernel_rfl) .nil)) (by kernel_rfl) (hRet _ _ ⟨_, _, _, rfl, hM124, ?_⟩)
            -- end ffffLf
            refine ⟨br24_1, Ar_56s8, cr_56s8, mr24_1, ?_, ?_⟩
            · rfl
            · first | rfl | rw [List.take_length]

end Go.Vk
