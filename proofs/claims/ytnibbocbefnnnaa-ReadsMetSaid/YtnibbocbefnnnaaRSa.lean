import Derived.Test.YtnibbocbefnnnaaRPlainSp
set_option linter.unusedVariables false
set_option linter.unusedSimpArgs false
namespace Go.Vk
open Go.Proofs
variable {D : List Deferred}
set_option maxHeartbeats 4000000 in
set_option maxRecDepth 100000 in
theorem f119 (V : VT) (w : World) (hV : V.inW w) (vt : Int) (vs : Str) (hvs : vs.length ≤ maxL) (vd : Bool) :
    Calls Try.prog 119 #[.agg #[.int .i64 (vt), bs (vs), .bool (vd)]] w (RetP V w fun rv V' => rv = .bool (verB vt vs vd)) := by
  have mxvs : vs.length ≤ 140737488355328 := hvs
  refine calls_env (n := 27) Try.func119 (c := _) rfl Try.ntmps119 (by kernel_rfl) (fun R hRet => ?_)
  have hM0 : Step V w [] V w [] := Step.refl (St.nilE hV)
  cases vd with
  | false =>
    refine wp_seq_k (fun K1 hK1 => ?_)
    refine wp_reg ?_
    refine wpF_box hM0 #[.int .i64 (vt), bs (vs), .bool (false)] (h := (by kernel_rfl : opAt _ _ _ _ _ = some (.box 126 (.tmp 0), some 1))) (by kernel_rfl) (fun b2 w3 hM4 => ?_)
    refine wpF_seg 1 (by kernel_rfl) ?_
    refine wpF_end _ (by kernel_rfl) (then_n (hK1 _ _ ?_))
    refine wp_seq_k (fun K5 hK5 => ?_)
    refine wp_reg ?_
    refine wpF_seg 1 (by kernel_rfl) ?_
    refine gF hM4 (.load 3 (.tmp 3)) (some 4) (by kernel_rfl) (Y_load 0 rfl (off := 0) (by kernel_rfl) (.int .i64 (vt)) (by kernel_rfl)) ?_
    refine wpF_seg 2 (by kernel_rfl) ?_
    refine wpF_caseB 6 (decide ((1) ≤ (vt))) (by kernel_rfl) (by kernel_rfl) (fun h6 => ?_) (fun h6 => ?_)
    · -- Ft
      have p7 : ((1) ≤ (vt)) := of_decide_eq_true h6
      refine wpF_seg 1 (by kernel_rfl) ?_
      refine gF hM4 (.load 3 (.tmp 7)) (some 8) (by kernel_rfl) (Y_load 0 rfl (off := 0) (by kernel_rfl) (.int .i64 (vt)) (by kernel_rfl)) ?_
      refine wpF_seg 3 (by kernel_rfl) ?_
      refine wpF_caseB 11 (decide ((vt) ≤ (1152921504606846976))) (by kernel_rfl) (by kernel_rfl) (fun h8 => ?_) (fun h8 => ?_)
      · -- Ftt
        have p9 : ((vt) ≤ (1152921504606846976)) := of_decide_eq_true h8
        refine wpF_seg 1 (by kernel_rfl) ?_
        refine gF hM4 (.load 9 (.tmp 12)) (some 13) (by kernel_rfl) (Y_load 0 rfl (off := 1) (by kernel_rfl) (bs (vs)) (by kernel_rfl)) ?_
        refine wpF_seg 4 (by kernel_rfl) ?_
        refine wpF_caseB 17 (decide (((vs.length : Int)) ≤ (200))) (by kernel_rfl) (by kernel_rfl) (fun h10 => ?_) (fun h10 => ?_)
        · -- Fttt
          have p11 : (((vs.length : Int)) ≤ (200)) := of_decide_eq_true h10
          refine wpF_seg 1 (by kernel_rfl) ?_
          refine gF hM4 (.load 4 (.tmp 18)) (some 19) (by kernel_rfl) (Y_load 0 rfl (off := 2) (by kernel_rfl) (.bool (false)) (by kernel_rfl)) ?_
          refine wpF_seg 8 (by kernel_rfl) ?_
          refine wpF_end _ (by kernel_rfl) (then_n (hK5 _ _ ?_))
          refine wp_ret ?_
          refine retN [.bool (true)] (.bool (true)) Try.results119 (.tmp (by kernel_rfl) (by kernel_rfl) .nil) (by kernel_rfl) (hRet _ _ ⟨_, _, rfl, hM4.clear, ?_⟩)
          -- end Fttt
          simp only [verB, h10, h6, h8, cond_true, cond_false, Bool.true_or, Bool.or_true, Bool.false_or, Bool.or_false, Bool.true_and, Bool.and_true, Bool.false_and, Bool.and_false, Bool.not_true, Bool.not_false]
        · -- Fttf
          have p12 : ¬ (((vs.length : Int)) ≤ (200)) := of_decide_eq_false h10
          refine wpF_seg 10 (by kernel_rfl) ?_
          refine wpF_end _ (by kernel_rfl) (then_n (hK5 _ _ ?_))
          refine wp_ret ?_
          refine retN [.bool (false)] (.bool (false)) Try.results119 (.tmp (by kernel_rfl) (by kernel_rfl) .nil) (by kernel_rfl) (hRet _ _ ⟨_, _, rfl, hM4.clear, ?_⟩)
          -- end Fttf
          simp only [verB, h10, h6, h8, cond_true, cond_false, Bool.true_or, Bool.or_true, Bool.false_or, Bool.or_false, Bool.true_and, Bool.and_true, Bool.false_and, Bool.and_false, Bool.not_true, Bool.not_false]
      · -- Ftf
        have p13 : ¬ ((vt) ≤ (1152921504606846976)) := of_decide_eq_false h8
        refine wpF_seg 16 (by kernel_rfl) ?_
        refine wpF_end _ (by kernel_rfl) (then_n (hK5 _ _ ?_))
        refine wp_ret ?_
        refine retN [.bool (false)] (.bool (false)) Try.results119 (.tmp (by kernel_rfl) (by kernel_rfl) .nil) (by kernel_rfl) (hRet _ _ ⟨_, _, rfl, hM4.clear, ?_⟩)
        -- end Ftf
        simp only [verB, h6, h8, cond_true, cond_false, Bool.true_or, Bool.or_true, Bool.false_or, Bool.or_false, Bool.true_and, Bool.and_true, Bool.false_and, Bool.and_false, Bool.not_true, Bool.not_false]
    · -- Ff
      have p14 : ¬ ((1) ≤ (vt)) := of_decide_eq_false h6
      refine wpF_seg 21 (by kernel_rfl) ?_
      refine wpF_end _ (by kernel_rfl) (then_n (hK5 _ _ ?_))
      refine wp_ret ?_
      refine retN [.bool (false)] (.bool (false)) Try.results119 (.tmp (by kernel_rfl) (by kernel_rfl) .nil) (by kernel_rfl) (hRet _ _ ⟨_, _, rfl, hM4.clear, ?_⟩)
      -- end Ff
      simp only [verB, h6, cond_true, cond_false, Bool.true_or, Bool.or_true, Bool.false_or, Bool.or_false, Bool.true_and, Bool.and_true, Bool.false_and, Bool.and_false, Bool.not_true, Bool.not_false]
  | true =>
    refine wp_seq_k (fun K15 hK15 => ?_)
    refine wp_reg ?_
    refine wpF_box hM0 #[.int .i64 (vt), bs (vs), .bool (true)] (h := (by kernel_rfl : opAt _ _ _ _ _ = some (.box 126 (.tmp 0), some 1))) (by kernel_rfl) (fun b16 w17 hM18 => ?_)
    refine wpF_seg 1 (by kernel_rfl) ?_
    refine wpF_end _ (by kernel_rfl) (then_n (hK15 _ _ ?_))
    refine wp_seq_k (fun K19 hK19 => ?_)
    refine wp_reg ?_
    refine wpF_seg 1 (by kernel_rfl) ?_
    refine gF hM18 (.load 3 (.tmp 3)) (some 4) (by kernel_rfl) (Y_load 0 rfl (off := 0) (by kernel_rfl) (.int .i64 (vt)) (by kernel_rfl)) ?_
    refine wpF_seg 2 (by kernel_rfl) ?_
    refine wpF_caseB 6 (decide ((1) ≤ (vt))) (by kernel_rfl) (by kernel_rfl) (fun h20 => ?_) (fun h20 => ?_)
    · -- Tt
      have p21 : ((1) ≤ (vt)) := of_decide_eq_true h20
      refine wpF_seg 1 (by kernel_rfl) ?_
      refine gF hM18 (.load 3 (.tmp 7)) (some 8) (by kernel_rfl) (Y_load 0 rfl (off := 0) (by kernel_rfl) (.int .i64 (vt)) (by kernel_rfl)) ?_
      refine wpF_seg 3 (by kernel_rfl) ?_
      refine wpF_caseB 11 (decide ((vt) ≤ (1152921504606846976))) (by kernel_rfl) (by kernel_rfl) (fun h22 => ?_) (fun h22 => ?_)
      · -- Ttt
        have p23 : ((vt) ≤ (1152921504606846976)) := of_decide_eq_true h22
        refine wpF_seg 1 (by kernel_rfl) ?_
        refine gF hM18 (.load 9 (.tmp 12)) (some 13) (by kernel_rfl) (Y_load 0 rfl (off := 1) (by kernel_rfl) (bs (vs)) (by kernel_rfl)) ?_
        refine wpF_seg 4 (by kernel_rfl) ?_
        refine wpF_caseB 17 (decide (((vs.length : Int)) ≤ (200))) (by kernel_rfl) (by kernel_rfl) (fun h24 => ?_) (fun h24 => ?_)
        · -- Tttt
          have p25 : (((vs.length : Int)) ≤ (200)) := of_decide_eq_true h24
          refine wpF_seg 1 (by kernel_rfl) ?_
          refine gF hM18 (.load 4 (.tmp 18)) (some 19) (by kernel_rfl) (Y_load 0 rfl (off := 2) (by kernel_rfl) (.bool (true)) (by kernel_rfl)) ?_
          refine wpF_seg 3 (by kernel_rfl) ?_
          refine gF hM18 (.load 9 (.tmp 22)) (some 23) (by kernel_rfl) (Y_load 0 rfl (off := 1) (by kernel_rfl) (bs (vs)) (by kernel_rfl)) ?_
          refine wpF_seg 4 (by kernel_rfl) ?_
          refine wpF_end _ (by kernel_rfl) (then_n (hK19 _ _ ?_))
          refine wp_ret ?_
          refine retN [.bool (decide ((vs) = ([])))] (.bool (decide ((vs) = ([])))) Try.results119 (.tmp (by kernel_rfl) (by kernel_rfl) .nil) (by kernel_rfl) (hRet _ _ ⟨_, _, rfl, hM18.clear, ?_⟩)
          -- end Tttt
          simp only [verB, h20, h22, h24, cond_true, cond_false, Bool.true_or, Bool.or_true, Bool.false_or, Bool.or_false, Bool.true_and, Bool.and_true, Bool.false_and, Bool.and_false, Bool.not_true, Bool.not_false]
        · -- Tttf
          have p26 : ¬ (((vs.length : Int)) ≤ (200)) := of_decide_eq_false h24
          refine wpF_seg 10 (by kernel_rfl) ?_
          refine wpF_end _ (by kernel_rfl) (then_n (hK19 _ _ ?_))
          refine wp_ret ?_
          refine retN [.bool (false)] (.bool (false)) Try.results119 (.tmp (by kernel_rfl) (by kernel_rfl) .nil) (by kernel_rfl) (hRet _ _ ⟨_, _, rfl, hM18.clear, ?_⟩)
          -- end Tttf
          simp only [verB, h20, h22, h24, cond_true, cond_false, Bool.true_or, Bool.or_true, Bool.false_or, Bool.or_false, Bool.true_and, Bool.and_true, Bool.false_and, Bool.and_false, Bool.not_true, Bool.not_false]
      · -- Ttf
        have p27 : ¬ ((vt) ≤ (1152921504606846976)) := of_decide_eq_false h22
        refine wpF_seg 16 (by kernel_rfl) ?_
        refine wpF_end _ (by kernel_rfl) (then_n (hK19 _ _ ?_))
        refine wp_ret ?_
        refine retN [.bool (false)] (.bool (false)) Try.results119 (.tmp (by kernel_rfl) (by kernel_rfl) .nil) (by kernel_rfl) (hRet _ _ ⟨_, _, rfl, hM18.clear, ?_⟩)
        -- end Ttf
        simp only [verB, h20, h22, cond_true, cond_false, Bool.true_or, Bool.or_true, Bool.false_or, Bool.or_false, Bool.true_and, Bool.and_true, Bool.false_and, Bool.and_false, Bool.not_true, Bool.not_false]
    · -- Tf
      have p28 : ¬ ((1) ≤ (vt)) := of_decide_eq_false h20
      refine wpF_seg 21 (by kernel_rfl) ?_
      refine wpF_end _ (by kernel_rfl) (then_n (hK19 _ _ ?_))
      refine wp_ret ?_
      refine retN [.bool (false)] (.bool (false)) Try.results119 (.tmp (by kernel_rfl) (by kernel_rfl) .nil) (by kernel_rfl) (hRet _ _ ⟨_, _, rfl, hM18.clear, ?_⟩)
      -- end Tf
      simp only [verB, h20, cond_true, cond_false, Bool.true_or, Bool.or_true, Bool.false_or, Bool.or_false, Bool.true_and, Bool.and_true, Bool.false_and, Bool.and_false, Bool.not_true, Bool.not_false]

set_option maxHeartbeats 4000000 in
set_option maxRecDepth 100000 in
theorem f115 (V : VT) (w : World) (hV : V.inW w) (vt : Int) (vs : Str) (hvs : vs.length ≤ maxL) (vd : Bool) :
    Calls Try.prog 115 #[.agg #[.int .i64 (vt), bs (vs), .bool (vd)]] w (RetP V w fun rv V' => rv = .bool (verB vt vs vd)) := by
  have mxvs : vs.length ≤ 140737488355328 := hvs
  refine calls_env (n := 27) Try.func115 (c := _) rfl Try.ntmps115 (by kernel_rfl) (fun R hRet => ?_)
  have hM0 : Step V w [] V w [] := Step.refl (St.nilE hV)
  cases vd with
  | false =>
    refine wp_seq_k (fun K1 hK1 => ?_)
    refine wp_reg ?_
    refine wpF_box hM0 #[.int .i64 (vt), bs (vs), .bool (false)] (h := (by kernel_rfl : opAt _ _ _ _ _ = some (.box 126 (.tmp 0), some 1))) (by kernel_rfl) (fun b2 w3 hM4 => ?_)
    refine wpF_seg 1 (by kernel_rfl) ?_
    refine wpF_end _ (by kernel_rfl) (then_n (hK1 _ _ ?_))
    refine wp_seq_k (fun K5 hK5 => ?_)
    refine wp_reg ?_
    refine wpF_seg 1 (by kernel_rfl) ?_
    refine gF hM4 (.load 3 (.tmp 3)) (some 4) (by kernel_rfl) (Y_load 0 rfl (off := 0) (by kernel_rfl) (.int .i64 (vt)) (by kernel_rfl)) ?_
    refine wpF_seg 2 (by kernel_rfl) ?_
    refine wpF_caseB 6 (decide ((1) ≤ (vt))) (by kernel_rfl) (by kernel_rfl) (fun h6 => ?_) (fun h6 => ?_)
    · -- Ft
      have p7 : ((1) ≤ (vt)) := of_decide_eq_true h6
      refine wpF_seg 1 (by kernel_rfl) ?_
      refine gF hM4 (.load 3 (.tmp 7)) (some 8) (by kernel_rfl) (Y_load 0 rfl (off := 0) (by kernel_rfl) (.int .i64 (vt)) (by kernel_rfl)) ?_
      refine wpF_seg 3 (by kernel_rfl) ?_
      refine wpF_caseB 11 (decide ((vt) ≤ (1152921504606846976))) (by kernel_rfl) (by kernel_rfl) (fun h8 => ?_) (fun h8 => ?_)
      · -- Ftt
        have p9 : ((vt) ≤ (1152921504606846976)) := of_decide_eq_true h8
        refine wpF_seg 1 (by kernel_rfl) ?_
        refine gF hM4 (.load 9 (.tmp 12)) (some 13) (by kernel_rfl) (Y_load 0 rfl (off := 1) (by kernel_rfl) (bs (vs)) (by kernel_rfl)) ?_
        refine wpF_seg 4 (by kernel_rfl) ?_
        refine wpF_caseB 17 (decide (((vs.length : Int)) ≤ (200))) (by kernel_rfl) (by kernel_rfl) (fun h10 => ?_) (fun h10 => ?_)
        · -- Fttt
          have p11 : (((vs.length : Int)) ≤ (200)) := of_decide_eq_true h10
          refine wpF_seg 1 (by kernel_rfl) ?_
          refine gF hM4 (.load 4 (.tmp 18)) (some 19) (by kernel_rfl) (Y_load 0 rfl (off := 2) (by kernel_rfl) (.bool (false)) (by kernel_rfl)) ?_
          refine wpF_seg 8 (by kernel_rfl) ?_
          refine wpF_end _ (by kernel_rfl) (then_n (hK5 _ _ ?_))
          refine wp_ret ?_
          refine retN [.bool (true)] (.bool (true)) Try.results115 (.tmp (by kernel_rfl) (by kernel_rfl) .nil) (by kernel_rfl) (hRet _ _ ⟨_, _, rfl, hM4.clear, ?_⟩)
          -- end Fttt
          simp only [verB, h10, h6, h8, cond_true, cond_false, Bool.true_or, Bool.or_true, Bool.false_or, Bool.or_false, Bool.true_and, Bool.and_true, Bool.false_and, Bool.and_false, Bool.not_true, Bool.not_false]
        · -- Fttf
          have p12 : ¬ (((vs.length : Int)) ≤ (200)) := of_decide_eq_false h10
          refine wpF_seg 10 (by kernel_rfl) ?_
          refine wpF_end _ (by kernel_rfl) (then_n (hK5 _ _ ?_))
          refine wp_ret ?_
          refine retN [.bool (false)] (.bool (false)) Try.results115 (.tmp (by kernel_rfl) (by kernel_rfl) .nil) (by kernel_rfl) (hRet _ _ ⟨_, _, rfl, hM4.clear, ?_⟩)
          -- end Fttf
          simp only [verB, h10, h6, h8, cond_true, cond_false, Bool.true_or, Bool.or_true, Bool.false_or, Bool.or_false, Bool.true_and, Bool.and_true, Bool.false_and, Bool.and_false, Bool.not_true, Bool.not_false]
      · -- Ftf
        have p13 : ¬ ((vt) ≤ (1152921504606846976)) := of_decide_eq_false h8
        refine wpF_seg 16 (by kernel_rfl) ?_
        refine wpF_end _ (by kernel_rfl) (then_n (hK5 _ _ ?_))
        refine wp_ret ?_
        refine retN [.bool (false)] (.bool (false)) Try.results115 (.tmp (by kernel_rfl) (by kernel_rfl) .nil) (by kernel_rfl) (hRet _ _ ⟨_, _, rfl, hM4.clear, ?_⟩)
        -- end Ftf
        simp only [verB, h6, h8, cond_true, cond_false, Bool.true_or, Bool.or_true, Bool.false_or, Bool.or_false, Bool.true_and, Bool.and_true, Bool.false_and, Bool.and_false, Bool.not_true, Bool.not_false]
    · -- Ff
      have p14 : ¬ ((1) ≤ (vt)) := of_decide_eq_false h6
      refine wpF_seg 21 (by kernel_rfl) ?_
      refine wpF_end _ (by kernel_rfl) (then_n (hK5 _ _ ?_))
      refine wp_ret ?_
      refine retN [.bool (false)] (.bool (false)) Try.results115 (.tmp (by kernel_rfl) (by kernel_rfl) .nil) (by kernel_rfl) (hRet _ _ ⟨_, _, rfl, hM4.clear, ?_⟩)
      -- end Ff
      simp only [verB, h6, cond_true, cond_false, Bool.true_or, Bool.or_true, Bool.false_or, Bool.or_false, Bool.true_and, Bool.and_true, Bool.false_and, Bool.and_false, Bool.not_true, Bool.not_false]
  | true =>
    refine wp_seq_k (fun K15 hK15 => ?_)
    refine wp_reg ?_
    refine wpF_box hM0 #[.int .i64 (vt), bs (vs), .bool (true)] (h := (by kernel_rfl : opAt _ _ _ _ _ = some (.box 126 (.tmp 0), some 1))) (by kernel_rfl) (fun b16 w17 hM18 => ?_)
    refine wpF_seg 1 (by kernel_rfl) ?_
    refine wpF_end _ (by kernel_rfl) (then_n (hK15 _ _ ?_))
    refine wp_seq_k (fun K19 hK19 => ?_)
    refine wp_reg ?_
    refine wpF_seg 1 (by kernel_rfl) ?_
    refine gF hM18 (.load 3 (.tmp 3)) (some 4) (by kernel_rfl) (Y_load 0 rfl (off := 0) (by kernel_rfl) (.int .i64 (vt)) (by kernel_rfl)) ?_
    refine wpF_seg 2 (by kernel_rfl) ?_
    refine wpF_caseB 6 (decide ((1) ≤ (vt))) (by kernel_rfl) (by kernel_rfl) (fun h20 => ?_) (fun h20 => ?_)
    · -- Tt
      have p21 : ((1) ≤ (vt)) := of_decide_eq_true h20
      refine wpF_seg 1 (by kernel_rfl) ?_
      refine gF hM18 (.load 3 (.tmp 7)) (some 8) (by kernel_rfl) (Y_load 0 rfl (off := 0) (by kernel_rfl) (.int .i64 (vt)) (by kernel_rfl)) ?_
      refine wpF_seg 3 (by kernel_rfl) ?_
      refine wpF_caseB 11 (decide ((vt) ≤ (1152921504606846976))) (by kernel_rfl) (by kernel_rfl) (fun h22 => ?_) (fun h22 => ?_)
      · -- Ttt
        have p23 : ((vt) ≤ (1152921504606846976)) := of_decide_eq_true h22
        refine wpF_seg 1 (by kernel_rfl) ?_
        refine gF hM18 (.load 9 (.tmp 12)) (some 13) (by kernel_rfl) (Y_load 0 rfl (off := 1) (by kernel_rfl) (bs (vs)) (by kernel_rfl)) ?_
        refine wpF_seg 4 (by kernel_rfl) ?_
        refine wpF_caseB 17 (decide (((vs.length : Int)) ≤ (200))) (by kernel_rfl) (by kernel_rfl) (fun h24 => ?_) (fun h24 => ?_)
        · -- Tttt
          have p25 : (((vs.length : Int)) ≤ (200)) := of_decide_eq_true h24
          refine wpF_seg 1 (by kernel_rfl) ?_
          refine gF hM18 (.load 4 (.tmp 18)) (some 19) (by kernel_rfl) (Y_load 0 rfl (off := 2) (by kernel_rfl) (.bool (true)) (by kernel_rfl)) ?_
          refine wpF_seg 3 (by kernel_rfl) ?_
          refine gF hM18 (.load 9 (.tmp 22)) (some 23) (by kernel_rfl) (Y_load 0 rfl (off := 1) (by kernel_rfl) (bs (vs)) (by kernel_rfl)) ?_
          refine wpF_seg 4 (by kernel_rfl) ?_
          refine wpF_end _ (by kernel_rfl) (then_n (hK19 _ _ ?_))
          refine wp_ret ?_
          refine retN [.bool (decide ((vs) = ([])))] (.bool (decide ((vs) = ([])))) Try.results115 (.tmp (by kernel_rfl) (by kernel_rfl) .nil) (by kernel_rfl) (hRet _ _ ⟨_, _, rfl, hM18.clear, ?_⟩)
          -- end Tttt
          simp only [verB, h20, h22, h24, cond_true, cond_false, Bool.true_or, Bool.or_true, Bool.false_or, Bool.or_false, Bool.true_and, Bool.and_true, Bool.false_and, Bool.and_false, Bool.not_true, Bool.not_false]
        · -- Tttf
          have p26 : ¬ (((vs.length : Int)) ≤ (200)) := of_decide_eq_false h24
          refine wpF_seg 10 (by kernel_rfl) ?_
          refine wpF_end _ (by kernel_rfl) (then_n (hK19 _ _ ?_))
          refine wp_ret ?_
          refine retN [.bool (false)] (.bool (false)) Try.results115 (.tmp (by kernel_rfl) (by kernel_rfl) .nil) (by kernel_rfl) (hRet _ _ ⟨_, _, rfl, hM18.clear, ?_⟩)
          -- end Tttf
          simp only [verB, h20, h22, h24, cond_true, cond_false, Bool.true_or, Bool.or_true, Bool.false_or, Bool.or_false, Bool.true_and, Bool.and_true, Bool.false_and, Bool.and_false, Bool.not_true, Bool.not_false]
      · -- Ttf
        have p27 : ¬ ((vt) ≤ (1152921504606846976)) := of_decide_eq_false h22
        refine wpF_seg 16 (by kernel_rfl) ?_
        refine wpF_end _ (by kernel_rfl) (then_n (hK19 _ _ ?_))
        refine wp_ret ?_
        refine retN [.bool (false)] (.bool (false)) Try.results115 (.tmp (by kernel_rfl) (by kernel_rfl) .nil) (by kernel_rfl) (hRet _ _ ⟨_, _, rfl, hM18.clear, ?_⟩)
        -- end Ttf
        simp only [verB, h20, h22, cond_true, cond_false, Bool.true_or, Bool.or_true, Bool.false_or, Bool.or_false, Bool.true_and, Bool.and_true, Bool.false_and, Bool.and_false, Bool.not_true, Bool.not_false]
    · -- Tf
      have p28 : ¬ ((1) ≤ (vt)) := of_decide_eq_false h20
      refine wpF_seg 21 (by kernel_rfl) ?_
      refine wpF_end _ (by kernel_rfl) (then_n (hK19 _ _ ?_))
      refine wp_ret ?_
      refine retN [.bool (false)] (.bool (false)) Try.results115 (.tmp (by kernel_rfl) (by kernel_rfl) .nil) (by kernel_rfl) (hRet _ _ ⟨_, _, rfl, hM18.clear, ?_⟩)
      -- end Tf
      simp only [verB, h20, cond_true, cond_false, Bool.true_or, Bool.or_true, Bool.false_or, Bool.or_false, Bool.true_and, Bool.and_true, Bool.false_and, Bool.and_false, Bool.not_true, Bool.not_false]

set_option maxHeartbeats 4000000 in
set_option maxRecDepth 100000 in
theorem f116 (V : VT) (w : World) (hV : V.inW w) (Al : Option Addr) (cl : Nat) (l : List ((Int × Str × Bool))) (hl : Rd (prK (intK .i64) (prK strK boolK)) V Al cl l) :
    Calls Try.prog 116 #[.slice Al (l).length cl] w (RetP V w fun rv V' => rv = .int .i64 (chnE l)) := by
  have mxl : l.length ≤ 140737488355328 := hl.max
  refine calls_env (n := 31) Try.func116 (c := _) rfl Try.ntmps116 (by kernel_rfl) (fun R hRet => ?_)
  have hM0 : Step V w [] V w [] := Step.refl (St.nilE hV)
  refine wp_seq_k (fun K1 hK1 => ?_)
  refine wp_reg ?_
  refine wpF_seg 1 (by kernel_rfl) ?_
  refine wpF_end _ (by kernel_rfl) (then_n (hK1 _ _ ?_))
  refine wp_seq_k (fun K2 hK2 => ?_)
  refine wp_seq_k (fun K3 hK3 => ?_)
  refine wp_reg ?_
  refine wpF_seg 3 (by kernel_rfl) ?_
  refine wpF_end _ (by kernel_rfl) (then_n (hK3 _ _ ?_))
  refine wp_block ?_
  refine wp_base [(0, .slice Al (l).length cl), (5, .slice Al (l).length cl), (6, .int .i64 ((l.length : Int))), (7, .int .i64 ((0 : Int)))] (by kernel_rfl) (fun g5 => ?_)
  refine wp_loopX (fun (x_ : Nat) a_ w_ => ∃ (g : Nat → Value) (V_ : VT), a_ = env [] 31 [(0, .slice Al (l).length cl), (5, .slice Al (l).length cl), (6, .int .i64 ((l.length : Int))), (7, .int .i64 ((x_ : Int)))] g ∧ Step V w [] V_ w_ [] ∧ VT.le V V_ ∧ (x_ ≤ l.length) ∧ (chnK l (x_) = true)) (fun (x_ : Nat) => l.length - x_) (0) ⟨g5, V, rfl, hM0, VT.le.refl _, by omega, by exact chnK_iff.2 (fun i hi => by omega)⟩ ?_
  rintro k a_ w7 ⟨g6, Vl4, rfl, hM8, le9, hi10_0, hi10_1⟩ K10 hK10
  refine wp_seq_k (fun K11 hK11 => ?_)
  refine wp_reg ?_
  refine wpF_seg 1 (by kernel_rfl) ?_
  refine wpF_end _ (by kernel_rfl) (then_n (hK11 _ _ ?_))
  refine wp_seq_k (fun K12 hK12 => ?_)
  refine wp_if (decide (((k : Int)) < ((l.length : Int)))) (by kernel_rfl) (fun h13 => ?_) (fun h13 => ?_)
  · -- Lt
    have p14 : (((k : Int)) < ((l.length : Int))) := of_decide_eq_true h13
    refine wp_skip (then_n (hK12 _ _ ?_))
    refine wp_seq_k (fun K15 hK15 => ?_)
    refine wp_block ?_
    refine wp_seq_k (fun K16 hK16 => ?_)
    refine wp_reg ?_
    refine wpF_seg 1 (by kernel_rfl) ?_
    refine gF_index (A := Al) (c := cl) (hl.up hM8.le) .i64 ((k : Int)) (h := (by kernel_rfl : opAt _ _ _ _ _ = some (.indexAddr 78 (.tmp 5) (.tmp 7), some 10))) (e := 126) (by kernel_rfl) (by kernel_rfl) (by kernel_rfl) (k) rfl (by omega) (fun b17 o18 at_b17 => ?_)
    have c19 : Vl4 b17 o18 = some (.int .i64 (l.getD (k) (0, [], false)).1) := (At.int (At.pr at_b17).1).1
    have l20 : IntKind.i64.min ≤ (l.getD (k) (0, [], false)).1 ∧ (l.getD (k) (0, [], false)).1 ≤ IntKind.i64.max := (At.int (At.pr at_b17).1).2
    have c21 : Vl4 b17 (o18 + 1) = some (bs (l.getD (k) (0, [], false)).2.1) := (At.str (At.pr (At.pr at_b17).2).1).1
    have l22 : (l.getD (k) (0, [], false)).2.1.length ≤ 140737488355328 := (At.str (At.pr (At.pr at_b17).2).1).2
    have c23 : Vl4 b17 (o18 + 2) = some (.bool (l.getD (k) (0, [], false)).2.2) := At.bool (At.pr (At.pr at_b17).2).2
    refine gF hM8 (.load 126 (.tmp 10)) (some 11) (by kernel_rfl) (Y_loadS (b := b17) (off := o18) [.int .i64 ((l.getD (k) (0, [], false)).1), bs ((l.getD (k) (0, [], false)).2.1), .bool ((l.getD (k) (0, [], false)).2.2)] (cells3 c19 c21 c23) (by kernel_rfl) (by kernel_rfl) (by kernel_rfl)) ?_
    refine wpF_alloc hM8 #[.int .i64 (0), bs ([]), .bool (false)] (h := (by kernel_rfl : opAt _ _ _ _ _ = some (.alloc 126, some 4))) (by kernel_rfl) (fun b24 w25 hM26 => ?_)
    refine wpF_seg 1 (by kernel_rfl) ?_
    refine wpF_store hM26 0 rfl (h := (by kernel_rfl : opAt _ _ _ _ _ = some (.store 126 (.tmp 4) (.tmp 11), none))) (off := 0) (by kernel_rfl) #[.int .i64 ((l.getD (k) (0, [], false)).1), bs ((l.getD (k) (0, [], false)).2.1), .bool ((l.getD (k) (0, [], false)).2.2)] (by kernel_rfl) (by kernel_rfl) (by kernel_rfl) (by kernel_rfl) (fun w28 hM27 => ?_)
    have hM29 : Step V w [] Vl4 _ ([.blk b24 (.cells #[.int .i64 ((l.getD (k) (0, [], false)).1), bs ((l.getD (k) (0, [], false)).2.1), .bool ((l.getD (k) (0, [], false)).2.2)] 126)]) := hM27
    refine wpF_end _ (by kernel_rfl) (then_n (hK16 _ _ ?_))
    refine wp_seq_k (fun K30 hK30 => ?_)
    refine wp_base [(0, .slice Al (l).length cl), (3, .int .i64 ((k : Int))), (4, .pointer (some ⟨b24, 0, none⟩)), (5, .slice Al (l).length cl), (6, .int .i64 ((l.length : Int))), (7, .int .i64 ((k : Int))), (8, .bool (decide (((k : Int)) < ((l.length : Int))))), (9, .int .i64 ((k : Int))), (10, .pointer (some ⟨b17, o18, none⟩)), (11, .agg #[.int .i64 ((l.getD (k) (0, [], false)).1), bs ((l.getD (k) (0, [], false)).2.1), .bool ((l.getD (k) (0, [], false)).2.2)])] (by kernel_rfl) (fun g31 => ?_)
    refine wp_drawN hM29 [(.blk b24 (.cells #[.int .i64 ((l.getD (k) (0, [], false)).1), bs ((l.getD (k) (0, [], false)).2.1), .bool ((l.getD (k) (0, [], false)).2.2)] 126), 9999)] (and_held 0 rfl no_held) [] [0] [.a 1, .p 2, .p 3, .p 4, .p 5, .p 6, .p 7, .p 8, .p 9, .p 10, .p 11, .p 12, .p 13, .p 14, .p 15, .p 16, .p 17] [.p 0, .s, .a 1, .p 2, .p 3, .p 4, .p 5, .p 6, .p 7, .p 8, .p 9, .p 10, .p 11, .p 12, .p 13, .p 14, .p 15, .p 16, .p 17] rfl (by kernel_rfl) (by kernel_rfl) ?_
    refine gH (.load 126 (.tmp 4)) (some 12) (by kernel_rfl) (Y_load 0 (by kernel_rfl : (FOf _ _ _)[0]? = some (.blk b24 (.cells #[.int .i64 ((l.getD (k) (0, [], false)).1), bs ((l.getD (k) (0, [], false)).2.1), .bool ((l.getD (k) (0, [], false)).2.2)] 126))) (off := 0) (by kernel_rfl) (.agg #[.int .i64 ((l.getD (k) (0, [], false)).1), bs ((l.getD (k) (0, [], false)).2.1), .bool ((l.getD (k) (0, [], false)).2.2)]) (by kernel_rfl)) ?_
    refine h_s no_fs ?_
    refine h_a (by kernel_rfl) (by kernel_rfl) (fun w32 X33 hM34 => ?_)
    refine wpF_callP hM34 (f := 119) (caps := #[]) (h := (by kernel_rfl : opAt _ _ _ _ _ = some (.call (.mk (.value (.func 119)) #[(.tmp 12)] #[126]), some 13))) (by kernel_rfl) (by kernel_rfl) (by kernel_rfl) (f119 _ _ hM34.inW ((l.getD (k) (0, [], false)).1) ((l.getD (k) (0, [], false)).2.1) (l22) ((l.getD (k) (0, [], false)).2.2)) (fun v35 V36 w37 le38 hM39 hp40 => ?_)
    obtain rfl := hp40
    refine wpF_end _ (by kernel_rfl) (then_n (h_d [(.blk b24 (.cells #[.int .i64 ((l.getD (k) (0, [], false)).1), bs ((l.getD (k) (0, [], false)).2.1), .bool ((l.getD (k) (0, [], false)).2.2)] 126), 9999)] (by kernel_rfl) [.blk b24 (.cells #[.int .i64 ((l.getD (k) (0, [], false)).1), bs ((l.getD (k) (0, [], false)).2.1), .bool ((l.getD (k) (0, [], false)).2.2)] 126)] hM39 (and_held 0 rfl no_held) le38 ?_))
    refine h_seg 2 (by kernel_rfl) ?_
    refine h_caseB 15 (!(verB ((l.getD (k) (0, [], false)).1) ((l.getD (k) (0, [], false)).2.1) ((l.getD (k) (0, [], false)).2.2))) (by kernel_rfl) (by kernel_rfl) (fun h41 => ?_) (fun h41 => ?_)
    · -- Ltt
      have h42 : (verB ((l.getD (k) (0, [], false)).1) ((l.getD (k) (0, [], false)).2.1) ((l.getD (k) (0, [], false)).2.2)) = false := by simpa using h41
      refine h_seg 14 (by kernel_rfl) ?_
      refine h_n (fun w43 hM44 => ?_)
      refine  (then_n (hK30 _ _ ?_))
      refine wp_ct (by kernel_rfl) ?_
      refine wp_seq_k (fun K45 hK45 => ?_)
      refine wp_reg ?_
      refine wpF_seg 1 (by kernel_rfl) ?_
      refine wpF_end _ (by kernel_rfl) (then_n (hK45 _ _ ?_))
      refine wp_ret (blk_r (then_r (then_r (blk_r (then_r (?_))))))
      refine retN [.int .i64 (4)] (.int .i64 (4)) Try.results116 (.tmp (by kernel_rfl) (by kernel_rfl) .nil) (by kernel_rfl) (hRet _ _ ⟨_, _, rfl, hM44.clear, ?_⟩)
      -- end Ltt
      (first | have hb := chnB_no (l := l) (k := k) (by omega) (.inl (by assumption)) | have hb := chnB_no (l := l) (k := k) (by omega) (.inr ⟨by omega, by omega⟩) | have hb := chnB_yes (l := l) (by assumption)) <;> simp only [chnE, hb, cond_true, cond_false]
    · -- Ltf
      have h46 : (verB ((l.getD (k) (0, [], false)).1) ((l.getD (k) (0, [], false)).2.1) ((l.getD (k) (0, [], false)).2.2)) = true := by simpa using h41
      refine h_seg 3 (by kernel_rfl) ?_
      refine h_caseB 18 (decide ((0) < ((k : Int)))) (by kernel_rfl) (by kernel_rfl) (fun h47 => ?_) (fun h47 => ?_)
      · -- Ltft
        have p48 : ((0) < ((k : Int))) := of_decide_eq_true h47
        refine h_seg 1 (by kernel_rfl) ?_
        refine gH (.load 3 (.tmp 19)) (some 20) (by kernel_rfl) (Y_load 0 (by kernel_rfl : (FOf _ _ _)[0]? = some (.blk b24 (.cells #[.int .i64 ((l.getD (k) (0, [], false)).1), bs ((l.getD (k) (0, [], false)).2.1), .bool ((l.getD (k) (0, [], false)).2.2)] 126))) (off := 0) (by kernel_rfl) (.int .i64 ((l.getD (k) (0, [], false)).1)) (by kernel_rfl)) ?_
        refine h_seg 2 (by kernel_rfl) ?_
        refine gH (.binOp .sub 3 (.tmp 22) (.const (.int .i64 1)) 3) (some 23) (by kernel_rfl) (Y_sub .i64 ((k : Int)) (1) ((k : Int) - 1) (by kernel_rfl) (by kernel_rfl) (wrap64_ok _ (by omega))) ?_
        refine gH_index (A := Al) (c := cl) (hl.up hM39.le) .i64 ((k : Int) - 1) (h := (by kernel_rfl : opAt _ _ _ _ _ = some (.indexAddr 78 (.tmp 21) (.tmp 23), some 24))) (e := 126) (by kernel_rfl) (by kernel_rfl) (by kernel_rfl) (k - 1) (by omega) (by omega) (fun b49 o50 at_b49 => ?_)
        have c51 : V36 b49 o50 = some (.int .i64 (l.getD (k - 1) (0, [], false)).1) := (At.int (At.pr at_b49).1).1
        have l52 : IntKind.i64.min ≤ (l.getD (k - 1) (0, [], false)).1 ∧ (l.getD (k - 1) (0, [], false)).1 ≤ IntKind.i64.max := (At.int (At.pr at_b49).1).2
        have c53 : V36 b49 (o50 + 1) = some (bs (l.getD (k - 1) (0, [], false)).2.1) := (At.str (At.pr (At.pr at_b49).2).1).1
        have l54 : (l.getD (k - 1) (0, [], false)).2.1.length ≤ 140737488355328 := (At.str (At.pr (At.pr at_b49).2).1).2
        have c55 : V36 b49 (o50 + 2) = some (.bool (l.getD (k - 1) (0, [], false)).2.2) := At.bool (At.pr (At.pr at_b49).2).2
        refine h_seg 1 (by kernel_rfl) ?_
        refine gH (.load 3 (.tmp 25)) (some 26) (by kernel_rfl) (Y_loadV c51 (by kernel_rfl) (by kernel_rfl)) ?_
        refine h_seg 3 (by kernel_rfl) ?_
        refine h_n (fun w56 hM57 => ?_)
        refine  (then_n (hK30 _ _ ?_))
        refine wp_if (decide (((l.getD (k - 1) (0, [], false)).1) ≤ ((l.getD (k) (0, [], false)).1))) (by kernel_rfl) (fun h58 => ?_) (fun h58 => ?_)
        · -- Ltftt
          have p59 : (((l.getD (k - 1) (0, [], false)).1) ≤ ((l.getD (k) (0, [], false)).1)) := of_decide_eq_true h58
          refine wp_seq_k (fun K60 hK60 => ?_)
          refine wp_reg ?_
          refine wpF_seg 1 (by kernel_rfl) ?_
          refine wpF_end _ (by kernel_rfl) (then_n (hK60 _ _ ?_))
          refine wp_ret (blk_r (then_r (then_r (blk_r (then_r (?_))))))
          refine retN [.int .i64 (4)] (.int .i64 (4)) Try.results116 (.tmp (by kernel_rfl) (by kernel_rfl) .nil) (by kernel_rfl) (hRet _ _ ⟨_, _, rfl, hM57.clear, ?_⟩)
          -- end Ltftt
          (first | have hb := chnB_no (l := l) (k := k) (by omega) (.inl (by assumption)) | have hb := chnB_no (l := l) (k := k) (by omega) (.inr ⟨by omega, by omega⟩) | have hb := chnB_yes (l := l) (by assumption)) <;> simp only [chnE, hb, cond_true, cond_false]
        · -- Ltftf
          have p61 : ¬ (((l.getD (k - 1) (0, [], false)).1) ≤ ((l.getD (k) (0, [], false)).1)) := of_decide_eq_false h58
          refine wp_skip (blk_n (then_n (hK15 _ _ ?_)))
          refine wp_reg ?_
          refine gF hM57 (.binOp .add 3 (.tmp 7) (.const (.int .i64 1)) 3) (some 30) (by kernel_rfl) (Y_add .i64 ((k : Int)) (1) ((k : Int) + 1) (by kernel_rfl) (by kernel_rfl) (wrap64_ok _ (by omega))) ?_
          refine wpF_seg 1 (by kernel_rfl) ?_
          refine wpF_base [(0, .slice Al (l).length cl), (5, .slice Al (l).length cl), (6, .int .i64 ((l.length : Int))), (7, .int .i64 ((k + 1 : Int)))] (by kernel_rfl) (fun g62 => ?_)
          have hM63 := (hM57.front 0 rfl).drop
          refine wpF_end _ (by kernel_rfl) (then_n (hK10 _ _ (k + 1) (by omega) ?_))
          refine ⟨g62, V36, rfl, hM63, hM57.le, ?_, ?_⟩
          · -- Ltftf inv 0
            omega
          · -- Ltftf inv 1
            exact chnK_step (by assumption) (by assumption) (by first | exact .inl (by omega) | exact .inr (by omega))
      · -- Ltff
        have p64 : ¬ ((0) < ((k : Int))) := of_decide_eq_false h47
        refine h_seg 11 (by kernel_rfl) ?_
        refine h_n (fun w65 hM66 => ?_)
        refine  (then_n (hK30 _ _ ?_))
        refine wp_cf (by kernel_rfl) ?_
        refine wp_skip (blk_n (then_n (hK15 _ _ ?_)))
        refine wp_reg ?_
        refine gF hM66 (.binOp .add 3 (.tmp 7) (.const (.int .i64 1)) 3) (some 30) (by kernel_rfl) (Y_add .i64 ((k : Int)) (1) ((k : Int) + 1) (by kernel_rfl) (by kernel_rfl) (wrap64_ok _ (by omega))) ?_
        refine wpF_seg 1 (by kernel_rfl) ?_
        refine wpF_base [(0, .slice Al (l).length cl), (5, .slice Al (l).length cl), (6, .int .i64 ((l.length : Int))), (7, .int .i64 ((k + 1 : Int)))] (by kernel_rfl) (fun g67 => ?_)
        have hM68 := (hM66.front 0 rfl).drop
        refine wpF_end _ (by kernel_rfl) (then_n (hK10 _ _ (k + 1) (by omega) ?_))
        refine ⟨g67, V36, rfl, hM68, hM66.le, ?_, ?_⟩
        · -- Ltff inv 0
          omega
        · -- Ltff inv 1
          exact chnK_step (by assumption) (by assumption) (by first | exact .inl (by omega) | exact .inr (by omega))
  · -- Lf
    have p69 : ¬ (((k : Int)) < ((l.length : Int))) := of_decide_eq_false h13
    refine wp_exit (then_x (then_x (blk_hit (then_n (hK2 _ _ ?_)))))
    obtain rfl : k = l.length := by omega
    refine wp_seq_k (fun K70 hK70 => ?_)
    refine wp_reg ?_
    refine wpF_seg 1 (by kernel_rfl) ?_
    refine wpF_end _ (by kernel_rfl) (then_n (hK70 _ _ ?_))
    refine wp_ret ?_
    refine retN [.int .i64 (0)] (.int .i64 (0)) Try.results116 (.tmp (by kernel_rfl) (by kernel_rfl) .nil) (by kernel_rfl) (hRet _ _ ⟨_, _, rfl, hM8.clear, ?_⟩)
    -- end Lf
    (first | have hb := chnB_no (l := l) (k := k) (by omega) (.inl (by assumption)) | have hb := chnB_no (l := l) (k := k) (by omega) (.inr ⟨by omega, by omega⟩) | have hb := chnB_yes (l := l) (by assumption)) <;> simp only [chnE, hb, cond_true, cond_false]

set_option maxHeartbeats 4000000 in
set_option maxRecDepth 100000 in
theorem f76 (V : VT) (w : World) (hV : V.inW w) (Al : Option Addr) (cl : Nat) (l : List ((Int × Str × Bool))) (hl : Rd (prK (intK .i64) (prK strK boolK)) V Al cl l) :
    Calls Try.prog 76 #[.slice Al (l).length cl] w (RetP V w fun rv V' => rv = .bool (chnB l)) := by
  have mxl : l.length ≤ 140737488355328 := hl.max
  refine calls_env (n := 34) Try.func76 (c := _) rfl Try.ntmps76 (by kernel_rfl) (fun R hRet => ?_)
  have hM0 : Step V w [] V w [] := Step.refl (St.nilE hV)
  refine wp_seq_k (fun K1 hK1 => ?_)
  refine wp_reg ?_
  refine wpF_seg 1 (by kernel_rfl) ?_
  refine wpF_end _ (by kernel_rfl) (then_n (hK1 _ _ ?_))
  refine wp_seq_k (fun K2 hK2 => ?_)
  refine wp_seq_k (fun K3 hK3 => ?_)
  refine wp_reg ?_
  refine wpF_seg 1 (by kernel_rfl) ?_
  refine wpF_end _ (by kernel_rfl) (then_n (hK3 _ _ ?_))
  refine wp_block ?_
  refine wp_base [(0, .slice Al (l).length cl), (3, .int .i64 ((0 : Int)))] (by kernel_rfl) (fun g5 => ?_)
  refine wp_loopX (fun (x_ : Nat) a_ w_ => ∃ (g : Nat → Value) (V_ : VT), a_ = env [] 34 [(0, .slice Al (l).length cl), (3, .int .i64 ((x_ : Int)))] g ∧ Step V w [] V_ w_ [] ∧ VT.le V V_ ∧ (x_ ≤ l.length) ∧ (chnK l (x_) = true)) (fun (x_ : Nat) => l.length - x_) (0) ⟨g5, V, rfl, hM0, VT.le.refl _, by omega, by exact chnK_iff.2 (fun i hi => by omega)⟩ ?_
  rintro k a_ w7 ⟨g6, Vl4, rfl, hM8, le9, hi10_0, hi10_1⟩ K10 hK10
  refine wp_seq_k (fun K11 hK11 => ?_)
  refine wp_seq_k (fun K12 hK12 => ?_)
  refine wp_reg ?_
  refine wpF_seg 4 (by kernel_rfl) ?_
  refine wpF_end _ (by kernel_rfl) (then_n (hK12 _ _ ?_))
  refine wp_if (decide (((k : Int)) < ((l.length : Int)))) (by kernel_rfl) (fun h13 => ?_) (fun h13 => ?_)
  · -- Lt
    have p14 : (((k : Int)) < ((l.length : Int))) := of_decide_eq_true h13
    refine wp_skip (then_n (hK11 _ _ ?_))
    refine wp_seq_k (fun K15 hK15 => ?_)
    refine wp_block ?_
    refine wp_seq_k (fun K16 hK16 => ?_)
    refine wp_base [(0, .slice Al (l).length cl), (3, .int .i64 ((k : Int))), (4, .int .i64 ((k : Int))), (5, .slice Al (l).length cl), (6, .int .i64 ((l.length : Int))), (7, .bool (decide (((k : Int)) < ((l.length : Int)))))] (by kernel_rfl) (fun g17 => ?_)
    refine wp_drawN hM8 [] no_held [] [0, 1, 2, 3] [.a 4, .p 5, .p 6, .p 7, .p 8, .p 9, .p 10, .p 11, .p 12, .p 13, .p 14, .p 15, .p 16, .p 17, .p 18, .p 19, .p 20, .p 21, .p 22, .p 23] [.p 0, .p 1, .p 2, .p 3, .s, .a 4, .p 5, .p 6, .p 7, .p 8, .p 9, .p 10, .p 11, .p 12, .p 13, .p 14, .p 15, .p 16, .p 17, .p 18, .p 19, .p 20, .p 21, .p 22, .p 23] rfl (by kernel_rfl) (by kernel_rfl) ?_
    refine h_seg 2 (by kernel_rfl) ?_
    refine gH_index (A := Al) (c := cl) (hl.up hM8.le) .i64 ((k : Int)) (h := (by kernel_rfl : opAt _ _ _ _ _ = some (.indexAddr 78 (.tmp 10) (.tmp 11), some 12))) (e := 126) (by kernel_rfl) (by kernel_rfl) (by kernel_rfl) (k) rfl (by omega) (fun b18 o19 at_b18 => ?_)
    have c20 : Vl4 b18 o19 = some (.int .i64 (l.getD (k) (0, [], false)).1) := (At.int (At.pr at_b18).1).1
    have l21 : IntKind.i64.min ≤ (l.getD (k) (0, [], false)).1 ∧ (l.getD (k) (0, [], false)).1 ≤ IntKind.i64.max := (At.int (At.pr at_b18).1).2
    have c22 : Vl4 b18 (o19 + 1) = some (bs (l.getD (k) (0, [], false)).2.1) := (At.str (At.pr (At.pr at_b18).2).1).1
    have l23 : (l.getD (k) (0, [], false)).2.1.length ≤ 140737488355328 := (At.str (At.pr (At.pr at_b18).2).1).2
    have c24 : Vl4 b18 (o19 + 2) = some (.bool (l.getD (k) (0, [], false)).2.2) := At.bool (At.pr (At.pr at_b18).2).2
    refine gH (.load 126 (.tmp 12)) (some 13) (by kernel_rfl) (Y_loadS (b := b18) (off := o19) [.int .i64 ((l.getD (k) (0, [], false)).1), bs ((l.getD (k) (0, [], false)).2.1), .bool ((l.getD (k) (0, [], false)).2.2)] (cells3 c20 c22 c24) (by kernel_rfl) (by kernel_rfl) (by kernel_rfl)) ?_
    refine h_s no_fs ?_
    refine h_a (by kernel_rfl) (by kernel_rfl) (fun w25 X26 hM27 => ?_)
    refine wpF_callP hM27 (f := 115) (caps := #[]) (h := (by kernel_rfl : opAt _ _ _ _ _ = some (.call (.mk (.value (.func 115)) #[(.tmp 13)] #[126]), some 14))) (by kernel_rfl) (by kernel_rfl) (by kernel_rfl) (f115 _ _ hM27.inW ((l.getD (k) (0, [], false)).1) ((l.getD (k) (0, [], false)).2.1) (l23) ((l.getD (k) (0, [], false)).2.2)) (fun v28 V29 w30 le31 hM32 hp33 => ?_)
    obtain rfl := hp33
    refine wpF_end _ (by kernel_rfl) (then_n (h_d [] (by kernel_rfl) [] hM32 no_held le31 ?_))
    refine h_seg 2 (by kernel_rfl) ?_
    refine h_caseB 16 (!(verB ((l.getD (k) (0, [], false)).1) ((l.getD (k) (0, [], false)).2.1) ((l.getD (k) (0, [], false)).2.2))) (by kernel_rfl) (by kernel_rfl) (fun h34 => ?_) (fun h34 => ?_)
    · -- Ltt
      have h35 : (verB ((l.getD (k) (0, [], false)).1) ((l.getD (k) (0, [], false)).2.1) ((l.getD (k) (0, [], false)).2.2)) = false := by simpa using h34
      refine h_seg 17 (by kernel_rfl) ?_
      refine h_n (fun w36 hM37 => ?_)
      refine  (then_n (hK16 _ _ ?_))
      refine wp_ct (by kernel_rfl) ?_
      refine wp_seq_k (fun K38 hK38 => ?_)
      refine wp_reg ?_
      refine wpF_seg 1 (by kernel_rfl) ?_
      refine wpF_end _ (by kernel_rfl) (then_n (hK38 _ _ ?_))
      refine wp_ret (blk_r (then_r (then_r (blk_r (then_r (?_))))))
      refine retN [.bool (false)] (.bool (false)) Try.results76 (.tmp (by kernel_rfl) (by kernel_rfl) .nil) (by kernel_rfl) (hRet _ _ ⟨_, _, rfl, hM37.clear, ?_⟩)
      -- end Ltt
      (first | have hb := chnB_no (l := l) (k := k) (by omega) (.inl (by assumption)) | have hb := chnB_no (l := l) (k := k) (by omega) (.inr ⟨by omega, by omega⟩) | have hb := chnB_yes (l := l) (by assumption)) <;> simp only [chnE, hb, cond_true, cond_false]
    · -- Ltf
      have h39 : (verB ((l.getD (k) (0, [], false)).1) ((l.getD (k) (0, [], false)).2.1) ((l.getD (k) (0, [], false)).2.2)) = true := by simpa using h34
      refine h_seg 3 (by kernel_rfl) ?_
      refine h_caseB 19 (decide ((0) < ((k : Int)))) (by kernel_rfl) (by kernel_rfl) (fun h40 => ?_) (fun h40 => ?_)
      · -- Ltft
        have p41 : ((0) < ((k : Int))) := of_decide_eq_true h40
        refine h_seg 2 (by kernel_rfl) ?_
        refine gH_index (A := Al) (c := cl) (hl.up hM32.le) .i64 ((k : Int)) (h := (by kernel_rfl : opAt _ _ _ _ _ = some (.indexAddr 78 (.tmp 20) (.tmp 21), some 22))) (e := 126) (by kernel_rfl) (by kernel_rfl) (by kernel_rfl) (k) rfl (by omega) (fun b42 o43 at_b42 => ?_)
        have c44 : V29 b42 o43 = some (.int .i64 (l.getD (k) (0, [], false)).1) := (At.int (At.pr at_b42).1).1
        have l45 : IntKind.i64.min ≤ (l.getD (k) (0, [], false)).1 ∧ (l.getD (k) (0, [], false)).1 ≤ IntKind.i64.max := (At.int (At.pr at_b42).1).2
        have c46 : V29 b42 (o43 + 1) = some (bs (l.getD (k) (0, [], false)).2.1) := (At.str (At.pr (At.pr at_b42).2).1).1
        have l47 : (l.getD (k) (0, [], false)).2.1.length ≤ 140737488355328 := (At.str (At.pr (At.pr at_b42).2).1).2
        have c48 : V29 b42 (o43 + 2) = some (.bool (l.getD (k) (0, [], false)).2.2) := At.bool (At.pr (At.pr at_b42).2).2
        refine h_seg 1 (by kernel_rfl) ?_
        refine gH (.load 3 (.tmp 23)) (some 24) (by kernel_rfl) (Y_loadV c44 (by kernel_rfl) (by kernel_rfl)) ?_
        refine h_seg 2 (by kernel_rfl) ?_
        refine gH (.binOp .sub 3 (.tmp 26) (.const (.int .i64 1)) 3) (some 27) (by kernel_rfl) (Y_sub .i64 ((k : Int)) (1) ((k : Int) - 1) (by kernel_rfl) (by kernel_rfl) (wrap64_ok _ (by omega))) ?_
        refine gH_index (A := Al) (c := cl) (hl.up hM32.le) .i64 ((k : Int) - 1) (h := (by kernel_rfl : opAt _ _ _ _ _ = some (.indexAddr 78 (.tmp 25) (.tmp 27), some 28))) (e := 126) (by kernel_rfl) (by kernel_rfl) (by kernel_rfl) (k - 1) (by omega) (by omega) (fun b49 o50 at_b49 => ?_)
        have c51 : V29 b49 o50 = some (.int .i64 (l.getD (k - 1) (0, [], false)).1) := (At.int (At.pr at_b49).1).1
        have l52 : IntKind.i64.min ≤ (l.getD (k - 1) (0, [], false)).1 ∧ (l.getD (k - 1) (0, [], false)).1 ≤ IntKind.i64.max := (At.int (At.pr at_b49).1).2
        have c53 : V29 b49 (o50 + 1) = some (bs (l.getD (k - 1) (0, [], false)).2.1) := (At.str (At.pr (At.pr at_b49).2).1).1
        have l54 : (l.getD (k - 1) (0, [], false)).2.1.length ≤ 140737488355328 := (At.str (At.pr (At.pr at_b49).2).1).2
        have c55 : V29 b49 (o50 + 2) = some (.bool (l.getD (k - 1) (0, [], false)).2.2) := At.bool (At.pr (At.pr at_b49).2).2
        refine h_seg 1 (by kernel_rfl) ?_
        refine gH (.load 3 (.tmp 29)) (some 30) (by kernel_rfl) (Y_loadV c51 (by kernel_rfl) (by kernel_rfl)) ?_
        refine h_seg 3 (by kernel_rfl) ?_
        refine h_n (fun w56 hM57 => ?_)
        refine  (then_n (hK16 _ _ ?_))
        refine wp_if (decide (((l.getD (k - 1) (0, [], false)).1) ≤ ((l.getD (k) (0, [], false)).1))) (by kernel_rfl) (fun h58 => ?_) (fun h58 => ?_)
        · -- Ltftt
          have p59 : (((l.getD (k - 1) (0, [], false)).1) ≤ ((l.getD (k) (0, [], false)).1)) := of_decide_eq_true h58
          refine wp_seq_k (fun K60 hK60 => ?_)
          refine wp_reg ?_
          refine wpF_seg 1 (by kernel_rfl) ?_
          refine wpF_end _ (by kernel_rfl) (then_n (hK60 _ _ ?_))
          refine wp_ret (blk_r (then_r (then_r (blk_r (then_r (?_))))))
          refine retN [.bool (false)] (.bool (false)) Try.results76 (.tmp (by kernel_rfl) (by kernel_rfl) .nil) (by kernel_rfl) (hRet _ _ ⟨_, _, rfl, hM57.clear, ?_⟩)
          -- end Ltftt
          (first | have hb := chnB_no (l := l) (k := k) (by omega) (.inl (by assumption)) | have hb := chnB_no (l := l) (k := k) (by omega) (.inr ⟨by omega, by omega⟩) | have hb := chnB_yes (l := l) (by assumption)) <;> simp only [chnE, hb, cond_true, cond_false]
        · -- Ltftf
          have p61 : ¬ (((l.getD (k - 1) (0, [], false)).1) ≤ ((l.getD (k) (0, [], false)).1)) := of_decide_eq_false h58
          refine wp_skip (blk_n (then_n (hK15 _ _ ?_)))
          refine wp_reg ?_
          refine wpF_seg 1 (by kernel_rfl) ?_
          refine gF hM57 (.binOp .add 3 (.tmp 8) (.const (.int .i64 1)) 3) (some 9) (by kernel_rfl) (Y_add .i64 ((k : Int)) (1) ((k : Int) + 1) (by kernel_rfl) (by kernel_rfl) (wrap64_ok _ (by omega))) ?_
          refine wpF_seg 1 (by kernel_rfl) ?_
          refine wpF_base [(0, .slice Al (l).length cl), (3, .int .i64 ((k + 1 : Int)))] (by kernel_rfl) (fun g62 => ?_)
          refine wpF_end _ (by kernel_rfl) (then_n (hK10 _ _ (k + 1) (by omega) ?_))
          refine ⟨g62, V29, rfl, hM57, hM57.le, ?_, ?_⟩
          · -- Ltftf inv 0
            omega
          · -- Ltftf inv 1
            exact chnK_step (by assumption) (by assumption) (by first | exact .inl (by omega) | exact .inr (by omega))
      · -- Ltff
        have p63 : ¬ ((0) < ((k : Int))) := of_decide_eq_false h40
        refine h_seg 14 (by kernel_rfl) ?_
        refine h_n (fun w64 hM65 => ?_)
        refine  (then_n (hK16 _ _ ?_))
        refine wp_cf (by kernel_rfl) ?_
        refine wp_skip (blk_n (then_n (hK15 _ _ ?_)))
        refine wp_reg ?_
        refine wpF_seg 1 (by kernel_rfl) ?_
        refine gF hM65 (.binOp .add 3 (.tmp 8) (.const (.int .i64 1)) 3) (some 9) (by kernel_rfl) (Y_add .i64 ((k : Int)) (1) ((k : Int) + 1) (by kernel_rfl) (by kernel_rfl) (wrap64_ok _ (by omega))) ?_
        refine wpF_seg 1 (by kernel_rfl) ?_
        refine wpF_base [(0, .slice Al (l).length cl), (3, .int .i64 ((k + 1 : Int)))] (by kernel_rfl) (fun g66 => ?_)
        refine wpF_end _ (by kernel_rfl) (then_n (hK10 _ _ (k + 1) (by omega) ?_))
        refine ⟨g66, V29, rfl, hM65, hM65.le, ?_, ?_⟩
        · -- Ltff inv 0
          omega
        · -- Ltff inv 1
          exact chnK_step (by assumption) (by assumption) (by first | exact .inl (by omega) | exact .inr (by omega))
  · -- Lf
    have p67 : ¬ (((k : Int)) < ((l.length : Int))) := of_decide_eq_false h13
    refine wp_exit (then_x (then_x (blk_hit (then_n (hK2 _ _ ?_)))))
    obtain rfl : k = l.length := by omega
    refine wp_seq_k (fun K68 hK68 => ?_)
    refine wp_reg ?_
    refine wpF_seg 1 (by kernel_rfl) ?_
    refine wpF_end _ (by kernel_rfl) (then_n (hK68 _ _ ?_))
    refine wp_ret ?_
    refine retN [.bool (true)] (.bool (true)) Try.results76 (.tmp (by kernel_rfl) (by kernel_rfl) .nil) (by kernel_rfl) (hRet _ _ ⟨_, _, rfl, hM8.clear, ?_⟩)
    -- end Lf
    (first | have hb := chnB_no (l := l) (k := k) (by omega) (.inl (by assumption)) | have hb := chnB_no (l := l) (k := k) (by omega) (.inr ⟨by omega, by omega⟩) | have hb := chnB_yes (l := l) (by assumption)) <;> simp only [chnE, hb, cond_true, cond_false]

set_option maxHeartbeats 4000000 in
set_option maxRecDepth 100000 in
theorem f142 (V : VT) (w : World) (hV : V.inW w) (n : Nat) (fidphi : FuncId) (capsphi : Array Value) (hfidphi : callable Try.prog fidphi = true) (phi : Nat → Bool) (hfphi : ∀ V_ w_, VT.le V V_ → V_.inW w_ → ∀ j_ : Nat, (j_ : Int) < n → Calls Try.prog fidphi (#[.int .i64 (j_ : Int)] ++ capsphi) w_ (RetP V_ w_ fun v_ _ => v_ = .bool (phi j_))) (h1 : n ≤ 140737488355328) :
    Calls Try.prog 142 #[.int .i64 ((n : Int)), .func (.func fidphi) #[] capsphi] w (RetP V w fun rv V' => ∃ (n1 : Nat), rv = .int .i64 ((n1 : Int)) ∧ n1 = srch phi 0 n ∧ n1 ≤ n) := by
  refine calls_env (n := 26) Try.func142 (c := _) rfl Try.ntmps142 (by kernel_rfl) (fun R hRet => ?_)
  have hM0 : Step V w [] V w [] := Step.refl (St.nilE hV)
  refine wp_seq_k (fun K1 hK1 => ?_)
  refine wp_reg ?_
  refine wpF_seg 1 (by kernel_rfl) ?_
  refine wpF_end _ (by kernel_rfl) (then_n (hK1 _ _ ?_))
  refine wp_seq_k (fun K2 hK2 => ?_)
  refine wp_reg ?_
  refine wpF_seg 3 (by kernel_rfl) ?_
  refine wpF_end _ (by kernel_rfl) (then_n (hK2 _ _ ?_))
  refine wp_seq_k (fun K3 hK3 => ?_)
  refine wp_block ?_
  refine wp_base [(1, .func (.func fidphi) #[] capsphi), (4, .int .i64 (0)), (5, .int .i64 (((0 : Nat) : Int))), (6, .int .i64 (((n : Nat) : Int)))] (by kernel_rfl) (fun g5 => ?_)
  refine wp_loopX (fun (x_ : Nat × Nat) a_ w_ => ∃ (g : Nat → Value) (V_ : VT), a_ = env [] 26 [(1, .func (.func fidphi) #[] capsphi), (4, .int .i64 (0)), (5, .int .i64 (((x_.1 : Nat) : Int))), (6, .int .i64 (((x_.2 : Nat) : Int)))] g ∧ Step V w [] V_ w_ [] ∧ VT.le V V_ ∧ (x_.1 ≤ x_.2 ∧ x_.2 ≤ n) ∧ (srch phi x_.1 x_.2 = srch phi 0 n)) (fun (x_ : Nat × Nat) => x_.2 - x_.1) ((0 : Nat), (n : Nat)) ⟨g5, V, rfl, hM0, VT.le.refl _, by omega, by rfl⟩ ?_
  rintro ⟨i, j⟩ a_ w7 ⟨g6, Vl4, rfl, hM8, le9, hi10_0, hi10_1⟩ K10 hK10
  refine wp_seq_k (fun K11 hK11 => ?_)
  refine wp_seq_k (fun K12 hK12 => ?_)
  refine wp_reg ?_
  refine wpF_seg 3 (by kernel_rfl) ?_
  refine wpF_end _ (by kernel_rfl) (then_n (hK12 _ _ ?_))
  refine wp_if (decide ((((i : Nat) : Int)) < (((j : Nat) : Int)))) (by kernel_rfl) (fun h13 => ?_) (fun h13 => ?_)
  · -- Lt
    have p14 : ((((i : Nat) : Int)) < (((j : Nat) : Int))) := of_decide_eq_true h13
    refine wp_skip (then_n (hK11 _ _ ?_))
    refine wp_block ?_
    refine wp_seq_k (fun K15 hK15 => ?_)
    refine wp_reg ?_
    refine wpF_seg 2 (by kernel_rfl) ?_
    refine gF hM8 (.binOp .add 3 (.tmp 12) (.tmp 13) 3) (some 14) (by kernel_rfl) (Y_add .i64 (((i : Nat) : Int)) (((j : Nat) : Int)) (((i : Nat) : Int) + ((j : Nat) : Int)) (by kernel_rfl) (by kernel_rfl) (wrap64_ok _ (by omega))) ?_
    refine gF hM8 (.convert 3 155 (.tmp 14)) (some 15) (by kernel_rfl) (Y_conv .i64 .i64 .u64 (((i : Nat) : Int) + ((j : Nat) : Int)) (((i : Nat) : Int) + ((j : Nat) : Int)) (by kernel_rfl) (by kernel_rfl) (by kernel_rfl) (wrapu64_ok _ (by omega))) ?_
    refine gF hM8 (.binOp .shr 155 (.tmp 15) (.const (.int .u64 1)) 155) (some 16) (by kernel_rfl) (Y_shr .u64 .u64 (((i : Nat) : Int) + ((j : Nat) : Int)) (1) ((((i : Nat) : Int) + ((j : Nat) : Int)) / 2) (by kernel_rfl) (by kernel_rfl) (by omega) (by rw [Int.fdiv_eq_ediv_of_nonneg _ (by decide)]; rfl)) ?_
    refine gF hM8 (.convert 155 3 (.tmp 16)) (some 17) (by kernel_rfl) (Y_conv .u64 .u64 .i64 ((((i : Nat) : Int) + ((j : Nat) : Int)) / 2) ((((i : Nat) : Int) + ((j : Nat) : Int)) / 2) (by kernel_rfl) (by kernel_rfl) (by kernel_rfl) (wrap64_ok _ (by omega))) ?_
    refine wpF_seg 1 (by kernel_rfl) ?_
    refine wpF_end _ (by kernel_rfl) (then_n (hK15 _ _ ?_))
    refine wp_seq_k (fun K16 hK16 => ?_)
    refine wp_reg ?_
    refine wpF_seg 2 (by kernel_rfl) ?_
    refine wpF_callP hM8 (f := fidphi) (caps := capsphi) (h := (by kernel_rfl : opAt _ _ _ _ _ = some (.call (.mk (.value (.tmp 18)) #[(.tmp 19)] #[3]), some 20))) (by kernel_rfl) hfidphi (by kernel_rfl) (hfphi _ _ hM8.le hM8.inW (((i : Nat) + (j : Nat)) / 2) (by omega)) (fun v17 V18 w19 le20 hM21 hp22 => ?_)
    obtain rfl := hp22
    refine wpF_seg 1 (by kernel_rfl) ?_
    refine wpF_end _ (by kernel_rfl) (then_n (hK16 _ _ ?_))
    refine wp_if (!(phi ((((i : Nat) + (j : Nat)) / 2)))) (by kernel_rfl) (fun h23 => ?_) (fun h23 => ?_)
    · -- Ltt
      have h24 : (phi ((((i : Nat) + (j : Nat)) / 2))) = false := by simpa using h23
      refine wp_reg ?_
      refine wpF_seg 1 (by kernel_rfl) ?_
      refine gF hM21 (.binOp .add 3 (.tmp 22) (.const (.int .i64 1)) 3) (some 23) (by kernel_rfl) (Y_add .i64 ((((i : Nat) : Int) + ((j : Nat) : Int)) / 2) (1) (((((i : Nat) : Int) + ((j : Nat) : Int)) / 2) + 1) (by kernel_rfl) (by kernel_rfl) (wrap64_ok _ (by omega))) ?_
      refine wpF_seg 1 (by kernel_rfl) ?_
      refine wpF_base [(1, .func (.func fidphi) #[] capsphi), (4, .int .i64 (0)), (5, .int .i64 ((((i + j) / 2 + 1 : Nat) : Int))), (6, .int .i64 (((j : Nat) : Int)))] (by kernel_rfl) (fun g25 => ?_)
      refine wpF_end _ (by kernel_rfl) (blk_n (then_n (hK10 _ _ ((i + j) / 2 + 1, j) (by omega) ?_)))
      refine ⟨g25, V18, rfl, hM21, hM21.le, ?_, ?_⟩
      · -- Ltt inv 0
        omega
      · -- Ltt inv 1
        rw [← (by assumption : srch phi i j = srch phi 0 n)]; exact srch_f (by omega) (by assumption)
    · -- Ltf
      have h26 : (phi ((((i : Nat) + (j : Nat)) / 2))) = true := by simpa using h23
      refine wp_reg ?_
      refine wpF_seg 2 (by kernel_rfl) ?_
      refine wpF_base [(1, .func (.func fidphi) #[] capsphi), (4, .int .i64 (0)), (5, .int .i64 (((i : Nat) : Int))), (6, .int .i64 ((((i + j) / 2 : Nat) : Int)))] (by kernel_rfl) (fun g27 => ?_)
      refine wpF_end _ (by kernel_rfl) (blk_n (then_n (hK10 _ _ (i, (i + j) / 2) (by omega) ?_)))
      refine ⟨g27, V18, rfl, hM21, hM21.le, ?_, ?_⟩
      · -- Ltf inv 0
        omega
      · -- Ltf inv 1
        rw [← (by assumption : srch phi i j = srch phi 0 n)]; exact srch_t (by omega) (by assumption)
  · -- Lf
    have p28 : ¬ ((((i : Nat) : Int)) < (((j : Nat) : Int))) := of_decide_eq_false h13
    refine wp_exit (then_x (then_x (blk_hit (then_n (hK3 _ _ ?_)))))
    refine wp_seq_k (fun K29 hK29 => ?_)
    refine wp_reg ?_
    refine wpF_seg 2 (by kernel_rfl) ?_
    refine wpF_end _ (by kernel_rfl) (then_n (hK29 _ _ ?_))
    refine wp_ret ?_
    refine retN [.int .i64 (((i : Nat) : Int))] (.int .i64 (((i : Nat) : Int))) Try.results142 (.tmp (by kernel_rfl) (by kernel_rfl) .nil) (by kernel_rfl) (hRet _ _ ⟨_, _, rfl, hM8.clear, ?_⟩)
    -- end Lf
    refine ⟨(i), ?_, ?_, ?_⟩
    · rfl
    · rw [← (by assumption : srch phi i j = srch phi 0 n), srch_end (by omega)]
    · first | assumption | omega

set_option maxHeartbeats 4000000 in
set_option maxRecDepth 100000 in
theorem f143 (V : VT) (w : World) (hV : V.inW w) (j : Nat) (Al : Option Addr) (cl : Nat) (l : List ((Int × Str × Bool))) (hl : Rd (prK (intK .i64) (prK strK boolK)) V Al cl l) (bl : Nat) (hbl : ∀ i_ v_, (#[.slice Al (l).length cl] : Array Value)[i_]? = some v_ → V bl i_ = some v_) (t : Int) (bt : Nat) (hbt : ∀ i_ v_, (#[.int .i64 (t)] : Array Value)[i_]? = some v_ → V bt i_ = some v_) (h1 : j < l.length) :
    Calls Try.prog 143 #[.int .i64 ((j : Int)), .pointer (some ⟨bl, 0, none⟩), .pointer (some ⟨bt, 0, none⟩)] w (RetP V w fun rv V' => rv = .bool (decide ((l.getD j (0, [], false)).1 ≤ t))) := by
  have mxl : l.length ≤ 140737488355328 := hl.max
  refine calls_env (n := 12) Try.func143 (c := _) rfl Try.ntmps143 (by kernel_rfl) (fun R hRet => ?_)
  have hM0 : Step V w [] V w [] := Step.refl (St.nilE hV)
  refine wp_seq_k (fun K1 hK1 => ?_)
  refine wp_reg ?_
  refine wpF_seg 1 (by kernel_rfl) ?_
  refine wpF_end _ (by kernel_rfl) (then_n (hK1 _ _ ?_))
  refine wp_seq_k (fun K2 hK2 => ?_)
  refine wp_base [(0, .int .i64 ((j : Int))), (1, .pointer (some ⟨bl, 0, none⟩)), (2, .pointer (some ⟨bt, 0, none⟩)), (4, .bool (false))] (by kernel_rfl) (fun g3 => ?_)
  refine wp_drawN hM0 [] no_held [] [0, 1, 2, 3, 4, 5, 6, 7] [] [.p 0, .p 1, .p 2, .p 3, .p 4, .p 5, .p 6, .p 7, .s] rfl (by kernel_rfl) (by kernel_rfl) ?_
  refine gH (.load 78 (.tmp 1)) (some 5) (by kernel_rfl) (Y_loadB #[.slice Al (l).length cl] hbl (off := 0) (by kernel_rfl) (.slice Al (l).length cl) (by kernel_rfl)) ?_
  refine h_seg 1 (by kernel_rfl) ?_
  refine gH_index (A := Al) (c := cl) hl .i64 ((j : Int)) (h := (by kernel_rfl : opAt _ _ _ _ _ = some (.indexAddr 78 (.tmp 5) (.tmp 6), some 7))) (e := 126) (by kernel_rfl) (by kernel_rfl) (by kernel_rfl) (j) rfl (by omega) (fun b4 o5 at_b4 => ?_)
  have c6 : V b4 o5 = some (.int .i64 (l.getD (j) (0, [], false)).1) := (At.int (At.pr at_b4).1).1
  have l7 : IntKind.i64.min ≤ (l.getD (j) (0, [], false)).1 ∧ (l.getD (j) (0, [], false)).1 ≤ IntKind.i64.max := (At.int (At.pr at_b4).1).2
  have c8 : V b4 (o5 + 1) = some (bs (l.getD (j) (0, [], false)).2.1) := (At.str (At.pr (At.pr at_b4).2).1).1
  have l9 : (l.getD (j) (0, [], false)).2.1.length ≤ 140737488355328 := (At.str (At.pr (At.pr at_b4).2).1).2
  have c10 : V b4 (o5 + 2) = some (.bool (l.getD (j) (0, [], false)).2.2) := At.bool (At.pr (At.pr at_b4).2).2
  refine h_seg 1 (by kernel_rfl) ?_
  refine gH (.load 3 (.tmp 8)) (some 9) (by kernel_rfl) (Y_loadV c6 (by kernel_rfl) (by kernel_rfl)) ?_
  refine gH (.load 3 (.tmp 2)) (some 10) (by kernel_rfl) (Y_loadB #[.int .i64 (t)] hbt (off := 0) (by kernel_rfl) (.int .i64 (t)) (by kernel_rfl)) ?_
  refine h_seg 2 (by kernel_rfl) ?_
  refine h_s no_fs ?_
  refine h_n (fun w11 hM12 => ?_)
  refine  (then_n (hK2 _ _ ?_))
  refine wp_ret ?_
  refine retN [.bool (decide (((l.getD (j) (0, [], false)).1) ≤ (t)))] (.bool (decide (((l.getD (j) (0, [], false)).1) ≤ (t)))) Try.results143 (.tmp (by kernel_rfl) (by kernel_rfl) .nil) (by kernel_rfl) (hRet _ _ ⟨_, _, rfl, hM12.clear, ?_⟩)
  -- end 
  rfl

set_option maxHeartbeats 4000000 in
set_option maxRecDepth 100000 in
theorem f123 (V : VT) (w : World) (hV : V.inW w) (Al : Option Addr) (cl : Nat) (l : List ((Int × Str × Bool))) (hl : Rd (prK (intK .i64) (prK strK boolK)) V Al cl l) (t : Int) (h1 : chnB l = true) :
    Calls Try.prog 123 #[.slice Al (l).length cl, .int .i64 (t)] w (RetP V w fun rv V' => rv = .int .i64 (((plc l t : Nat) : Int))) := by
  have mxl : l.length ≤ 140737488355328 := hl.max
  refine calls_env (n := 9) Try.func123 (c := _) rfl Try.ntmps123 (by kernel_rfl) (fun R hRet => ?_)
  have hM0 : Step V w [] V w [] := Step.refl (St.nilE hV)
  refine wp_seq_k (fun K1 hK1 => ?_)
  refine wp_reg ?_
  refine wpF_box hM0 #[.slice Al (l).length cl] (h := (by kernel_rfl : opAt _ _ _ _ _ = some (.box 78 (.tmp 0), some 2))) (by kernel_rfl) (fun b2 w3 hM4 => ?_)
  refine wpF_box hM4 #[.int .i64 (t)] (h := (by kernel_rfl : opAt _ _ _ _ _ = some (.box 3 (.tmp 1), some 3))) (by kernel_rfl) (fun b5 w6 hM7 => ?_)
  refine wpF_seg 1 (by kernel_rfl) ?_
  refine wpF_end _ (by kernel_rfl) (then_n (hK1 _ _ ?_))
  refine wp_seq_k (fun K8 hK8 => ?_)
  refine wp_reg ?_
  refine gF hM7 (.load 78 (.tmp 2)) (some 5) (by kernel_rfl) (Y_load 1 rfl (off := 0) (by kernel_rfl) (.slice Al (l).length cl) (by kernel_rfl)) ?_
  refine wpF_seg 1 (by kernel_rfl) ?_
  obtain ⟨V9, le10, hM11, hc12⟩ := hM7.settle 1 rfl
  have hM13 : Step V w [] V9 _ ([.blk b5 (.cells #[.int .i64 (t)] 3)]) := hM11
  obtain ⟨V14, le15, hM16, hc17⟩ := hM13.settle 0 rfl
  have hM18 : Step V w [] V14 _ ([]) := hM16
  refine wpF_seg 1 (by kernel_rfl) ?_
  refine wpF_callP hM18 (f := 142) (caps := #[]) (h := (by kernel_rfl : opAt _ _ _ _ _ = some (.call (.mk (.value (.func 142)) #[(.tmp 6), (.tmp 7)] #[3, 186]), some 8))) (by kernel_rfl) (by kernel_rfl) (by kernel_rfl) (f142 _ _ hM18.inW (l.length) 143 #[.pointer (some ⟨b2, 0, none⟩), .pointer (some ⟨b5, 0, none⟩)] (by kernel_rfl) (fun (y_ : Nat) => decide (((l).getD y_ (0, [], false)).1 ≤ (t))) (fun V_ w_ l_ i_ j_ hj_ => f143 V_ w_ i_ j_ Al cl (l) ((hl.up hM18.le).up l_) b2 (fun i_ v_ hi_ => l_ _ _ _ (le15 _ _ _ (hc12 i_ v_ hi_))) (t) b5 (fun i_ v_ hi_ => l_ _ _ _ (hc17 i_ v_ hi_)) (by omega)) (by omega)) (fun v19 V20 w21 le22 hM23 hp24 => ?_)
  obtain ⟨nr24_1, rfl, r25, x26⟩ := hp24
  have q27 : nr24_1 = srch (fun (y_ : Nat) => decide (((l).getD y_ (0, [], false)).1 ≤ (t))) 0 (l.length) := r25
  have x26 : nr24_1 ≤ (l.length) := x26
  refine wpF_seg 1 (by kernel_rfl) ?_
  refine wpF_end _ (by kernel_rfl) (then_n (hK8 _ _ ?_))
  refine wp_ret ?_
  refine retN [.int .i64 ((nr24_1 : Int))] (.int .i64 ((nr24_1 : Int))) Try.results123 (.tmp (by kernel_rfl) (by kernel_rfl) .nil) (by kernel_rfl) (hRet _ _ ⟨_, _, rfl, hM23.clear, ?_⟩)
  -- end 
  subst_vars; rw [plc_srch h1]

end Go.Vk
