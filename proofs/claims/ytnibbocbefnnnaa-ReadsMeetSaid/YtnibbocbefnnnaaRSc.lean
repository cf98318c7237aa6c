import Derived.Test.YtnibbocbefnnnaaRPlainSp
set_option linter.unusedVariables false
set_option linter.unusedSimpArgs false
namespace Go.Vk
open Go.Proofs
variable {D : List Deferred}
set_option maxHeartbeats 4000000 in
set_option maxRecDepth 100000 in
theorem f79 (V : VT) (w : World) (hV : V.inW w) (Al : Option Addr) (cl : Nat) (l : List ((Int × Str × Bool))) (hl : Rd (prK (intK .i64) (prK strK boolK)) V Al cl l) (h5 : l.length ≤ 4398046511104) :
    Calls Try.prog 79 #[.slice Al (l).length cl] w (RetP V w fun rv V' => ∃ (A1 : Option Addr), ∃ (c1 : Nat), rv = .slice A1 (l).length c1 ∧ Rd (prK (intK .i64) (prK strK boolK)) V' A1 c1 (l)) := by
  have mxl : l.length ≤ 140737488355328 := hl.max
  refine calls_env (n := 8) Try.func79 (c := _) rfl Try.ntmps79 (by kernel_rfl) (fun R hRet => ?_)
  have hM0 : Step V w [] V w [] := Step.refl (St.nilE hV)
  refine wp_seq_k (fun K1 hK1 => ?_)
  refine wp_reg ?_
  refine wpF_seg 1 (by kernel_rfl) ?_
  refine wpF_end _ (by kernel_rfl) (then_n (hK1 _ _ ?_))
  refine wp_seq_k (fun K2 hK2 => ?_)
  refine wp_seq_k (fun K3 hK3 => ?_)
  refine wp_reg ?_
  refine wpF_seg 1 (by kernel_rfl) ?_
  refine gF hM0 (.binOp .eql 78 (.tmp 3) (.const (.slice none 0 0)) 78) (some 4) (by kernel_rfl) (Y_eql (.slice Al (l).length cl) (.slice none 0 0) (Al.isNone) (by kernel_rfl) (by kernel_rfl) (by kernel_rfl)) ?_
  refine wpF_end _ (by kernel_rfl) (then_n (hK3 _ _ ?_))
  refine wp_if (Al.isNone) (by kernel_rfl) (fun h4 => ?_) (fun h4 => ?_)
  · -- t
    have e0 : l = [] := Rd.isNil hl (by assumption)
    refine wp_seq_k (fun K5 hK5 => ?_)
    refine wp_reg ?_
    refine wpF_seg 1 (by kernel_rfl) ?_
    refine wpF_end _ (by kernel_rfl) (then_n (hK5 _ _ ?_))
    refine wp_ret (then_r (?_))
    refine retN [.slice none 0 0] (.slice none 0 0) Try.results79 (.tmp (by kernel_rfl) (by kernel_rfl) .nil) (by kernel_rfl) (hRet _ _ ⟨_, _, rfl, hM0.clear, ?_⟩)
    -- end t
    refine ⟨none, 0, ?_, ?_⟩
    · first | rfl | (rw [e0]; rfl)
    · first | exact (Rd.nil _ _) | (exact Rd.eq (Rd.nil _ _) (by first | rfl | (rw [e0])))
  · -- f
    refine wp_skip (then_n (hK2 _ _ ?_))
    refine wp_seq_k (fun K6 hK6 => ?_)
    refine wp_reg ?_
    refine wpF_litW (prK (intK .i64) (prK strK boolK)) hM0 #[] (h := (by kernel_rfl : opAt _ _ _ _ _ = some (.buildSlice 78 0 #[], some 5))) (e := 126) (by kernel_rfl) (([] : List ((Int × Str × Bool)))) Reps.nils rfl (by simp [maxL]) (fun A7 c8 w9 hM10 => ?_)
    refine wpF_seg 1 (by kernel_rfl) ?_
    refine wpF_append (by_ := 32) hM10 0 rfl (h := (by kernel_rfl : opAt _ _ _ _ _ = some (.call (.mk (.builtin .append) #[(.tmp 5), (.tmp 6)] #[78, 78]), some 7))) (by kernel_rfl) (by kernel_rfl) (by kernel_rfl) (by kernel_rfl) (by kernel_rfl) (by kernel_rfl) (by kernel_rfl) (Src.rd hl) (by first | omega | (simp only [List.length_append, List.length_cons, List.length_nil]; omega)) (fun A11 c12 w13 hM14 => ?_)
    have hM15 : Step V w [] V _ ([.row (prK (intK .i64) (prK strK boolK)) 126 A11 c12 (l)]) := hM14
    refine wpF_seg 1 (by kernel_rfl) ?_
    refine wpF_end _ (by kernel_rfl) (then_n (hK6 _ _ ?_))
    refine wp_ret ?_
    obtain ⟨V16, le17, hM18, r19⟩ := hM15.settleRow 0 rfl
    have hM20 : Step V w [] V16 _ ([]) := hM18
    refine retN [.slice A11 (l).length c12] (.slice A11 (l).length c12) Try.results79 (.tmp (by kernel_rfl) (by kernel_rfl) .nil) (by kernel_rfl) (hRet _ _ ⟨_, _, rfl, hM20.clear, ?_⟩)
    -- end f
    refine ⟨A11, c12, ?_, ?_⟩
    · first | rfl | (rw [e0]; rfl)
    · first | exact r19 | (exact Rd.eq r19 (by first | rfl | (rw [e0])))

end Go.Vk
