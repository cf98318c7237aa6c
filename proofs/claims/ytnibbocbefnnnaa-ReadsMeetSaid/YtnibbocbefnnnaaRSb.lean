import Derived.Test.YtnibbocbefnnnaaRPlainSp
import Derived.Test.YtnibbocbefnnnaaRSa
set_option linter.unusedVariables false
set_option linter.unusedSimpArgs false
namespace Go.Vk
open Go.Proofs
variable {D : List Deferred}
set_option maxHeartbeats 4000000 in
set_option maxRecDepth 100000 in
theorem f90 (V : VT) (w : World) (hV : V.inW w) (Al : Option Addr) (cl : Nat) (l : List ((Int × Str × Bool))) (hl : Rd (prK (intK .i64) (prK strK boolK)) V Al cl l) (t : Int) :
    Calls Try.prog 90 #[.slice Al (l).length cl, .int .i64 (t)] w (RetP V w fun rv V' => rv = .bool (sncB l t)) := by
  have mxl : l.length ≤ 140737488355328 := hl.max
  refine calls_env (n := 14) Try.func90 (c := _) rfl Try.ntmps90 (by kernel_rfl) (fun R hRet => ?_)
  have hM0 : Step V w [] V w [] := Step.refl (St.nilE hV)
  refine wp_seq_k (fun K1 hK1 => ?_)
  refine wp_reg ?_
  refine wpF_seg 1 (by kernel_rfl) ?_
  refine wpF_end _ (by kernel_rfl) (then_n (hK1 _ _ ?_))
  refine wp_seq_k (fun K2 hK2 => ?_)
  refine wp_reg ?_
  refine wpF_seg 1 (by kernel_rfl) ?_
  refine wpF_callP hM0 (f := 116) (caps := #[]) (h := (by kernel_rfl : opAt _ _ _ _ _ = some (.call (.mk (.value (.func 116)) #[(.tmp 5)] #[78]), some 6))) (by kernel_rfl) (by kernel_rfl) (by kernel_rfl) (f116 _ _ hM0.inW Al cl (l) hl) (fun v3 V4 w5 le6 hM7 hp8 => ?_)
  obtain rfl := hp8
  refine wpF_seg 2 (by kernel_rfl) ?_
  refine wpF_caseB 8 (decide ((chnE (l)) = (0))) (by kernel_rfl) (by kernel_rfl) (fun h9 => ?_) (fun h9 => ?_)
  · -- t
    have p10 : ((chnE (l)) = (0)) := of_decide_eq_true h9
    have hb := chn_0 (by assumption : chnE l = 0)
    have hple := plc_le l t
    refine wpF_seg 2 (by kernel_rfl) ?_
    refine wpF_callP hM7 (f := 123) (caps := #[]) (h := (by kernel_rfl : opAt _ _ _ _ _ = some (.call (.mk (.value (.func 123)) #[(.tmp 9), (.tmp 10)] #[78, 3]), some 11))) (by kernel_rfl) (by kernel_rfl) (by kernel_rfl) (f123 _ _ hM7.inW Al cl (l) (hl.up hM7.le) (t) (by assumption)) (fun v11 V12 w13 le14 hM15 hp16 => ?_)
    obtain rfl := hp16
    refine wpF_seg 3 (by kernel_rfl) ?_
    refine wpF_end _ (by kernel_rfl) (then_n (hK2 _ _ ?_))
    refine wp_ret ?_
    refine retN [.bool (decide ((0) < (((plc (l) (t) : Nat) : Int))))] (.bool (decide ((0) < (((plc (l) (t) : Nat) : Int))))) Try.results90 (.tmp (by kernel_rfl) (by kernel_rfl) .nil) (by kernel_rfl) (hRet _ _ ⟨_, _, rfl, hM15.clear, ?_⟩)
    -- end t
    have hp : decide (0 < plc l t) = decide ((0 : Int) < ((plc l t : Nat) : Int)) := decide_eq_decide.2 (by omega)
    simp only [sncB, hb, hp, Bool.true_and] <;> rfl
  · -- f
    have p17 : ¬ ((chnE (l)) = (0)) := of_decide_eq_false h9
    have hb := chn_n (by assumption : ¬ chnE l = 0)
    refine wpF_seg 6 (by kernel_rfl) ?_
    refine wpF_end _ (by kernel_rfl) (then_n (hK2 _ _ ?_))
    refine wp_ret ?_
    refine retN [.bool (false)] (.bool (false)) Try.results90 (.tmp (by kernel_rfl) (by kernel_rfl) .nil) (by kernel_rfl) (hRet _ _ ⟨_, _, rfl, hM7.clear, ?_⟩)
    -- end f
    simp only [sncB, hb, Bool.false_and] <;> rfl

set_option maxHeartbeats 4000000 in
set_option maxRecDepth 100000 in
theorem f118 (V : VT) (w : World) (hV : V.inW w) (Al : Option Addr) (cl : Nat) (l : List ((Int × Str × Bool))) (hl : Rd (prK (intK .i64) (prK strK boolK)) V Al cl l) (t : Int) :
    Calls Try.prog 118 #[.slice Al (l).length cl, .int .i64 (t)] w (RetP V w fun rv V' => rv = .bool (sncB l t)) := by
  have mxl : l.length ≤ 140737488355328 := hl.max
  refine calls_env (n := 20) Try.func118 (c := _) rfl Try.ntmps118 (by kernel_rfl) (fun R hRet => ?_)
  have hM0 : Step V w [] V w [] := Step.refl (St.nilE hV)
  refine wp_seq_k (fun K1 hK1 => ?_)
  refine wp_reg ?_
  refine wpF_seg 1 (by kernel_rfl) ?_
  refine wpF_end _ (by kernel_rfl) (then_n (hK1 _ _ ?_))
  refine wp_seq_k (fun K2 hK2 => ?_)
  refine wp_reg ?_
  refine wpF_seg 1 (by kernel_rfl) ?_
  refine wpF_callP hM0 (f := 76) (caps := #[]) (h := (by kernel_rfl : opAt _ _ _ _ _ = some (.call (.mk (.value (.func 76)) #[(.tmp 5)] #[78]), some 6))) (by kernel_rfl) (by kernel_rfl) (by kernel_rfl) (f76 _ _ hM0.inW Al cl (l) hl) (fun v3 V4 w5 le6 hM7 hp8 => ?_)
  obtain rfl := hp8
  refine wpF_seg 1 (by kernel_rfl) ?_
  refine wpF_caseB 7 (chnB (l)) (by kernel_rfl) (by kernel_rfl) (fun h9 => ?_) (fun h9 => ?_)
  · -- t
    have hb := (by assumption : chnB l = true)
    refine wpF_seg 5 (by kernel_rfl) ?_
    refine wpF_caseB 12 (decide ((0) < ((l.length : Int)))) (by kernel_rfl) (by kernel_rfl) (fun h10 => ?_) (fun h10 => ?_)
    · -- tt
      have p11 : ((0) < ((l.length : Int))) := of_decide_eq_true h10
      refine wpF_seg 1 (by kernel_rfl) ?_
      refine gF_index (A := Al) (c := cl) (hl.up hM7.le) .i64 (0) (h := (by kernel_rfl : opAt _ _ _ _ _ = some (.indexAddr 78 (.tmp 13) (.const (.int .i64 0)), some 14))) (e := 126) (by kernel_rfl) (by kernel_rfl) (by kernel_rfl) (0) (by omega) (by omega) (fun b12 o13 at_b12 => ?_)
      have c14 : V4 b12 o13 = some (.int .i64 (l.getD (0) (0, [], false)).1) := (At.int (At.pr at_b12).1).1
      have l15 : IntKind.i64.min ≤ (l.getD (0) (0, [], false)).1 ∧ (l.getD (0) (0, [], false)).1 ≤ IntKind.i64.max := (At.int (At.pr at_b12).1).2
      have c16 : V4 b12 (o13 + 1) = some (bs (l.getD (0) (0, [], false)).2.1) := (At.str (At.pr (At.pr at_b12).2).1).1
      have l17 : (l.getD (0) (0, [], false)).2.1.length ≤ 140737488355328 := (At.str (At.pr (At.pr at_b12).2).1).2
      have c18 : V4 b12 (o13 + 2) = some (.bool (l.getD (0) (0, [], false)).2.2) := At.bool (At.pr (At.pr at_b12).2).2
      refine wpF_seg 1 (by kernel_rfl) ?_
      refine gF hM7 (.load 3 (.tmp 15)) (some 16) (by kernel_rfl) (Y_loadV c14 (by kernel_rfl) (by kernel_rfl)) ?_
      refine wpF_seg 4 (by kernel_rfl) ?_
      refine wpF_end _ (by kernel_rfl) (then_n (hK2 _ _ ?_))
      refine wp_ret ?_
      refine retN [.bool (decide ((t) < ((l.getD (0) (0, [], false)).1)))] (.bool (decide ((t) < ((l.getD (0) (0, [], false)).1)))) Try.results118 (.tmp (by kernel_rfl) (by kernel_rfl) .nil) (by kernel_rfl) (hRet _ _ ⟨_, _, rfl, hM7.clear, ?_⟩)
      -- end tt
      rw [snc_0 hb, decide_eq_true (by omega : 0 < l.length), Bool.true_and]
    · -- tf
      have p19 : ¬ ((0) < ((l.length : Int))) := of_decide_eq_false h10
      refine wpF_seg 8 (by kernel_rfl) ?_
      refine wpF_end _ (by kernel_rfl) (then_n (hK2 _ _ ?_))
      refine wp_ret ?_
      refine retN [.bool (false)] (.bool (false)) Try.results118 (.tmp (by kernel_rfl) (by kernel_rfl) .nil) (by kernel_rfl) (hRet _ _ ⟨_, _, rfl, hM7.clear, ?_⟩)
      -- end tf
      rw [snc_0 hb, decide_eq_false (by omega : ¬ 0 < l.length), Bool.false_and]
  · -- f
    have hb := (by assumption : chnB l = false)
    refine wpF_seg 13 (by kernel_rfl) ?_
    refine wpF_end _ (by kernel_rfl) (then_n (hK2 _ _ ?_))
    refine wp_ret ?_
    refine retN [.bool (false)] (.bool (false)) Try.results118 (.tmp (by kernel_rfl) (by kernel_rfl) .nil) (by kernel_rfl) (hRet _ _ ⟨_, _, rfl, hM7.clear, ?_⟩)
    -- end f
    simp only [sncB, hb, Bool.false_and] <;> rfl

end Go.Vk
