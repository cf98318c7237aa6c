import Derived.Test.YtnibbocbefnnnaaRPlainSp
import Derived.Test.YtnibbocbefnnnaaRSa
set_option linter.unusedVariables false
set_option linter.unusedSimpArgs false
namespace Go.Vk
open Go.Proofs
variable {D : List Deferred}
set_option maxHeartbeats 4000000 in
set_option maxRecDepth 100000 in
theorem f90 (V : VT) (w : World) (hV : V.inW w) (Al : Option Addr) (cl : Nat) (l : List ((Int × Str × Bool))) (hl : Rd (prK (intK .i64) (prK strK boolK)) V Al cl l) (t : Int) :
    Calls Try.prog 90 #[.slice Al (l).length cl, .int .i64 (t)] w (RetP V w fun rv V' => rv = .bool (sncB l t)) := by
  have mxl : l.length ≤ 140737488355328 := hl.max
  refine calls_env (n := 14) Try.func90 (c := _) rfl Try.ntmps90 (by kernel_rfl) (fun R hRet => ?_)
  have hM0 : Step V w [] V w [] := Step.refl (St.nilE hV)
  refine wp_seq_k (fun K1 hK1 => ?_)
  refine wp_reg ?_
  refine wpF_seg 1 (by kernel_rfl) ?_
  refine wpF_end _ (by kernel_rfl) (then_n (hK1 _ _ ?_))
  refine wp_seq_k (fun K2 hK2 => ?_)
  refine wp_reg ?_
  refine wpF_seg 1 (by kernel_rfl) ?_
  refine wpF_callP hM0 (f := 116) (caps := #[]) (h := (by kernel_rfl : opAt _ _ _ _ _ = some (.call (.mk (.value (.func 116)) #[(.tmp 5)] #[78]), some 6))) (by kernel_rfl) (by kernel_rfl) (by kernel_rfl) (f116 _ _ hM0.inW Al cl (l) hl) (fun v3 V4 w5 le6 hM7 hp8 => ?_)
  obtain rfl := hp8
  refine wpF_seg 2 (by kernel_rfl) ?_
  refine wpF_caseB 8 (decide ((chnE (l)) = (0))) (by kernel_rfl) (by kernel_rfl) (fun h9 => ?_) (fun h9 => ?_)
  · -- t
    have p10 : ((chnE (l)) = (0)) := of_decide_eq_true h9
    have hb := chn_0 (by assumption : chnE l = 0)
    have hple := plc_le l t
    refine wpF_seg 2 (by kernel_rfl) ?_
    refine wpF_callP hM7 (f := 123) (caps := #[]) (h := (by kernel_rfl : opAt _ _ _ _ _ = some (.call (.mk (.value (.func 123)) #[(.tmp 9), (.tmp 10)] #[78, 3]), some 11))) (by kernel_rfl) (by kernel_rfl) (by kernel_rfl) (f123 _ _ hM7.inW Al cl (l) (hl.up hM7.le) (t) (by assumption)) (fun v11 V12 w13 le14 hM15 hp16 => ?_)
    obtain rfl := hp16
    refine wpF_seg 3 (by kernel_rfl) ?_
    refine wpF_end _ (by kernel_rfl) (then_n (hK2 _ _ ?_))
    refine wp_ret ?_
    refine retN [.bool (decide ((0) < (((plc (l) (t) : Nat) : Int))))] (.bool (decide ((0) < (((plc (l) (t) : Nat) : Int))))) Try.results90 (.tmp (by kernel_rfl) (by kernel_rfl) .nil) (by kernel_rfl) (hRet _ _ ⟨_, _, rfl, hM15.clear, ?_⟩)
    -- end t
    have hp : decide (0 < plc l t) = decide ((0 : Int) < ((plc l t : Nat) : Int)) := decide_eq_decide.2 (by omega)
    simp only [sncB, hb, hp, Bool.true_and] <;> rfl
  · -- f
    have p17 : ¬ ((chnE (l)) = (0)) := of_decide_eq_false h9
    have hb := chn_n (by assumption : ¬ chnE l = 0)
    refine wpF_seg 6 (by kernel_rfl) ?_
    refine wpF_end _ (by kernel_rfl) (then_n (hK2 _ _ ?_))
    refine wp_ret ?_
    refine retN [.bool (false)] (.bool (false)) Try.results90 (.tmp (by kernel_rfl) (by kernel_rfl) .nil) (by kernel_rfl) (hRet _ _ ⟨_, _, rfl, hM7.clear, ?_⟩)
    -- end f
    simp only [sncB, hb, Bool.false_and] <;> rfl

end Go.Vk
