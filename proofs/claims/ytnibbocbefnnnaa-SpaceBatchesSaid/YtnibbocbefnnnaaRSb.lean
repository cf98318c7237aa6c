import Derived.Test.YtnibbocbefnnnaaRPlainSp
import Derived.Test.YtnibbocbefnnnaaRSa
set_option linter.unusedVariables false
set_option linter.unusedSimpArgs false
namespace Go.Vk
open Go.Proofs
variable {D : List Deferred}
set_option maxHeartbeats 4000000 in
set_option maxRecDepth 100000 in
theorem f88 (V : VT) (w : World) (hV : V.inW w) (Al : Option Addr) (cl : Nat) (l : List ((Int × Str × Bool))) (hl : Rd (prK (intK .i64) (prK strK boolK)) V Al cl l) (t : Int) :
    Calls Try.prog 88 #[.slice Al (l).length cl, .int .i64 (t)] w (RetP V w fun rv V' => rv = .tuple #[bs (atS l t), .bool (atO l t)] ∧ (atS l t).length ≤ 140737488355328) := by
  have mxl : l.length ≤ 140737488355328 := hl.max
  refine calls_env (n := 28) Try.func88 (c := _) rfl Try.ntmps88 (by kernel_rfl) (fun R hRet => ?_)
  have hM0 : Step V w [] V w [] := Step.refl (St.nilE hV)
  refine wp_seq_k (fun K1 hK1 => ?_)
  refine wp_reg ?_
  refine wpF_seg 2 (by kernel_rfl) ?_
  refine wpF_end _ (by kernel_rfl) (then_n (hK1 _ _ ?_))
  refine wp_seq_k (fun K2 hK2 => ?_)
  refine wp_seq_k (fun K3 hK3 => ?_)
  refine wp_reg ?_
  refine wpF_seg 1 (by kernel_rfl) ?_
  refine wpF_callP hM0 (f := 116) (caps := #[]) (h := (by kernel_rfl : opAt _ _ _ _ _ = some (.call (.mk (.value (.func 116)) #[(.tmp 7)] #[78]), some 8))) (by kernel_rfl) (by kernel_rfl) (by kernel_rfl) (f116 _ _ hM0.inW Al cl (l) hl) (fun v4 V5 w6 le7 hM8 hp9 => ?_)
  obtain rfl := hp9
  refine wpF_seg 1 (by kernel_rfl) ?_
  refine wpF_end _ (by kernel_rfl) (then_n (hK3 _ _ ?_))
  refine wp_if (!(decide ((chnE (l)) = (0)))) (by kernel_rfl) (fun h10 => ?_) (fun h10 => ?_)
  · -- t
    have h11 : decide ((chnE (l)) = (0)) = false := by rw [← Bool.not_not (decide _), h10]; rfl
    have p12 : ¬ ((chnE (l)) = (0)) := of_decide_eq_false h11
    have hb := chn_n (by assumption : ¬ chnE l = 0)
    refine wp_seq_k (fun K13 hK13 => ?_)
    refine wp_reg ?_
    refine wpF_seg 2 (by kernel_rfl) ?_
    refine wpF_end _ (by kernel_rfl) (then_n (hK13 _ _ ?_))
    refine wp_ret (then_r (?_))
    refine retN [bs ([]), .bool (false)] (.tuple #[bs ([]), .bool (false)]) Try.results88 (.tmp (by kernel_rfl) (by kernel_rfl) (.tmp (by kernel_rfl) (by kernel_rfl) .nil)) (by kernel_rfl) (hRet _ _ ⟨_, _, rfl, hM8.clear, ?_⟩)
    -- end t
    refine ⟨?_, ?_⟩
    · first | (simp only [atS, atO, hb, Bool.false_and, cond_false] <;> rfl) | (have hd : decide (plc l t < l.length) = true := decide_eq_true (by omega)); (simp only [atS, atO, hb, hd, h10, h11, Bool.true_and, Bool.and_true, cond_true] <;> rfl) | (have hd : decide (plc l t < l.length) = false := decide_eq_false (by omega)); (simp only [atS, atO, hb, hd, Bool.and_false, Bool.false_and, cond_false] <;> rfl)
    · exact atS_len _ _
  · -- f
    have h14 : decide ((chnE (l)) = (0)) = true := by rw [← Bool.not_not (decide _), h10]; rfl
    have p15 : ((chnE (l)) = (0)) := of_decide_eq_true h14
    have hb := chn_0 (by assumption : chnE l = 0)
    have hple := plc_le l t
    refine wp_skip (then_n (hK2 _ _ ?_))
    refine wp_seq_k (fun K16 hK16 => ?_)
    refine wp_reg ?_
    refine wpF_seg 2 (by kernel_rfl) ?_
    refine wpF_callP hM8 (f := 123) (caps := #[]) (h := (by kernel_rfl : opAt _ _ _ _ _ = some (.call (.mk (.value (.func 123)) #[(.tmp 10), (.tmp 11)] #[78, 3]), some 12))) (by kernel_rfl) (by kernel_rfl) (by kernel_rfl) (f123 _ _ hM8.inW Al cl (l) (hl.up hM8.le) (t) (by assumption)) (fun v17 V18 w19 le20 hM21 hp22 => ?_)
    obtain rfl := hp22
    refine wpF_seg 1 (by kernel_rfl) ?_
    refine wpF_end _ (by kernel_rfl) (then_n (hK16 _ _ ?_))
    refine wp_seq_k (fun K23 hK23 => ?_)
    refine wp_seq_k (fun K24 hK24 => ?_)
    refine wp_reg ?_
    refine wpF_seg 4 (by kernel_rfl) ?_
    refine wpF_end _ (by kernel_rfl) (then_n (hK24 _ _ ?_))
    refine wp_if (decide ((((plc (l) (t) : Nat) : Int)) = ((l.length : Int)))) (by kernel_rfl) (fun h25 => ?_) (fun h25 => ?_)
    · -- ft
      have p26 : ((((plc (l) (t) : Nat) : Int)) = ((l.length : Int))) := of_decide_eq_true h25
      refine wp_seq_k (fun K27 hK27 => ?_)
      refine wp_reg ?_
      refine wpF_seg 2 (by kernel_rfl) ?_
      refine wpF_end _ (by kernel_rfl) (then_n (hK27 _ _ ?_))
      refine wp_ret (then_r (?_))
      refine retN [bs ([]), .bool (false)] (.tuple #[bs ([]), .bool (false)]) Try.results88 (.tmp (by kernel_rfl) (by kernel_rfl) (.tmp (by kernel_rfl) (by kernel_rfl) .nil)) (by kernel_rfl) (hRet _ _ ⟨_, _, rfl, hM21.clear, ?_⟩)
      -- end ft
      refine ⟨?_, ?_⟩
      · first | (simp only [atS, atO, hb, Bool.false_and, cond_false] <;> rfl) | (have hd : decide (plc l t < l.length) = true := decide_eq_true (by omega)); (simp only [atS, atO, hb, hd, h10, h14, h25, Bool.true_and, Bool.and_true, cond_true] <;> rfl) | (have hd : decide (plc l t < l.length) = false := decide_eq_false (by omega)); (simp only [atS, atO, hb, hd, Bool.and_false, Bool.false_and, cond_false] <;> rfl)
      · exact atS_len _ _
    · -- ff
      have p28 : ¬ ((((plc (l) (t) : Nat) : Int)) = ((l.length : Int))) := of_decide_eq_false h25
      refine wp_skip (then_n (hK23 _ _ ?_))
      refine wp_seq_k (fun K29 hK29 => ?_)
      refine wp_base [(0, .slice Al (l).length cl), (4, bs ([])), (5, .bool (false)), (6, .int .i64 (((plc (l) (t) : Nat) : Int)))] (by kernel_rfl) (fun g30 => ?_)
      refine wp_drawN hM21 [] no_held [] [0, 1, 2, 3, 4, 5, 6, 7, 8, 9, 10, 11, 12] [] [.p 0, .p 1, .p 2, .p 3, .p 4, .p 5, .p 6, .p 7, .p 8, .p 9, .p 10, .p 11, .p 12, .s] rfl (by kernel_rfl) (by kernel_rfl) ?_
      refine h_seg 2 (by kernel_rfl) ?_
      refine gH_index (A := Al) (c := cl) (hl.up hM21.le) .i64 (((plc (l) (t) : Nat) : Int)) (h := (by kernel_rfl : opAt _ _ _ _ _ = some (.indexAddr 78 (.tmp 17) (.tmp 18), some 19))) (e := 126) (by kernel_rfl) (by kernel_rfl) (by kernel_rfl) ((plc (l) (t))) (by omega) (by omega) (fun b31 o32 at_b31 => ?_)
      have c33 : V18 b31 o32 = some (.int .i64 (l.getD ((plc (l) (t))) (0, [], false)).1) := (At.int (At.pr at_b31).1).1
      have l34 : IntKind.i64.min ≤ (l.getD ((plc (l) (t))) (0, [], false)).1 ∧ (l.getD ((plc (l) (t))) (0, [], false)).1 ≤ IntKind.i64.max := (At.int (At.pr at_b31).1).2
      have c35 : V18 b31 (o32 + 1) = some (bs (l.getD ((plc (l) (t))) (0, [], false)).2.1) := (At.str (At.pr (At.pr at_b31).2).1).1
      have l36 : (l.getD ((plc (l) (t))) (0, [], false)).2.1.length ≤ 140737488355328 := (At.str (At.pr (At.pr at_b31).2).1).2
      have c37 : V18 b31 (o32 + 2) = some (.bool (l.getD ((plc (l) (t))) (0, [], false)).2.2) := At.bool (At.pr (At.pr at_b31).2).2
      refine h_seg 1 (by kernel_rfl) ?_
      refine gH (.load 9 (.tmp 20)) (some 21) (by kernel_rfl) (Y_loadV c35 (by kernel_rfl) (by kernel_rfl)) ?_
      refine h_seg 2 (by kernel_rfl) ?_
      refine gH_index (A := Al) (c := cl) (hl.up hM21.le) .i64 (((plc (l) (t) : Nat) : Int)) (h := (by kernel_rfl : opAt _ _ _ _ _ = some (.indexAddr 78 (.tmp 22) (.tmp 23), some 24))) (e := 126) (by kernel_rfl) (by kernel_rfl) (by kernel_rfl) ((plc (l) (t))) (by omega) (by omega) (fun b38 o39 at_b38 => ?_)
      have c40 : V18 b38 o39 = some (.int .i64 (l.getD ((plc (l) (t))) (0, [], false)).1) := (At.int (At.pr at_b38).1).1
      have l41 : IntKind.i64.min ≤ (l.getD ((plc (l) (t))) (0, [], false)).1 ∧ (l.getD ((plc (l) (t))) (0, [], false)).1 ≤ IntKind.i64.max := (At.int (At.pr at_b38).1).2
      have c42 : V18 b38 (o39 + 1) = some (bs (l.getD ((plc (l) (t))) (0, [], false)).2.1) := (At.str (At.pr (At.pr at_b38).2).1).1
      have l43 : (l.getD ((plc (l) (t))) (0, [], false)).2.1.length ≤ 140737488355328 := (At.str (At.pr (At.pr at_b38).2).1).2
      have c44 : V18 b38 (o39 + 2) = some (.bool (l.getD ((plc (l) (t))) (0, [], false)).2.2) := At.bool (At.pr (At.pr at_b38).2).2
      refine h_seg 1 (by kernel_rfl) ?_
      refine gH (.load 4 (.tmp 25)) (some 26) (by kernel_rfl) (Y_loadV c44 (by kernel_rfl) (by kernel_rfl)) ?_
      refine h_seg 3 (by kernel_rfl) ?_
      refine h_s no_fs ?_
      refine h_n (fun w45 hM46 => ?_)
      refine  (then_n (hK29 _ _ ?_))
      refine wp_ret ?_
      refine retN [bs ((l.getD ((plc (l) (t))) (0, [], false)).2.1), .bool (!((l.getD ((plc (l) (t))) (0, [], false)).2.2))] (.tuple #[bs ((l.getD ((plc (l) (t))) (0, [], false)).2.1), .bool (!((l.getD ((plc (l) (t))) (0, [], false)).2.2))]) Try.results88 (.tmp (by kernel_rfl) (by kernel_rfl) (.tmp (by kernel_rfl) (by kernel_rfl) .nil)) (by kernel_rfl) (hRet _ _ ⟨_, _, rfl, hM46.clear, ?_⟩)
      -- end ff
      refine ⟨?_, ?_⟩
      · first | (simp only [atS, atO, hb, Bool.false_and, cond_false] <;> rfl) | (have hd : decide (plc l t < l.length) = true := decide_eq_true (by omega)); (simp only [atS, atO, hb, hd, h10, h14, h25, Bool.true_and, Bool.and_true, cond_true] <;> rfl) | (have hd : decide (plc l t < l.length) = false := decide_eq_false (by omega)); (simp only [atS, atO, hb, hd, Bool.and_false, Bool.false_and, cond_false] <;> rfl)
      · exact atS_len _ _

set_option maxHeartbeats 4000000 in
set_option maxRecDepth 100000 in
theorem f90 (V : VT) (w : World) (hV : V.inW w) (Al : Option Addr) (cl : Nat) (l : List ((Int × Str × Bool))) (hl : Rd (prK (intK .i64) (prK strK boolK)) V Al cl l) (t : Int) :
    Calls Try.prog 90 #[.slice Al (l).length cl, .int .i64 (t)] w (RetP V w fun rv V' => rv = .bool (sncB l t)) := by
  have mxl : l.length ≤ 140737488355328 := hl.max
  refine calls_env (n := 14) Try.func90 (c := _) rfl Try.ntmps90 (by kernel_rfl) (fun R hRet => ?_)
  have hM0 : Step V w [] V w [] := Step.refl (St.nilE hV)
  refine wp_seq_k (fun K1 hK1 => ?_)
  refine wp_reg ?_
  refine wpF_seg 1 (by kernel_rfl) ?_
  refine wpF_end _ (by kernel_rfl) (then_n (hK1 _ _ ?_))
  refine wp_seq_k (fun K2 hK2 => ?_)
  refine wp_reg ?_
  refine wpF_seg 1 (by kernel_rfl) ?_
  refine wpF_callP hM0 (f := 116) (caps := #[]) (h := (by kernel_rfl : opAt _ _ _ _ _ = some (.call (.mk (.value (.func 116)) #[(.tmp 5)] #[78]), some 6))) (by kernel_rfl) (by kernel_rfl) (by kernel_rfl) (f116 _ _ hM0.inW Al cl (l) hl) (fun v3 V4 w5 le6 hM7 hp8 => ?_)
  obtain rfl := hp8
  refine wpF_seg 2 (by kernel_rfl) ?_
  refine wpF_caseB 8 (decide ((chnE (l)) = (0))) (by kernel_rfl) (by kernel_rfl) (fun h9 => ?_) (fun h9 => ?_)
  · -- t
    have p10 : ((chnE (l)) = (0)) := of_decide_eq_true h9
    have hb := chn_0 (by assumption : chnE l = 0)
    have hple := plc_le l t
    refine wpF_seg 2 (by kernel_rfl) ?_
    refine wpF_callP hM7 (f := 123) (caps := #[]) (h := (by kernel_rfl : opAt _ _ _ _ _ = some (.call (.mk (.value (.func 123)) #[(.tmp 9), (.tmp 10)] #[78, 3]), some 11))) (by kernel_rfl) (by kernel_rfl) (by kernel_rfl) (f123 _ _ hM7.inW Al cl (l) (hl.up hM7.le) (t) (by assumption)) (fun v11 V12 w13 le14 hM15 hp16 => ?_)
    obtain rfl := hp16
    refine wpF_seg 3 (by kernel_rfl) ?_
    refine wpF_end _ (by kernel_rfl) (then_n (hK2 _ _ ?_))
    refine wp_ret ?_
    refine retN [.bool (decide ((0) < (((plc (l) (t) : Nat) : Int))))] (.bool (decide ((0) < (((plc (l) (t) : Nat) : Int))))) Try.results90 (.tmp (by kernel_rfl) (by kernel_rfl) .nil) (by kernel_rfl) (hRet _ _ ⟨_, _, rfl, hM15.clear, ?_⟩)
    -- end t
    have hp : decide (0 < plc l t) = decide ((0 : Int) < ((plc l t : Nat) : Int)) := decide_eq_decide.2 (by omega)
    simp only [sncB, hb, hp, Bool.true_and] <;> rfl
  · -- f
    have p17 : ¬ ((chnE (l)) = (0)) := of_decide_eq_false h9
    have hb := chn_n (by assumption : ¬ chnE l = 0)
    refine wpF_seg 6 (by kernel_rfl) ?_
    refine wpF_end _ (by kernel_rfl) (then_n (hK2 _ _ ?_))
    refine wp_ret ?_
    refine retN [.bool (false)] (.bool (false)) Try.results90 (.tmp (by kernel_rfl) (by kernel_rfl) .nil) (by kernel_rfl) (hRet _ _ ⟨_, _, rfl, hM7.clear, ?_⟩)
    -- end f
    simp only [sncB, hb, Bool.false_and] <;> rfl

end Go.Vk
