/- Contracts of the page's functions, part F: printed by wip/tools/p8.py. -/
import Derived.Test.YtpaljghjoajhfaaRPlain
set_option linter.unusedVariables false
set_option linter.unusedSimpArgs false
namespace Go.Vk
open Go.Proofs
set_option maxHeartbeats 4000000 in
set_option maxRecDepth 100000 in
theorem f49 (V : VT) (w : World) (hV : V.inW w) (a : Str) (ha : a.length ≤ maxL) (b : Str) (hb : b.length ≤ maxL) :
    Calls Try.prog 49 #[bs (a), bs (b)] w (RetP V w fun rv V' => rv = .bool (decide (a < b))) := by
  have mxa : a.length ≤ 140737488355328 := ha
  have mxb : b.length ≤ 140737488355328 := hb
  refine calls_env (n := 37) Try.func49 (c := _) rfl Try.ntmps49 (by kernel_rfl) (fun R hRet => ?_)
  have hM0 : Step V w [] V w [] := Step.refl (St.nilE hV)
  refine wp_seq_k (fun K1 hK1 => ?_)
  refine wp_reg ?_
  refine wpF_seg 1 (by kernel_rfl) ?_
  refine wpF_end _ (by kernel_rfl) (then_n (hK1 _ _ ?_))
  refine wp_seq_k (fun K2 hK2 => ?_)
  refine wp_seq_k (fun K3 hK3 => ?_)
  refine wp_reg ?_
  refine wpF_seg 1 (by kernel_rfl) ?_
  refine wpF_end _ (by kernel_rfl) (then_n (hK3 _ _ ?_))
  refine wp_block ?_
  refine wp_base [(0, bs (a)), (1, bs (b)), (5, .int .i64 ((0 : Int)))] (by kernel_rfl) (fun g5 => ?_)
  refine wp_loopX (fun (x_ : Nat) a_ w_ => ∃ (g : Nat → Value) (V_ : VT), a_ = env 37 [(0, bs (a)), (1, bs (b)), (5, .int .i64 ((x_ : Int)))] g ∧ Step V w [] V_ w_ [] ∧ VT.le V V_ ∧ (x_ ≤ a.length ∧ x_ ≤ b.length) ∧ (∀ j, j < x_ → a.getD j 0 = b.getD j 0)) (fun (x_ : Nat) => a.length - x_) (0) ⟨g5, V, rfl, hM0, VT.le.refl _, by omega, by (intro j hj; omega)⟩ ?_
  rintro k a_ w7 ⟨g6, Vl4, rfl, hM8, le9, hi10_0, hi10_1⟩ K10 hK10
  refine wp_seq_k (fun K11 hK11 => ?_)
  refine wp_seq_k (fun K12 hK12 => ?_)
  refine wp_reg ?_
  refine wpF_seg 5 (by kernel_rfl) ?_
  refine wpF_caseB 10 (decide (((k : Int)) < ((a.length : Int)))) (by kernel_rfl) (by kernel_rfl) (fun h13 => ?_) (fun h13 => ?_)
  · -- Lt
    have p14 : (((k : Int)) < ((a.length : Int))) := of_decide_eq_true h13
    refine wpF_seg 5 (by kernel_rfl) ?_
    refine wpF_end _ (by kernel_rfl) (then_n (hK12 _ _ ?_))
    refine wp_if (decide (((k : Int)) < ((b.length : Int)))) (by kernel_rfl) (fun h15 => ?_) (fun h15 => ?_)
    · -- Ltt
      have p16 : (((k : Int)) < ((b.length : Int))) := of_decide_eq_true h15
      refine wp_skip (then_n (hK11 _ _ ?_))
      refine wp_seq_k (fun K17 hK17 => ?_)
      refine wp_block ?_
      refine wp_seq_k (fun K18 hK18 => ?_)
      refine wp_base [(0, bs (a)), (1, bs (b)), (5, .int .i64 ((k : Int))), (6, .int .i64 ((k : Int))), (7, bs (a)), (8, .int .i64 ((a.length : Int))), (9, .bool (decide (((k : Int)) < ((a.length : Int))))), (10, .bool (true)), (11, .int .i64 ((k : Int))), (12, bs (b)), (13, .int .i64 ((b.length : Int))), (14, .bool (decide (((k : Int)) < ((b.length : Int))))), (15, .bool (decide (((k : Int)) < ((b.length : Int)))))] (by kernel_rfl) (fun g19 => ?_)
      refine wp_drawN hM8 [] no_held [] [0, 1, 2, 3, 4, 5, 6] [] [.p 0, .p 1, .p 2, .p 3, .p 4, .p 5, .p 6, .s] rfl (by kernel_rfl) (by kernel_rfl) ?_
      refine h_seg 2 (by kernel_rfl) ?_
      refine gH (.index 9 (.tmp 18) (.tmp 19)) (some 20) (by kernel_rfl) (Y_strIndex (a) .i64 ((k : Int)) (by kernel_rfl) (by kernel_rfl) (by kernel_rfl) (k) rfl (by omega)) ?_
      refine h_seg 2 (by kernel_rfl) ?_
      refine gH (.index 9 (.tmp 21) (.tmp 22)) (some 23) (by kernel_rfl) (Y_strIndex (b) .i64 ((k : Int)) (by kernel_rfl) (by kernel_rfl) (by kernel_rfl) (k) rfl (by omega)) ?_
      refine h_seg 1 (by kernel_rfl) ?_
      refine h_s no_fs ?_
      refine h_n (fun w20 hM21 => ?_)
      refine  (then_n (hK18 _ _ ?_))
      refine wp_if (!(decide ((((a.getD (k) 0).toNat : Int)) = (((b.getD (k) 0).toNat : Int))))) (by kernel_rfl) (fun h22 => ?_) (fun h22 => ?_)
      · -- Lttt
        have h23 : decide ((((a.getD (k) 0).toNat : Int)) = (((b.getD (k) 0).toNat : Int))) = false := by rw [← Bool.not_not (decide _), h22]; rfl
        have p24 : ¬ ((((a.getD (k) 0).toNat : Int)) = (((b.getD (k) 0).toNat : Int))) := of_decide_eq_false h23
        refine wp_seq_k (fun K25 hK25 => ?_)
        refine wp_base [(0, bs (a)), (1, bs (b)), (5, .int .i64 ((k : Int))), (6, .int .i64 ((k : Int))), (7, bs (a)), (8, .int .i64 ((a.length : Int))), (9, .bool (decide (((k : Int)) < ((a.length : Int))))), (10, .bool (true)), (11, .int .i64 ((k : Int))), (12, bs (b)), (13, .int .i64 ((b.length : Int))), (14, .bool (decide (((k : Int)) < ((b.length : Int))))), (15, .bool (decide (((k : Int)) < ((b.length : Int))))), (18, bs (a)), (19, .int .i64 ((k : Int))), (20, .int .u8 (((a.getD (k) 0).toNat : Int))), (21, bs (b)), (22, .int .i64 ((k : Int))), (23, .int .u8 (((b.getD (k) 0).toNat : Int))), (24, .bool (!(decide ((((a.getD (k) 0).toNat : Int)) = (((b.getD (k) 0).toNat : Int))))))] (by kernel_rfl) (fun g26 => ?_)
        refine wp_drawN hM21 [] no_held [] [0, 1, 2, 3, 4, 5, 6, 7] [] [.p 0, .p 1, .p 2, .p 3, .p 4, .p 5, .p 6, .p 7, .s] rfl (by kernel_rfl) (by kernel_rfl) ?_
        refine h_seg 2 (by kernel_rfl) ?_
        refine gH (.index 9 (.tmp 25) (.tmp 26)) (some 27) (by kernel_rfl) (Y_strIndex (a) .i64 ((k : Int)) (by kernel_rfl) (by kernel_rfl) (by kernel_rfl) (k) rfl (by omega)) ?_
        refine h_seg 2 (by kernel_rfl) ?_
        refine gH (.index 9 (.tmp 28) (.tmp 29)) (some 30) (by kernel_rfl) (Y_strIndex (b) .i64 ((k : Int)) (by kernel_rfl) (by kernel_rfl) (by kernel_rfl) (k) rfl (by omega)) ?_
        refine h_seg 2 (by kernel_rfl) ?_
        refine h_s no_fs ?_
        refine h_n (fun w27 hM28 => ?_)
        refine  (then_n (hK25 _ _ ?_))
        refine wp_ret (blk_r (then_r (then_r (blk_r (then_r (?_))))))
        refine retN [.bool (decide ((((a.getD (k) 0).toNat : Int)) < (((b.getD (k) 0).toNat : Int))))] (.bool (decide ((((a.getD (k) 0).toNat : Int)) < (((b.getD (k) 0).toNat : Int))))) Try.results49 (.tmp (by kernel_rfl) (by kernel_rfl) .nil) (by kernel_rfl) (hRet _ _ ⟨_, _, rfl, hM28.clear, ?_⟩)
        -- end Lttt
        first | exact congrArg Value.bool (below_at (by omega) (by omega) (by assumption) (by assumption)) | exact congrArg Value.bool (below_end (k := k) (by omega) (by omega) (by omega) (by assumption))
      · -- Lttf
        have h29 : decide ((((a.getD (k) 0).toNat : Int)) = (((b.getD (k) 0).toNat : Int))) = true := by rw [← Bool.not_not (decide _), h22]; rfl
        have p30 : ((((a.getD (k) 0).toNat : Int)) = (((b.getD (k) 0).toNat : Int))) := of_decide_eq_true h29
        refine wp_skip (blk_n (then_n (hK17 _ _ ?_)))
        refine wp_reg ?_
        refine wpF_seg 1 (by kernel_rfl) ?_
        refine gF hM21 (.binOp .add 3 (.tmp 16) (.const (.int .i64 1)) 3) (some 17) (by kernel_rfl) (Y_add .i64 ((k : Int)) (1) ((k : Int) + 1) (by kernel_rfl) (by kernel_rfl) (wrap64_ok _ (by omega))) ?_
        refine wpF_seg 1 (by kernel_rfl) ?_
        refine wpF_base [(0, bs (a)), (1, bs (b)), (5, .int .i64 ((k + 1 : Int)))] (by kernel_rfl) (fun g31 => ?_)
        refine wpF_end _ (by kernel_rfl) (then_n (hK10 _ _ (k + 1) (by omega) ?_))
        refine ⟨g31, Vl4, rfl, hM21, hM21.le, ?_, ?_⟩
        · -- Lttf inv 0
          omega
        · -- Lttf inv 1
          exact all_step (by assumption) (UInt8.toNat_inj.1 (by omega))
    · -- Ltf
      have p32 : ¬ (((k : Int)) < ((b.length : Int))) := of_decide_eq_false h15
      refine wp_exit (then_x (then_x (blk_hit (then_n (hK2 _ _ ?_)))))
      refine wp_seq_k (fun K33 hK33 => ?_)
      refine wp_reg ?_
      refine wpF_seg 6 (by kernel_rfl) ?_
      refine wpF_end _ (by kernel_rfl) (then_n (hK33 _ _ ?_))
      refine wp_ret ?_
      refine retN [.bool (decide (((a.length : Int)) < ((b.length : Int))))] (.bool (decide (((a.length : Int)) < ((b.length : Int))))) Try.results49 (.tmp (by kernel_rfl) (by kernel_rfl) .nil) (by kernel_rfl) (hRet _ _ ⟨_, _, rfl, hM8.clear, ?_⟩)
      -- end Ltf
      first | exact congrArg Value.bool (below_at (by omega) (by omega) (by assumption) (by assumption)) | exact congrArg Value.bool (below_end (k := k) (by omega) (by omega) (by omega) (by assumption))
  · -- Lf
    have p34 : ¬ (((k : Int)) < ((a.length : Int))) := of_decide_eq_false h13
    refine wpF_seg 5 (by kernel_rfl) ?_
    refine wpF_end _ (by kernel_rfl) (then_n (hK12 _ _ ?_))
    refine wp_cf (by kernel_rfl) ?_
    refine wp_exit (then_x (then_x (blk_hit (then_n (hK2 _ _ ?_)))))
    refine wp_seq_k (fun K35 hK35 => ?_)
    refine wp_reg ?_
    refine wpF_seg 6 (by kernel_rfl) ?_
    refine wpF_end _ (by kernel_rfl) (then_n (hK35 _ _ ?_))
    refine wp_ret ?_
    refine retN [.bool (decide (((a.length : Int)) < ((b.length : Int))))] (.bool (decide (((a.length : Int)) < ((b.length : Int))))) Try.results49 (.tmp (by kernel_rfl) (by kernel_rfl) .nil) (by kernel_rfl) (hRet _ _ ⟨_, _, rfl, hM8.clear, ?_⟩)
    -- end Lf
    first | exact congrArg Value.bool (below_at (by omega) (by omega) (by assumption) (by assumption)) | exact congrArg Value.bool (below_end (k := k) (by omega) (by omega) (by omega) (by assumption))

end Go.Vk
