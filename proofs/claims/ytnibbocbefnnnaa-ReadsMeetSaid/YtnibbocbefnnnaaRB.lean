import Derived.Test.YtnibbocbefnnnaaRA
set_option linter.unusedVariables false
set_option linter.unusedSimpArgs false
namespace Go.Vk
open Go.Proofs
set_option maxHeartbeats 4000000 in
set_option maxRecDepth 100000 in
theorem f69 (V : VT) (w : World) (hV : V.inW w) (Al : Option Addr) (cl : Nat) (l : List ((Str × Str))) (hl : Rd (prK strK strK) V Al cl l) (y : Str) (hy : y.length ≤ maxL) :
    Calls Try.prog 69 #[.slice Al (l).length cl, bs (y)] w (RetP V w fun rv V' => rv = .bool (spB l y)) := by
  have mxl : l.length ≤ 140737488355328 := hl.max
  have mxy : y.length ≤ 140737488355328 := hy
  refine calls_env (n := 24) Try.func69 (c := _) rfl Try.ntmps69 (by kernel_rfl) (fun R hRet => ?_)
  have hM0 : Step V w [] V w [] := Step.refl (St.nilE hV)
  refine wp_seq_k (fun K1 hK1 => ?_)
  refine wp_reg ?_
  refine wpF_seg 1 (by kernel_rfl) ?_
  refine wpF_end _ (by kernel_rfl) (then_n (hK1 _ _ ?_))
  refine wp_seq_k (fun K2 hK2 => ?_)
  refine wp_seq_k (fun K3 hK3 => ?_)
  refine wp_reg ?_
  refine wpF_seg 1 (by kernel_rfl) ?_
  refine wpF_end _ (by kernel_rfl) (then_n (hK3 _ _ ?_))
  refine wp_block ?_
  refine wp_base [(0, .slice Al (l).length cl), (1, bs (y)), (5, .int .i64 ((0 : Int)))] (by kernel_rfl) (fun g5 => ?_)
  refine wp_loopX (fun (x_ : Nat) a_ w_ => ∃ (g : Nat → Value) (V_ : VT), a_ = env [] 24 [(0, .slice Al (l).length cl), (1, bs (y)), (5, .int .i64 ((x_ : Int)))] g ∧ Step V w [] V_ w_ [] ∧ VT.le V V_ ∧ (x_ ≤ l.length) ∧ (∀ i, i < x_ → withinB (l.getD i ([], [])).1 (l.getD i ([], [])).2 y = false)) (fun (x_ : Nat) => l.length - x_) (0) ⟨g5, V, rfl, hM0, VT.le.refl _, by omega, by (intro i hi; omega)⟩ ?_
  rintro q a_ w7 ⟨g6, Vl4, rfl, hM8, le9, hi10_0, hi10_1⟩ K10 hK10
  refine wp_seq_k (fun K11 hK11 => ?_)
  refine wp_seq_k (fun K12 hK12 => ?_)
  refine wp_reg ?_
  refine wpF_seg 4 (by kernel_rfl) ?_
  refine wpF_end _ (by kernel_rfl) (then_n (hK12 _ _ ?_))
  refine wp_if (decide (((q : Int)) < ((l.length : Int)))) (by kernel_rfl) (fun h13 => ?_) (fun h13 => ?_)
  · -- Lt
    have p14 : (((q : Int)) < ((l.length : Int))) := of_decide_eq_true h13
    refine wp_skip (then_n (hK11 _ _ ?_))
    refine wp_seq_k (fun K15 hK15 => ?_)
    refine wp_block ?_
    refine wp_seq_k (fun K16 hK16 => ?_)
    refine wp_base [(0, .slice Al (l).length cl), (1, bs (y)), (5, .int .i64 ((q : Int))), (6, .int .i64 ((q : Int))), (7, .slice Al (l).length cl), (8, .int .i64 ((l.length : Int))), (9, .bool (decide (((q : Int)) < ((l.length : Int)))))] (by kernel_rfl) (fun g17 => ?_)
    refine wp_drawN hM8 [] no_held [] [0, 1, 2, 3, 4, 5, 6, 7, 8, 9, 10] [.a 11] [.p 0, .p 1, .p 2, .p 3, .p 4, .p 5, .p 6, .p 7, .p 8, .p 9, .p 10, .s, .a 11] rfl (by kernel_rfl) (by kernel_rfl) ?_
    refine h_seg 3 (by kernel_rfl) ?_
    refine gH_index (A := Al) (c := cl) (hl.up hM8.le) .i64 ((q : Int)) (h := (by kernel_rfl : opAt _ _ _ _ _ = some (.indexAddr 23 (.tmp 13) (.tmp 14), some 15))) (e := 40) (by kernel_rfl) (by kernel_rfl) (by kernel_rfl) (q) rfl (by omega) (fun b18 o19 at_b18 => ?_)
    have c20 : Vl4 b18 o19 = some (bs (l.getD (q) ([], [])).1) := (At.str (At.pr at_b18).1).1
    have l21 : (l.getD (q) ([], [])).1.length ≤ 140737488355328 := (At.str (At.pr at_b18).1).2
    have c22 : Vl4 b18 (o19 + 1) = some (bs (l.getD (q) ([], [])).2) := (At.str (At.pr at_b18).2).1
    have l23 : (l.getD (q) ([], [])).2.length ≤ 140737488355328 := (At.str (At.pr at_b18).2).2
    refine h_seg 1 (by kernel_rfl) ?_
    refine gH (.load 9 (.tmp 16)) (some 17) (by kernel_rfl) (Y_loadV c20 (by kernel_rfl) (by kernel_rfl)) ?_
    refine h_seg 2 (by kernel_rfl) ?_
    refine gH_index (A := Al) (c := cl) (hl.up hM8.le) .i64 ((q : Int)) (h := (by kernel_rfl : opAt _ _ _ _ _ = some (.indexAddr 23 (.tmp 18) (.tmp 19), some 20))) (e := 40) (by kernel_rfl) (by kernel_rfl) (by kernel_rfl) (q) rfl (by omega) (fun b24 o25 at_b24 => ?_)
    have c26 : Vl4 b24 o25 = some (bs (l.getD (q) ([], [])).1) := (At.str (At.pr at_b24).1).1
    have l27 : (l.getD (q) ([], [])).1.length ≤ 140737488355328 := (At.str (At.pr at_b24).1).2
    have c28 : Vl4 b24 (o25 + 1) = some (bs (l.getD (q) ([], [])).2) := (At.str (At.pr at_b24).2).1
    have l29 : (l.getD (q) ([], [])).2.length ≤ 140737488355328 := (At.str (At.pr at_b24).2).2
    refine h_seg 1 (by kernel_rfl) ?_
    refine gH (.load 9 (.tmp 21)) (some 22) (by kernel_rfl) (Y_loadV c28 (by kernel_rfl) (by kernel_rfl)) ?_
    refine h_s no_fs ?_
    refine h_a (by kernel_rfl) (by kernel_rfl) (fun w30 X31 hM32 => ?_)
    refine wpF_callP hM32 (f := 111) (caps := #[]) (h := (by kernel_rfl : opAt _ _ _ _ _ = some (.call (.mk (.value (.func 111)) #[(.tmp 12), (.tmp 17), (.tmp 22)] #[9, 9, 9]), some 23))) (by kernel_rfl) (by kernel_rfl) (by kernel_rfl) (f111 _ _ hM32.inW (y) (hy) ((l.getD (q) ([], [])).1) (l21) ((l.getD (q) ([], [])).2) (l29)) (fun v33 V34 w35 le36 hM37 hp38 => ?_)
    obtain rfl := hp38
    refine wpF_end _ (by kernel_rfl) (then_n (h_d [] (by kernel_rfl) [] hM37 no_held le36 ?_))
    refine h_n (fun w39 hM40 => ?_)
    refine  (then_n (hK16 _ _ ?_))
    refine wp_if (withinB ((l.getD (q) ([], [])).1) ((l.getD (q) ([], [])).2) (y)) (by kernel_rfl) (fun h41 => ?_) (fun h41 => ?_)
    · -- Ltt
      refine wp_seq_k (fun K42 hK42 => ?_)
      refine wp_reg ?_
      refine wpF_seg 1 (by kernel_rfl) ?_
      refine wpF_end _ (by kernel_rfl) (then_n (hK42 _ _ ?_))
      refine wp_ret (blk_r (then_r (then_r (blk_r (then_r (?_))))))
      refine retN [.bool (true)] (.bool (true)) Try.results69 (.tmp (by kernel_rfl) (by kernel_rfl) .nil) (by kernel_rfl) (hRet _ _ ⟨_, _, rfl, hM40.clear, ?_⟩)
      -- end Ltt
      first | exact congrArg Value.bool (any_getD (φ := fun (s_ : Str × Str) => withinB s_.1 s_.2 y) ([], []) (k := q) (by omega) (by assumption)).symm | exact congrArg Value.bool (any_none (φ := fun (s_ : Str × Str) => withinB s_.1 s_.2 y) ([], []) (by assumption)).symm
    · -- Ltf
      refine wp_skip (blk_n (then_n (hK15 _ _ ?_)))
      refine wp_reg ?_
      refine wpF_seg 1 (by kernel_rfl) ?_
      refine gF hM40 (.binOp .add 3 (.tmp 10) (.const (.int .i64 1)) 3) (some 11) (by kernel_rfl) (Y_add .i64 ((q : Int)) (1) ((q : Int) + 1) (by kernel_rfl) (by kernel_rfl) (wrap64_ok _ (by omega))) ?_
      refine wpF_seg 1 (by kernel_rfl) ?_
      refine wpF_base [(0, .slice Al (l).length cl), (1, bs (y)), (5, .int .i64 ((q + 1 : Int)))] (by kernel_rfl) (fun g43 => ?_)
      refine wpF_end _ (by kernel_rfl) (then_n (hK10 _ _ (q + 1) (by omega) ?_))
      refine ⟨g43, V34, rfl, hM40, hM40.le, ?_, ?_⟩
      · -- Ltf inv 0
        omega
      · -- Ltf inv 1
        exact all_step (by assumption) (by assumption)
  · -- Lf
    have p44 : ¬ (((q : Int)) < ((l.length : Int))) := of_decide_eq_false h13
    refine wp_exit (then_x (then_x (blk_hit (then_n (hK2 _ _ ?_)))))
    obtain rfl : q = l.length := by omega
    refine wp_seq_k (fun K45 hK45 => ?_)
    refine wp_reg ?_
    refine wpF_seg 1 (by kernel_rfl) ?_
    refine wpF_end _ (by kernel_rfl) (then_n (hK45 _ _ ?_))
    refine wp_ret ?_
    refine retN [.bool (false)] (.bool (false)) Try.results69 (.tmp (by kernel_rfl) (by kernel_rfl) .nil) (by kernel_rfl) (hRet _ _ ⟨_, _, rfl, hM8.clear, ?_⟩)
    -- end Lf
    first | exact congrArg Value.bool (any_getD (φ := fun (s_ : Str × Str) => withinB s_.1 s_.2 y) ([], []) (k := q) (by omega) (by assumption)).symm | exact congrArg Value.bool (any_none (φ := fun (s_ : Str × Str) => withinB s_.1 s_.2 y) ([], []) (by assumption)).symm

end Go.Vk
