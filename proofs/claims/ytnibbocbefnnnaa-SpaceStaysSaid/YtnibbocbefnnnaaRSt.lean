import Derived.Test.YtnibbocbefnnnaaRA
import Derived.Test.YtnibbocbefnnnaaRIt
import Derived.Test.YtnibbocbefnnnaaRMathSp
import Derived.Test.YtnibbocbefnnnaaRMathSq
import Derived.Test.YtnibbocbefnnnaaRPlainSp
import Derived.Test.YtnibbocbefnnnaaRSp
set_option linter.unusedVariables false
set_option linter.unusedSimpArgs false
namespace Go.Vk
open Go.Proofs
variable {D : List Deferred}
set_option maxHeartbeats 4000000 in
set_option maxRecDepth 100000 in
theorem f48 (V : VT) (w : World) (hV : V.inW w) (Al : Option Addr) (cl : Nat) (l : List ((Int × Int × (List ((Str × Str × Bool)))))) (hl : Rd (prK (intK .i64) (prK (intK .i64) (slK (prK strK (prK strK boolK))))) V Al cl l) :
    Calls Try.prog 48 #[.slice Al (l).length cl] w (RetP V w fun rv V' => rv = .bool (fewB l)) := by
  have mxl : l.length ≤ 140737488355328 := hl.max
  refine calls_env (n := 73) Try.func48 (c := _) rfl Try.ntmps48 (by kernel_rfl) (fun R hRet => ?_)
  have hM0 : Step V w [] V w [] := Step.refl (St.nilE hV)
  refine wp_seq_k (fun K1 hK1 => ?_)
  refine wp_reg ?_
  refine wpF_seg 1 (by kernel_rfl) ?_
  refine wpF_end _ (by kernel_rfl) (then_n (hK1 _ _ ?_))
  refine wp_seq_k (fun K2 hK2 => ?_)
  refine wp_reg ?_
  refine wpF_seg 1 (by kernel_rfl) ?_
  refine wpF_end _ (by kernel_rfl) (then_n (hK2 _ _ ?_))
  refine wp_seq_k (fun K3 hK3 => ?_)
  refine wp_seq_k (fun K4 hK4 => ?_)
  refine wp_reg ?_
  refine wpF_seg 1 (by kernel_rfl) ?_
  refine wpF_end _ (by kernel_rfl) (then_n (hK4 _ _ ?_))
  refine wp_block ?_
  refine wp_base [(0, .slice Al (l).length cl), (3, .int .i64 (((fewN l (0) : Nat) : Int))), (4, .int .i64 ((0 : Int)))] (by kernel_rfl) (fun g6 => ?_)
  refine wp_loopX (fun (x_ : Nat) a_ w_ => ∃ (g : Nat → Value) (V_ : VT), a_ = env [] 73 [(0, .slice Al (l).length cl), (3, .int .i64 (((fewN l (x_) : Nat) : Int))), (4, .int .i64 ((x_ : Int)))] g ∧ Step V w [] V_ w_ [] ∧ VT.le V V_ ∧ (x_ ≤ l.length) ∧ (fewK l (x_) = true) ∧ (fewN l (x_) ≤ 200)) (fun (x_ : Nat) => l.length - x_) (0) ⟨g6, V, rfl, hM0, VT.le.refl _, by omega, by exact fewK_iff.2 (fun i hi => by omega), by exact Nat.zero_le _⟩ ?_
  rintro k a_ w8 ⟨g7, Vl5, rfl, hM9, le10, hi11_0, hi11_1, hi11_2⟩ K11 hK11
  refine wp_seq_k (fun K12 hK12 => ?_)
  refine wp_seq_k (fun K13 hK13 => ?_)
  refine wp_reg ?_
  refine wpF_seg 4 (by kernel_rfl) ?_
  refine wpF_end _ (by kernel_rfl) (then_n (hK13 _ _ ?_))
  refine wp_if (decide (((k : Int)) < ((l.length : Int)))) (by kernel_rfl) (fun h14 => ?_) (fun h14 => ?_)
  · -- Lt
    have p15 : (((k : Int)) < ((l.length : Int))) := of_decide_eq_true h14
    refine wp_skip (then_n (hK12 _ _ ?_))
    refine wp_seq_k (fun K16 hK16 => ?_)
    refine wp_block ?_
    refine wp_seq_k (fun K17 hK17 => ?_)
    refine wp_reg ?_
    refine wpF_seg 1 (by kernel_rfl) ?_
    refine gF hM9 (.binOp .add 3 (.tmp 12) (.const (.int .i64 1)) 3) (some 13) (by kernel_rfl) (Y_add .i64 (((fewN l (k) : Nat) : Int)) (1) ((((fewN l (k) : Nat) : Int)) + 1) (by kernel_rfl) (by kernel_rfl) (wrap64_ok _ (by omega))) ?_
    refine wpF_seg 2 (by kernel_rfl) ?_
    refine gF_index (A := Al) (c := cl) (hl.up hM9.le) .i64 ((k : Int)) (h := (by kernel_rfl : opAt _ _ _ _ _ = some (.indexAddr 84 (.tmp 14) (.tmp 15), some 16))) (e := 89) (by kernel_rfl) (by kernel_rfl) (by kernel_rfl) (k) rfl (by omega) (fun b18 o19 at_b18 => ?_)
    have c20 : Vl5 b18 o19 = some (.int .i64 (l.getD (k) (0, 0, [])).1) := (At.int (At.pr at_b18).1).1
    have l21 : IntKind.i64.min ≤ (l.getD (k) (0, 0, [])).1 ∧ (l.getD (k) (0, 0, [])).1 ≤ IntKind.i64.max := (At.int (At.pr at_b18).1).2
    have c22 : Vl5 b18 (o19 + 1) = some (.int .i64 (l.getD (k) (0, 0, [])).2.1) := (At.int (At.pr (At.pr at_b18).2).1).1
    have l23 : IntKind.i64.min ≤ (l.getD (k) (0, 0, [])).2.1 ∧ (l.getD (k) (0, 0, [])).2.1 ≤ IntKind.i64.max := (At.int (At.pr (At.pr at_b18).2).1).2
    obtain ⟨A24, c25, c26, r27⟩ := At.sl (At.pr (At.pr at_b18).2).2
    have c26 : Vl5 b18 (o19 + 2) = some (.slice A24 ((l.getD (k) (0, 0, [])).2.2).length c25) := c26
    have r27 : Rd (prK strK (prK strK boolK)) Vl5 A24 c25 ((l.getD (k) (0, 0, [])).2.2) := r27
    have l28 : ((l.getD (k) (0, 0, [])).2.2).length ≤ 140737488355328 := r27.max
    refine wpF_seg 1 (by kernel_rfl) ?_
    refine gF hM9 (.load 45 (.tmp 17)) (some 18) (by kernel_rfl) (Y_loadV c26 (by kernel_rfl) (by kernel_rfl)) ?_
    refine wpF_seg 1 (by kernel_rfl) ?_
    refine gF hM9 (.binOp .add 3 (.tmp 13) (.tmp 19) 3) (some 20) (by kernel_rfl) (Y_add .i64 ((((fewN l (k) : Nat) : Int)) + 1) ((((l.getD (k) (0, 0, [])).2.2).length : Int)) (((((fewN l (k) : Nat) : Int)) + 1) + ((((l.getD (k) (0, 0, [])).2.2).length : Int))) (by kernel_rfl) (by kernel_rfl) (wrap64_ok _ (by omega))) ?_
    refine wpF_seg 1 (by kernel_rfl) ?_
    refine wpF_slot 3 (.int .i64 (((((fewN l (k) : Nat) : Int)) + 1) + ((((l.getD (k) (0, 0, [])).2.2).length : Int)))) (.int .i64 (((fewN l (k + 1) : Nat) : Int))) (by kernel_rfl) (by kernel_rfl) (by exact congrArg (Value.int .i64) (by rw [few_step (by omega)]; omega)) ?_
    refine wpF_end _ (by kernel_rfl) (then_n (hK17 _ _ ?_))
    refine wp_seq_k (fun K29 hK29 => ?_)
    refine wp_seq_k (fun K30 hK30 => ?_)
    refine wp_reg ?_
    refine wpF_seg 3 (by kernel_rfl) ?_
    refine wpF_caseB 23 (decide ((200) < (((fewN l (k + 1) : Nat) : Int)))) (by kernel_rfl) (by kernel_rfl) (fun h31 => ?_) (fun h31 => ?_)
    · -- Ltt
      have p32 : ((200) < (((fewN l (k + 1) : Nat) : Int))) := of_decide_eq_true h31
      refine wpF_seg 15 (by kernel_rfl) ?_
      refine wpF_end _ (by kernel_rfl) (then_n (hK30 _ _ ?_))
      refine wp_ct (by kernel_rfl) ?_
      refine wp_seq_k (fun K33 hK33 => ?_)
      refine wp_reg ?_
      refine wpF_seg 1 (by kernel_rfl) ?_
      refine wpF_end _ (by kernel_rfl) (then_n (hK33 _ _ ?_))
      refine wp_ret (then_r (blk_r (then_r (then_r (blk_r (then_r (?_)))))))
      refine retN [.bool (false)] (.bool (false)) Try.results48 (.tmp (by kernel_rfl) (by kernel_rfl) .nil) (by kernel_rfl) (hRet _ _ ⟨_, _, rfl, hM9.clear, ?_⟩)
      -- end Ltt
      (have hb := few_no (l := l) (k := k) (by omega) (by first | exact .inl (by omega) | exact .inr (.inl (by omega)) | exact .inr (.inr (.inl (by omega))))); (simp only [hb] <;> rfl)
    · -- Ltf
      have p34 : ¬ ((200) < (((fewN l (k + 1) : Nat) : Int))) := of_decide_eq_false h31
      refine wpF_seg 2 (by kernel_rfl) ?_
      refine gF_index (A := Al) (c := cl) (hl.up hM9.le) .i64 ((k : Int)) (h := (by kernel_rfl : opAt _ _ _ _ _ = some (.indexAddr 84 (.tmp 24) (.tmp 25), some 26))) (e := 89) (by kernel_rfl) (by kernel_rfl) (by kernel_rfl) (k) rfl (by omega) (fun b35 o36 at_b35 => ?_)
      have c37 : Vl5 b35 o36 = some (.int .i64 (l.getD (k) (0, 0, [])).1) := (At.int (At.pr at_b35).1).1
      have l38 : IntKind.i64.min ≤ (l.getD (k) (0, 0, [])).1 ∧ (l.getD (k) (0, 0, [])).1 ≤ IntKind.i64.max := (At.int (At.pr at_b35).1).2
      have c39 : Vl5 b35 (o36 + 1) = some (.int .i64 (l.getD (k) (0, 0, [])).2.1) := (At.int (At.pr (At.pr at_b35).2).1).1
      have l40 : IntKind.i64.min ≤ (l.getD (k) (0, 0, [])).2.1 ∧ (l.getD (k) (0, 0, [])).2.1 ≤ IntKind.i64.max := (At.int (At.pr (At.pr at_b35).2).1).2
      obtain ⟨A41, c42, c43, r44⟩ := At.sl (At.pr (At.pr at_b35).2).2
      have c43 : Vl5 b35 (o36 + 2) = some (.slice A41 ((l.getD (k) (0, 0, [])).2.2).length c42) := c43
      have r44 : Rd (prK strK (prK strK boolK)) Vl5 A41 c42 ((l.getD (k) (0, 0, [])).2.2) := r44
      have l45 : ((l.getD (k) (0, 0, [])).2.2).length ≤ 140737488355328 := r44.max
      refine wpF_seg 1 (by kernel_rfl) ?_
      refine gF hM9 (.load 3 (.tmp 27)) (some 28) (by kernel_rfl) (Y_loadV c39 (by kernel_rfl) (by kernel_rfl)) ?_
      refine wpF_seg 3 (by kernel_rfl) ?_
      refine wpF_caseB 31 (decide (((l.getD (k) (0, 0, [])).2.1) < (-100))) (by kernel_rfl) (by kernel_rfl) (fun h46 => ?_) (fun h46 => ?_)
      · -- Ltft
        have p47 : (((l.getD (k) (0, 0, [])).2.1) < (-100)) := of_decide_eq_true h46
        refine wpF_seg 7 (by kernel_rfl) ?_
        refine wpF_end _ (by kernel_rfl) (then_n (hK30 _ _ ?_))
        refine wp_ct (by kernel_rfl) ?_
        refine wp_seq_k (fun K48 hK48 => ?_)
        refine wp_reg ?_
        refine wpF_seg 1 (by kernel_rfl) ?_
        refine wpF_end _ (by kernel_rfl) (then_n (hK48 _ _ ?_))
        refine wp_ret (then_r (blk_r (then_r (then_r (blk_r (then_r (?_)))))))
        refine retN [.bool (false)] (.bool (false)) Try.results48 (.tmp (by kernel_rfl) (by kernel_rfl) .nil) (by kernel_rfl) (hRet _ _ ⟨_, _, rfl, hM9.clear, ?_⟩)
        -- end Ltft
        (have hb := few_no (l := l) (k := k) (by omega) (by first | exact .inl (by omega) | exact .inr (.inl (by omega)) | exact .inr (.inr (.inl (by omega))))); (simp only [hb] <;> rfl)
      · -- Ltff
        have p49 : ¬ (((l.getD (k) (0, 0, [])).2.1) < (-100)) := of_decide_eq_false h46
        refine wpF_seg 2 (by kernel_rfl) ?_
        refine gF_index (A := Al) (c := cl) (hl.up hM9.le) .i64 ((k : Int)) (h := (by kernel_rfl : opAt _ _ _ _ _ = some (.indexAddr 84 (.tmp 32) (.tmp 33), some 34))) (e := 89) (by kernel_rfl) (by kernel_rfl) (by kernel_rfl) (k) rfl (by omega) (fun b50 o51 at_b50 => ?_)
        have c52 : Vl5 b50 o51 = some (.int .i64 (l.getD (k) (0, 0, [])).1) := (At.int (At.pr at_b50).1).1
        have l53 : IntKind.i64.min ≤ (l.getD (k) (0, 0, [])).1 ∧ (l.getD (k) (0, 0, [])).1 ≤ IntKind.i64.max := (At.int (At.pr at_b50).1).2
        have c54 : Vl5 b50 (o51 + 1) = some (.int .i64 (l.getD (k) (0, 0, [])).2.1) := (At.int (At.pr (At.pr at_b50).2).1).1
        have l55 : IntKind.i64.min ≤ (l.getD (k) (0, 0, [])).2.1 ∧ (l.getD (k) (0, 0, [])).2.1 ≤ IntKind.i64.max := (At.int (At.pr (At.pr at_b50).2).1).2
        obtain ⟨A56, c57, c58, r59⟩ := At.sl (At.pr (At.pr at_b50).2).2
        have c58 : Vl5 b50 (o51 + 2) = some (.slice A56 ((l.getD (k) (0, 0, [])).2.2).length c57) := c58
        have r59 : Rd (prK strK (prK strK boolK)) Vl5 A56 c57 ((l.getD (k) (0, 0, [])).2.2) := r59
        have l60 : ((l.getD (k) (0, 0, [])).2.2).length ≤ 140737488355328 := r59.max
        refine wpF_seg 1 (by kernel_rfl) ?_
        refine gF hM9 (.load 3 (.tmp 35)) (some 36) (by kernel_rfl) (Y_loadV c54 (by kernel_rfl) (by kernel_rfl)) ?_
        refine wpF_seg 2 (by kernel_rfl) ?_
        refine wpF_end _ (by kernel_rfl) (then_n (hK30 _ _ ?_))
        refine wp_if (decide ((1099511627776) < ((l.getD (k) (0, 0, [])).2.1))) (by kernel_rfl) (fun h61 => ?_) (fun h61 => ?_)
        · -- Ltfft
          have p62 : ((1099511627776) < ((l.getD (k) (0, 0, [])).2.1)) := of_decide_eq_true h61
          refine wp_seq_k (fun K63 hK63 => ?_)
          refine wp_reg ?_
          refine wpF_seg 1 (by kernel_rfl) ?_
          refine wpF_end _ (by kernel_rfl) (then_n (hK63 _ _ ?_))
          refine wp_ret (then_r (blk_r (then_r (then_r (blk_r (then_r (?_)))))))
          refine retN [.bool (false)] (.bool (false)) Try.results48 (.tmp (by kernel_rfl) (by kernel_rfl) .nil) (by kernel_rfl) (hRet _ _ ⟨_, _, rfl, hM9.clear, ?_⟩)
          -- end Ltfft
          (have hb := few_no (l := l) (k := k) (by omega) (by first | exact .inl (by omega) | exact .inr (.inl (by omega)) | exact .inr (.inr (.inl (by omega))))); (simp only [hb] <;> rfl)
        · -- Ltfff
          have p64 : ¬ ((1099511627776) < ((l.getD (k) (0, 0, [])).2.1)) := of_decide_eq_false h61
          refine wp_skip (then_n (hK29 _ _ ?_))
          refine wp_seq_k (fun K65 hK65 => ?_)
          refine wp_reg ?_
          refine wpF_seg 1 (by kernel_rfl) ?_
          refine wpF_end _ (by kernel_rfl) (then_n (hK65 _ _ ?_))
          refine wp_block ?_
          refine wp_base [(0, .slice Al (l).length cl), (3, .int .i64 (((fewN l (k + 1) : Nat) : Int))), (4, .int .i64 ((k : Int))), (5, .int .i64 ((0 : Int)))] (by kernel_rfl) (fun g67 => ?_)
          refine wp_loopX (fun (x_ : Nat) a_ w_ => ∃ (g : Nat → Value) (V_ : VT), a_ = env [] 73 [(0, .slice Al (l).length cl), (3, .int .i64 (((fewN l (k + 1) : Nat) : Int))), (4, .int .i64 ((k : Int))), (5, .int .i64 ((x_ : Int)))] g ∧ Step V w [] V_ w_ [] ∧ VT.le Vl5 V_ ∧ (x_ ≤ (l.getD (k) (0, 0, [])).2.2.length) ∧ (∀ i, i < x_ → chgB ((l.getD (k) (0, 0, [])).2.2.getD i ([], [], false)) = true)) (fun (x_ : Nat) => (l.getD (k) (0, 0, [])).2.2.length - x_) (0) ⟨g67, Vl5, rfl, hM9, VT.le.refl _, by omega, by (intro i hi; omega)⟩ ?_
          rintro j a_ w69 ⟨g68, Vl66, rfl, hM70, le71, hi72_0, hi72_1⟩ K72 hK72
          refine wp_seq_k (fun K73 hK73 => ?_)
          refine wp_seq_k (fun K74 hK74 => ?_)
          refine wp_reg ?_
          refine wpF_seg 3 (by kernel_rfl) ?_
          refine gF_index (A := Al) (c := cl) (hl.up hM70.le) .i64 ((k : Int)) (h := (by kernel_rfl : opAt _ _ _ _ _ = some (.indexAddr 84 (.tmp 40) (.tmp 41), some 42))) (e := 89) (by kernel_rfl) (by kernel_rfl) (by kernel_rfl) (k) rfl (by omega) (fun b75 o76 at_b75 => ?_)
          have c77 : Vl66 b75 o76 = some (.int .i64 (l.getD (k) (0, 0, [])).1) := (At.int (At.pr at_b75).1).1
          have l78 : IntKind.i64.min ≤ (l.getD (k) (0, 0, [])).1 ∧ (l.getD (k) (0, 0, [])).1 ≤ IntKind.i64.max := (At.int (At.pr at_b75).1).2
          have c79 : Vl66 b75 (o76 + 1) = some (.int .i64 (l.getD (k) (0, 0, [])).2.1) := (At.int (At.pr (At.pr at_b75).2).1).1
          have l80 : IntKind.i64.min ≤ (l.getD (k) (0, 0, [])).2.1 ∧ (l.getD (k) (0, 0, [])).2.1 ≤ IntKind.i64.max := (At.int (At.pr (At.pr at_b75).2).1).2
          obtain ⟨A81, c82, c83, r84⟩ := At.sl (At.pr (At.pr at_b75).2).2
          have c83 : Vl66 b75 (o76 + 2) = some (.slice A81 ((l.getD (k) (0, 0, [])).2.2).length c82) := c83
          have r84 : Rd (prK strK (prK strK boolK)) Vl66 A81 c82 ((l.getD (k) (0, 0, [])).2.2) := r84
          have l85 : ((l.getD (k) (0, 0, [])).2.2).length ≤ 140737488355328 := r84.max
          refine wpF_seg 1 (by kernel_rfl) ?_
          refine gF hM70 (.load 45 (.tmp 43)) (some 44) (by kernel_rfl) (Y_loadV c83 (by kernel_rfl) (by kernel_rfl)) ?_
          refine wpF_seg 2 (by kernel_rfl) ?_
          refine wpF_end _ (by kernel_rfl) (then_n (hK74 _ _ ?_))
          refine wp_if (decide (((j : Int)) < ((((l.getD (k) (0, 0, [])).2.2).length : Int)))) (by kernel_rfl) (fun h86 => ?_) (fun h86 => ?_)
          · -- LtfffLt
            have p87 : (((j : Int)) < ((((l.getD (k) (0, 0, [])).2.2).length : Int))) := of_decide_eq_true h86
            refine wp_skip (then_n (hK73 _ _ ?_))
            refine wp_seq_k (fun K88 hK88 => ?_)
            refine wp_block ?_
            refine wp_seq_k (fun K89 hK89 => ?_)
            refine wp_reg ?_
            refine wpF_seg 2 (by kernel_rfl) ?_
            refine gF_index (A := Al) (c := cl) (hl.up hM70.le) .i64 ((k : Int)) (h := (by kernel_rfl : opAt _ _ _ _ _ = some (.indexAddr 84 (.tmp 49) (.tmp 50), some 51))) (e := 89) (by kernel_rfl) (by kernel_rfl) (by kernel_rfl) (k) rfl (by omega) (fun b90 o91 at_b90 => ?_)
            have c92 : Vl66 b90 o91 = some (.int .i64 (l.getD (k) (0, 0, [])).1) := (At.int (At.pr at_b90).1).1
            have l93 : IntKind.i64.min ≤ (l.getD (k) (0, 0, [])).1 ∧ (l.getD (k) (0, 0, [])).1 ≤ IntKind.i64.max := (At.int (At.pr at_b90).1).2
            have c94 : Vl66 b90 (o91 + 1) = some (.int .i64 (l.getD (k) (0, 0, [])).2.1) := (At.int (At.pr (At.pr at_b90).2).1).1
            have l95 : IntKind.i64.min ≤ (l.getD (k) (0, 0, [])).2.1 ∧ (l.getD (k) (0, 0, [])).2.1 ≤ IntKind.i64.max := (At.int (At.pr (At.pr at_b90).2).1).2
            obtain ⟨A96, c97, c98, r99⟩ := At.sl (At.pr (At.pr at_b90).2).2
            have c98 : Vl66 b90 (o91 + 2) = some (.slice A96 ((l.getD (k) (0, 0, [])).2.2).length c97) := c98
            have r99 : Rd (prK strK (prK strK boolK)) Vl66 A96 c97 ((l.getD (k) (0, 0, [])).2.2) := r99
            have l100 : ((l.getD (k) (0, 0, [])).2.2).length ≤ 140737488355328 := r99.max
            refine wpF_seg 1 (by kernel_rfl) ?_
            refine gF hM70 (.load 45 (.tmp 52)) (some 53) (by kernel_rfl) (Y_loadV c98 (by kernel_rfl) (by kernel_rfl)) ?_
            refine wpF_seg 1 (by kernel_rfl) ?_
            refine gF_index (A := A96) (c := c97) r99 .i64 ((j : Int)) (h := (by kernel_rfl : opAt _ _ _ _ _ = some (.indexAddr 45 (.tmp 53) (.tmp 54), some 55))) (e := 105) (by kernel_rfl) (by kernel_rfl) (by kernel_rfl) (j) rfl (by omega) (fun b101 o102 at_b101 => ?_)
            have c103 : Vl66 b101 o102 = some (bs (((l.getD (k) (0, 0, [])).2.2).getD (j) ([], [], false)).1) := (At.str (At.pr at_b101).1).1
            have l104 : (((l.getD (k) (0, 0, [])).2.2).getD (j) ([], [], false)).1.length ≤ 140737488355328 := (At.str (At.pr at_b101).1).2
            have c105 : Vl66 b101 (o102 + 1) = some (bs (((l.getD (k) (0, 0, [])).2.2).getD (j) ([], [], false)).2.1) := (At.str (At.pr (At.pr at_b101).2).1).1
            have l106 : (((l.getD (k) (0, 0, [])).2.2).getD (j) ([], [], false)).2.1.length ≤ 140737488355328 := (At.str (At.pr (At.pr at_b101).2).1).2
            have c107 : Vl66 b101 (o102 + 2) = some (.bool (((l.getD (k) (0, 0, [])).2.2).getD (j) ([], [], false)).2.2) := At.bool (At.pr (At.pr at_b101).2).2
            refine wpF_seg 1 (by kernel_rfl) ?_
            refine gF hM70 (.load 9 (.tmp 56)) (some 57) (by kernel_rfl) (Y_loadV c103 (by kernel_rfl) (by kernel_rfl)) ?_
            refine wpF_seg 3 (by kernel_rfl) ?_
            refine wpF_caseB 60 (decide ((1000) < ((((((l.getD (k) (0, 0, [])).2.2).getD (j) ([], [], false)).1).length : Int)))) (by kernel_rfl) (by kernel_rfl) (fun h108 => ?_) (fun h108 => ?_)
            · -- LtfffLtt
              have p109 : ((1000) < ((((((l.getD (k) (0, 0, [])).2.2).getD (j) ([], [], false)).1).length : Int))) := of_decide_eq_true h108
              refine wpF_seg 12 (by kernel_rfl) ?_
              refine wpF_end _ (by kernel_rfl) (then_n (hK89 _ _ ?_))
              refine wp_ct (by kernel_rfl) ?_
              refine wp_seq_k (fun K110 hK110 => ?_)
              refine wp_reg ?_
              refine wpF_seg 1 (by kernel_rfl) ?_
              refine wpF_end _ (by kernel_rfl) (then_n (hK110 _ _ ?_))
              refine wp_ret (blk_r (then_r (then_r (blk_r (blk_r (then_r (then_r (blk_r (then_r (?_))))))))))
              refine retN [.bool (false)] (.bool (false)) Try.results48 (.tmp (by kernel_rfl) (by kernel_rfl) .nil) (by kernel_rfl) (hRet _ _ ⟨_, _, rfl, hM70.clear, ?_⟩)
              -- end LtfffLtt
              (have hb := few_no (l := l) (k := k) (by omega) (.inr (.inr (.inr ⟨j, by omega, chg_no (by first | exact .inl (by omega) | exact .inr (by omega))⟩)))); (simp only [hb] <;> rfl)
            · -- LtfffLtf
              have p111 : ¬ ((1000) < ((((((l.getD (k) (0, 0, [])).2.2).getD (j) ([], [], false)).1).length : Int))) := of_decide_eq_false h108
              refine wpF_seg 2 (by kernel_rfl) ?_
              refine gF_index (A := Al) (c := cl) (hl.up hM70.le) .i64 ((k : Int)) (h := (by kernel_rfl : opAt _ _ _ _ _ = some (.indexAddr 84 (.tmp 61) (.tmp 62), some 63))) (e := 89) (by kernel_rfl) (by kernel_rfl) (by kernel_rfl) (k) rfl (by omega) (fun b112 o113 at_b112 => ?_)
              have c114 : Vl66 b112 o113 = some (.int .i64 (l.getD (k) (0, 0, [])).1) := (At.int (At.pr at_b112).1).1
              have l115 : IntKind.i64.min ≤ (l.getD (k) (0, 0, [])).1 ∧ (l.getD (k) (0, 0, [])).1 ≤ IntKind.i64.max := (At.int (At.pr at_b112).1).2
              have c116 : Vl66 b112 (o113 + 1) = some (.int .i64 (l.getD (k) (0, 0, [])).2.1) := (At.int (At.pr (At.pr at_b112).2).1).1
              have l117 : IntKind.i64.min ≤ (l.getD (k) (0, 0, [])).2.1 ∧ (l.getD (k) (0, 0, [])).2.1 ≤ IntKind.i64.max := (At.int (At.pr (At.pr at_b112).2).1).2
              obtain ⟨A118, c119, c120, r121⟩ := At.sl (At.pr (At.pr at_b112).2).2
              have c120 : Vl66 b112 (o113 + 2) = some (.slice A118 ((l.getD (k) (0, 0, [])).2.2).length c119) := c120
              have r121 : Rd (prK strK (prK strK boolK)) Vl66 A118 c119 ((l.getD (k) (0, 0, [])).2.2) := r121
              have l122 : ((l.getD (k) (0, 0, [])).2.2).length ≤ 140737488355328 := r121.max
              refine wpF_seg 1 (by kernel_rfl) ?_
              refine gF hM70 (.load 45 (.tmp 64)) (some 65) (by kernel_rfl) (Y_loadV c120 (by kernel_rfl) (by kernel_rfl)) ?_
              refine wpF_seg 1 (by kernel_rfl) ?_
              refine gF_index (A := A118) (c := c119) r121 .i64 ((j : Int)) (h := (by kernel_rfl : opAt _ _ _ _ _ = some (.indexAddr 45 (.tmp 65) (.tmp 66), some 67))) (e := 105) (by kernel_rfl) (by kernel_rfl) (by kernel_rfl) (j) rfl (by omega) (fun b123 o124 at_b123 => ?_)
              have c125 : Vl66 b123 o124 = some (bs (((l.getD (k) (0, 0, [])).2.2).getD (j) ([], [], false)).1) := (At.str (At.pr at_b123).1).1
              have l126 : (((l.getD (k) (0, 0, [])).2.2).getD (j) ([], [], false)).1.length ≤ 140737488355328 := (At.str (At.pr at_b123).1).2
              have c127 : Vl66 b123 (o124 + 1) = some (bs (((l.getD (k) (0, 0, [])).2.2).getD (j) ([], [], false)).2.1) := (At.str (At.pr (At.pr at_b123).2).1).1
              have l128 : (((l.getD (k) (0, 0, [])).2.2).getD (j) ([], [], false)).2.1.length ≤ 140737488355328 := (At.str (At.pr (At.pr at_b123).2).1).2
              have c129 : Vl66 b123 (o124 + 2) = some (.bool (((l.getD (k) (0, 0, [])).2.2).getD (j) ([], [], false)).2.2) := At.bool (At.pr (At.pr at_b123).2).2
              refine wpF_seg 1 (by kernel_rfl) ?_
              refine gF hM70 (.load 9 (.tmp 68)) (some 69) (by kernel_rfl) (Y_loadV c127 (by kernel_rfl) (by kernel_rfl)) ?_
              refine wpF_seg 3 (by kernel_rfl) ?_
              refine wpF_end _ (by kernel_rfl) (then_n (hK89 _ _ ?_))
              refine wp_if (decide ((1000) < ((((((l.getD (k) (0, 0, [])).2.2).getD (j) ([], [], false)).2.1).length : Int)))) (by kernel_rfl) (fun h130 => ?_) (fun h130 => ?_)
              · -- LtfffLtft
                have p131 : ((1000) < ((((((l.getD (k) (0, 0, [])).2.2).getD (j) ([], [], false)).2.1).length : Int))) := of_decide_eq_true h130
                refine wp_seq_k (fun K132 hK132 => ?_)
                refine wp_reg ?_
                refine wpF_seg 1 (by kernel_rfl) ?_
                refine wpF_end _ (by kernel_rfl) (then_n (hK132 _ _ ?_))
                refine wp_ret (blk_r (then_r (then_r (blk_r (blk_r (then_r (then_r (blk_r (then_r (?_))))))))))
                refine retN [.bool (false)] (.bool (false)) Try.results48 (.tmp (by kernel_rfl) (by kernel_rfl) .nil) (by kernel_rfl) (hRet _ _ ⟨_, _, rfl, hM70.clear, ?_⟩)
                -- end LtfffLtft
                (have hb := few_no (l := l) (k := k) (by omega) (.inr (.inr (.inr ⟨j, by omega, chg_no (by first | exact .inl (by omega) | exact .inr (by omega))⟩)))); (simp only [hb] <;> rfl)
              · -- LtfffLtff
                have p133 : ¬ ((1000) < ((((((l.getD (k) (0, 0, [])).2.2).getD (j) ([], [], false)).2.1).length : Int))) := of_decide_eq_false h130
                refine wp_skip (blk_n (then_n (hK88 _ _ ?_)))
                refine wp_reg ?_
                refine wpF_seg 1 (by kernel_rfl) ?_
                refine gF hM70 (.binOp .add 3 (.tmp 47) (.const (.int .i64 1)) 3) (some 48) (by kernel_rfl) (Y_add .i64 ((j : Int)) (1) ((j : Int) + 1) (by kernel_rfl) (by kernel_rfl) (wrap64_ok _ (by omega))) ?_
                refine wpF_seg 1 (by kernel_rfl) ?_
                refine wpF_base [(0, .slice Al (l).length cl), (3, .int .i64 (((fewN l (k + 1) : Nat) : Int))), (4, .int .i64 ((k : Int))), (5, .int .i64 ((j + 1 : Int)))] (by kernel_rfl) (fun g134 => ?_)
                refine wpF_end _ (by kernel_rfl) (then_n (hK72 _ _ (j + 1) (by omega) ?_))
                refine ⟨g134, Vl66, rfl, hM70, le71, ?_, ?_⟩
                · -- LtfffLtff inv 0
                  omega
                · -- LtfffLtff inv 1
                  exact all_one (by assumption) (chg_yes (by omega) (by omega))
          · -- LtfffLf
            have p135 : ¬ (((j : Int)) < ((((l.getD (k) (0, 0, [])).2.2).length : Int))) := of_decide_eq_false h86
            refine wp_exit (then_x (then_x (blk_hit (blk_n (then_n (hK16 _ _ ?_))))))
            obtain rfl : j = (l.getD (k) (0, 0, [])).2.2.length := by omega
            refine wp_reg ?_
            refine wpF_seg 1 (by kernel_rfl) ?_
            refine gF hM70 (.binOp .add 3 (.tmp 10) (.const (.int .i64 1)) 3) (some 11) (by kernel_rfl) (Y_add .i64 ((k : Int)) (1) ((k : Int) + 1) (by kernel_rfl) (by kernel_rfl) (wrap64_ok _ (by omega))) ?_
            refine wpF_seg 1 (by kernel_rfl) ?_
            refine wpF_base [(0, .slice Al (l).length cl), (3, .int .i64 (((fewN l (k + 1) : Nat) : Int))), (4, .int .i64 ((k + 1 : Int)))] (by kernel_rfl) (fun g136 => ?_)
            refine wpF_end _ (by kernel_rfl) (then_n (hK11 _ _ (k + 1) (by omega) ?_))
            refine ⟨g136, Vl66, rfl, hM70, hM70.le, ?_, ?_, ?_⟩
            · -- LtfffLf inv 0
              omega
            · -- LtfffLf inv 1
              exact few_ok (by assumption) (by omega) (by omega) (by omega) (by assumption)
            · -- LtfffLf inv 2
              omega
  · -- Lf
    have p137 : ¬ (((k : Int)) < ((l.length : Int))) := of_decide_eq_false h14
    refine wp_exit (then_x (then_x (blk_hit (then_n (hK3 _ _ ?_)))))
    obtain rfl : k = l.length := by omega
    refine wp_seq_k (fun K138 hK138 => ?_)
    refine wp_reg ?_
    refine wpF_seg 1 (by kernel_rfl) ?_
    refine wpF_end _ (by kernel_rfl) (then_n (hK138 _ _ ?_))
    refine wp_ret ?_
    refine retN [.bool (true)] (.bool (true)) Try.results48 (.tmp (by kernel_rfl) (by kernel_rfl) .nil) (by kernel_rfl) (hRet _ _ ⟨_, _, rfl, hM9.clear, ?_⟩)
    -- end Lf
    (have hb : fewB l = true := by assumption); (simp only [hb] <;> rfl)

set_option maxHeartbeats 4000000 in
set_option maxRecDepth 100000 in
theorem f129 (V : VT) (w : World) (hV : V.inW w) (Al : Option Addr) (cl : Nat) (l : List ((Str × Str × Bool))) (hl : Rd (prK strK (prK strK boolK)) V Al cl l) :
    Calls Try.prog 129 #[.slice Al (l).length cl] w (RetP V w fun rv V' => rv = .bool (fitB l)) := by
  have mxl : l.length ≤ 140737488355328 := hl.max
  refine calls_env (n := 58) Try.func129 (c := _) rfl Try.ntmps129 (by kernel_rfl) (fun R hRet => ?_)
  have hM0 : Step V w [] V w [] := Step.refl (St.nilE hV)
  refine wp_seq_k (fun K1 hK1 => ?_)
  refine wp_reg ?_
  refine wpF_seg 1 (by kernel_rfl) ?_
  refine wpF_end _ (by kernel_rfl) (then_n (hK1 _ _ ?_))
  refine wp_seq_k (fun K2 hK2 => ?_)
  refine wp_seq_k (fun K3 hK3 => ?_)
  refine wp_reg ?_
  refine wpF_seg 1 (by kernel_rfl) ?_
  refine wpF_end _ (by kernel_rfl) (then_n (hK3 _ _ ?_))
  refine wp_block ?_
  refine wp_base [(0, .slice Al (l).length cl), (3, .int .i64 ((0 : Int)))] (by kernel_rfl) (fun g5 => ?_)
  refine wp_loopX (fun (x_ : Nat) a_ w_ => ∃ (g : Nat → Value) (V_ : VT), a_ = env [] 58 [(0, .slice Al (l).length cl), (3, .int .i64 ((x_ : Int)))] g ∧ Step V w [] V_ w_ [] ∧ VT.le V V_ ∧ (x_ ≤ l.length) ∧ (fitK l (x_) = true)) (fun (x_ : Nat) => l.length - x_) (0) ⟨g5, V, rfl, hM0, VT.le.refl _, by omega, by exact fitK_iff.2 (fun i hi => by omega)⟩ ?_
  rintro k a_ w7 ⟨g6, Vl4, rfl, hM8, le9, hi10_0, hi10_1⟩ K10 hK10
  refine wp_seq_k (fun K11 hK11 => ?_)
  refine wp_seq_k (fun K12 hK12 => ?_)
  refine wp_reg ?_
  refine wpF_seg 4 (by kernel_rfl) ?_
  refine wpF_end _ (by kernel_rfl) (then_n (hK12 _ _ ?_))
  refine wp_if (decide (((k : Int)) < ((l.length : Int)))) (by kernel_rfl) (fun h13 => ?_) (fun h13 => ?_)
  · -- Lt
    have p14 : (((k : Int)) < ((l.length : Int))) := of_decide_eq_true h13
    refine wp_skip (then_n (hK11 _ _ ?_))
    refine wp_seq_k (fun K15 hK15 => ?_)
    refine wp_block ?_
    refine wp_seq_k (fun K16 hK16 => ?_)
    refine wp_seq_k (fun K17 hK17 => ?_)
    refine wp_reg ?_
    refine wpF_seg 2 (by kernel_rfl) ?_
    refine gF_index (A := Al) (c := cl) (hl.up hM8.le) .i64 ((k : Int)) (h := (by kernel_rfl : opAt _ _ _ _ _ = some (.indexAddr 45 (.tmp 11) (.tmp 12), some 13))) (e := 105) (by kernel_rfl) (by kernel_rfl) (by kernel_rfl) (k) rfl (by omega) (fun b18 o19 at_b18 => ?_)
    have c20 : Vl4 b18 o19 = some (bs (l.getD (k) ([], [], false)).1) := (At.str (At.pr at_b18).1).1
    have l21 : (l.getD (k) ([], [], false)).1.length ≤ 140737488355328 := (At.str (At.pr at_b18).1).2
    have c22 : Vl4 b18 (o19 + 1) = some (bs (l.getD (k) ([], [], false)).2.1) := (At.str (At.pr (At.pr at_b18).2).1).1
    have l23 : (l.getD (k) ([], [], false)).2.1.length ≤ 140737488355328 := (At.str (At.pr (At.pr at_b18).2).1).2
    have c24 : Vl4 b18 (o19 + 2) = some (.bool (l.getD (k) ([], [], false)).2.2) := At.bool (At.pr (At.pr at_b18).2).2
    refine wpF_seg 1 (by kernel_rfl) ?_
    refine gF hM8 (.load 9 (.tmp 14)) (some 15) (by kernel_rfl) (Y_loadV c20 (by kernel_rfl) (by kernel_rfl)) ?_
    refine wpF_seg 3 (by kernel_rfl) ?_
    refine wpF_caseB 18 (decide ((128) < ((((l.getD (k) ([], [], false)).1).length : Int)))) (by kernel_rfl) (by kernel_rfl) (fun h25 => ?_) (fun h25 => ?_)
    · -- Ltt
      have p26 : ((128) < ((((l.getD (k) ([], [], false)).1).length : Int))) := of_decide_eq_true h25
      refine wpF_seg 23 (by kernel_rfl) ?_
      refine wpF_end _ (by kernel_rfl) (then_n (hK17 _ _ ?_))
      refine wp_ct (by kernel_rfl) ?_
      refine wp_seq_k (fun K27 hK27 => ?_)
      refine wp_reg ?_
      refine wpF_seg 1 (by kernel_rfl) ?_
      refine wpF_end _ (by kernel_rfl) (then_n (hK27 _ _ ?_))
      refine wp_ret (then_r (blk_r (then_r (then_r (blk_r (then_r (?_)))))))
      refine retN [.bool (false)] (.bool (false)) Try.results129 (.tmp (by kernel_rfl) (by kernel_rfl) .nil) (by kernel_rfl) (hRet _ _ ⟨_, _, rfl, hM8.clear, ?_⟩)
      -- end Ltt
      (have hb := fit14_no (l := l) (k := k) (by omega) (by first | exact .inl (by omega) | exact .inr (.inl (by omega)) | exact .inr (.inr (.inl ⟨by assumption, by assumption⟩)))); (simp only [hb] <;> rfl)
    · -- Ltf
      have p28 : ¬ ((128) < ((((l.getD (k) ([], [], false)).1).length : Int))) := of_decide_eq_false h25
      refine wpF_seg 2 (by kernel_rfl) ?_
      refine gF_index (A := Al) (c := cl) (hl.up hM8.le) .i64 ((k : Int)) (h := (by kernel_rfl : opAt _ _ _ _ _ = some (.indexAddr 45 (.tmp 19) (.tmp 20), some 21))) (e := 105) (by kernel_rfl) (by kernel_rfl) (by kernel_rfl) (k) rfl (by omega) (fun b29 o30 at_b29 => ?_)
      have c31 : Vl4 b29 o30 = some (bs (l.getD (k) ([], [], false)).1) := (At.str (At.pr at_b29).1).1
      have l32 : (l.getD (k) ([], [], false)).1.length ≤ 140737488355328 := (At.str (At.pr at_b29).1).2
      have c33 : Vl4 b29 (o30 + 1) = some (bs (l.getD (k) ([], [], false)).2.1) := (At.str (At.pr (At.pr at_b29).2).1).1
      have l34 : (l.getD (k) ([], [], false)).2.1.length ≤ 140737488355328 := (At.str (At.pr (At.pr at_b29).2).1).2
      have c35 : Vl4 b29 (o30 + 2) = some (.bool (l.getD (k) ([], [], false)).2.2) := At.bool (At.pr (At.pr at_b29).2).2
      refine wpF_seg 1 (by kernel_rfl) ?_
      refine gF hM8 (.load 9 (.tmp 22)) (some 23) (by kernel_rfl) (Y_loadV c33 (by kernel_rfl) (by kernel_rfl)) ?_
      refine wpF_seg 4 (by kernel_rfl) ?_
      refine wpF_caseB 27 (decide ((200) < ((((l.getD (k) ([], [], false)).2.1).length : Int)))) (by kernel_rfl) (by kernel_rfl) (fun h36 => ?_) (fun h36 => ?_)
      · -- Ltft
        have p37 : ((200) < ((((l.getD (k) ([], [], false)).2.1).length : Int))) := of_decide_eq_true h36
        refine wpF_seg 14 (by kernel_rfl) ?_
        refine wpF_end _ (by kernel_rfl) (then_n (hK17 _ _ ?_))
        refine wp_ct (by kernel_rfl) ?_
        refine wp_seq_k (fun K38 hK38 => ?_)
        refine wp_reg ?_
        refine wpF_seg 1 (by kernel_rfl) ?_
        refine wpF_end _ (by kernel_rfl) (then_n (hK38 _ _ ?_))
        refine wp_ret (then_r (blk_r (then_r (then_r (blk_r (then_r (?_)))))))
        refine retN [.bool (false)] (.bool (false)) Try.results129 (.tmp (by kernel_rfl) (by kernel_rfl) .nil) (by kernel_rfl) (hRet _ _ ⟨_, _, rfl, hM8.clear, ?_⟩)
        -- end Ltft
        (have hb := fit14_no (l := l) (k := k) (by omega) (by first | exact .inl (by omega) | exact .inr (.inl (by omega)) | exact .inr (.inr (.inl ⟨by assumption, by assumption⟩)))); (simp only [hb] <;> rfl)
      · -- Ltff
        have p39 : ¬ ((200) < ((((l.getD (k) ([], [], false)).2.1).length : Int))) := of_decide_eq_false h36
        refine wpF_seg 2 (by kernel_rfl) ?_
        refine gF_index (A := Al) (c := cl) (hl.up hM8.le) .i64 ((k : Int)) (h := (by kernel_rfl : opAt _ _ _ _ _ = some (.indexAddr 45 (.tmp 28) (.tmp 29), some 30))) (e := 105) (by kernel_rfl) (by kernel_rfl) (by kernel_rfl) (k) rfl (by omega) (fun b40 o41 at_b40 => ?_)
        have c42 : Vl4 b40 o41 = some (bs (l.getD (k) ([], [], false)).1) := (At.str (At.pr at_b40).1).1
        have l43 : (l.getD (k) ([], [], false)).1.length ≤ 140737488355328 := (At.str (At.pr at_b40).1).2
        have c44 : Vl4 b40 (o41 + 1) = some (bs (l.getD (k) ([], [], false)).2.1) := (At.str (At.pr (At.pr at_b40).2).1).1
        have l45 : (l.getD (k) ([], [], false)).2.1.length ≤ 140737488355328 := (At.str (At.pr (At.pr at_b40).2).1).2
        have c46 : Vl4 b40 (o41 + 2) = some (.bool (l.getD (k) ([], [], false)).2.2) := At.bool (At.pr (At.pr at_b40).2).2
        refine wpF_seg 1 (by kernel_rfl) ?_
        refine gF hM8 (.load 4 (.tmp 31)) (some 32) (by kernel_rfl) (Y_loadV c46 (by kernel_rfl) (by kernel_rfl)) ?_
        refine wpF_seg 1 (by kernel_rfl) ?_
        refine wpF_caseB 33 ((l.getD (k) ([], [], false)).2.2) (by kernel_rfl) (by kernel_rfl) (fun h47 => ?_) (fun h47 => ?_)
        · -- Ltfft
          refine wpF_seg 2 (by kernel_rfl) ?_
          refine gF_index (A := Al) (c := cl) (hl.up hM8.le) .i64 ((k : Int)) (h := (by kernel_rfl : opAt _ _ _ _ _ = some (.indexAddr 45 (.tmp 34) (.tmp 35), some 36))) (e := 105) (by kernel_rfl) (by kernel_rfl) (by kernel_rfl) (k) rfl (by omega) (fun b48 o49 at_b48 => ?_)
          have c50 : Vl4 b48 o49 = some (bs (l.getD (k) ([], [], false)).1) := (At.str (At.pr at_b48).1).1
          have l51 : (l.getD (k) ([], [], false)).1.length ≤ 140737488355328 := (At.str (At.pr at_b48).1).2
          have c52 : Vl4 b48 (o49 + 1) = some (bs (l.getD (k) ([], [], false)).2.1) := (At.str (At.pr (At.pr at_b48).2).1).1
          have l53 : (l.getD (k) ([], [], false)).2.1.length ≤ 140737488355328 := (At.str (At.pr (At.pr at_b48).2).1).2
          have c54 : Vl4 b48 (o49 + 2) = some (.bool (l.getD (k) ([], [], false)).2.2) := At.bool (At.pr (At.pr at_b48).2).2
          refine wpF_seg 1 (by kernel_rfl) ?_
          refine gF hM8 (.load 9 (.tmp 37)) (some 38) (by kernel_rfl) (Y_loadV c52 (by kernel_rfl) (by kernel_rfl)) ?_
          refine wpF_seg 3 (by kernel_rfl) ?_
          refine wpF_end _ (by kernel_rfl) (then_n (hK17 _ _ ?_))
          refine wp_if (!(decide (((l.getD (k) ([], [], false)).2.1) = ([])))) (by kernel_rfl) (fun h55 => ?_) (fun h55 => ?_)
          · -- Ltfftt
            have h56 : decide (((l.getD (k) ([], [], false)).2.1) = ([])) = false := by rw [← Bool.not_not (decide _), h55]; rfl
            have p57 : ¬ (((l.getD (k) ([], [], false)).2.1) = ([])) := of_decide_eq_false h56
            refine wp_seq_k (fun K58 hK58 => ?_)
            refine wp_reg ?_
            refine wpF_seg 1 (by kernel_rfl) ?_
            refine wpF_end _ (by kernel_rfl) (then_n (hK58 _ _ ?_))
            refine wp_ret (then_r (blk_r (then_r (then_r (blk_r (then_r (?_)))))))
            refine retN [.bool (false)] (.bool (false)) Try.results129 (.tmp (by kernel_rfl) (by kernel_rfl) .nil) (by kernel_rfl) (hRet _ _ ⟨_, _, rfl, hM8.clear, ?_⟩)
            -- end Ltfftt
            (have hb := fit14_no (l := l) (k := k) (by omega) (by first | exact .inl (by omega) | exact .inr (.inl (by omega)) | exact .inr (.inr (.inl ⟨by assumption, by assumption⟩)))); (simp only [hb] <;> rfl)
          · -- Ltfftf
            have h59 : decide (((l.getD (k) ([], [], false)).2.1) = ([])) = true := by rw [← Bool.not_not (decide _), h55]; rfl
            have p60 : (((l.getD (k) ([], [], false)).2.1) = ([])) := of_decide_eq_true h59
            refine wp_skip (then_n (hK16 _ _ ?_))
            refine wp_seq_k (fun K61 hK61 => ?_)
            refine wp_reg ?_
            refine wpF_seg 1 (by kernel_rfl) ?_
            refine wpF_end _ (by kernel_rfl) (then_n (hK61 _ _ ?_))
            refine wp_block ?_
            refine wp_base [(0, .slice Al (l).length cl), (3, .int .i64 ((k : Int))), (4, .int .i64 ((0 : Int)))] (by kernel_rfl) (fun g63 => ?_)
            refine wp_loopX (fun (x_ : Nat) a_ w_ => ∃ (g : Nat → Value) (V_ : VT), a_ = env [] 58 [(0, .slice Al (l).length cl), (3, .int .i64 ((k : Int))), (4, .int .i64 ((x_ : Int)))] g ∧ Step V w [] V_ w_ [] ∧ VT.le Vl4 V_ ∧ (x_ ≤ k) ∧ (∀ i, i < x_ → ¬ (l.getD i ([], [], false)).1 = (l.getD k ([], [], false)).1)) (fun (x_ : Nat) => k - x_) (0) ⟨g63, Vl4, rfl, hM8, VT.le.refl _, by omega, by (intro i hi; omega)⟩ ?_
            rintro j a_ w65 ⟨g64, Vl62, rfl, hM66, le67, hi68_0, hi68_1⟩ K68 hK68
            refine wp_seq_k (fun K69 hK69 => ?_)
            refine wp_seq_k (fun K70 hK70 => ?_)
            refine wp_reg ?_
            refine wpF_seg 3 (by kernel_rfl) ?_
            refine wpF_end _ (by kernel_rfl) (then_n (hK70 _ _ ?_))
            refine wp_if (decide (((j : Int)) < ((k : Int)))) (by kernel_rfl) (fun h71 => ?_) (fun h71 => ?_)
            · -- LtfftfLt
              have p72 : (((j : Int)) < ((k : Int))) := of_decide_eq_true h71
              refine wp_skip (then_n (hK69 _ _ ?_))
              refine wp_seq_k (fun K73 hK73 => ?_)
              refine wp_block ?_
              refine wp_seq_k (fun K74 hK74 => ?_)
              refine wp_base [(0, .slice Al (l).length cl), (3, .int .i64 ((k : Int))), (4, .int .i64 ((j : Int))), (42, .int .i64 ((j : Int))), (43, .int .i64 ((k : Int))), (44, .bool (decide (((j : Int)) < ((k : Int)))))] (by kernel_rfl) (fun g75 => ?_)
              refine wp_drawN hM66 [] no_held [] [0, 1, 2, 3, 4, 5, 6, 7, 8, 9, 10] [] [.p 0, .p 1, .p 2, .p 3, .p 4, .p 5, .p 6, .p 7, .p 8, .p 9, .p 10, .s] rfl (by kernel_rfl) (by kernel_rfl) ?_
              refine h_seg 2 (by kernel_rfl) ?_
              refine gH_index (A := Al) (c := cl) (hl.up hM66.le) .i64 ((j : Int)) (h := (by kernel_rfl : opAt _ _ _ _ _ = some (.indexAddr 45 (.tmp 47) (.tmp 48), some 49))) (e := 105) (by kernel_rfl) (by kernel_rfl) (by kernel_rfl) (j) rfl (by omega) (fun b76 o77 at_b76 => ?_)
              have c78 : Vl62 b76 o77 = some (bs (l.getD (j) ([], [], false)).1) := (At.str (At.pr at_b76).1).1
              have l79 : (l.getD (j) ([], [], false)).1.length ≤ 140737488355328 := (At.str (At.pr at_b76).1).2
              have c80 : Vl62 b76 (o77 + 1) = some (bs (l.getD (j) ([], [], false)).2.1) := (At.str (At.pr (At.pr at_b76).2).1).1
              have l81 : (l.getD (j) ([], [], false)).2.1.length ≤ 140737488355328 := (At.str (At.pr (At.pr at_b76).2).1).2
              have c82 : Vl62 b76 (o77 + 2) = some (.bool (l.getD (j) ([], [], false)).2.2) := At.bool (At.pr (At.pr at_b76).2).2
              refine h_seg 1 (by kernel_rfl) ?_
              refine gH (.load 9 (.tmp 50)) (some 51) (by kernel_rfl) (Y_loadV c78 (by kernel_rfl) (by kernel_rfl)) ?_
              refine h_seg 2 (by kernel_rfl) ?_
              refine gH_index (A := Al) (c := cl) (hl.up hM66.le) .i64 ((k : Int)) (h := (by kernel_rfl : opAt _ _ _ _ _ = some (.indexAddr 45 (.tmp 52) (.tmp 53), some 54))) (e := 105) (by kernel_rfl) (by kernel_rfl) (by kernel_rfl) (k) rfl (by omega) (fun b83 o84 at_b83 => ?_)
              have c85 : Vl62 b83 o84 = some (bs (l.getD (k) ([], [], false)).1) := (At.str (At.pr at_b83).1).1
              have l86 : (l.getD (k) ([], [], false)).1.length ≤ 140737488355328 := (At.str (At.pr at_b83).1).2
              have c87 : Vl62 b83 (o84 + 1) = some (bs (l.getD (k) ([], [], false)).2.1) := (At.str (At.pr (At.pr at_b83).2).1).1
              have l88 : (l.getD (k) ([], [], false)).2.1.length ≤ 140737488355328 := (At.str (At.pr (At.pr at_b83).2).1).2
              have c89 : Vl62 b83 (o84 + 2) = some (.bool (l.getD (k) ([], [], false)).2.2) := At.bool (At.pr (At.pr at_b83).2).2
              refine h_seg 1 (by kernel_rfl) ?_
              refine gH (.load 9 (.tmp 55)) (some 56) (by kernel_rfl) (Y_loadV c85 (by kernel_rfl) (by kernel_rfl)) ?_
              refine h_seg 1 (by kernel_rfl) ?_
              refine h_s no_fs ?_
              refine h_n (fun w90 hM91 => ?_)
              refine  (then_n (hK74 _ _ ?_))
              refine wp_if (decide (((l.getD (j) ([], [], false)).1) = ((l.getD (k) ([], [], false)).1))) (by kernel_rfl) (fun h92 => ?_) (fun h92 => ?_)
              · -- LtfftfLtt
                have p93 : (((l.getD (j) ([], [], false)).1) = ((l.getD (k) ([], [], false)).1)) := of_decide_eq_true h92
                refine wp_seq_k (fun K94 hK94 => ?_)
                refine wp_reg ?_
                refine wpF_seg 1 (by kernel_rfl) ?_
                refine wpF_end _ (by kernel_rfl) (then_n (hK94 _ _ ?_))
                refine wp_ret (blk_r (then_r (then_r (blk_r (blk_r (then_r (then_r (blk_r (then_r (?_))))))))))
                refine retN [.bool (false)] (.bool (false)) Try.results129 (.tmp (by kernel_rfl) (by kernel_rfl) .nil) (by kernel_rfl) (hRet _ _ ⟨_, _, rfl, hM91.clear, ?_⟩)
                -- end LtfftfLtt
                (have hb := fit14_no (l := l) (k := k) (by omega) (.inr (.inr (.inr ⟨j, by omega, by assumption⟩)))); (simp only [hb] <;> rfl)
              · -- LtfftfLtf
                have p95 : ¬ (((l.getD (j) ([], [], false)).1) = ((l.getD (k) ([], [], false)).1)) := of_decide_eq_false h92
                refine wp_skip (blk_n (then_n (hK73 _ _ ?_)))
                refine wp_reg ?_
                refine wpF_seg 1 (by kernel_rfl) ?_
                refine gF hM91 (.binOp .add 3 (.tmp 45) (.const (.int .i64 1)) 3) (some 46) (by kernel_rfl) (Y_add .i64 ((j : Int)) (1) ((j : Int) + 1) (by kernel_rfl) (by kernel_rfl) (wrap64_ok _ (by omega))) ?_
                refine wpF_seg 1 (by kernel_rfl) ?_
                refine wpF_base [(0, .slice Al (l).length cl), (3, .int .i64 ((k : Int))), (4, .int .i64 ((j + 1 : Int)))] (by kernel_rfl) (fun g96 => ?_)
                refine wpF_end _ (by kernel_rfl) (then_n (hK68 _ _ (j + 1) (by omega) ?_))
                refine ⟨g96, Vl62, rfl, hM91, le67, ?_, ?_⟩
                · -- LtfftfLtf inv 0
                  omega
                · -- LtfftfLtf inv 1
                  exact all_one (by assumption) (by assumption)
            · -- LtfftfLf
              have p97 : ¬ (((j : Int)) < ((k : Int))) := of_decide_eq_false h71
              refine wp_exit (then_x (then_x (blk_hit (blk_n (then_n (hK15 _ _ ?_))))))
              obtain rfl : k = j := by omega
              refine wp_reg ?_
              refine wpF_seg 1 (by kernel_rfl) ?_
              refine gF hM66 (.binOp .add 3 (.tmp 9) (.const (.int .i64 1)) 3) (some 10) (by kernel_rfl) (Y_add .i64 ((k : Int)) (1) ((k : Int) + 1) (by kernel_rfl) (by kernel_rfl) (wrap64_ok _ (by omega))) ?_
              refine wpF_seg 1 (by kernel_rfl) ?_
              refine wpF_base [(0, .slice Al (l).length cl), (3, .int .i64 ((k + 1 : Int)))] (by kernel_rfl) (fun g98 => ?_)
              refine wpF_end _ (by kernel_rfl) (then_n (hK10 _ _ (k + 1) (by omega) ?_))
              refine ⟨g98, Vl62, rfl, hM66, hM66.le, ?_, ?_⟩
              · -- LtfftfLf inv 0
                omega
              · -- LtfftfLf inv 1
                exact fit14_step (by assumption) (by assumption) (by omega) (by omega) (by first | exact .inl (by assumption) | exact .inr (by assumption))
        · -- Ltfff
          refine wpF_seg 8 (by kernel_rfl) ?_
          refine wpF_end _ (by kernel_rfl) (then_n (hK17 _ _ ?_))
          refine wp_cf (by kernel_rfl) ?_
          refine wp_skip (then_n (hK16 _ _ ?_))
          refine wp_seq_k (fun K99 hK99 => ?_)
          refine wp_reg ?_
          refine wpF_seg 1 (by kernel_rfl) ?_
          refine wpF_end _ (by kernel_rfl) (then_n (hK99 _ _ ?_))
          refine wp_block ?_
          refine wp_base [(0, .slice Al (l).length cl), (3, .int .i64 ((k : Int))), (4, .int .i64 ((0 : Int)))] (by kernel_rfl) (fun g101 => ?_)
          refine wp_loopX (fun (x_ : Nat) a_ w_ => ∃ (g : Nat → Value) (V_ : VT), a_ = env [] 58 [(0, .slice Al (l).length cl), (3, .int .i64 ((k : Int))), (4, .int .i64 ((x_ : Int)))] g ∧ Step V w [] V_ w_ [] ∧ VT.le Vl4 V_ ∧ (x_ ≤ k) ∧ (∀ i, i < x_ → ¬ (l.getD i ([], [], false)).1 = (l.getD k ([], [], false)).1)) (fun (x_ : Nat) => k - x_) (0) ⟨g101, Vl4, rfl, hM8, VT.le.refl _, by omega, by (intro i hi; omega)⟩ ?_
          rintro j a_ w103 ⟨g102, Vl100, rfl, hM104, le105, hi106_0, hi106_1⟩ K106 hK106
          refine wp_seq_k (fun K107 hK107 => ?_)
          refine wp_seq_k (fun K108 hK108 => ?_)
          refine wp_reg ?_
          refine wpF_seg 3 (by kernel_rfl) ?_
          refine wpF_end _ (by kernel_rfl) (then_n (hK108 _ _ ?_))
          refine wp_if (decide (((j : Int)) < ((k : Int)))) (by kernel_rfl) (fun h109 => ?_) (fun h109 => ?_)
          · -- LtfffLt
            have p110 : (((j : Int)) < ((k : Int))) := of_decide_eq_true h109
            refine wp_skip (then_n (hK107 _ _ ?_))
            refine wp_seq_k (fun K111 hK111 => ?_)
            refine wp_block ?_
            refine wp_seq_k (fun K112 hK112 => ?_)
            refine wp_base [(0, .slice Al (l).length cl), (3, .int .i64 ((k : Int))), (4, .int .i64 ((j : Int))), (42, .int .i64 ((j : Int))), (43, .int .i64 ((k : Int))), (44, .bool (decide (((j : Int)) < ((k : Int)))))] (by kernel_rfl) (fun g113 => ?_)
            refine wp_drawN hM104 [] no_held [] [0, 1, 2, 3, 4, 5, 6, 7, 8, 9, 10] [] [.p 0, .p 1, .p 2, .p 3, .p 4, .p 5, .p 6, .p 7, .p 8, .p 9, .p 10, .s] rfl (by kernel_rfl) (by kernel_rfl) ?_
            refine h_seg 2 (by kernel_rfl) ?_
            refine gH_index (A := Al) (c := cl) (hl.up hM104.le) .i64 ((j : Int)) (h := (by kernel_rfl : opAt _ _ _ _ _ = some (.indexAddr 45 (.tmp 47) (.tmp 48), some 49))) (e := 105) (by kernel_rfl) (by kernel_rfl) (by kernel_rfl) (j) rfl (by omega) (fun b114 o115 at_b114 => ?_)
            have c116 : Vl100 b114 o115 = some (bs (l.getD (j) ([], [], false)).1) := (At.str (At.pr at_b114).1).1
            have l117 : (l.getD (j) ([], [], false)).1.length ≤ 140737488355328 := (At.str (At.pr at_b114).1).2
            have c118 : Vl100 b114 (o115 + 1) = some (bs (l.getD (j) ([], [], false)).2.1) := (At.str (At.pr (At.pr at_b114).2).1).1
            have l119 : (l.getD (j) ([], [], false)).2.1.length ≤ 140737488355328 := (At.str (At.pr (At.pr at_b114).2).1).2
            have c120 : Vl100 b114 (o115 + 2) = some (.bool (l.getD (j) ([], [], false)).2.2) := At.bool (At.pr (At.pr at_b114).2).2
            refine h_seg 1 (by kernel_rfl) ?_
            refine gH (.load 9 (.tmp 50)) (some 51) (by kernel_rfl) (Y_loadV c116 (by kernel_rfl) (by kernel_rfl)) ?_
            refine h_seg 2 (by kernel_rfl) ?_
            refine gH_index (A := Al) (c := cl) (hl.up hM104.le) .i64 ((k : Int)) (h := (by kernel_rfl : opAt _ _ _ _ _ = some (.indexAddr 45 (.tmp 52) (.tmp 53), some 54))) (e := 105) (by kernel_rfl) (by kernel_rfl) (by kernel_rfl) (k) rfl (by omega) (fun b121 o122 at_b121 => ?_)
            have c123 : Vl100 b121 o122 = some (bs (l.getD (k) ([], [], false)).1) := (At.str (At.pr at_b121).1).1
            have l124 : (l.getD (k) ([], [], false)).1.length ≤ 140737488355328 := (At.str (At.pr at_b121).1).2
            have c125 : Vl100 b121 (o122 + 1) = some (bs (l.getD (k) ([], [], false)).2.1) := (At.str (At.pr (At.pr at_b121).2).1).1
            have l126 : (l.getD (k) ([], [], false)).2.1.length ≤ 140737488355328 := (At.str (At.pr (At.pr at_b121).2).1).2
            have c127 : Vl100 b121 (o122 + 2) = some (.bool (l.getD (k) ([], [], false)).2.2) := At.bool (At.pr (At.pr at_b121).2).2
            refine h_seg 1 (by kernel_rfl) ?_
            refine gH (.load 9 (.tmp 55)) (some 56) (by kernel_rfl) (Y_loadV c123 (by kernel_rfl) (by kernel_rfl)) ?_
            refine h_seg 1 (by kernel_rfl) ?_
            refine h_s no_fs ?_
            refine h_n (fun w128 hM129 => ?_)
            refine  (then_n (hK112 _ _ ?_))
            refine wp_if (decide (((l.getD (j) ([], [], false)).1) = ((l.getD (k) ([], [], false)).1))) (by kernel_rfl) (fun h130 => ?_) (fun h130 => ?_)
            · -- LtfffLtt
              have p131 : (((l.getD (j) ([], [], false)).1) = ((l.getD (k) ([], [], false)).1)) := of_decide_eq_true h130
              refine wp_seq_k (fun K132 hK132 => ?_)
              refine wp_reg ?_
              refine wpF_seg 1 (by kernel_rfl) ?_
              refine wpF_end _ (by kernel_rfl) (then_n (hK132 _ _ ?_))
              refine wp_ret (blk_r (then_r (then_r (blk_r (blk_r (then_r (then_r (blk_r (then_r (?_))))))))))
              refine retN [.bool (false)] (.bool (false)) Try.results129 (.tmp (by kernel_rfl) (by kernel_rfl) .nil) (by kernel_rfl) (hRet _ _ ⟨_, _, rfl, hM129.clear, ?_⟩)
              -- end LtfffLtt
              (have hb := fit14_no (l := l) (k := k) (by omega) (.inr (.inr (.inr ⟨j, by omega, by assumption⟩)))); (simp only [hb] <;> rfl)
            · -- LtfffLtf
              have p133 : ¬ (((l.getD (j) ([], [], false)).1) = ((l.getD (k) ([], [], false)).1)) := of_decide_eq_false h130
              refine wp_skip (blk_n (then_n (hK111 _ _ ?_)))
              refine wp_reg ?_
              refine wpF_seg 1 (by kernel_rfl) ?_
              refine gF hM129 (.binOp .add 3 (.tmp 45) (.const (.int .i64 1)) 3) (some 46) (by kernel_rfl) (Y_add .i64 ((j : Int)) (1) ((j : Int) + 1) (by kernel_rfl) (by kernel_rfl) (wrap64_ok _ (by omega))) ?_
              refine wpF_seg 1 (by kernel_rfl) ?_
              refine wpF_base [(0, .slice Al (l).length cl), (3, .int .i64 ((k : Int))), (4, .int .i64 ((j + 1 : Int)))] (by kernel_rfl) (fun g134 => ?_)
              refine wpF_end _ (by kernel_rfl) (then_n (hK106 _ _ (j + 1) (by omega) ?_))
              refine ⟨g134, Vl100, rfl, hM129, le105, ?_, ?_⟩
              · -- LtfffLtf inv 0
                omega
              · -- LtfffLtf inv 1
                exact all_one (by assumption) (by assumption)
          · -- LtfffLf
            have p135 : ¬ (((j : Int)) < ((k : Int))) := of_decide_eq_false h109
            refine wp_exit (then_x (then_x (blk_hit (blk_n (then_n (hK15 _ _ ?_))))))
            obtain rfl : k = j := by omega
            refine wp_reg ?_
            refine wpF_seg 1 (by kernel_rfl) ?_
            refine gF hM104 (.binOp .add 3 (.tmp 9) (.const (.int .i64 1)) 3) (some 10) (by kernel_rfl) (Y_add .i64 ((k : Int)) (1) ((k : Int) + 1) (by kernel_rfl) (by kernel_rfl) (wrap64_ok _ (by omega))) ?_
            refine wpF_seg 1 (by kernel_rfl) ?_
            refine wpF_base [(0, .slice Al (l).length cl), (3, .int .i64 ((k + 1 : Int)))] (by kernel_rfl) (fun g136 => ?_)
            refine wpF_end _ (by kernel_rfl) (then_n (hK10 _ _ (k + 1) (by omega) ?_))
            refine ⟨g136, Vl100, rfl, hM104, hM104.le, ?_, ?_⟩
            · -- LtfffLf inv 0
              omega
            · -- LtfffLf inv 1
              exact fit14_step (by assumption) (by assumption) (by omega) (by omega) (by first | exact .inl (by assumption) | exact .inr (by assumption))
  · -- Lf
    have p137 : ¬ (((k : Int)) < ((l.length : Int))) := of_decide_eq_false h13
    refine wp_exit (then_x (then_x (blk_hit (then_n (hK2 _ _ ?_)))))
    obtain rfl : k = l.length := by omega
    refine wp_seq_k (fun K138 hK138 => ?_)
    refine wp_reg ?_
    refine wpF_seg 1 (by kernel_rfl) ?_
    refine wpF_end _ (by kernel_rfl) (then_n (hK138 _ _ ?_))
    refine wp_ret ?_
    refine retN [.bool (true)] (.bool (true)) Try.results129 (.tmp (by kernel_rfl) (by kernel_rfl) .nil) (by kernel_rfl) (hRet _ _ ⟨_, _, rfl, hM8.clear, ?_⟩)
    -- end Lf
    (have hb : fitB l = true := by assumption); (simp only [hb] <;> rfl)

set_option maxHeartbeats 4000000 in
set_option maxRecDepth 100000 in
theorem f131 (V : VT) (w : World) (hV : V.inW w) (As : Option Addr) (cs : Nat) (s : List ((Str × (List ((Int × Str × Bool)))))) (hs : Rd (prK strK (slK (prK (intK .i64) (prK strK boolK)))) V As cs s) (y : Str) (hy : y.length ≤ maxL) (Av : Option Addr) (cv : Nat) (v : List ((Int × Str × Bool))) (hv : Rd (prK (intK .i64) (prK strK boolK)) V Av cv v) (hup : UP (keysOf s)) (h5 : s.length ≤ 99000) :
    Calls Try.prog 131 #[.slice As (s).length cs, bs (y), .slice Av (v).length cv] w (RetP V w fun rv V' => ∃ (A1 : Option Addr), ∃ (c1 : Nat), rv = .slice A1 (setL s y v).length c1 ∧ Rd (prK strK (slK (prK (intK .i64) (prK strK boolK)))) V' A1 c1 (setL s y v)) := by
  have mxs : s.length ≤ 140737488355328 := hs.max
  have mxy : y.length ≤ 140737488355328 := hy
  have mxv : v.length ≤ 140737488355328 := hv.max
  refine calls_env (n := 60) Try.func131 (c := _) rfl Try.ntmps131 (by kernel_rfl) (fun R hRet => ?_)
  have hM0 : Step V w [] V w [] := Step.refl (St.nilE hV)
  refine wp_seq_k (fun K1 hK1 => ?_)
  refine wp_reg ?_
  refine wpF_seg 1 (by kernel_rfl) ?_
  refine wpF_end _ (by kernel_rfl) (then_n (hK1 _ _ ?_))
  refine wp_seq_k (fun K2 hK2 => ?_)
  refine wp_reg ?_
  refine wpF_seg 1 (by kernel_rfl) ?_
  refine wpF_end _ (by kernel_rfl) (then_n (hK2 _ _ ?_))
  refine wp_seq_k (fun K3 hK3 => ?_)
  refine wp_reg ?_
  refine wpF_seg 4 (by kernel_rfl) ?_
  refine wpF_end _ (by kernel_rfl) (then_n (hK3 _ _ ?_))
  refine wp_seq_k (fun K4 hK4 => ?_)
  refine wp_seq_k (fun K5 hK5 => ?_)
  refine wp_reg ?_
  refine wpF_seg 1 (by kernel_rfl) ?_
  refine wpF_end _ (by kernel_rfl) (then_n (hK5 _ _ ?_))
  refine wp_block ?_
  have hM7 := hM0.nilrow (prK strK (slK (prK (intK .i64) (prK strK boolK)))) 80
  have hM8 : Step V w [] V _ ([.row (prK strK (slK (prK (intK .i64) (prK strK boolK)))) 80 none 0 (([] : List ((Str × (List ((Int × Str × Bool)))))))]) := hM7
  refine wp_base [(0, .slice As (s).length cs), (1, bs (y)), (2, .slice Av (v).length cv), (6, .slice none 0 0), (7, .slice none (([] : List Item)).length 0), (8, .bool (decide ((v.length : Int) = 0))), (9, .int .i64 ((0 : Int)))] (by kernel_rfl) (fun g9 => ?_)
  refine wp_loopX (fun (x_ : Nat × Bool × List Item) a_ w_ => ∃ (g : Nat → Value) (V_ : VT), ∃ (Ar7 : Option Addr) (cr7 : Nat), a_ = env [] 60 [(0, .slice As (s).length cs), (1, bs (y)), (2, .slice Av (v).length cv), (6, .slice none 0 0), (7, .slice Ar7 (x_.2.2).length cr7), (8, .bool (x_.2.1)), (9, .int .i64 ((x_.1 : Int)))] g ∧ Step V w [] V_ w_ [.row (prK strK (slK (prK (intK .i64) (prK strK boolK)))) 80 Ar7 cr7 (x_.2.2)] ∧ VT.le V V_ ∧ (x_.1 ≤ s.length) ∧ (WS (s.take (x_.1)) y v x_.2.1 x_.2.2) ∧ ((x_.2.2).length ≤ 2 * x_.1)) (fun (x_ : Nat × Bool × List Item) => s.length - x_.1) ((0 : Nat), (decide ((v.length : Int) = 0) : Bool), (([] : List Item) : List Item)) ⟨g9, V, none, 0, rfl, hM8, VT.le.refl _, by omega, by exact ws_0 _ _ _ rfl, by exact Nat.zero_le _⟩ ?_
  rintro ⟨i, d, o⟩ a_ w11 ⟨g10, Vl6, Ar_147, cr_147, rfl, hM12, le13, hi14_0, hi14_1, hi14_2⟩ K14 hK14
  replace hi14_0 : i ≤ s.length := hi14_0
  replace hi14_1 : WS (s.take (i)) y v d o := hi14_1
  replace hi14_2 : (o).length ≤ 2 * i := hi14_2
  refine wp_seq_k (fun K15 hK15 => ?_)
  refine wp_seq_k (fun K16 hK16 => ?_)
  refine wp_reg ?_
  refine wpF_seg 4 (by kernel_rfl) ?_
  refine wpF_end _ (by kernel_rfl) (then_n (hK16 _ _ ?_))
  refine wp_if (decide (((i : Int)) < ((s.length : Int)))) (by kernel_rfl) (fun h17 => ?_) (fun h17 => ?_)
  · -- Lt
    have p18 : (((i : Int)) < ((s.length : Int))) := of_decide_eq_true h17
    refine wp_skip (then_n (hK15 _ _ ?_))
    refine wp_seq_k (fun K19 hK19 => ?_)
    refine wp_block ?_
    refine wp_seq_k (fun K20 hK20 => ?_)
    refine wp_seq_k (fun K21 hK21 => ?_)
    refine wp_reg ?_
    refine wpF_seg 3 (by kernel_rfl) ?_
    refine wpF_caseB 21 (!d) (by kernel_rfl) (by kernel_rfl) (fun h22 => ?_) (fun h22 => ?_)
    · -- Ltt
      have h23 : (d) = false := by simpa using h22
      refine wpF_seg 2 (by kernel_rfl) ?_
      refine gF_index (A := As) (c := cs) (hs.up hM12.le) .i64 ((i : Int)) (h := (by kernel_rfl : opAt _ _ _ _ _ = some (.indexAddr 46 (.tmp 22) (.tmp 23), some 24))) (e := 80) (by kernel_rfl) (by kernel_rfl) (by kernel_rfl) (i) rfl (by omega) (fun b24 o25 at_b24 => ?_)
      have c26 : Vl6 b24 o25 = some (bs (s.getD (i) ([], [])).1) := (At.str (At.pr at_b24).1).1
      have l27 : (s.getD (i) ([], [])).1.length ≤ 140737488355328 := (At.str (At.pr at_b24).1).2
      obtain ⟨A28, c29, c30, r31⟩ := At.sl (At.pr at_b24).2
      have c30 : Vl6 b24 (o25 + 1) = some (.slice A28 ((s.getD (i) ([], [])).2).length c29) := c30
      have r31 : Rd (prK (intK .i64) (prK strK boolK)) Vl6 A28 c29 ((s.getD (i) ([], [])).2) := r31
      have l32 : ((s.getD (i) ([], [])).2).length ≤ 140737488355328 := r31.max
      refine wpF_seg 1 (by kernel_rfl) ?_
      refine gF hM12 (.load 9 (.tmp 25)) (some 26) (by kernel_rfl) (Y_loadV c26 (by kernel_rfl) (by kernel_rfl)) ?_
      refine wpF_seg 1 (by kernel_rfl) ?_
      refine wpF_callP hM12 (f := 60) (caps := #[]) (h := (by kernel_rfl : opAt _ _ _ _ _ = some (.call (.mk (.value (.func 60)) #[(.tmp 26), (.tmp 27)] #[9, 9]), some 28))) (by kernel_rfl) (by kernel_rfl) (by kernel_rfl) (f60 _ _ hM12.inW ((s.getD (i) ([], [])).1) (l27) (y) (hy)) (fun v33 V34 w35 le36 hM37 hp38 => ?_)
      obtain rfl := hp38
      refine wpF_seg 2 (by kernel_rfl) ?_
      refine wpF_end _ (by kernel_rfl) (then_n (hK21 _ _ ?_))
      refine wp_if (!(decide (((s.getD (i) ([], [])).1) < (y)))) (by kernel_rfl) (fun h39 => ?_) (fun h39 => ?_)
      · -- Lttt
        have h40 : decide (((s.getD (i) ([], [])).1) < (y)) = false := by rw [← Bool.not_not (decide _), h39]; rfl
        have p41 : ¬ (((s.getD (i) ([], [])).1) < (y)) := of_decide_eq_false h40
        refine wp_seq_k (fun K42 hK42 => ?_)
        refine wp_reg ?_
        refine wpF_seg 4 (by kernel_rfl) ?_
        refine wpF_litR (prK strK (slK (prK (intK .i64) (prK strK boolK)))) hM37 #[bs (y), .slice Av (v).length cv] (h := (by kernel_rfl : opAt _ _ _ _ _ = some (.buildSlice 46 1 #[(0, (.tmp 34))], some 35))) (e := 80) (by kernel_rfl) ([(y, v)]) (Reps.single (K := (prK strK (slK (prK (intK .i64) (prK strK boolK))))) (x := (y, v)) ⟨[bs (y)], [.slice Av (v).length cv], rfl, ⟨rfl, hy⟩, ⟨Av, cv, rfl, (hv.up hM37.le)⟩⟩) rfl (by simp [maxL]) (fun A43 c44 V47 w45 le48 hM46 r49 => ?_)
        refine wpF_append (by_ := 40) hM46 0 rfl (h := (by kernel_rfl : opAt _ _ _ _ _ = some (.call (.mk (.builtin .append) #[(.tmp 31), (.tmp 35)] #[46, 46]), some 36))) (by kernel_rfl) (by kernel_rfl) (by kernel_rfl) (by kernel_rfl) (by kernel_rfl) (by kernel_rfl) (by kernel_rfl) (Src.rd r49) (by first | omega | (simp only [List.length_append, List.length_cons, List.length_nil]; omega)) (fun A50 c51 w52 hM53 => ?_)
        have hM54 : Step V w [] V47 _ ([.row (prK strK (slK (prK (intK .i64) (prK strK boolK)))) 80 A50 c51 (o ++ [(y, v)])]) := hM53
        refine wpF_seg 1 (by kernel_rfl) ?_
        refine wpF_end _ (by kernel_rfl) (then_n (hK42 _ _ ?_))
        refine wp_reg ?_
        refine wpF_seg 1 (by kernel_rfl) ?_
        refine wpF_end _ (by kernel_rfl) (then_n (hK20 _ _ ?_))
        refine wp_seq_k (fun K55 hK55 => ?_)
        refine wp_reg ?_
        refine wpF_seg 2 (by kernel_rfl) ?_
        refine gF_index (A := As) (c := cs) (hs.up hM54.le) .i64 ((i : Int)) (h := (by kernel_rfl : opAt _ _ _ _ _ = some (.indexAddr 46 (.tmp 37) (.tmp 38), some 39))) (e := 80) (by kernel_rfl) (by kernel_rfl) (by kernel_rfl) (i) rfl (by omega) (fun b56 o57 at_b56 => ?_)
        have c58 : V47 b56 o57 = some (bs (s.getD (i) ([], [])).1) := (At.str (At.pr at_b56).1).1
        have l59 : (s.getD (i) ([], [])).1.length ≤ 140737488355328 := (At.str (At.pr at_b56).1).2
        obtain ⟨A60, c61, c62, r63⟩ := At.sl (At.pr at_b56).2
        have c62 : V47 b56 (o57 + 1) = some (.slice A60 ((s.getD (i) ([], [])).2).length c61) := c62
        have r63 : Rd (prK (intK .i64) (prK strK boolK)) V47 A60 c61 ((s.getD (i) ([], [])).2) := r63
        have l64 : ((s.getD (i) ([], [])).2).length ≤ 140737488355328 := r63.max
        refine wpF_seg 1 (by kernel_rfl) ?_
        refine gF hM54 (.load 9 (.tmp 40)) (some 41) (by kernel_rfl) (Y_loadV c58 (by kernel_rfl) (by kernel_rfl)) ?_
        refine wpF_seg 2 (by kernel_rfl) ?_
        refine wpF_end _ (by kernel_rfl) (then_n (hK55 _ _ ?_))
        refine wp_if (!(decide (((s.getD (i) ([], [])).1) = (y)))) (by kernel_rfl) (fun h65 => ?_) (fun h65 => ?_)
        · -- Ltttt
          have h66 : decide (((s.getD (i) ([], [])).1) = (y)) = false := by rw [← Bool.not_not (decide _), h65]; rfl
          have p67 : ¬ (((s.getD (i) ([], [])).1) = (y)) := of_decide_eq_false h66
          refine wp_reg ?_
          refine wpF_seg 3 (by kernel_rfl) ?_
          refine gF_index (A := As) (c := cs) (hs.up hM54.le) .i64 ((i : Int)) (h := (by kernel_rfl : opAt _ _ _ _ _ = some (.indexAddr 46 (.tmp 45) (.tmp 46), some 47))) (e := 80) (by kernel_rfl) (by kernel_rfl) (by kernel_rfl) (i) rfl (by omega) (fun b68 o69 at_b68 => ?_)
          have c70 : V47 b68 o69 = some (bs (s.getD (i) ([], [])).1) := (At.str (At.pr at_b68).1).1
          have l71 : (s.getD (i) ([], [])).1.length ≤ 140737488355328 := (At.str (At.pr at_b68).1).2
          obtain ⟨A72, c73, c74, r75⟩ := At.sl (At.pr at_b68).2
          have c74 : V47 b68 (o69 + 1) = some (.slice A72 ((s.getD (i) ([], [])).2).length c73) := c74
          have r75 : Rd (prK (intK .i64) (prK strK boolK)) V47 A72 c73 ((s.getD (i) ([], [])).2) := r75
          have l76 : ((s.getD (i) ([], [])).2).length ≤ 140737488355328 := r75.max
          refine gF hM54 (.load 80 (.tmp 47)) (some 48) (by kernel_rfl) (Y_loadS (b := b68) (off := o69) [bs ((s.getD (i) ([], [])).1), .slice A72 ((s.getD (i) ([], [])).2).length c73] (cells2 c70 c74) (by kernel_rfl) (by kernel_rfl) (by kernel_rfl)) ?_
          refine wpF_litR (prK strK (slK (prK (intK .i64) (prK strK boolK)))) hM54 #[bs ((s.getD (i) ([], [])).1), .slice A72 ((s.getD (i) ([], [])).2).length c73] (h := (by kernel_rfl : opAt _ _ _ _ _ = some (.buildSlice 46 1 #[(0, (.tmp 48))], some 49))) (e := 80) (by kernel_rfl) ([((s.getD (i) ([], [])).1, (s.getD (i) ([], [])).2)]) (Reps.single (K := (prK strK (slK (prK (intK .i64) (prK strK boolK))))) (x := ((s.getD (i) ([], [])).1, (s.getD (i) ([], [])).2)) ⟨[bs ((s.getD (i) ([], [])).1)], [.slice A72 ((s.getD (i) ([], [])).2).length c73], rfl, ⟨rfl, l71⟩, ⟨A72, c73, rfl, r75⟩⟩) rfl (by simp [maxL]) (fun A77 c78 V81 w79 le82 hM80 r83 => ?_)
          refine wpF_append (by_ := 40) hM80 0 rfl (h := (by kernel_rfl : opAt _ _ _ _ _ = some (.call (.mk (.builtin .append) #[(.tmp 44), (.tmp 49)] #[46, 46]), some 50))) (by kernel_rfl) (by kernel_rfl) (by kernel_rfl) (by kernel_rfl) (by kernel_rfl) (by kernel_rfl) (by kernel_rfl) (Src.rd r83) (by first | omega | (simp only [List.length_append, List.length_cons, List.length_nil]; omega)) (fun A84 c85 w86 hM87 => ?_)
          have hM88 : Step V w [] V81 _ ([.row (prK strK (slK (prK (intK .i64) (prK strK boolK)))) 80 A84 c85 (o ++ [(y, v)] ++ [((s.getD (i) ([], [])).1, (s.getD (i) ([], [])).2)])]) := hM87
          refine wpF_seg 1 (by kernel_rfl) ?_
          refine wpF_end _ (by kernel_rfl) (blk_n (then_n (hK19 _ _ ?_)))
          refine wp_reg ?_
          refine wpF_seg 1 (by kernel_rfl) ?_
          refine gF hM88 (.binOp .add 3 (.tmp 17) (.const (.int .i64 1)) 3) (some 18) (by kernel_rfl) (Y_add .i64 ((i : Int)) (1) ((i : Int) + 1) (by kernel_rfl) (by kernel_rfl) (wrap64_ok _ (by omega))) ?_
          refine wpF_seg 1 (by kernel_rfl) ?_
          refine wpF_base [(0, .slice As (s).length cs), (1, bs (y)), (2, .slice Av (v).length cv), (6, .slice none 0 0), (7, .slice A84 ((o ++ ([(y, v)] : List (List UInt8 × List (Int × Str × Bool)))) ++ ([((s.getD (i) ([], [])).1, (s.getD (i) ([], [])).2)] : List (List UInt8 × List (Int × Str × Bool)))).length c85), (8, .bool (true)), (9, .int .i64 ((i + 1 : Int)))] (by kernel_rfl) (fun g89 => ?_)
          refine wpF_end _ (by kernel_rfl) (then_n (hK14 _ _ (i + 1, true, (o ++ ([(y, v)] : List (List UInt8 × List (Int × Str × Bool)))) ++ ([((s.getD (i) ([], [])).1, (s.getD (i) ([], [])).2)] : List (List UInt8 × List (Int × Str × Bool)))) (by omega) ?_))
          refine ⟨g89, V81, A84, c85, rfl, hM88, hM88.le, ?_, ?_, ?_⟩
          · -- Ltttt inv 0
            omega
          · -- Ltttt inv 1
            exact ws_new hup (by omega) (by assumption) (by assumption) (of_decide_eq_false (by assumption)) (by rw [if_neg (by assumption)])
          · -- Ltttt inv 2
            first | omega | (simp only [List.length_append, List.length_cons, List.length_nil]; omega)
        · -- Ltttf
          have h90 : decide (((s.getD (i) ([], [])).1) = (y)) = true := by rw [← Bool.not_not (decide _), h65]; rfl
          have p91 : (((s.getD (i) ([], [])).1) = (y)) := of_decide_eq_true h90
          refine wp_skip (blk_n (then_n (hK19 _ _ ?_)))
          refine wp_reg ?_
          refine wpF_seg 1 (by kernel_rfl) ?_
          refine gF hM54 (.binOp .add 3 (.tmp 17) (.const (.int .i64 1)) 3) (some 18) (by kernel_rfl) (Y_add .i64 ((i : Int)) (1) ((i : Int) + 1) (by kernel_rfl) (by kernel_rfl) (wrap64_ok _ (by omega))) ?_
          refine wpF_seg 1 (by kernel_rfl) ?_
          refine wpF_base [(0, .slice As (s).length cs), (1, bs (y)), (2, .slice Av (v).length cv), (6, .slice none 0 0), (7, .slice A50 (o ++ ([(y, v)] : List (List UInt8 × List (Int × Str × Bool)))).length c51), (8, .bool (true)), (9, .int .i64 ((i + 1 : Int)))] (by kernel_rfl) (fun g92 => ?_)
          refine wpF_end _ (by kernel_rfl) (then_n (hK14 _ _ (i + 1, true, o ++ ([(y, v)] : List (List UInt8 × List (Int × Str × Bool)))) (by omega) ?_))
          refine ⟨g92, V47, A50, c51, rfl, hM54, hM54.le, ?_, ?_, ?_⟩
          · -- Ltttf inv 0
            omega
          · -- Ltttf inv 1
            exact ws_new hup (by omega) (by assumption) (by assumption) (of_decide_eq_false (by assumption)) (by rw [if_pos (by assumption), List.append_nil])
          · -- Ltttf inv 2
            first | omega | (simp only [List.length_append, List.length_cons, List.length_nil]; omega)
      · -- Lttf
        have h93 : decide (((s.getD (i) ([], [])).1) < (y)) = true := by rw [← Bool.not_not (decide _), h39]; rfl
        have p94 : (((s.getD (i) ([], [])).1) < (y)) := of_decide_eq_true h93
        refine wp_skip (then_n (hK20 _ _ ?_))
        refine wp_seq_k (fun K95 hK95 => ?_)
        refine wp_reg ?_
        refine wpF_seg 2 (by kernel_rfl) ?_
        refine gF_index (A := As) (c := cs) (hs.up hM37.le) .i64 ((i : Int)) (h := (by kernel_rfl : opAt _ _ _ _ _ = some (.indexAddr 46 (.tmp 37) (.tmp 38), some 39))) (e := 80) (by kernel_rfl) (by kernel_rfl) (by kernel_rfl) (i) rfl (by omega) (fun b96 o97 at_b96 => ?_)
        have c98 : V34 b96 o97 = some (bs (s.getD (i) ([], [])).1) := (At.str (At.pr at_b96).1).1
        have l99 : (s.getD (i) ([], [])).1.length ≤ 140737488355328 := (At.str (At.pr at_b96).1).2
        obtain ⟨A100, c101, c102, r103⟩ := At.sl (At.pr at_b96).2
        have c102 : V34 b96 (o97 + 1) = some (.slice A100 ((s.getD (i) ([], [])).2).length c101) := c102
        have r103 : Rd (prK (intK .i64) (prK strK boolK)) V34 A100 c101 ((s.getD (i) ([], [])).2) := r103
        have l104 : ((s.getD (i) ([], [])).2).length ≤ 140737488355328 := r103.max
        refine wpF_seg 1 (by kernel_rfl) ?_
        refine gF hM37 (.load 9 (.tmp 40)) (some 41) (by kernel_rfl) (Y_loadV c98 (by kernel_rfl) (by kernel_rfl)) ?_
        refine wpF_seg 2 (by kernel_rfl) ?_
        refine wpF_end _ (by kernel_rfl) (then_n (hK95 _ _ ?_))
        refine wp_if (!(decide (((s.getD (i) ([], [])).1) = (y)))) (by kernel_rfl) (fun h105 => ?_) (fun h105 => ?_)
        · -- Lttft
          have h106 : decide (((s.getD (i) ([], [])).1) = (y)) = false := by rw [← Bool.not_not (decide _), h105]; rfl
          have p107 : ¬ (((s.getD (i) ([], [])).1) = (y)) := of_decide_eq_false h106
          refine wp_reg ?_
          refine wpF_seg 3 (by kernel_rfl) ?_
          refine gF_index (A := As) (c := cs) (hs.up hM37.le) .i64 ((i : Int)) (h := (by kernel_rfl : opAt _ _ _ _ _ = some (.indexAddr 46 (.tmp 45) (.tmp 46), some 47))) (e := 80) (by kernel_rfl) (by kernel_rfl) (by kernel_rfl) (i) rfl (by omega) (fun b108 o109 at_b108 => ?_)
          have c110 : V34 b108 o109 = some (bs (s.getD (i) ([], [])).1) := (At.str (At.pr at_b108).1).1
          have l111 : (s.getD (i) ([], [])).1.length ≤ 140737488355328 := (At.str (At.pr at_b108).1).2
          obtain ⟨A112, c113, c114, r115⟩ := At.sl (At.pr at_b108).2
          have c114 : V34 b108 (o109 + 1) = some (.slice A112 ((s.getD (i) ([], [])).2).length c113) := c114
          have r115 : Rd (prK (intK .i64) (prK strK boolK)) V34 A112 c113 ((s.getD (i) ([], [])).2) := r115
          have l116 : ((s.getD (i) ([], [])).2).length ≤ 140737488355328 := r115.max
          refine gF hM37 (.load 80 (.tmp 47)) (some 48) (by kernel_rfl) (Y_loadS (b := b108) (off := o109) [bs ((s.getD (i) ([], [])).1), .slice A112 ((s.getD (i) ([], [])).2).length c113] (cells2 c110 c114) (by kernel_rfl) (by kernel_rfl) (by kernel_rfl)) ?_
          refine wpF_litR (prK strK (slK (prK (intK .i64) (prK strK boolK)))) hM37 #[bs ((s.getD (i) ([], [])).1), .slice A112 ((s.getD (i) ([], [])).2).length c113] (h := (by kernel_rfl : opAt _ _ _ _ _ = some (.buildSlice 46 1 #[(0, (.tmp 48))], some 49))) (e := 80) (by kernel_rfl) ([((s.getD (i) ([], [])).1, (s.getD (i) ([], [])).2)]) (Reps.single (K := (prK strK (slK (prK (intK .i64) (prK strK boolK))))) (x := ((s.getD (i) ([], [])).1, (s.getD (i) ([], [])).2)) ⟨[bs ((s.getD (i) ([], [])).1)], [.slice A112 ((s.getD (i) ([], [])).2).length c113], rfl, ⟨rfl, l111⟩, ⟨A112, c113, rfl, r115⟩⟩) rfl (by simp [maxL]) (fun A117 c118 V121 w119 le122 hM120 r123 => ?_)
          refine wpF_append (by_ := 40) hM120 0 rfl (h := (by kernel_rfl : opAt _ _ _ _ _ = some (.call (.mk (.builtin .append) #[(.tmp 44), (.tmp 49)] #[46, 46]), some 50))) (by kernel_rfl) (by kernel_rfl) (by kernel_rfl) (by kernel_rfl) (by kernel_rfl) (by kernel_rfl) (by kernel_rfl) (Src.rd r123) (by first | omega | (simp only [List.length_append, List.length_cons, List.length_nil]; omega)) (fun A124 c125 w126 hM127 => ?_)
          have hM128 : Step V w [] V121 _ ([.row (prK strK (slK (prK (intK .i64) (prK strK boolK)))) 80 A124 c125 (o ++ [((s.getD (i) ([], [])).1, (s.getD (i) ([], [])).2)])]) := hM127
          refine wpF_seg 1 (by kernel_rfl) ?_
          refine wpF_end _ (by kernel_rfl) (blk_n (then_n (hK19 _ _ ?_)))
          refine wp_reg ?_
          refine wpF_seg 1 (by kernel_rfl) ?_
          refine gF hM128 (.binOp .add 3 (.tmp 17) (.const (.int .i64 1)) 3) (some 18) (by kernel_rfl) (Y_add .i64 ((i : Int)) (1) ((i : Int) + 1) (by kernel_rfl) (by kernel_rfl) (wrap64_ok _ (by omega))) ?_
          refine wpF_seg 1 (by kernel_rfl) ?_
          refine wpF_base [(0, .slice As (s).length cs), (1, bs (y)), (2, .slice Av (v).length cv), (6, .slice none 0 0), (7, .slice A124 (o ++ ([((s.getD (i) ([], [])).1, (s.getD (i) ([], [])).2)] : List (List UInt8 × List (Int × Str × Bool)))).length c125), (8, .bool (d)), (9, .int .i64 ((i + 1 : Int)))] (by kernel_rfl) (fun g129 => ?_)
          refine wpF_end _ (by kernel_rfl) (then_n (hK14 _ _ (i + 1, d, o ++ ([((s.getD (i) ([], [])).1, (s.getD (i) ([], [])).2)] : List (List UInt8 × List (Int × Str × Bool)))) (by omega) ?_))
          refine ⟨g129, V121, A124, c125, rfl, hM128, hM128.le, ?_, ?_, ?_⟩
          · -- Lttft inv 0
            omega
          · -- Lttft inv 1
            exact ws_old hup (by omega) (by assumption) (by first | exact .inl (by assumption) | exact .inr (of_decide_eq_true (by assumption))) (by rw [if_neg (by assumption)])
          · -- Lttft inv 2
            first | omega | (simp only [List.length_append, List.length_cons, List.length_nil]; omega)
        · -- Lttff
          have h130 : decide (((s.getD (i) ([], [])).1) = (y)) = true := by rw [← Bool.not_not (decide _), h105]; rfl
          have p131 : (((s.getD (i) ([], [])).1) = (y)) := of_decide_eq_true h130
          refine wp_skip (blk_n (then_n (hK19 _ _ ?_)))
          refine wp_reg ?_
          refine wpF_seg 1 (by kernel_rfl) ?_
          refine gF hM37 (.binOp .add 3 (.tmp 17) (.const (.int .i64 1)) 3) (some 18) (by kernel_rfl) (Y_add .i64 ((i : Int)) (1) ((i : Int) + 1) (by kernel_rfl) (by kernel_rfl) (wrap64_ok _ (by omega))) ?_
          refine wpF_seg 1 (by kernel_rfl) ?_
          refine wpF_base [(0, .slice As (s).length cs), (1, bs (y)), (2, .slice Av (v).length cv), (6, .slice none 0 0), (7, .slice Ar_147 (o).length cr_147), (8, .bool (d)), (9, .int .i64 ((i + 1 : Int)))] (by kernel_rfl) (fun g132 => ?_)
          refine wpF_end _ (by kernel_rfl) (then_n (hK14 _ _ (i + 1, d, o) (by omega) ?_))
          refine ⟨g132, V34, Ar_147, cr_147, rfl, hM37, hM37.le, ?_, ?_, ?_⟩
          · -- Lttff inv 0
            omega
          · -- Lttff inv 1
            exact ws_old hup (by omega) (by assumption) (by first | exact .inl (by assumption) | exact .inr (of_decide_eq_true (by assumption))) (by rw [if_pos (by assumption), List.append_nil])
          · -- Lttff inv 2
            first | omega | (simp only [List.length_append, List.length_cons, List.length_nil]; omega)
    · -- Ltf
      have h133 : (d) = true := by simpa using h22
      refine wpF_seg 9 (by kernel_rfl) ?_
      refine wpF_end _ (by kernel_rfl) (then_n (hK21 _ _ ?_))
      refine wp_cf (by kernel_rfl) ?_
      refine wp_skip (then_n (hK20 _ _ ?_))
      refine wp_seq_k (fun K134 hK134 => ?_)
      refine wp_reg ?_
      refine wpF_seg 2 (by kernel_rfl) ?_
      refine gF_index (A := As) (c := cs) (hs.up hM12.le) .i64 ((i : Int)) (h := (by kernel_rfl : opAt _ _ _ _ _ = some (.indexAddr 46 (.tmp 37) (.tmp 38), some 39))) (e := 80) (by kernel_rfl) (by kernel_rfl) (by kernel_rfl) (i) rfl (by omega) (fun b135 o136 at_b135 => ?_)
      have c137 : Vl6 b135 o136 = some (bs (s.getD (i) ([], [])).1) := (At.str (At.pr at_b135).1).1
      have l138 : (s.getD (i) ([], [])).1.length ≤ 140737488355328 := (At.str (At.pr at_b135).1).2
      obtain ⟨A139, c140, c141, r142⟩ := At.sl (At.pr at_b135).2
      have c141 : Vl6 b135 (o136 + 1) = some (.slice A139 ((s.getD (i) ([], [])).2).length c140) := c141
      have r142 : Rd (prK (intK .i64) (prK strK boolK)) Vl6 A139 c140 ((s.getD (i) ([], [])).2) := r142
      have l143 : ((s.getD (i) ([], [])).2).length ≤ 140737488355328 := r142.max
      refine wpF_seg 1 (by kernel_rfl) ?_
      refine gF hM12 (.load 9 (.tmp 40)) (some 41) (by kernel_rfl) (Y_loadV c137 (by kernel_rfl) (by kernel_rfl)) ?_
      refine wpF_seg 2 (by kernel_rfl) ?_
      refine wpF_end _ (by kernel_rfl) (then_n (hK134 _ _ ?_))
      refine wp_if (!(decide (((s.getD (i) ([], [])).1) = (y)))) (by kernel_rfl) (fun h144 => ?_) (fun h144 => ?_)
      · -- Ltft
        have h145 : decide (((s.getD (i) ([], [])).1) = (y)) = false := by rw [← Bool.not_not (decide _), h144]; rfl
        have p146 : ¬ (((s.getD (i) ([], [])).1) = (y)) := of_decide_eq_false h145
        refine wp_reg ?_
        refine wpF_seg 3 (by kernel_rfl) ?_
        refine gF_index (A := As) (c := cs) (hs.up hM12.le) .i64 ((i : Int)) (h := (by kernel_rfl : opAt _ _ _ _ _ = some (.indexAddr 46 (.tmp 45) (.tmp 46), some 47))) (e := 80) (by kernel_rfl) (by kernel_rfl) (by kernel_rfl) (i) rfl (by omega) (fun b147 o148 at_b147 => ?_)
        have c149 : Vl6 b147 o148 = some (bs (s.getD (i) ([], [])).1) := (At.str (At.pr at_b147).1).1
        have l150 : (s.getD (i) ([], [])).1.length ≤ 140737488355328 := (At.str (At.pr at_b147).1).2
        obtain ⟨A151, c152, c153, r154⟩ := At.sl (At.pr at_b147).2
        have c153 : Vl6 b147 (o148 + 1) = some (.slice A151 ((s.getD (i) ([], [])).2).length c152) := c153
        have r154 : Rd (prK (intK .i64) (prK strK boolK)) Vl6 A151 c152 ((s.getD (i) ([], [])).2) := r154
        have l155 : ((s.getD (i) ([], [])).2).length ≤ 140737488355328 := r154.max
        refine gF hM12 (.load 80 (.tmp 47)) (some 48) (by kernel_rfl) (Y_loadS (b := b147) (off := o148) [bs ((s.getD (i) ([], [])).1), .slice A151 ((s.getD (i) ([], [])).2).length c152] (cells2 c149 c153) (by kernel_rfl) (by kernel_rfl) (by kernel_rfl)) ?_
        refine wpF_litR (prK strK (slK (prK (intK .i64) (prK strK boolK)))) hM12 #[bs ((s.getD (i) ([], [])).1), .slice A151 ((s.getD (i) ([], [])).2).length c152] (h := (by kernel_rfl : opAt _ _ _ _ _ = some (.buildSlice 46 1 #[(0, (.tmp 48))], some 49))) (e := 80) (by kernel_rfl) ([((s.getD (i) ([], [])).1, (s.getD (i) ([], [])).2)]) (Reps.single (K := (prK strK (slK (prK (intK .i64) (prK strK boolK))))) (x := ((s.getD (i) ([], [])).1, (s.getD (i) ([], [])).2)) ⟨[bs ((s.getD (i) ([], [])).1)], [.slice A151 ((s.getD (i) ([], [])).2).length c152], rfl, ⟨rfl, l150⟩, ⟨A151, c152, rfl, r154⟩⟩) rfl (by simp [maxL]) (fun A156 c157 V160 w158 le161 hM159 r162 => ?_)
        refine wpF_append (by_ := 40) hM159 0 rfl (h := (by kernel_rfl : opAt _ _ _ _ _ = some (.call (.mk (.builtin .append) #[(.tmp 44), (.tmp 49)] #[46, 46]), some 50))) (by kernel_rfl) (by kernel_rfl) (by kernel_rfl) (by kernel_rfl) (by kernel_rfl) (by kernel_rfl) (by kernel_rfl) (Src.rd r162) (by first | omega | (simp only [List.length_append, List.length_cons, List.length_nil]; omega)) (fun A163 c164 w165 hM166 => ?_)
        have hM167 : Step V w [] V160 _ ([.row (prK strK (slK (prK (intK .i64) (prK strK boolK)))) 80 A163 c164 (o ++ [((s.getD (i) ([], [])).1, (s.getD (i) ([], [])).2)])]) := hM166
        refine wpF_seg 1 (by kernel_rfl) ?_
        refine wpF_end _ (by kernel_rfl) (blk_n (then_n (hK19 _ _ ?_)))
        refine wp_reg ?_
        refine wpF_seg 1 (by kernel_rfl) ?_
        refine gF hM167 (.binOp .add 3 (.tmp 17) (.const (.int .i64 1)) 3) (some 18) (by kernel_rfl) (Y_add .i64 ((i : Int)) (1) ((i : Int) + 1) (by kernel_rfl) (by kernel_rfl) (wrap64_ok _ (by omega))) ?_
        refine wpF_seg 1 (by kernel_rfl) ?_
        refine wpF_base [(0, .slice As (s).length cs), (1, bs (y)), (2, .slice Av (v).length cv), (6, .slice none 0 0), (7, .slice A163 (o ++ ([((s.getD (i) ([], [])).1, (s.getD (i) ([], [])).2)] : List (List UInt8 × List (Int × Str × Bool)))).length c164), (8, .bool (d)), (9, .int .i64 ((i + 1 : Int)))] (by kernel_rfl) (fun g168 => ?_)
        refine wpF_end _ (by kernel_rfl) (then_n (hK14 _ _ (i + 1, d, o ++ ([((s.getD (i) ([], [])).1, (s.getD (i) ([], [])).2)] : List (List UInt8 × List (Int × Str × Bool)))) (by omega) ?_))
        refine ⟨g168, V160, A163, c164, rfl, hM167, hM167.le, ?_, ?_, ?_⟩
        · -- Ltft inv 0
          omega
        · -- Ltft inv 1
          exact ws_old hup (by omega) (by assumption) (by first | exact .inl (by assumption) | exact .inr (of_decide_eq_true (by assumption))) (by rw [if_neg (by assumption)])
        · -- Ltft inv 2
          first | omega | (simp only [List.length_append, List.length_cons, List.length_nil]; omega)
      · -- Ltff
        have h169 : decide (((s.getD (i) ([], [])).1) = (y)) = true := by rw [← Bool.not_not (decide _), h144]; rfl
        have p170 : (((s.getD (i) ([], [])).1) = (y)) := of_decide_eq_true h169
        refine wp_skip (blk_n (then_n (hK19 _ _ ?_)))
        refine wp_reg ?_
        refine wpF_seg 1 (by kernel_rfl) ?_
        refine gF hM12 (.binOp .add 3 (.tmp 17) (.const (.int .i64 1)) 3) (some 18) (by kernel_rfl) (Y_add .i64 ((i : Int)) (1) ((i : Int) + 1) (by kernel_rfl) (by kernel_rfl) (wrap64_ok _ (by omega))) ?_
        refine wpF_seg 1 (by kernel_rfl) ?_
        refine wpF_base [(0, .slice As (s).length cs), (1, bs (y)), (2, .slice Av (v).length cv), (6, .slice none 0 0), (7, .slice Ar_147 (o).length cr_147), (8, .bool (d)), (9, .int .i64 ((i + 1 : Int)))] (by kernel_rfl) (fun g171 => ?_)
        refine wpF_end _ (by kernel_rfl) (then_n (hK14 _ _ (i + 1, d, o) (by omega) ?_))
        refine ⟨g171, Vl6, Ar_147, cr_147, rfl, hM12, hM12.le, ?_, ?_, ?_⟩
        · -- Ltff inv 0
          omega
        · -- Ltff inv 1
          exact ws_old hup (by omega) (by assumption) (by first | exact .inl (by assumption) | exact .inr (of_decide_eq_true (by assumption))) (by rw [if_pos (by assumption), List.append_nil])
        · -- Ltff inv 2
          first | omega | (simp only [List.length_append, List.length_cons, List.length_nil]; omega)
  · -- Lf
    have p172 : ¬ (((i : Int)) < ((s.length : Int))) := of_decide_eq_false h17
    refine wp_exit (then_x (then_x (blk_hit (then_n (hK4 _ _ ?_)))))
    obtain rfl : i = s.length := by omega
    refine wp_seq_k (fun K173 hK173 => ?_)
    refine wp_seq_k (fun K174 hK174 => ?_)
    refine wp_reg ?_
    refine wpF_seg 2 (by kernel_rfl) ?_
    refine wpF_end _ (by kernel_rfl) (then_n (hK174 _ _ ?_))
    refine wp_if (!d) (by kernel_rfl) (fun h175 => ?_) (fun h175 => ?_)
    · -- Lft
      have h176 : (d) = false := by simpa using h175
      refine wp_reg ?_
      refine wpF_seg 4 (by kernel_rfl) ?_
      refine wpF_litR (prK strK (slK (prK (intK .i64) (prK strK boolK)))) hM12 #[bs (y), .slice Av (v).length cv] (h := (by kernel_rfl : opAt _ _ _ _ _ = some (.buildSlice 46 1 #[(0, (.tmp 56))], some 57))) (e := 80) (by kernel_rfl) ([(y, v)]) (Reps.single (K := (prK strK (slK (prK (intK .i64) (prK strK boolK))))) (x := (y, v)) ⟨[bs (y)], [.slice Av (v).length cv], rfl, ⟨rfl, hy⟩, ⟨Av, cv, rfl, (hv.up hM12.le)⟩⟩) rfl (by simp [maxL]) (fun A177 c178 V181 w179 le182 hM180 r183 => ?_)
      refine wpF_append (by_ := 40) hM180 0 rfl (h := (by kernel_rfl : opAt _ _ _ _ _ = some (.call (.mk (.builtin .append) #[(.tmp 53), (.tmp 57)] #[46, 46]), some 58))) (by kernel_rfl) (by kernel_rfl) (by kernel_rfl) (by kernel_rfl) (by kernel_rfl) (by kernel_rfl) (by kernel_rfl) (Src.rd r183) (by first | omega | (simp only [List.length_append, List.length_cons, List.length_nil]; omega)) (fun A184 c185 w186 hM187 => ?_)
      have hM188 : Step V w [] V181 _ ([.row (prK strK (slK (prK (intK .i64) (prK strK boolK)))) 80 A184 c185 (o ++ [(y, v)])]) := hM187
      refine wpF_seg 1 (by kernel_rfl) ?_
      refine wpF_end _ (by kernel_rfl) (then_n (hK173 _ _ ?_))
      refine wp_seq_k (fun K189 hK189 => ?_)
      refine wp_reg ?_
      refine wpF_seg 2 (by kernel_rfl) ?_
      refine wpF_end _ (by kernel_rfl) (then_n (hK189 _ _ ?_))
      refine wp_ret ?_
      obtain ⟨V190, le191, hM192, r193⟩ := hM188.settleRow 0 rfl
      have hM194 : Step V w [] V190 _ ([]) := hM192
      refine retN [.slice A184 (o ++ [(y, v)]).length c185] (.slice A184 (o ++ [(y, v)]).length c185) Try.results131 (.tmp (by kernel_rfl) (by kernel_rfl) .nil) (by kernel_rfl) (hRet _ _ ⟨_, _, rfl, hM194.clear, ?_⟩)
      -- end Lft
      have hw : WS s y v d o := by have hw0 := (by assumption : WS (s.take s.length) y v d o); rwa [List.take_length] at hw0
      refine ⟨A184, c185, ?_, ?_⟩
      · exact congrArg (fun z => Value.slice _ (List.length z) _) (ws_end2 hw (by assumption))
      · first | exact r193 | (exact Rd.eq r193 (by exact ws_end2 hw (by assumption)))
    · -- Lff
      have h195 : (d) = true := by simpa using h175
      refine wp_skip (then_n (hK173 _ _ ?_))
      refine wp_seq_k (fun K196 hK196 => ?_)
      refine wp_reg ?_
      refine wpF_seg 2 (by kernel_rfl) ?_
      refine wpF_end _ (by kernel_rfl) (then_n (hK196 _ _ ?_))
      refine wp_ret ?_
      obtain ⟨V197, le198, hM199, r200⟩ := hM12.settleRow 0 rfl
      have hM201 : Step V w [] V197 _ ([]) := hM199
      refine retN [.slice Ar_147 (o).length cr_147] (.slice Ar_147 (o).length cr_147) Try.results131 (.tmp (by kernel_rfl) (by kernel_rfl) .nil) (by kernel_rfl) (hRet _ _ ⟨_, _, rfl, hM201.clear, ?_⟩)
      -- end Lff
      have hw : WS s y v d o := by have hw0 := (by assumption : WS (s.take s.length) y v d o); rwa [List.take_length] at hw0
      refine ⟨Ar_147, cr_147, ?_, ?_⟩
      · exact congrArg (fun z => Value.slice _ (List.length z) _) (ws_end hw (by assumption))
      · first | exact r200 | (exact Rd.eq r200 (by exact ws_end hw (by assumption)))

end Go.Vk
