import Derived.Test.YtnibbocbefnnnaaRA
import Derived.Test.YtnibbocbefnnnaaRIt
import Derived.Test.YtnibbocbefnnnaaRMathSp
import Derived.Test.YtnibbocbefnnnaaRMathSq
import Derived.Test.YtnibbocbefnnnaaRMathSr
import Derived.Test.YtnibbocbefnnnaaRMathSs
import Derived.Test.YtnibbocbefnnnaaRMathSt
import Derived.Test.YtnibbocbefnnnaaRPlainSp
import Derived.Test.YtnibbocbefnnnaaRSp
set_option linter.unusedVariables false
set_option linter.unusedSimpArgs false
namespace Go.Vk
open Go.Proofs
variable {D : List Deferred}
set_option maxHeartbeats 4000000 in
set_option maxRecDepth 100000 in
theorem f121 (V : VT) (w : World) (hV : V.inW w) (As : Option Addr) (cs : Nat) (s : List ((Str × Str))) (hs : Rd (prK strK strK) V As cs s) (y : Str) (hy : y.length ≤ maxL) :
    Calls Try.prog 121 #[.slice As (s).length cs, bs (y)] w (RetP V w fun rv V' => rv = .tuple #[bs (ptV s y), .int .i64 (ptE s y)]) := by
  have mxs : s.length ≤ 140737488355328 := hs.max
  have mxy : y.length ≤ 140737488355328 := hy
  refine calls_env (n := 25) Try.func121 (c := _) rfl Try.ntmps121 (by kernel_rfl) (fun R hRet => ?_)
  have hM0 : Step V w [] V w [] := Step.refl (St.nilE hV)
  refine wp_seq_k (fun K1 hK1 => ?_)
  refine wp_reg ?_
  refine wpF_seg 2 (by kernel_rfl) ?_
  refine wpF_end _ (by kernel_rfl) (then_n (hK1 _ _ ?_))
  refine wp_seq_k (fun K2 hK2 => ?_)
  refine wp_seq_k (fun K3 hK3 => ?_)
  refine wp_reg ?_
  refine wpF_seg 1 (by kernel_rfl) ?_
  refine wpF_end _ (by kernel_rfl) (then_n (hK3 _ _ ?_))
  refine wp_block ?_
  refine wp_base [(0, .slice As (s).length cs), (1, bs (y)), (6, .int .i64 ((0 : Int)))] (by kernel_rfl) (fun g5 => ?_)
  refine wp_loopX (fun (x_ : Nat) a_ w_ => ∃ (g : Nat → Value) (V_ : VT), a_ = env [] 25 [(0, .slice As (s).length cs), (1, bs (y)), (6, .int .i64 ((x_ : Int)))] g ∧ Step V w [] V_ w_ [] ∧ VT.le V V_ ∧ (x_ ≤ s.length) ∧ (∀ i, i < x_ → ¬ (s.getD i ([], [])).1 = y)) (fun (x_ : Nat) => s.length - x_) (0) ⟨g5, V, rfl, hM0, VT.le.refl _, by omega, by (intro i hi; omega)⟩ ?_
  rintro k a_ w7 ⟨g6, Vl4, rfl, hM8, le9, hi10_0, hi10_1⟩ K10 hK10
  refine wp_seq_k (fun K11 hK11 => ?_)
  refine wp_seq_k (fun K12 hK12 => ?_)
  refine wp_reg ?_
  refine wpF_seg 4 (by kernel_rfl) ?_
  refine wpF_end _ (by kernel_rfl) (then_n (hK12 _ _ ?_))
  refine wp_if (decide (((k : Int)) < ((s.length : Int)))) (by kernel_rfl) (fun h13 => ?_) (fun h13 => ?_)
  · -- Lt
    have p14 : (((k : Int)) < ((s.length : Int))) := of_decide_eq_true h13
    refine wp_skip (then_n (hK11 _ _ ?_))
    refine wp_seq_k (fun K15 hK15 => ?_)
    refine wp_block ?_
    refine wp_seq_k (fun K16 hK16 => ?_)
    refine wp_reg ?_
    refine wpF_seg 2 (by kernel_rfl) ?_
    refine gF_index (A := As) (c := cs) (hs.up hM8.le) .i64 ((k : Int)) (h := (by kernel_rfl : opAt _ _ _ _ _ = some (.indexAddr 60 (.tmp 13) (.tmp 14), some 15))) (e := 93) (by kernel_rfl) (by kernel_rfl) (by kernel_rfl) (k) rfl (by omega) (fun b17 o18 at_b17 => ?_)
    have c19 : Vl4 b17 o18 = some (bs (s.getD (k) ([], [])).1) := (At.str (At.pr at_b17).1).1
    have l20 : (s.getD (k) ([], [])).1.length ≤ 140737488355328 := (At.str (At.pr at_b17).1).2
    have c21 : Vl4 b17 (o18 + 1) = some (bs (s.getD (k) ([], [])).2) := (At.str (At.pr at_b17).2).1
    have l22 : (s.getD (k) ([], [])).2.length ≤ 140737488355328 := (At.str (At.pr at_b17).2).2
    refine wpF_seg 1 (by kernel_rfl) ?_
    refine gF hM8 (.load 9 (.tmp 16)) (some 17) (by kernel_rfl) (Y_loadV c19 (by kernel_rfl) (by kernel_rfl)) ?_
    refine wpF_seg 2 (by kernel_rfl) ?_
    refine wpF_end _ (by kernel_rfl) (then_n (hK16 _ _ ?_))
    refine wp_if (decide (((s.getD (k) ([], [])).1) = (y))) (by kernel_rfl) (fun h23 => ?_) (fun h23 => ?_)
    · -- Ltt
      have p24 : (((s.getD (k) ([], [])).1) = (y)) := of_decide_eq_true h23
      refine wp_seq_k (fun K25 hK25 => ?_)
      refine wp_reg ?_
      refine wpF_seg 2 (by kernel_rfl) ?_
      refine gF_index (A := As) (c := cs) (hs.up hM8.le) .i64 ((k : Int)) (h := (by kernel_rfl : opAt _ _ _ _ _ = some (.indexAddr 60 (.tmp 20) (.tmp 21), some 22))) (e := 93) (by kernel_rfl) (by kernel_rfl) (by kernel_rfl) (k) rfl (by omega) (fun b26 o27 at_b26 => ?_)
      have c28 : Vl4 b26 o27 = some (bs (s.getD (k) ([], [])).1) := (At.str (At.pr at_b26).1).1
      have l29 : (s.getD (k) ([], [])).1.length ≤ 140737488355328 := (At.str (At.pr at_b26).1).2
      have c30 : Vl4 b26 (o27 + 1) = some (bs (s.getD (k) ([], [])).2) := (At.str (At.pr at_b26).2).1
      have l31 : (s.getD (k) ([], [])).2.length ≤ 140737488355328 := (At.str (At.pr at_b26).2).2
      refine wpF_seg 1 (by kernel_rfl) ?_
      refine gF hM8 (.load 9 (.tmp 23)) (some 24) (by kernel_rfl) (Y_loadV c30 (by kernel_rfl) (by kernel_rfl)) ?_
      refine wpF_seg 2 (by kernel_rfl) ?_
      refine wpF_end _ (by kernel_rfl) (then_n (hK25 _ _ ?_))
      refine wp_ret (blk_r (then_r (then_r (blk_r (then_r (?_))))))
      refine retN [bs ((s.getD (k) ([], [])).2), .int .i64 (0)] (.tuple #[bs ((s.getD (k) ([], [])).2), .int .i64 (0)]) Try.results121 (.tmp (by kernel_rfl) (by kernel_rfl) (.tmp (by kernel_rfl) (by kernel_rfl) .nil)) (by kernel_rfl) (hRet _ _ ⟨_, _, rfl, hM8.clear, ?_⟩)
      -- end Ltt
      rw [ptV_at (k := k) (by omega) (by assumption) (by assumption), ptE_at (k := k) (by omega) (by assumption)]
    · -- Ltf
      have p32 : ¬ (((s.getD (k) ([], [])).1) = (y)) := of_decide_eq_false h23
      refine wp_skip (blk_n (then_n (hK15 _ _ ?_)))
      refine wp_reg ?_
      refine wpF_seg 1 (by kernel_rfl) ?_
      refine gF hM8 (.binOp .add 3 (.tmp 11) (.const (.int .i64 1)) 3) (some 12) (by kernel_rfl) (Y_add .i64 ((k : Int)) (1) ((k : Int) + 1) (by kernel_rfl) (by kernel_rfl) (wrap64_ok _ (by omega))) ?_
      refine wpF_seg 1 (by kernel_rfl) ?_
      refine wpF_base [(0, .slice As (s).length cs), (1, bs (y)), (6, .int .i64 ((k + 1 : Int)))] (by kernel_rfl) (fun g33 => ?_)
      refine wpF_end _ (by kernel_rfl) (then_n (hK10 _ _ (k + 1) (by omega) ?_))
      refine ⟨g33, Vl4, rfl, hM8, hM8.le, ?_, ?_⟩
      · -- Ltf inv 0
        omega
      · -- Ltf inv 1
        exact all_one (by assumption) (by assumption)
  · -- Lf
    have p34 : ¬ (((k : Int)) < ((s.length : Int))) := of_decide_eq_false h13
    refine wp_exit (then_x (then_x (blk_hit (then_n (hK2 _ _ ?_)))))
    obtain rfl : k = s.length := by omega
    refine wp_seq_k (fun K35 hK35 => ?_)
    refine wp_reg ?_
    refine wpF_seg 2 (by kernel_rfl) ?_
    refine wpF_end _ (by kernel_rfl) (then_n (hK35 _ _ ?_))
    refine wp_ret ?_
    refine retN [bs ([]), .int .i64 (7)] (.tuple #[bs ([]), .int .i64 (7)]) Try.results121 (.tmp (by kernel_rfl) (by kernel_rfl) (.tmp (by kernel_rfl) (by kernel_rfl) .nil)) (by kernel_rfl) (hRet _ _ ⟨_, _, rfl, hM8.clear, ?_⟩)
    -- end Lf
    rw [(pt_no (by assumption)).1, (pt_no (by assumption)).2]

set_option maxHeartbeats 4000000 in
set_option maxRecDepth 100000 in
theorem f84 (V : VT) (w : World) (hV : V.inW w) (As : Option Addr) (cs : Nat) (s : List ((Str × Str))) (hs : Rd (prK strK strK) V As cs s) (y : Str) (hy : y.length ≤ maxL) (h5 : s.length ≤ 99000) :
    Calls Try.prog 84 #[.slice As (s).length cs, bs (y)] w (RetP V w fun rv V' => ∃ (A1 : Option Addr), ∃ (c1 : Nat), rv = .tuple #[.slice A1 (delP s y).length c1, .int .i64 (ptE s y)] ∧ Rd (prK strK strK) V' A1 c1 (delP s y)) := by
  have mxs : s.length ≤ 140737488355328 := hs.max
  have mxy : y.length ≤ 140737488355328 := hy
  refine calls_env (n := 40) Try.func84 (c := _) rfl Try.ntmps84 (by kernel_rfl) (fun R hRet => ?_)
  have hM0 : Step V w [] V w [] := Step.refl (St.nilE hV)
  refine wp_seq_k (fun K1 hK1 => ?_)
  refine wp_reg ?_
  refine wpF_seg 2 (by kernel_rfl) ?_
  refine wpF_end _ (by kernel_rfl) (then_n (hK1 _ _ ?_))
  refine wp_seq_k (fun K2 hK2 => ?_)
  refine wp_seq_k (fun K3 hK3 => ?_)
  refine wp_reg ?_
  refine wpF_seg 2 (by kernel_rfl) ?_
  refine wpF_callP hM0 (f := 121) (caps := #[]) (h := (by kernel_rfl : opAt _ _ _ _ _ = some (.call (.mk (.value (.func 121)) #[(.tmp 11), (.tmp 12)] #[60, 9]), some 13))) (by kernel_rfl) (by kernel_rfl) (by kernel_rfl) (f121 _ _ hM0.inW As cs (s) hs (y) (hy)) (fun v4 V5 w6 le7 hM8 hp9 => ?_)
  obtain rfl := hp9
  refine wpF_seg 5 (by kernel_rfl) ?_
  refine wpF_end _ (by kernel_rfl) (then_n (hK3 _ _ ?_))
  refine wp_seq_k (fun K10 hK10 => ?_)
  refine wp_reg ?_
  refine wpF_seg 2 (by kernel_rfl) ?_
  refine wpF_end _ (by kernel_rfl) (then_n (hK10 _ _ ?_))
  refine wp_if (!(decide ((ptE (s) (y)) = (0)))) (by kernel_rfl) (fun h11 => ?_) (fun h11 => ?_)
  · -- t
    have h12 : decide ((ptE (s) (y)) = (0)) = false := by rw [← Bool.not_not (decide _), h11]; rfl
    have p13 : ¬ ((ptE (s) (y)) = (0)) := of_decide_eq_false h12
    refine wp_seq_k (fun K14 hK14 => ?_)
    refine wp_reg ?_
    refine wpF_seg 3 (by kernel_rfl) ?_
    refine wpF_end _ (by kernel_rfl) (then_n (hK14 _ _ ?_))
    refine wp_ret (then_r (?_))
    refine retN [.slice As (s).length cs, .int .i64 (7)] (.tuple #[.slice As (s).length cs, .int .i64 (7)]) Try.results84 (.tmp (by kernel_rfl) (by kernel_rfl) (.tmp (by kernel_rfl) (by kernel_rfl) .nil)) (by kernel_rfl) (hRet _ _ ⟨_, _, rfl, hM8.clear, ?_⟩)
    -- end t
    have hno := delP_no (by assumption : ¬ ptE s y = 0)
    have h7 := ptE_7 (by assumption : ¬ ptE s y = 0)
    refine ⟨As, cs, ?_, ?_⟩
    · rw [hno, h7]
    · first | exact (hs.up hM8.le) | (exact Rd.eq (hs.up hM8.le) (by exact hno.symm))
  · -- f
    have h15 : decide ((ptE (s) (y)) = (0)) = true := by rw [← Bool.not_not (decide _), h11]; rfl
    have p16 : ((ptE (s) (y)) = (0)) := of_decide_eq_true h15
    have hp0 : ptE s y = 0 := by omega
    refine wp_skip (then_n (hK2 _ _ ?_))
    refine wp_seq_k (fun K17 hK17 => ?_)
    refine wp_reg ?_
    refine wpF_seg 1 (by kernel_rfl) ?_
    refine wpF_end _ (by kernel_rfl) (then_n (hK17 _ _ ?_))
    refine wp_seq_k (fun K18 hK18 => ?_)
    refine wp_seq_k (fun K19 hK19 => ?_)
    refine wp_reg ?_
    refine wpF_seg 1 (by kernel_rfl) ?_
    refine wpF_end _ (by kernel_rfl) (then_n (hK19 _ _ ?_))
    refine wp_block ?_
    have hM21 := hM8.nilrow (prK strK strK) 93
    have hM22 : Step V w [] V5 _ ([.row (prK strK strK) 93 none 0 (([] : List ((Str × Str))))]) := hM21
    refine wp_base [(0, .slice As (s).length cs), (1, bs (y)), (4, .slice none 0 0), (5, .int .i64 (0)), (8, .slice none (([] : List (Str × Str))).length 0), (9, .int .i64 ((0 : Int)))] (by kernel_rfl) (fun g23 => ?_)
    refine wp_loopX (fun (x_ : Nat × List (Str × Str)) a_ w_ => ∃ (g : Nat → Value) (V_ : VT), ∃ (Ar8 : Option Addr) (cr8 : Nat), a_ = env [] 40 [(0, .slice As (s).length cs), (1, bs (y)), (4, .slice none 0 0), (5, .int .i64 (0)), (8, .slice Ar8 (x_.2).length cr8), (9, .int .i64 ((x_.1 : Int)))] g ∧ Step V w [] V_ w_ [.row (prK strK strK) 93 Ar8 cr8 (x_.2)] ∧ VT.le V5 V_ ∧ (x_.1 ≤ s.length) ∧ (x_.2 = delP (s.take (x_.1)) y) ∧ ((x_.2).length ≤ x_.1)) (fun (x_ : Nat × List (Str × Str)) => s.length - x_.1) ((0 : Nat), (([] : List (Str × Str)) : List (Str × Str))) ⟨g23, V5, none, 0, rfl, hM22, VT.le.refl _, by omega, by rfl, by exact Nat.zero_le _⟩ ?_
    rintro ⟨i, o⟩ a_ w25 ⟨g24, Vl20, Ar_288, cr_288, rfl, hM26, le27, hi28_0, hi28_1, hi28_2⟩ K28 hK28
    replace hi28_0 : i ≤ s.length := hi28_0
    replace hi28_1 : o = delP (s.take (i)) y := hi28_1
    replace hi28_2 : (o).length ≤ i := hi28_2
    refine wp_seq_k (fun K29 hK29 => ?_)
    refine wp_seq_k (fun K30 hK30 => ?_)
    refine wp_reg ?_
    refine wpF_seg 4 (by kernel_rfl) ?_
    refine wpF_end _ (by kernel_rfl) (then_n (hK30 _ _ ?_))
    refine wp_if (decide (((i : Int)) < ((s.length : Int)))) (by kernel_rfl) (fun h31 => ?_) (fun h31 => ?_)
    · -- fLt
      have p32 : (((i : Int)) < ((s.length : Int))) := of_decide_eq_true h31
      refine wp_skip (then_n (hK29 _ _ ?_))
      refine wp_seq_k (fun K33 hK33 => ?_)
      refine wp_block ?_
      refine wp_seq_k (fun K34 hK34 => ?_)
      refine wp_reg ?_
      refine wpF_seg 2 (by kernel_rfl) ?_
      refine gF_index (A := As) (c := cs) (hs.up hM26.le) .i64 ((i : Int)) (h := (by kernel_rfl : opAt _ _ _ _ _ = some (.indexAddr 60 (.tmp 25) (.tmp 26), some 27))) (e := 93) (by kernel_rfl) (by kernel_rfl) (by kernel_rfl) (i) rfl (by omega) (fun b35 o36 at_b35 => ?_)
      have c37 : Vl20 b35 o36 = some (bs (s.getD (i) ([], [])).1) := (At.str (At.pr at_b35).1).1
      have l38 : (s.getD (i) ([], [])).1.length ≤ 140737488355328 := (At.str (At.pr at_b35).1).2
      have c39 : Vl20 b35 (o36 + 1) = some (bs (s.getD (i) ([], [])).2) := (At.str (At.pr at_b35).2).1
      have l40 : (s.getD (i) ([], [])).2.length ≤ 140737488355328 := (At.str (At.pr at_b35).2).2
      refine wpF_seg 1 (by kernel_rfl) ?_
      refine gF hM26 (.load 9 (.tmp 28)) (some 29) (by kernel_rfl) (Y_loadV c37 (by kernel_rfl) (by kernel_rfl)) ?_
      refine wpF_seg 2 (by kernel_rfl) ?_
      refine wpF_end _ (by kernel_rfl) (then_n (hK34 _ _ ?_))
      refine wp_if (!(decide (((s.getD (i) ([], [])).1) = (y)))) (by kernel_rfl) (fun h41 => ?_) (fun h41 => ?_)
      · -- fLtt
        have h42 : decide (((s.getD (i) ([], [])).1) = (y)) = false := by rw [← Bool.not_not (decide _), h41]; rfl
        have p43 : ¬ (((s.getD (i) ([], [])).1) = (y)) := of_decide_eq_false h42
        refine wp_reg ?_
        refine wpF_seg 3 (by kernel_rfl) ?_
        refine gF_index (A := As) (c := cs) (hs.up hM26.le) .i64 ((i : Int)) (h := (by kernel_rfl : opAt _ _ _ _ _ = some (.indexAddr 60 (.tmp 33) (.tmp 34), some 35))) (e := 93) (by kernel_rfl) (by kernel_rfl) (by kernel_rfl) (i) rfl (by omega) (fun b44 o45 at_b44 => ?_)
        have c46 : Vl20 b44 o45 = some (bs (s.getD (i) ([], [])).1) := (At.str (At.pr at_b44).1).1
        have l47 : (s.getD (i) ([], [])).1.length ≤ 140737488355328 := (At.str (At.pr at_b44).1).2
        have c48 : Vl20 b44 (o45 + 1) = some (bs (s.getD (i) ([], [])).2) := (At.str (At.pr at_b44).2).1
        have l49 : (s.getD (i) ([], [])).2.length ≤ 140737488355328 := (At.str (At.pr at_b44).2).2
        refine gF hM26 (.load 93 (.tmp 35)) (some 36) (by kernel_rfl) (Y_loadS (b := b44) (off := o45) [bs ((s.getD (i) ([], [])).1), bs ((s.getD (i) ([], [])).2)] (cells2 c46 c48) (by kernel_rfl) (by kernel_rfl) (by kernel_rfl)) ?_
        refine wpF_litR (prK strK strK) hM26 #[bs ((s.getD (i) ([], [])).1), bs ((s.getD (i) ([], [])).2)] (h := (by kernel_rfl : opAt _ _ _ _ _ = some (.buildSlice 60 1 #[(0, (.tmp 36))], some 37))) (e := 93) (by kernel_rfl) ([((s.getD (i) ([], [])).1, (s.getD (i) ([], [])).2)]) (Reps.single (K := (prK strK strK)) (x := ((s.getD (i) ([], [])).1, (s.getD (i) ([], [])).2)) ⟨[bs ((s.getD (i) ([], [])).1)], [bs ((s.getD (i) ([], [])).2)], rfl, ⟨rfl, l47⟩, ⟨rfl, l49⟩⟩) rfl (by simp [maxL]) (fun A50 c51 V54 w52 le55 hM53 r56 => ?_)
        refine wpF_append (by_ := 32) hM53 0 rfl (h := (by kernel_rfl : opAt _ _ _ _ _ = some (.call (.mk (.builtin .append) #[(.tmp 32), (.tmp 37)] #[60, 60]), some 38))) (by kernel_rfl) (by kernel_rfl) (by kernel_rfl) (by kernel_rfl) (by kernel_rfl) (by kernel_rfl) (by kernel_rfl) (Src.rd r56) (by first | omega | (simp only [List.length_append, List.length_cons, List.length_nil]; omega)) (fun A57 c58 w59 hM60 => ?_)
        have hM61 : Step V w [] V54 _ ([.row (prK strK strK) 93 A57 c58 (o ++ [((s.getD (i) ([], [])).1, (s.getD (i) ([], [])).2)])]) := hM60
        refine wpF_seg 1 (by kernel_rfl) ?_
        refine wpF_end _ (by kernel_rfl) (blk_n (then_n (hK33 _ _ ?_)))
        refine wp_reg ?_
        refine wpF_seg 1 (by kernel_rfl) ?_
        refine gF hM61 (.binOp .add 3 (.tmp 23) (.const (.int .i64 1)) 3) (some 24) (by kernel_rfl) (Y_add .i64 ((i : Int)) (1) ((i : Int) + 1) (by kernel_rfl) (by kernel_rfl) (wrap64_ok _ (by omega))) ?_
        refine wpF_seg 1 (by kernel_rfl) ?_
        refine wpF_base [(0, .slice As (s).length cs), (1, bs (y)), (4, .slice none 0 0), (5, .int .i64 (0)), (8, .slice A57 (o ++ ([((s.getD (i) ([], [])).1, (s.getD (i) ([], [])).2)] : List (Str × Str))).length c58), (9, .int .i64 ((i + 1 : Int)))] (by kernel_rfl) (fun g62 => ?_)
        refine wpF_end _ (by kernel_rfl) (then_n (hK28 _ _ (i + 1, o ++ ([((s.getD (i) ([], [])).1, (s.getD (i) ([], [])).2)] : List (Str × Str))) (by omega) ?_))
        refine ⟨g62, V54, A57, c58, rfl, hM61, (le27.trans le55), ?_, ?_, ?_⟩
        · -- fLtt inv 0
          omega
        · -- fLtt inv 1
          exact del_n (by omega) (by assumption) (by assumption)
        · -- fLtt inv 2
          simp only [List.length_append, List.length_cons, List.length_nil]; omega
      · -- fLtf
        have h63 : decide (((s.getD (i) ([], [])).1) = (y)) = true := by rw [← Bool.not_not (decide _), h41]; rfl
        have p64 : (((s.getD (i) ([], [])).1) = (y)) := of_decide_eq_true h63
        refine wp_skip (blk_n (then_n (hK33 _ _ ?_)))
        refine wp_reg ?_
        refine wpF_seg 1 (by kernel_rfl) ?_
        refine gF hM26 (.binOp .add 3 (.tmp 23) (.const (.int .i64 1)) 3) (some 24) (by kernel_rfl) (Y_add .i64 ((i : Int)) (1) ((i : Int) + 1) (by kernel_rfl) (by kernel_rfl) (wrap64_ok _ (by omega))) ?_
        refine wpF_seg 1 (by kernel_rfl) ?_
        refine wpF_base [(0, .slice As (s).length cs), (1, bs (y)), (4, .slice none 0 0), (5, .int .i64 (0)), (8, .slice Ar_288 (o).length cr_288), (9, .int .i64 ((i + 1 : Int)))] (by kernel_rfl) (fun g65 => ?_)
        refine wpF_end _ (by kernel_rfl) (then_n (hK28 _ _ (i + 1, o) (by omega) ?_))
        refine ⟨g65, Vl20, Ar_288, cr_288, rfl, hM26, le27, ?_, ?_, ?_⟩
        · -- fLtf inv 0
          omega
        · -- fLtf inv 1
          exact del_y (by omega) (by assumption) (by assumption)
        · -- fLtf inv 2
          exact Nat.le_succ_of_le (by assumption)
    · -- fLf
      have p66 : ¬ (((i : Int)) < ((s.length : Int))) := of_decide_eq_false h31
      refine wp_exit (then_x (then_x (blk_hit (then_n (hK18 _ _ ?_)))))
      obtain rfl : i = s.length := by omega
      refine wp_seq_k (fun K67 hK67 => ?_)
      refine wp_reg ?_
      refine wpF_seg 3 (by kernel_rfl) ?_
      refine wpF_end _ (by kernel_rfl) (then_n (hK67 _ _ ?_))
      refine wp_ret ?_
      obtain ⟨V68, le69, hM70, r71⟩ := hM26.settleRow 0 rfl
      have hM72 : Step V w [] V68 _ ([]) := hM70
      refine retN [.slice Ar_288 (o).length cr_288, .int .i64 (0)] (.tuple #[.slice Ar_288 (o).length cr_288, .int .i64 (0)]) Try.results84 (.tmp (by kernel_rfl) (by kernel_rfl) (.tmp (by kernel_rfl) (by kernel_rfl) .nil)) (by kernel_rfl) (hRet _ _ ⟨_, _, rfl, hM72.clear, ?_⟩)
      -- end fLf
      have ho : o = delP s y := (by assumption : o = delP (s.take s.length) y).trans (by rw [List.take_length])
      refine ⟨Ar_288, cr_288, ?_, ?_⟩
      · rw [ho, hp0]
      · first | exact r71 | (exact Rd.eq r71 (by exact ho))

set_option maxHeartbeats 4000000 in
set_option maxRecDepth 100000 in
theorem f85 (V : VT) (w : World) (hV : V.inW w) (As : Option Addr) (cs : Nat) (s : List ((Str × Str))) (hs : Rd (prK strK strK) V As cs s) (y : Str) (hy : y.length ≤ maxL) (v : Str) (hv : v.length ≤ maxL) (hup : UP (keysP s)) (h5 : s.length ≤ 99000) :
    Calls Try.prog 85 #[.slice As (s).length cs, bs (y), bs (v)] w (RetP V w fun rv V' => ∃ (A1 : Option Addr), ∃ (c1 : Nat), rv = .tuple #[.slice A1 (putB s y v).length c1, .int .i64 ((bif putE y v then 2 else 0 : Int))] ∧ Rd (prK strK strK) V' A1 c1 (putB s y v)) := by
  have mxs : s.length ≤ 140737488355328 := hs.max
  have mxy : y.length ≤ 140737488355328 := hy
  have mxv : v.length ≤ 140737488355328 := hv
  refine calls_env (n := 67) Try.func85 (c := _) rfl Try.ntmps85 (by kernel_rfl) (fun R hRet => ?_)
  have hM0 : Step V w [] V w [] := Step.refl (St.nilE hV)
  refine wp_seq_k (fun K1 hK1 => ?_)
  refine wp_reg ?_
  refine wpF_seg 2 (by kernel_rfl) ?_
  refine wpF_end _ (by kernel_rfl) (then_n (hK1 _ _ ?_))
  refine wp_seq_k (fun K2 hK2 => ?_)
  refine wp_seq_k (fun K3 hK3 => ?_)
  refine wp_reg ?_
  refine wpF_seg 4 (by kernel_rfl) ?_
  refine wpF_caseB 14 (decide ((128) < ((y.length : Int)))) (by kernel_rfl) (by kernel_rfl) (fun h4 => ?_) (fun h4 => ?_)
  · -- t
    have p5 : ((128) < ((y.length : Int))) := of_decide_eq_true h4
    refine wpF_seg 4 (by kernel_rfl) ?_
    refine wpF_end _ (by kernel_rfl) (then_n (hK3 _ _ ?_))
    refine wp_ct (by kernel_rfl) ?_
    refine wp_seq_k (fun K6 hK6 => ?_)
    refine wp_reg ?_
    refine wpF_seg 3 (by kernel_rfl) ?_
    refine wpF_end _ (by kernel_rfl) (then_n (hK6 _ _ ?_))
    refine wp_ret (then_r (?_))
    refine retN [.slice As (s).length cs, .int .i64 (2)] (.tuple #[.slice As (s).length cs, .int .i64 (2)]) Try.results85 (.tmp (by kernel_rfl) (by kernel_rfl) (.tmp (by kernel_rfl) (by kernel_rfl) .nil)) (by kernel_rfl) (hRet _ _ ⟨_, _, rfl, hM0.clear, ?_⟩)
    -- end t
    refine ⟨As, cs, ?_, ?_⟩
    · (have he : putE y v = true := put_e (.inl (by assumption))); (simp only [putB, he, cond_true])
    · first | exact hs | (exact Rd.eq hs (by (have he : putE y v = true := put_e (.inl (by assumption))); simp only [putB, he, cond_true]))
  · -- f
    have p7 : ¬ ((128) < ((y.length : Int))) := of_decide_eq_false h4
    refine wpF_seg 4 (by kernel_rfl) ?_
    refine wpF_end _ (by kernel_rfl) (then_n (hK3 _ _ ?_))
    refine wp_if (decide ((200) < ((v.length : Int)))) (by kernel_rfl) (fun h8 => ?_) (fun h8 => ?_)
    · -- ft
      have p9 : ((200) < ((v.length : Int))) := of_decide_eq_true h8
      refine wp_seq_k (fun K10 hK10 => ?_)
      refine wp_reg ?_
      refine wpF_seg 3 (by kernel_rfl) ?_
      refine wpF_end _ (by kernel_rfl) (then_n (hK10 _ _ ?_))
      refine wp_ret (then_r (?_))
      refine retN [.slice As (s).length cs, .int .i64 (2)] (.tuple #[.slice As (s).length cs, .int .i64 (2)]) Try.results85 (.tmp (by kernel_rfl) (by kernel_rfl) (.tmp (by kernel_rfl) (by kernel_rfl) .nil)) (by kernel_rfl) (hRet _ _ ⟨_, _, rfl, hM0.clear, ?_⟩)
      -- end ft
      refine ⟨As, cs, ?_, ?_⟩
      · (have he : putE y v = true := put_e (.inr (by assumption))); (simp only [putB, he, cond_true])
      · first | exact hs | (exact Rd.eq hs (by (have he : putE y v = true := put_e (.inr (by assumption))); simp only [putB, he, cond_true]))
    · -- ff
      have p11 : ¬ ((200) < ((v.length : Int))) := of_decide_eq_false h8
      refine wp_skip (then_n (hK2 _ _ ?_))
      refine wp_seq_k (fun K12 hK12 => ?_)
      refine wp_reg ?_
      refine wpF_seg 1 (by kernel_rfl) ?_
      refine wpF_end _ (by kernel_rfl) (then_n (hK12 _ _ ?_))
      refine wp_seq_k (fun K13 hK13 => ?_)
      refine wp_reg ?_
      refine wpF_seg 1 (by kernel_rfl) ?_
      refine wpF_end _ (by kernel_rfl) (then_n (hK13 _ _ ?_))
      refine wp_seq_k (fun K14 hK14 => ?_)
      refine wp_seq_k (fun K15 hK15 => ?_)
      refine wp_reg ?_
      refine wpF_seg 1 (by kernel_rfl) ?_
      refine wpF_end _ (by kernel_rfl) (then_n (hK15 _ _ ?_))
      refine wp_block ?_
      have hM17 := hM0.nilrow (prK strK strK) 93
      have hM18 : Step V w [] V _ ([.row (prK strK strK) 93 none 0 (([] : List ((Str × Str))))]) := hM17
      refine wp_base [(0, .slice As (s).length cs), (1, bs (y)), (2, bs (v)), (6, .slice none 0 0), (7, .int .i64 (0)), (8, .slice none (([] : List (Str × Str))).length 0), (9, .bool (false)), (10, .int .i64 ((0 : Int)))] (by kernel_rfl) (fun g19 => ?_)
      refine wp_loopX (fun (x_ : Nat × Bool × List (Str × Str)) a_ w_ => ∃ (g : Nat → Value) (V_ : VT), ∃ (Ar8 : Option Addr) (cr8 : Nat), a_ = env [] 67 [(0, .slice As (s).length cs), (1, bs (y)), (2, bs (v)), (6, .slice none 0 0), (7, .int .i64 (0)), (8, .slice Ar8 (x_.2.2).length cr8), (9, .bool (x_.2.1)), (10, .int .i64 ((x_.1 : Int)))] g ∧ Step V w [] V_ w_ [.row (prK strK strK) 93 Ar8 cr8 (x_.2.2)] ∧ VT.le V V_ ∧ (x_.1 ≤ s.length) ∧ (WP (s.take (x_.1)) y v x_.2.1 x_.2.2) ∧ ((x_.2.2).length ≤ 2 * x_.1)) (fun (x_ : Nat × Bool × List (Str × Str)) => s.length - x_.1) ((0 : Nat), (false : Bool), (([] : List (Str × Str)) : List (Str × Str))) ⟨g19, V, none, 0, rfl, hM18, VT.le.refl _, by omega, by exact wp_0 _ _, by exact Nat.zero_le _⟩ ?_
      rintro ⟨i, d, o⟩ a_ w21 ⟨g20, Vl16, Ar_248, cr_248, rfl, hM22, le23, hi24_0, hi24_1, hi24_2⟩ K24 hK24
      replace hi24_0 : i ≤ s.length := hi24_0
      replace hi24_1 : WP (s.take (i)) y v d o := hi24_1
      replace hi24_2 : (o).length ≤ 2 * i := hi24_2
      refine wp_seq_k (fun K25 hK25 => ?_)
      refine wp_seq_k (fun K26 hK26 => ?_)
      refine wp_reg ?_
      refine wpF_seg 4 (by kernel_rfl) ?_
      refine wpF_end _ (by kernel_rfl) (then_n (hK26 _ _ ?_))
      refine wp_if (decide (((i : Int)) < ((s.length : Int)))) (by kernel_rfl) (fun h27 => ?_) (fun h27 => ?_)
      · -- ffLt
        have p28 : (((i : Int)) < ((s.length : Int))) := of_decide_eq_true h27
        refine wp_skip (then_n (hK25 _ _ ?_))
        refine wp_seq_k (fun K29 hK29 => ?_)
        refine wp_block ?_
        refine wp_seq_k (fun K30 hK30 => ?_)
        refine wp_seq_k (fun K31 hK31 => ?_)
        refine wp_reg ?_
        refine wpF_seg 3 (by kernel_rfl) ?_
        refine wpF_caseB 28 (!d) (by kernel_rfl) (by kernel_rfl) (fun h32 => ?_) (fun h32 => ?_)
        · -- ffLtt
          have h33 : (d) = false := by simpa using h32
          refine wpF_seg 2 (by kernel_rfl) ?_
          refine gF_index (A := As) (c := cs) (hs.up hM22.le) .i64 ((i : Int)) (h := (by kernel_rfl : opAt _ _ _ _ _ = some (.indexAddr 60 (.tmp 29) (.tmp 30), some 31))) (e := 93) (by kernel_rfl) (by kernel_rfl) (by kernel_rfl) (i) rfl (by omega) (fun b34 o35 at_b34 => ?_)
          have c36 : Vl16 b34 o35 = some (bs (s.getD (i) ([], [])).1) := (At.str (At.pr at_b34).1).1
          have l37 : (s.getD (i) ([], [])).1.length ≤ 140737488355328 := (At.str (At.pr at_b34).1).2
          have c38 : Vl16 b34 (o35 + 1) = some (bs (s.getD (i) ([], [])).2) := (At.str (At.pr at_b34).2).1
          have l39 : (s.getD (i) ([], [])).2.length ≤ 140737488355328 := (At.str (At.pr at_b34).2).2
          refine wpF_seg 1 (by kernel_rfl) ?_
          refine gF hM22 (.load 9 (.tmp 32)) (some 33) (by kernel_rfl) (Y_loadV c36 (by kernel_rfl) (by kernel_rfl)) ?_
          refine wpF_seg 1 (by kernel_rfl) ?_
          refine wpF_callP hM22 (f := 60) (caps := #[]) (h := (by kernel_rfl : opAt _ _ _ _ _ = some (.call (.mk (.value (.func 60)) #[(.tmp 33), (.tmp 34)] #[9, 9]), some 35))) (by kernel_rfl) (by kernel_rfl) (by kernel_rfl) (f60 _ _ hM22.inW ((s.getD (i) ([], [])).1) (l37) (y) (hy)) (fun v40 V41 w42 le43 hM44 hp45 => ?_)
          obtain rfl := hp45
          refine wpF_seg 2 (by kernel_rfl) ?_
          refine wpF_end _ (by kernel_rfl) (then_n (hK31 _ _ ?_))
          refine wp_if (!(decide (((s.getD (i) ([], [])).1) < (y)))) (by kernel_rfl) (fun h46 => ?_) (fun h46 => ?_)
          · -- ffLttt
            have h47 : decide (((s.getD (i) ([], [])).1) < (y)) = false := by rw [← Bool.not_not (decide _), h46]; rfl
            have p48 : ¬ (((s.getD (i) ([], [])).1) < (y)) := of_decide_eq_false h47
            refine wp_seq_k (fun K49 hK49 => ?_)
            refine wp_reg ?_
            refine wpF_seg 4 (by kernel_rfl) ?_
            refine wpF_litR (prK strK strK) hM44 #[bs (y), bs (v)] (h := (by kernel_rfl : opAt _ _ _ _ _ = some (.buildSlice 60 1 #[(0, (.tmp 41))], some 42))) (e := 93) (by kernel_rfl) ([(y, v)]) (Reps.single (K := (prK strK strK)) (x := (y, v)) ⟨[bs (y)], [bs (v)], rfl, ⟨rfl, hy⟩, ⟨rfl, hv⟩⟩) rfl (by simp [maxL]) (fun A50 c51 V54 w52 le55 hM53 r56 => ?_)
            refine wpF_append (by_ := 32) hM53 0 rfl (h := (by kernel_rfl : opAt _ _ _ _ _ = some (.call (.mk (.builtin .append) #[(.tmp 38), (.tmp 42)] #[60, 60]), some 43))) (by kernel_rfl) (by kernel_rfl) (by kernel_rfl) (by kernel_rfl) (by kernel_rfl) (by kernel_rfl) (by kernel_rfl) (Src.rd r56) (by first | omega | (simp only [List.length_append, List.length_cons, List.length_nil]; omega)) (fun A57 c58 w59 hM60 => ?_)
            have hM61 : Step V w [] V54 _ ([.row (prK strK strK) 93 A57 c58 (o ++ [(y, v)])]) := hM60
            refine wpF_seg 1 (by kernel_rfl) ?_
            refine wpF_end _ (by kernel_rfl) (then_n (hK49 _ _ ?_))
            refine wp_reg ?_
            refine wpF_seg 1 (by kernel_rfl) ?_
            refine wpF_end _ (by kernel_rfl) (then_n (hK30 _ _ ?_))
            refine wp_seq_k (fun K62 hK62 => ?_)
            refine wp_reg ?_
            refine wpF_seg 2 (by kernel_rfl) ?_
            refine gF_index (A := As) (c := cs) (hs.up hM61.le) .i64 ((i : Int)) (h := (by kernel_rfl : opAt _ _ _ _ _ = some (.indexAddr 60 (.tmp 44) (.tmp 45), some 46))) (e := 93) (by kernel_rfl) (by kernel_rfl) (by kernel_rfl) (i) rfl (by omega) (fun b63 o64 at_b63 => ?_)
            have c65 : V54 b63 o64 = some (bs (s.getD (i) ([], [])).1) := (At.str (At.pr at_b63).1).1
            have l66 : (s.getD (i) ([], [])).1.length ≤ 140737488355328 := (At.str (At.pr at_b63).1).2
            have c67 : V54 b63 (o64 + 1) = some (bs (s.getD (i) ([], [])).2) := (At.str (At.pr at_b63).2).1
            have l68 : (s.getD (i) ([], [])).2.length ≤ 140737488355328 := (At.str (At.pr at_b63).2).2
            refine wpF_seg 1 (by kernel_rfl) ?_
            refine gF hM61 (.load 9 (.tmp 47)) (some 48) (by kernel_rfl) (Y_loadV c65 (by kernel_rfl) (by kernel_rfl)) ?_
            refine wpF_seg 2 (by kernel_rfl) ?_
            refine wpF_end _ (by kernel_rfl) (then_n (hK62 _ _ ?_))
            refine wp_if (!(decide (((s.getD (i) ([], [])).1) = (y)))) (by kernel_rfl) (fun h69 => ?_) (fun h69 => ?_)
            · -- ffLtttt
              have h70 : decide (((s.getD (i) ([], [])).1) = (y)) = false := by rw [← Bool.not_not (decide _), h69]; rfl
              have p71 : ¬ (((s.getD (i) ([], [])).1) = (y)) := of_decide_eq_false h70
              refine wp_reg ?_
              refine wpF_seg 3 (by kernel_rfl) ?_
              refine gF_index (A := As) (c := cs) (hs.up hM61.le) .i64 ((i : Int)) (h := (by kernel_rfl : opAt _ _ _ _ _ = some (.indexAddr 60 (.tmp 52) (.tmp 53), some 54))) (e := 93) (by kernel_rfl) (by kernel_rfl) (by kernel_rfl) (i) rfl (by omega) (fun b72 o73 at_b72 => ?_)
              have c74 : V54 b72 o73 = some (bs (s.getD (i) ([], [])).1) := (At.str (At.pr at_b72).1).1
              have l75 : (s.getD (i) ([], [])).1.length ≤ 140737488355328 := (At.str (At.pr at_b72).1).2
              have c76 : V54 b72 (o73 + 1) = some (bs (s.getD (i) ([], [])).2) := (At.str (At.pr at_b72).2).1
              have l77 : (s.getD (i) ([], [])).2.length ≤ 140737488355328 := (At.str (At.pr at_b72).2).2
              refine gF hM61 (.load 93 (.tmp 54)) (some 55) (by kernel_rfl) (Y_loadS (b := b72) (off := o73) [bs ((s.getD (i) ([], [])).1), bs ((s.getD (i) ([], [])).2)] (cells2 c74 c76) (by kernel_rfl) (by kernel_rfl) (by kernel_rfl)) ?_
              refine wpF_litR (prK strK strK) hM61 #[bs ((s.getD (i) ([], [])).1), bs ((s.getD (i) ([], [])).2)] (h := (by kernel_rfl : opAt _ _ _ _ _ = some (.buildSlice 60 1 #[(0, (.tmp 55))], some 56))) (e := 93) (by kernel_rfl) ([((s.getD (i) ([], [])).1, (s.getD (i) ([], [])).2)]) (Reps.single (K := (prK strK strK)) (x := ((s.getD (i) ([], [])).1, (s.getD (i) ([], [])).2)) ⟨[bs ((s.getD (i) ([], [])).1)], [bs ((s.getD (i) ([], [])).2)], rfl, ⟨rfl, l75⟩, ⟨rfl, l77⟩⟩) rfl (by simp [maxL]) (fun A78 c79 V82 w80 le83 hM81 r84 => ?_)
              refine wpF_append (by_ := 32) hM81 0 rfl (h := (by kernel_rfl : opAt _ _ _ _ _ = some (.call (.mk (.builtin .append) #[(.tmp 51), (.tmp 56)] #[60, 60]), some 57))) (by kernel_rfl) (by kernel_rfl) (by kernel_rfl) (by kernel_rfl) (by kernel_rfl) (by kernel_rfl) (by kernel_rfl) (Src.rd r84) (by first | omega | (simp only [List.length_append, List.length_cons, List.length_nil]; omega)) (fun A85 c86 w87 hM88 => ?_)
              have hM89 : Step V w [] V82 _ ([.row (prK strK strK) 93 A85 c86 (o ++ [(y, v)] ++ [((s.getD (i) ([], [])).1, (s.getD (i) ([], [])).2)])]) := hM88
              refine wpF_seg 1 (by kernel_rfl) ?_
              refine wpF_end _ (by kernel_rfl) (blk_n (then_n (hK29 _ _ ?_)))
              refine wp_reg ?_
              refine wpF_seg 1 (by kernel_rfl) ?_
              refine gF hM89 (.binOp .add 3 (.tmp 24) (.const (.int .i64 1)) 3) (some 25) (by kernel_rfl) (Y_add .i64 ((i : Int)) (1) ((i : Int) + 1) (by kernel_rfl) (by kernel_rfl) (wrap64_ok _ (by omega))) ?_
              refine wpF_seg 1 (by kernel_rfl) ?_
              refine wpF_base [(0, .slice As (s).length cs), (1, bs (y)), (2, bs (v)), (6, .slice none 0 0), (7, .int .i64 (0)), (8, .slice A85 ((o ++ ([(y, v)] : List (Str × Str))) ++ ([((s.getD (i) ([], [])).1, (s.getD (i) ([], [])).2)] : List (Str × Str))).length c86), (9, .bool (true)), (10, .int .i64 ((i + 1 : Int)))] (by kernel_rfl) (fun g90 => ?_)
              refine wpF_end _ (by kernel_rfl) (then_n (hK24 _ _ (i + 1, true, (o ++ ([(y, v)] : List (Str × Str))) ++ ([((s.getD (i) ([], [])).1, (s.getD (i) ([], [])).2)] : List (Str × Str))) (by omega) ?_))
              refine ⟨g90, V82, A85, c86, rfl, hM89, hM89.le, ?_, ?_, ?_⟩
              · -- ffLtttt inv 0
                omega
              · -- ffLtttt inv 1
                exact wp_new hup (by omega) (by assumption) (by assumption) (of_decide_eq_false (by assumption)) (by rw [if_neg (by assumption)])
              · -- ffLtttt inv 2
                first | omega | (simp only [List.length_append, List.length_cons, List.length_nil]; omega)
            · -- ffLtttf
              have h91 : decide (((s.getD (i) ([], [])).1) = (y)) = true := by rw [← Bool.not_not (decide _), h69]; rfl
              have p92 : (((s.getD (i) ([], [])).1) = (y)) := of_decide_eq_true h91
              refine wp_skip (blk_n (then_n (hK29 _ _ ?_)))
              refine wp_reg ?_
              refine wpF_seg 1 (by kernel_rfl) ?_
              refine gF hM61 (.binOp .add 3 (.tmp 24) (.const (.int .i64 1)) 3) (some 25) (by kernel_rfl) (Y_add .i64 ((i : Int)) (1) ((i : Int) + 1) (by kernel_rfl) (by kernel_rfl) (wrap64_ok _ (by omega))) ?_
              refine wpF_seg 1 (by kernel_rfl) ?_
              refine wpF_base [(0, .slice As (s).length cs), (1, bs (y)), (2, bs (v)), (6, .slice none 0 0), (7, .int .i64 (0)), (8, .slice A57 (o ++ ([(y, v)] : List (Str × Str))).length c58), (9, .bool (true)), (10, .int .i64 ((i + 1 : Int)))] (by kernel_rfl) (fun g93 => ?_)
              refine wpF_end _ (by kernel_rfl) (then_n (hK24 _ _ (i + 1, true, o ++ ([(y, v)] : List (Str × Str))) (by omega) ?_))
              refine ⟨g93, V54, A57, c58, rfl, hM61, hM61.le, ?_, ?_, ?_⟩
              · -- ffLtttf inv 0
                omega
              · -- ffLtttf inv 1
                exact wp_new hup (by omega) (by assumption) (by assumption) (of_decide_eq_false (by assumption)) (by rw [if_pos (by assumption), List.append_nil])
              · -- ffLtttf inv 2
                first | omega | (simp only [List.length_append, List.length_cons, List.length_nil]; omega)
          · -- ffLttf
            have h94 : decide (((s.getD (i) ([], [])).1) < (y)) = true := by rw [← Bool.not_not (decide _), h46]; rfl
            have p95 : (((s.getD (i) ([], [])).1) < (y)) := of_decide_eq_true h94
            refine wp_skip (then_n (hK30 _ _ ?_))
            refine wp_seq_k (fun K96 hK96 => ?_)
            refine wp_reg ?_
            refine wpF_seg 2 (by kernel_rfl) ?_
            refine gF_index (A := As) (c := cs) (hs.up hM44.le) .i64 ((i : Int)) (h := (by kernel_rfl : opAt _ _ _ _ _ = some (.indexAddr 60 (.tmp 44) (.tmp 45), some 46))) (e := 93) (by kernel_rfl) (by kernel_rfl) (by kernel_rfl) (i) rfl (by omega) (fun b97 o98 at_b97 => ?_)
            have c99 : V41 b97 o98 = some (bs (s.getD (i) ([], [])).1) := (At.str (At.pr at_b97).1).1
            have l100 : (s.getD (i) ([], [])).1.length ≤ 140737488355328 := (At.str (At.pr at_b97).1).2
            have c101 : V41 b97 (o98 + 1) = some (bs (s.getD (i) ([], [])).2) := (At.str (At.pr at_b97).2).1
            have l102 : (s.getD (i) ([], [])).2.length ≤ 140737488355328 := (At.str (At.pr at_b97).2).2
            refine wpF_seg 1 (by kernel_rfl) ?_
            refine gF hM44 (.load 9 (.tmp 47)) (some 48) (by kernel_rfl) (Y_loadV c99 (by kernel_rfl) (by kernel_rfl)) ?_
            refine wpF_seg 2 (by kernel_rfl) ?_
            refine wpF_end _ (by kernel_rfl) (then_n (hK96 _ _ ?_))
            refine wp_if (!(decide (((s.getD (i) ([], [])).1) = (y)))) (by kernel_rfl) (fun h103 => ?_) (fun h103 => ?_)
            · -- ffLttft
              have h104 : decide (((s.getD (i) ([], [])).1) = (y)) = false := by rw [← Bool.not_not (decide _), h103]; rfl
              have p105 : ¬ (((s.getD (i) ([], [])).1) = (y)) := of_decide_eq_false h104
              refine wp_reg ?_
              refine wpF_seg 3 (by kernel_rfl) ?_
              refine gF_index (A := As) (c := cs) (hs.up hM44.le) .i64 ((i : Int)) (h := (by kernel_rfl : opAt _ _ _ _ _ = some (.indexAddr 60 (.tmp 52) (.tmp 53), some 54))) (e := 93) (by kernel_rfl) (by kernel_rfl) (by kernel_rfl) (i) rfl (by omega) (fun b106 o107 at_b106 => ?_)
              have c108 : V41 b106 o107 = some (bs (s.getD (i) ([], [])).1) := (At.str (At.pr at_b106).1).1
              have l109 : (s.getD (i) ([], [])).1.length ≤ 140737488355328 := (At.str (At.pr at_b106).1).2
              have c110 : V41 b106 (o107 + 1) = some (bs (s.getD (i) ([], [])).2) := (At.str (At.pr at_b106).2).1
              have l111 : (s.getD (i) ([], [])).2.length ≤ 140737488355328 := (At.str (At.pr at_b106).2).2
              refine gF hM44 (.load 93 (.tmp 54)) (some 55) (by kernel_rfl) (Y_loadS (b := b106) (off := o107) [bs ((s.getD (i) ([], [])).1), bs ((s.getD (i) ([], [])).2)] (cells2 c108 c110) (by kernel_rfl) (by kernel_rfl) (by kernel_rfl)) ?_
              refine wpF_litR (prK strK strK) hM44 #[bs ((s.getD (i) ([], [])).1), bs ((s.getD (i) ([], [])).2)] (h := (by kernel_rfl : opAt _ _ _ _ _ = some (.buildSlice 60 1 #[(0, (.tmp 55))], some 56))) (e := 93) (by kernel_rfl) ([((s.getD (i) ([], [])).1, (s.getD (i) ([], [])).2)]) (Reps.single (K := (prK strK strK)) (x := ((s.getD (i) ([], [])).1, (s.getD (i) ([], [])).2)) ⟨[bs ((s.getD (i) ([], [])).1)], [bs ((s.getD (i) ([], [])).2)], rfl, ⟨rfl, l109⟩, ⟨rfl, l111⟩⟩) rfl (by simp [maxL]) (fun A112 c113 V116 w114 le117 hM115 r118 => ?_)
              refine wpF_append (by_ := 32) hM115 0 rfl (h := (by kernel_rfl : opAt _ _ _ _ _ = some (.call (.mk (.builtin .append) #[(.tmp 51), (.tmp 56)] #[60, 60]), some 57))) (by kernel_rfl) (by kernel_rfl) (by kernel_rfl) (by kernel_rfl) (by kernel_rfl) (by kernel_rfl) (by kernel_rfl) (Src.rd r118) (by first | omega | (simp only [List.length_append, List.length_cons, List.length_nil]; omega)) (fun A119 c120 w121 hM122 => ?_)
              have hM123 : Step V w [] V116 _ ([.row (prK strK strK) 93 A119 c120 (o ++ [((s.getD (i) ([], [])).1, (s.getD (i) ([], [])).2)])]) := hM122
              refine wpF_seg 1 (by kernel_rfl) ?_
              refine wpF_end _ (by kernel_rfl) (blk_n (then_n (hK29 _ _ ?_)))
              refine wp_reg ?_
              refine wpF_seg 1 (by kernel_rfl) ?_
              refine gF hM123 (.binOp .add 3 (.tmp 24) (.const (.int .i64 1)) 3) (some 25) (by kernel_rfl) (Y_add .i64 ((i : Int)) (1) ((i : Int) + 1) (by kernel_rfl) (by kernel_rfl) (wrap64_ok _ (by omega))) ?_
              refine wpF_seg 1 (by kernel_rfl) ?_
              refine wpF_base [(0, .slice As (s).length cs), (1, bs (y)), (2, bs (v)), (6, .slice none 0 0), (7, .int .i64 (0)), (8, .slice A119 (o ++ ([((s.getD (i) ([], [])).1, (s.getD (i) ([], [])).2)] : List (Str × Str))).length c120), (9, .bool (d)), (10, .int .i64 ((i + 1 : Int)))] (by kernel_rfl) (fun g124 => ?_)
              refine wpF_end _ (by kernel_rfl) (then_n (hK24 _ _ (i + 1, d, o ++ ([((s.getD (i) ([], [])).1, (s.getD (i) ([], [])).2)] : List (Str × Str))) (by omega) ?_))
              refine ⟨g124, V116, A119, c120, rfl, hM123, hM123.le, ?_, ?_, ?_⟩
              · -- ffLttft inv 0
                omega
              · -- ffLttft inv 1
                exact wp_old hup (by omega) (by assumption) (by first | exact .inl (by assumption) | exact .inr (of_decide_eq_true (by assumption))) (by rw [if_neg (by assumption)])
              · -- ffLttft inv 2
                first | omega | (simp only [List.length_append, List.length_cons, List.length_nil]; omega)
            · -- ffLttff
              have h125 : decide (((s.getD (i) ([], [])).1) = (y)) = true := by rw [← Bool.not_not (decide _), h103]; rfl
              have p126 : (((s.getD (i) ([], [])).1) = (y)) := of_decide_eq_true h125
              refine wp_skip (blk_n (then_n (hK29 _ _ ?_)))
              refine wp_reg ?_
              refine wpF_seg 1 (by kernel_rfl) ?_
              refine gF hM44 (.binOp .add 3 (.tmp 24) (.const (.int .i64 1)) 3) (some 25) (by kernel_rfl) (Y_add .i64 ((i : Int)) (1) ((i : Int) + 1) (by kernel_rfl) (by kernel_rfl) (wrap64_ok _ (by omega))) ?_
              refine wpF_seg 1 (by kernel_rfl) ?_
              refine wpF_base [(0, .slice As (s).length cs), (1, bs (y)), (2, bs (v)), (6, .slice none 0 0), (7, .int .i64 (0)), (8, .slice Ar_248 (o).length cr_248), (9, .bool (d)), (10, .int .i64 ((i + 1 : Int)))] (by kernel_rfl) (fun g127 => ?_)
              refine wpF_end _ (by kernel_rfl) (then_n (hK24 _ _ (i + 1, d, o) (by omega) ?_))
              refine ⟨g127, V41, Ar_248, cr_248, rfl, hM44, hM44.le, ?_, ?_, ?_⟩
              · -- ffLttff inv 0
                omega
              · -- ffLttff inv 1
                exact wp_old hup (by omega) (by assumption) (by first | exact .inl (by assumption) | exact .inr (of_decide_eq_true (by assumption))) (by rw [if_pos (by assumption), List.append_nil])
              · -- ffLttff inv 2
                first | omega | (simp only [List.length_append, List.length_cons, List.length_nil]; omega)
        · -- ffLtf
          have h128 : (d) = true := by simpa using h32
          refine wpF_seg 9 (by kernel_rfl) ?_
          refine wpF_end _ (by kernel_rfl) (then_n (hK31 _ _ ?_))
          refine wp_cf (by kernel_rfl) ?_
          refine wp_skip (then_n (hK30 _ _ ?_))
          refine wp_seq_k (fun K129 hK129 => ?_)
          refine wp_reg ?_
          refine wpF_seg 2 (by kernel_rfl) ?_
          refine gF_index (A := As) (c := cs) (hs.up hM22.le) .i64 ((i : Int)) (h := (by kernel_rfl : opAt _ _ _ _ _ = some (.indexAddr 60 (.tmp 44) (.tmp 45), some 46))) (e := 93) (by kernel_rfl) (by kernel_rfl) (by kernel_rfl) (i) rfl (by omega) (fun b130 o131 at_b130 => ?_)
          have c132 : Vl16 b130 o131 = some (bs (s.getD (i) ([], [])).1) := (At.str (At.pr at_b130).1).1
          have l133 : (s.getD (i) ([], [])).1.length ≤ 140737488355328 := (At.str (At.pr at_b130).1).2
          have c134 : Vl16 b130 (o131 + 1) = some (bs (s.getD (i) ([], [])).2) := (At.str (At.pr at_b130).2).1
          have l135 : (s.getD (i) ([], [])).2.length ≤ 140737488355328 := (At.str (At.pr at_b130).2).2
          refine wpF_seg 1 (by kernel_rfl) ?_
          refine gF hM22 (.load 9 (.tmp 47)) (some 48) (by kernel_rfl) (Y_loadV c132 (by kernel_rfl) (by kernel_rfl)) ?_
          refine wpF_seg 2 (by kernel_rfl) ?_
          refine wpF_end _ (by kernel_rfl) (then_n (hK129 _ _ ?_))
          refine wp_if (!(decide (((s.getD (i) ([], [])).1) = (y)))) (by kernel_rfl) (fun h136 => ?_) (fun h136 => ?_)
          · -- ffLtft
            have h137 : decide (((s.getD (i) ([], [])).1) = (y)) = false := by rw [← Bool.not_not (decide _), h136]; rfl
            have p138 : ¬ (((s.getD (i) ([], [])).1) = (y)) := of_decide_eq_false h137
            refine wp_reg ?_
            refine wpF_seg 3 (by kernel_rfl) ?_
            refine gF_index (A := As) (c := cs) (hs.up hM22.le) .i64 ((i : Int)) (h := (by kernel_rfl : opAt _ _ _ _ _ = some (.indexAddr 60 (.tmp 52) (.tmp 53), some 54))) (e := 93) (by kernel_rfl) (by kernel_rfl) (by kernel_rfl) (i) rfl (by omega) (fun b139 o140 at_b139 => ?_)
            have c141 : Vl16 b139 o140 = some (bs (s.getD (i) ([], [])).1) := (At.str (At.pr at_b139).1).1
            have l142 : (s.getD (i) ([], [])).1.length ≤ 140737488355328 := (At.str (At.pr at_b139).1).2
            have c143 : Vl16 b139 (o140 + 1) = some (bs (s.getD (i) ([], [])).2) := (At.str (At.pr at_b139).2).1
            have l144 : (s.getD (i) ([], [])).2.length ≤ 140737488355328 := (At.str (At.pr at_b139).2).2
            refine gF hM22 (.load 93 (.tmp 54)) (some 55) (by kernel_rfl) (Y_loadS (b := b139) (off := o140) [bs ((s.getD (i) ([], [])).1), bs ((s.getD (i) ([], [])).2)] (cells2 c141 c143) (by kernel_rfl) (by kernel_rfl) (by kernel_rfl)) ?_
            refine wpF_litR (prK strK strK) hM22 #[bs ((s.getD (i) ([], [])).1), bs ((s.getD (i) ([], [])).2)] (h := (by kernel_rfl : opAt _ _ _ _ _ = some (.buildSlice 60 1 #[(0, (.tmp 55))], some 56))) (e := 93) (by kernel_rfl) ([((s.getD (i) ([], [])).1, (s.getD (i) ([], [])).2)]) (Reps.single (K := (prK strK strK)) (x := ((s.getD (i) ([], [])).1, (s.getD (i) ([], [])).2)) ⟨[bs ((s.getD (i) ([], [])).1)], [bs ((s.getD (i) ([], [])).2)], rfl, ⟨rfl, l142⟩, ⟨rfl, l144⟩⟩) rfl (by simp [maxL]) (fun A145 c146 V149 w147 le150 hM148 r151 => ?_)
            refine wpF_append (by_ := 32) hM148 0 rfl (h := (by kernel_rfl : opAt _ _ _ _ _ = some (.call (.mk (.builtin .append) #[(.tmp 51), (.tmp 56)] #[60, 60]), some 57))) (by kernel_rfl) (by kernel_rfl) (by kernel_rfl) (by kernel_rfl) (by kernel_rfl) (by kernel_rfl) (by kernel_rfl) (Src.rd r151) (by first | omega | (simp only [List.length_append, List.length_cons, List.length_nil]; omega)) (fun A152 c153 w154 hM155 => ?_)
            have hM156 : Step V w [] V149 _ ([.row (prK strK strK) 93 A152 c153 (o ++ [((s.getD (i) ([], [])).1, (s.getD (i) ([], [])).2)])]) := hM155
            refine wpF_seg 1 (by kernel_rfl) ?_
            refine wpF_end _ (by kernel_rfl) (blk_n (then_n (hK29 _ _ ?_)))
            refine wp_reg ?_
            refine wpF_seg 1 (by kernel_rfl) ?_
            refine gF hM156 (.binOp .add 3 (.tmp 24) (.const (.int .i64 1)) 3) (some 25) (by kernel_rfl) (Y_add .i64 ((i : Int)) (1) ((i : Int) + 1) (by kernel_rfl) (by kernel_rfl) (wrap64_ok _ (by omega))) ?_
            refine wpF_seg 1 (by kernel_rfl) ?_
            refine wpF_base [(0, .slice As (s).length cs), (1, bs (y)), (2, bs (v)), (6, .slice none 0 0), (7, .int .i64 (0)), (8, .slice A152 (o ++ ([((s.getD (i) ([], [])).1, (s.getD (i) ([], [])).2)] : List (Str × Str))).length c153), (9, .bool (d)), (10, .int .i64 ((i + 1 : Int)))] (by kernel_rfl) (fun g157 => ?_)
            refine wpF_end _ (by kernel_rfl) (then_n (hK24 _ _ (i + 1, d, o ++ ([((s.getD (i) ([], [])).1, (s.getD (i) ([], [])).2)] : List (Str × Str))) (by omega) ?_))
            refine ⟨g157, V149, A152, c153, rfl, hM156, hM156.le, ?_, ?_, ?_⟩
            · -- ffLtft inv 0
              omega
            · -- ffLtft inv 1
              exact wp_old hup (by omega) (by assumption) (by first | exact .inl (by assumption) | exact .inr (of_decide_eq_true (by assumption))) (by rw [if_neg (by assumption)])
            · -- ffLtft inv 2
              first | omega | (simp only [List.length_append, List.length_cons, List.length_nil]; omega)
          · -- ffLtff
            have h158 : decide (((s.getD (i) ([], [])).1) = (y)) = true := by rw [← Bool.not_not (decide _), h136]; rfl
            have p159 : (((s.getD (i) ([], [])).1) = (y)) := of_decide_eq_true h158
            refine wp_skip (blk_n (then_n (hK29 _ _ ?_)))
            refine wp_reg ?_
            refine wpF_seg 1 (by kernel_rfl) ?_
            refine gF hM22 (.binOp .add 3 (.tmp 24) (.const (.int .i64 1)) 3) (some 25) (by kernel_rfl) (Y_add .i64 ((i : Int)) (1) ((i : Int) + 1) (by kernel_rfl) (by kernel_rfl) (wrap64_ok _ (by omega))) ?_
            refine wpF_seg 1 (by kernel_rfl) ?_
            refine wpF_base [(0, .slice As (s).length cs), (1, bs (y)), (2, bs (v)), (6, .slice none 0 0), (7, .int .i64 (0)), (8, .slice Ar_248 (o).length cr_248), (9, .bool (d)), (10, .int .i64 ((i + 1 : Int)))] (by kernel_rfl) (fun g160 => ?_)
            refine wpF_end _ (by kernel_rfl) (then_n (hK24 _ _ (i + 1, d, o) (by omega) ?_))
            refine ⟨g160, Vl16, Ar_248, cr_248, rfl, hM22, hM22.le, ?_, ?_, ?_⟩
            · -- ffLtff inv 0
              omega
            · -- ffLtff inv 1
              exact wp_old hup (by omega) (by assumption) (by first | exact .inl (by assumption) | exact .inr (of_decide_eq_true (by assumption))) (by rw [if_pos (by assumption), List.append_nil])
            · -- ffLtff inv 2
              first | omega | (simp only [List.length_append, List.length_cons, List.length_nil]; omega)
      · -- ffLf
        have p161 : ¬ (((i : Int)) < ((s.length : Int))) := of_decide_eq_false h27
        refine wp_exit (then_x (then_x (blk_hit (then_n (hK14 _ _ ?_)))))
        obtain rfl : i = s.length := by omega
        refine wp_seq_k (fun K162 hK162 => ?_)
        refine wp_seq_k (fun K163 hK163 => ?_)
        refine wp_reg ?_
        refine wpF_seg 2 (by kernel_rfl) ?_
        refine wpF_end _ (by kernel_rfl) (then_n (hK163 _ _ ?_))
        refine wp_if (!d) (by kernel_rfl) (fun h164 => ?_) (fun h164 => ?_)
        · -- ffLft
          have h165 : (d) = false := by simpa using h164
          refine wp_reg ?_
          refine wpF_seg 4 (by kernel_rfl) ?_
          refine wpF_litR (prK strK strK) hM22 #[bs (y), bs (v)] (h := (by kernel_rfl : opAt _ _ _ _ _ = some (.buildSlice 60 1 #[(0, (.tmp 63))], some 64))) (e := 93) (by kernel_rfl) ([(y, v)]) (Reps.single (K := (prK strK strK)) (x := (y, v)) ⟨[bs (y)], [bs (v)], rfl, ⟨rfl, hy⟩, ⟨rfl, hv⟩⟩) rfl (by simp [maxL]) (fun A166 c167 V170 w168 le171 hM169 r172 => ?_)
          refine wpF_append (by_ := 32) hM169 0 rfl (h := (by kernel_rfl : opAt _ _ _ _ _ = some (.call (.mk (.builtin .append) #[(.tmp 60), (.tmp 64)] #[60, 60]), some 65))) (by kernel_rfl) (by kernel_rfl) (by kernel_rfl) (by kernel_rfl) (by kernel_rfl) (by kernel_rfl) (by kernel_rfl) (Src.rd r172) (by first | omega | (simp only [List.length_append, List.length_cons, List.length_nil]; omega)) (fun A173 c174 w175 hM176 => ?_)
          have hM177 : Step V w [] V170 _ ([.row (prK strK strK) 93 A173 c174 (o ++ [(y, v)])]) := hM176
          refine wpF_seg 1 (by kernel_rfl) ?_
          refine wpF_end _ (by kernel_rfl) (then_n (hK162 _ _ ?_))
          refine wp_seq_k (fun K178 hK178 => ?_)
          refine wp_reg ?_
          refine wpF_seg 3 (by kernel_rfl) ?_
          refine wpF_end _ (by kernel_rfl) (then_n (hK178 _ _ ?_))
          refine wp_ret ?_
          obtain ⟨V179, le180, hM181, r182⟩ := hM177.settleRow 0 rfl
          have hM183 : Step V w [] V179 _ ([]) := hM181
          refine retN [.slice A173 (o ++ [(y, v)]).length c174, .int .i64 (0)] (.tuple #[.slice A173 (o ++ [(y, v)]).length c174, .int .i64 (0)]) Try.results85 (.tmp (by kernel_rfl) (by kernel_rfl) (.tmp (by kernel_rfl) (by kernel_rfl) .nil)) (by kernel_rfl) (hRet _ _ ⟨_, _, rfl, hM183.clear, ?_⟩)
          -- end ffLft
          have hw : WP s y v d o := by have hw0 := (by assumption : WP (s.take s.length) y v d o); rwa [List.take_length] at hw0
          have ho := wp_end2 hw (by assumption)
          refine ⟨A173, c174, ?_, ?_⟩
          · (have he : putE y v = false := put_ok (by assumption) (by assumption)); (simp only [putB, he, cond_false, ho])
          · first | exact r182 | (exact Rd.eq r182 (by (have he : putE y v = false := put_ok (by assumption) (by assumption)); simp only [putB, he, cond_false, ho]))
        · -- ffLff
          have h184 : (d) = true := by simpa using h164
          refine wp_skip (then_n (hK162 _ _ ?_))
          refine wp_seq_k (fun K185 hK185 => ?_)
          refine wp_reg ?_
          refine wpF_seg 3 (by kernel_rfl) ?_
          refine wpF_end _ (by kernel_rfl) (then_n (hK185 _ _ ?_))
          refine wp_ret ?_
          obtain ⟨V186, le187, hM188, r189⟩ := hM22.settleRow 0 rfl
          have hM190 : Step V w [] V186 _ ([]) := hM188
          refine retN [.slice Ar_248 (o).length cr_248, .int .i64 (0)] (.tuple #[.slice Ar_248 (o).length cr_248, .int .i64 (0)]) Try.results85 (.tmp (by kernel_rfl) (by kernel_rfl) (.tmp (by kernel_rfl) (by kernel_rfl) .nil)) (by kernel_rfl) (hRet _ _ ⟨_, _, rfl, hM190.clear, ?_⟩)
          -- end ffLff
          have hw : WP s y v d o := by have hw0 := (by assumption : WP (s.take s.length) y v d o); rwa [List.take_length] at hw0
          have ho := wp_end hw (by assumption)
          refine ⟨Ar_248, cr_248, ?_, ?_⟩
          · (have he : putE y v = false := put_ok (by assumption) (by assumption)); (simp only [putB, he, cond_false, ho])
          · first | exact r189 | (exact Rd.eq r189 (by (have he : putE y v = false := put_ok (by assumption) (by assumption)); simp only [putB, he, cond_false, ho]))

set_option maxHeartbeats 4000000 in
set_option maxRecDepth 100000 in
theorem f36 (V : VT) (w : World) (hV : V.inW w) (As : Option Addr) (cs : Nat) (s : List ((Str × Str))) (hs : Rd (prK strK strK) V As cs s) (Al : Option Addr) (cl : Nat) (l : List ((Str × Str × Bool))) (hl : Rd (prK strK (prK strK boolK)) V Al cl l) (hup : UP (keysP s)) (hfit : fitB l = true) (h5 : s.length + l.length ≤ 99000) :
    Calls Try.prog 36 #[.slice As (s).length cs, .slice Al (l).length cl] w (RetP V w fun rv V' => ∃ (A1 : Option Addr), ∃ (c1 : Nat), rv = .tuple #[.slice A1 (cdK s l l.length).length c1, .bool (true)] ∧ Rd (prK strK strK) V' A1 c1 (cdK s l l.length)) := by
  have mxs : s.length ≤ 140737488355328 := hs.max
  have mxl : l.length ≤ 140737488355328 := hl.max
  refine calls_env (n := 67) Try.func36 (c := _) rfl Try.ntmps36 (by kernel_rfl) (fun R hRet => ?_)
  have hM0 : Step V w [] V w [] := Step.refl (St.nilE hV)
  refine wp_seq_k (fun K1 hK1 => ?_)
  refine wp_reg ?_
  refine wpF_seg 2 (by kernel_rfl) ?_
  refine wpF_end _ (by kernel_rfl) (then_n (hK1 _ _ ?_))
  refine wp_seq_k (fun K2 hK2 => ?_)
  refine wp_seq_k (fun K3 hK3 => ?_)
  refine wp_reg ?_
  refine wpF_seg 1 (by kernel_rfl) ?_
  refine wpF_end _ (by kernel_rfl) (then_n (hK3 _ _ ?_))
  refine wp_block ?_
  refine wp_base [(0, .slice As (s).length cs), (1, .slice Al (l).length cl), (6, .int .i64 ((0 : Int)))] (by kernel_rfl) (fun g5 => ?_)
  refine wp_loopX (fun (x_ : Nat) a_ w_ => ∃ (g : Nat → Value) (V_ : VT), a_ = env [] 67 [(0, .slice As (s).length cs), (1, .slice Al (l).length cl), (6, .int .i64 ((x_ : Int)))] g ∧ Step V w [] V_ w_ [] ∧ VT.le V V_ ∧ (x_ ≤ l.length)) (fun (x_ : Nat) => l.length - x_) (0) ⟨g5, V, rfl, hM0, VT.le.refl _, by omega⟩ ?_
  rintro k a_ w7 ⟨g6, Vl4, rfl, hM8, le9, hi10_0⟩ K10 hK10
  refine wp_seq_k (fun K11 hK11 => ?_)
  refine wp_seq_k (fun K12 hK12 => ?_)
  refine wp_reg ?_
  refine wpF_seg 4 (by kernel_rfl) ?_
  refine wpF_end _ (by kernel_rfl) (then_n (hK12 _ _ ?_))
  refine wp_if (decide (((k : Int)) < ((l.length : Int)))) (by kernel_rfl) (fun h13 => ?_) (fun h13 => ?_)
  · -- Lt
    have p14 : (((k : Int)) < ((l.length : Int))) := of_decide_eq_true h13
    refine wp_skip (then_n (hK11 _ _ ?_))
    refine wp_seq_k (fun K15 hK15 => ?_)
    refine wp_block ?_
    refine wp_seq_k (fun K16 hK16 => ?_)
    refine wp_reg ?_
    refine wpF_seg 2 (by kernel_rfl) ?_
    refine gF_index (A := Al) (c := cl) (hl.up hM8.le) .i64 ((k : Int)) (h := (by kernel_rfl : opAt _ _ _ _ _ = some (.indexAddr 45 (.tmp 14) (.tmp 15), some 16))) (e := 105) (by kernel_rfl) (by kernel_rfl) (by kernel_rfl) (k) rfl (by omega) (fun b17 o18 at_b17 => ?_)
    have c19 : Vl4 b17 o18 = some (bs (l.getD (k) ([], [], false)).1) := (At.str (At.pr at_b17).1).1
    have l20 : (l.getD (k) ([], [], false)).1.length ≤ 140737488355328 := (At.str (At.pr at_b17).1).2
    have c21 : Vl4 b17 (o18 + 1) = some (bs (l.getD (k) ([], [], false)).2.1) := (At.str (At.pr (At.pr at_b17).2).1).1
    have l22 : (l.getD (k) ([], [], false)).2.1.length ≤ 140737488355328 := (At.str (At.pr (At.pr at_b17).2).1).2
    have c23 : Vl4 b17 (o18 + 2) = some (.bool (l.getD (k) ([], [], false)).2.2) := At.bool (At.pr (At.pr at_b17).2).2
    refine wpF_seg 1 (by kernel_rfl) ?_
    refine gF hM8 (.load 9 (.tmp 17)) (some 18) (by kernel_rfl) (Y_loadV c19 (by kernel_rfl) (by kernel_rfl)) ?_
    refine wpF_seg 3 (by kernel_rfl) ?_
    refine wpF_caseB 21 (decide ((128) < ((((l.getD (k) ([], [], false)).1).length : Int)))) (by kernel_rfl) (by kernel_rfl) (fun h24 => ?_) (fun h24 => ?_)
    · -- Ltt
      have p25 : ((128) < ((((l.getD (k) ([], [], false)).1).length : Int))) := of_decide_eq_true h24
      exfalso; have hq := fitK_iff.1 hfit k (by omega); omega
    · -- Ltf
      have p26 : ¬ ((128) < ((((l.getD (k) ([], [], false)).1).length : Int))) := of_decide_eq_false h24
      refine wpF_seg 2 (by kernel_rfl) ?_
      refine gF_index (A := Al) (c := cl) (hl.up hM8.le) .i64 ((k : Int)) (h := (by kernel_rfl : opAt _ _ _ _ _ = some (.indexAddr 45 (.tmp 22) (.tmp 23), some 24))) (e := 105) (by kernel_rfl) (by kernel_rfl) (by kernel_rfl) (k) rfl (by omega) (fun b27 o28 at_b27 => ?_)
      have c29 : Vl4 b27 o28 = some (bs (l.getD (k) ([], [], false)).1) := (At.str (At.pr at_b27).1).1
      have l30 : (l.getD (k) ([], [], false)).1.length ≤ 140737488355328 := (At.str (At.pr at_b27).1).2
      have c31 : Vl4 b27 (o28 + 1) = some (bs (l.getD (k) ([], [], false)).2.1) := (At.str (At.pr (At.pr at_b27).2).1).1
      have l32 : (l.getD (k) ([], [], false)).2.1.length ≤ 140737488355328 := (At.str (At.pr (At.pr at_b27).2).1).2
      have c33 : Vl4 b27 (o28 + 2) = some (.bool (l.getD (k) ([], [], false)).2.2) := At.bool (At.pr (At.pr at_b27).2).2
      refine wpF_seg 1 (by kernel_rfl) ?_
      refine gF hM8 (.load 9 (.tmp 25)) (some 26) (by kernel_rfl) (Y_loadV c31 (by kernel_rfl) (by kernel_rfl)) ?_
      refine wpF_seg 3 (by kernel_rfl) ?_
      refine wpF_end _ (by kernel_rfl) (then_n (hK16 _ _ ?_))
      refine wp_if (decide ((200) < ((((l.getD (k) ([], [], false)).2.1).length : Int)))) (by kernel_rfl) (fun h34 => ?_) (fun h34 => ?_)
      · -- Ltft
        have p35 : ((200) < ((((l.getD (k) ([], [], false)).2.1).length : Int))) := of_decide_eq_true h34
        exfalso; have hq := fitK_iff.1 hfit k (by omega); omega
      · -- Ltff
        have p36 : ¬ ((200) < ((((l.getD (k) ([], [], false)).2.1).length : Int))) := of_decide_eq_false h34
        refine wp_skip (blk_n (then_n (hK15 _ _ ?_)))
        refine wp_reg ?_
        refine wpF_seg 1 (by kernel_rfl) ?_
        refine gF hM8 (.binOp .add 3 (.tmp 12) (.const (.int .i64 1)) 3) (some 13) (by kernel_rfl) (Y_add .i64 ((k : Int)) (1) ((k : Int) + 1) (by kernel_rfl) (by kernel_rfl) (wrap64_ok _ (by omega))) ?_
        refine wpF_seg 1 (by kernel_rfl) ?_
        refine wpF_base [(0, .slice As (s).length cs), (1, .slice Al (l).length cl), (6, .int .i64 ((k + 1 : Int)))] (by kernel_rfl) (fun g37 => ?_)
        refine wpF_end _ (by kernel_rfl) (then_n (hK10 _ _ (k + 1) (by omega) ?_))
        refine ⟨g37, Vl4, rfl, hM8, hM8.le, ?_⟩
        · -- Ltff inv 0
          omega
  · -- Lf
    have p38 : ¬ (((k : Int)) < ((l.length : Int))) := of_decide_eq_false h13
    refine wp_exit (then_x (then_x (blk_hit (then_n (hK2 _ _ ?_)))))
    obtain rfl : k = l.length := by omega
    refine wp_seq_k (fun K39 hK39 => ?_)
    refine wp_seq_k (fun K40 hK40 => ?_)
    refine wp_reg ?_
    refine wpF_seg 1 (by kernel_rfl) ?_
    refine wpF_end _ (by kernel_rfl) (then_n (hK40 _ _ ?_))
    refine wp_block ?_
    refine wp_base [(0, .slice As (s).length cs), (1, .slice Al (l).length cl), (7, .int .i64 ((0 : Int)))] (by kernel_rfl) (fun g42 => ?_)
    refine wp_loopX (fun (x_ : Nat × List (Str × Str)) a_ w_ => ∃ (g : Nat → Value) (V_ : VT), ∃ (Arf0 : Option Addr) (crf0 : Nat), a_ = env [] 67 [(0, .slice Arf0 (x_.2).length crf0), (1, .slice Al (l).length cl), (7, .int .i64 ((x_.1 : Int)))] g ∧ Step V w [] V_ w_ [] ∧ VT.le Vl4 V_ ∧ Rd (prK strK strK) V_ Arf0 crf0 (x_.2) ∧ (x_.1 ≤ l.length) ∧ (x_.2 = cdK s l (x_.1))) (fun (x_ : Nat × List (Str × Str)) => l.length - x_.1) ((0 : Nat), (s : List (Str × Str))) ⟨g42, Vl4, As, cs, rfl, hM8, VT.le.refl _, (hs.up hM8.le), by omega, by rfl⟩ ?_
    rintro ⟨q, o⟩ a_ w44 ⟨g43, Vl41, Ar_47f0, cr_47f0, rfl, hM45, le46, hfAr_47f0, hi47_0, hi47_1⟩ K47 hK47
    replace hi47_0 : q ≤ l.length := hi47_0
    replace hi47_1 : o = cdK s l (q) := hi47_1
    refine wp_seq_k (fun K48 hK48 => ?_)
    refine wp_seq_k (fun K49 hK49 => ?_)
    refine wp_reg ?_
    refine wpF_seg 4 (by kernel_rfl) ?_
    refine wpF_end _ (by kernel_rfl) (then_n (hK49 _ _ ?_))
    refine wp_if (decide (((q : Int)) < ((l.length : Int)))) (by kernel_rfl) (fun h50 => ?_) (fun h50 => ?_)
    · -- LfLt
      have p51 : (((q : Int)) < ((l.length : Int))) := of_decide_eq_true h50
      refine wp_skip (then_n (hK48 _ _ ?_))
      refine wp_seq_k (fun K52 hK52 => ?_)
      refine wp_block ?_
      refine wp_seq_k (fun K53 hK53 => ?_)
      refine wp_reg ?_
      refine wpF_seg 2 (by kernel_rfl) ?_
      refine gF_index (A := Al) (c := cl) (hl.up hM45.le) .i64 ((q : Int)) (h := (by kernel_rfl : opAt _ _ _ _ _ = some (.indexAddr 45 (.tmp 36) (.tmp 37), some 38))) (e := 105) (by kernel_rfl) (by kernel_rfl) (by kernel_rfl) (q) rfl (by omega) (fun b54 o55 at_b54 => ?_)
      have c56 : Vl41 b54 o55 = some (bs (l.getD (q) ([], [], false)).1) := (At.str (At.pr at_b54).1).1
      have l57 : (l.getD (q) ([], [], false)).1.length ≤ 140737488355328 := (At.str (At.pr at_b54).1).2
      have c58 : Vl41 b54 (o55 + 1) = some (bs (l.getD (q) ([], [], false)).2.1) := (At.str (At.pr (At.pr at_b54).2).1).1
      have l59 : (l.getD (q) ([], [], false)).2.1.length ≤ 140737488355328 := (At.str (At.pr (At.pr at_b54).2).1).2
      have c60 : Vl41 b54 (o55 + 2) = some (.bool (l.getD (q) ([], [], false)).2.2) := At.bool (At.pr (At.pr at_b54).2).2
      refine wpF_seg 1 (by kernel_rfl) ?_
      refine gF hM45 (.load 4 (.tmp 39)) (some 40) (by kernel_rfl) (Y_loadV c60 (by kernel_rfl) (by kernel_rfl)) ?_
      refine wpF_end _ (by kernel_rfl) (then_n (hK53 _ _ ?_))
      refine wp_if ((l.getD (q) ([], [], false)).2.2) (by kernel_rfl) (fun h61 => ?_) (fun h61 => ?_)
      · -- LfLtt
        refine wp_reg ?_
        refine wpF_seg 3 (by kernel_rfl) ?_
        refine gF_index (A := Al) (c := cl) (hl.up hM45.le) .i64 ((q : Int)) (h := (by kernel_rfl : opAt _ _ _ _ _ = some (.indexAddr 45 (.tmp 43) (.tmp 44), some 45))) (e := 105) (by kernel_rfl) (by kernel_rfl) (by kernel_rfl) (q) rfl (by omega) (fun b62 o63 at_b62 => ?_)
        have c64 : Vl41 b62 o63 = some (bs (l.getD (q) ([], [], false)).1) := (At.str (At.pr at_b62).1).1
        have l65 : (l.getD (q) ([], [], false)).1.length ≤ 140737488355328 := (At.str (At.pr at_b62).1).2
        have c66 : Vl41 b62 (o63 + 1) = some (bs (l.getD (q) ([], [], false)).2.1) := (At.str (At.pr (At.pr at_b62).2).1).1
        have l67 : (l.getD (q) ([], [], false)).2.1.length ≤ 140737488355328 := (At.str (At.pr (At.pr at_b62).2).1).2
        have c68 : Vl41 b62 (o63 + 2) = some (.bool (l.getD (q) ([], [], false)).2.2) := At.bool (At.pr (At.pr at_b62).2).2
        refine wpF_seg 1 (by kernel_rfl) ?_
        refine gF hM45 (.load 9 (.tmp 46)) (some 47) (by kernel_rfl) (Y_loadV c64 (by kernel_rfl) (by kernel_rfl)) ?_
        refine wpF_callP hM45 (f := 84) (caps := #[]) (h := (by kernel_rfl : opAt _ _ _ _ _ = some (.call (.mk (.value (.func 84)) #[(.tmp 42), (.tmp 47)] #[60, 9]), some 48))) (by kernel_rfl) (by kernel_rfl) (by kernel_rfl) (f84 _ _ hM45.inW Ar_47f0 cr_47f0 (o) hfAr_47f0 ((l.getD (q) ([], [], false)).1) (l65) (by (have hq := len_cdK s l q (by omega)); rw [(by assumption : o = cdK s l q)]; omega)) (fun v69 V70 w71 le72 hM73 hp74 => ?_)
        obtain ⟨Ar74_1, cr74_1, rfl, r75⟩ := hp74
        have l76 : (delP (o) ((l.getD (q) ([], [], false)).1)).length ≤ 140737488355328 := r75.max
        refine wpF_seg 4 (by kernel_rfl) ?_
        refine wpF_end _ (by kernel_rfl) (blk_n (then_n (hK52 _ _ ?_)))
        refine wp_reg ?_
        refine wpF_seg 1 (by kernel_rfl) ?_
        refine gF hM73 (.binOp .add 3 (.tmp 34) (.const (.int .i64 1)) 3) (some 35) (by kernel_rfl) (Y_add .i64 ((q : Int)) (1) ((q : Int) + 1) (by kernel_rfl) (by kernel_rfl) (wrap64_ok _ (by omega))) ?_
        refine wpF_seg 1 (by kernel_rfl) ?_
        refine wpF_base [(0, .slice Ar74_1 (delP o (l.getD (q) ([], [], false)).1).length cr74_1), (1, .slice Al (l).length cl), (7, .int .i64 ((q + 1 : Int)))] (by kernel_rfl) (fun g77 => ?_)
        refine wpF_end _ (by kernel_rfl) (then_n (hK47 _ _ (q + 1, delP o (l.getD (q) ([], [], false)).1) (by omega) ?_))
        refine ⟨g77, V70, Ar74_1, cr74_1, rfl, hM73, (le46.trans le72), r75, ?_, ?_⟩
        · -- LfLtt inv 0
          omega
        · -- LfLtt inv 1
          rw [(by assumption : o = cdK s l q)]; exact cd_t (by omega) (by assumption)
      · -- LfLtf
        refine wp_base [(0, .slice Ar_47f0 (o).length cr_47f0), (1, .slice Al (l).length cl), (7, .int .i64 ((q : Int))), (30, .int .i64 ((q : Int))), (31, .slice Al (l).length cl), (32, .int .i64 ((l.length : Int))), (33, .bool (decide (((q : Int)) < ((l.length : Int))))), (36, .slice Al (l).length cl), (37, .int .i64 ((q : Int))), (38, .pointer (some ⟨b54, o55, none⟩)), (39, .pointer (some ⟨b54, (o55 + 2), none⟩)), (40, .bool ((l.getD (q) ([], [], false)).2.2))] (by kernel_rfl) (fun g78 => ?_)
        refine wp_drawN hM45 [] no_held [] [0, 1, 2, 3, 4, 5, 6, 7, 8, 9, 10] [.a 11, .p 12, .p 13, .p 14, .p 15] [.p 0, .p 1, .p 2, .p 3, .p 4, .p 5, .p 6, .p 7, .p 8, .p 9, .p 10, .s, .a 11, .p 12, .p 13, .p 14, .p 15] rfl (by kernel_rfl) (by kernel_rfl) ?_
        refine h_seg 3 (by kernel_rfl) ?_
        refine gH_index (A := Al) (c := cl) (hl.up hM45.le) .i64 ((q : Int)) (h := (by kernel_rfl : opAt _ _ _ _ _ = some (.indexAddr 45 (.tmp 53) (.tmp 54), some 55))) (e := 105) (by kernel_rfl) (by kernel_rfl) (by kernel_rfl) (q) rfl (by omega) (fun b79 o80 at_b79 => ?_)
        have c81 : Vl41 b79 o80 = some (bs (l.getD (q) ([], [], false)).1) := (At.str (At.pr at_b79).1).1
        have l82 : (l.getD (q) ([], [], false)).1.length ≤ 140737488355328 := (At.str (At.pr at_b79).1).2
        have c83 : Vl41 b79 (o80 + 1) = some (bs (l.getD (q) ([], [], false)).2.1) := (At.str (At.pr (At.pr at_b79).2).1).1
        have l84 : (l.getD (q) ([], [], false)).2.1.length ≤ 140737488355328 := (At.str (At.pr (At.pr at_b79).2).1).2
        have c85 : Vl41 b79 (o80 + 2) = some (.bool (l.getD (q) ([], [], false)).2.2) := At.bool (At.pr (At.pr at_b79).2).2
        refine h_seg 1 (by kernel_rfl) ?_
        refine gH (.load 9 (.tmp 56)) (some 57) (by kernel_rfl) (Y_loadV c81 (by kernel_rfl) (by kernel_rfl)) ?_
        refine h_seg 2 (by kernel_rfl) ?_
        refine gH_index (A := Al) (c := cl) (hl.up hM45.le) .i64 ((q : Int)) (h := (by kernel_rfl : opAt _ _ _ _ _ = some (.indexAddr 45 (.tmp 58) (.tmp 59), some 60))) (e := 105) (by kernel_rfl) (by kernel_rfl) (by kernel_rfl) (q) rfl (by omega) (fun b86 o87 at_b86 => ?_)
        have c88 : Vl41 b86 o87 = some (bs (l.getD (q) ([], [], false)).1) := (At.str (At.pr at_b86).1).1
        have l89 : (l.getD (q) ([], [], false)).1.length ≤ 140737488355328 := (At.str (At.pr at_b86).1).2
        have c90 : Vl41 b86 (o87 + 1) = some (bs (l.getD (q) ([], [], false)).2.1) := (At.str (At.pr (At.pr at_b86).2).1).1
        have l91 : (l.getD (q) ([], [], false)).2.1.length ≤ 140737488355328 := (At.str (At.pr (At.pr at_b86).2).1).2
        have c92 : Vl41 b86 (o87 + 2) = some (.bool (l.getD (q) ([], [], false)).2.2) := At.bool (At.pr (At.pr at_b86).2).2
        refine h_seg 1 (by kernel_rfl) ?_
        refine gH (.load 9 (.tmp 61)) (some 62) (by kernel_rfl) (Y_loadV c90 (by kernel_rfl) (by kernel_rfl)) ?_
        refine h_s no_fs ?_
        refine h_a (by kernel_rfl) (by kernel_rfl) (fun w93 X94 hM95 => ?_)
        refine wpF_callP hM95 (f := 85) (caps := #[]) (h := (by kernel_rfl : opAt _ _ _ _ _ = some (.call (.mk (.value (.func 85)) #[(.tmp 52), (.tmp 57), (.tmp 62)] #[60, 9, 9]), some 63))) (by kernel_rfl) (by kernel_rfl) (by kernel_rfl) (f85 _ _ hM95.inW Ar_47f0 cr_47f0 (o) hfAr_47f0 ((l.getD (q) ([], [], false)).1) (l82) ((l.getD (q) ([], [], false)).2.1) (l91) (by rw [(by assumption : o = cdK s l q)]; exact up_cdK hup q (by omega)) (by (have hq := len_cdK s l q (by omega)); rw [(by assumption : o = cdK s l q)]; omega)) (fun v96 V97 w98 le99 hM100 hp101 => ?_)
        obtain ⟨Ar101_1, cr101_1, rfl, r102⟩ := hp101
        have l103 : (putB (o) ((l.getD (q) ([], [], false)).1) ((l.getD (q) ([], [], false)).2.1)).length ≤ 140737488355328 := r102.max
        refine wpF_end _ (by kernel_rfl) (then_n (h_d [] (by kernel_rfl) [] hM100 no_held le99 ?_))
        refine h_seg 4 (by kernel_rfl) ?_
        refine h_n (fun w104 hM105 => ?_)
        refine  (blk_n (then_n (hK52 _ _ ?_)))
        refine wp_reg ?_
        refine wpF_seg 1 (by kernel_rfl) ?_
        refine gF hM105 (.binOp .add 3 (.tmp 34) (.const (.int .i64 1)) 3) (some 35) (by kernel_rfl) (Y_add .i64 ((q : Int)) (1) ((q : Int) + 1) (by kernel_rfl) (by kernel_rfl) (wrap64_ok _ (by omega))) ?_
        refine wpF_seg 1 (by kernel_rfl) ?_
        refine wpF_base [(0, .slice Ar101_1 (putB o (l.getD (q) ([], [], false)).1 (l.getD (q) ([], [], false)).2.1).length cr101_1), (1, .slice Al (l).length cl), (7, .int .i64 ((q + 1 : Int)))] (by kernel_rfl) (fun g106 => ?_)
        refine wpF_end _ (by kernel_rfl) (then_n (hK47 _ _ (q + 1, putB o (l.getD (q) ([], [], false)).1 (l.getD (q) ([], [], false)).2.1) (by omega) ?_))
        refine ⟨g106, V97, Ar101_1, cr101_1, rfl, hM105, (le46.trans le99), r102, ?_, ?_⟩
        · -- LfLtf inv 0
          omega
        · -- LfLtf inv 1
          rw [(by assumption : o = cdK s l q)]; exact cd_f (by omega) (by assumption)
    · -- LfLf
      have p107 : ¬ (((q : Int)) < ((l.length : Int))) := of_decide_eq_false h50
      refine wp_exit (then_x (then_x (blk_hit (then_n (hK39 _ _ ?_)))))
      obtain rfl : q = l.length := by omega
      refine wp_seq_k (fun K108 hK108 => ?_)
      refine wp_reg ?_
      refine wpF_seg 3 (by kernel_rfl) ?_
      refine wpF_end _ (by kernel_rfl) (then_n (hK108 _ _ ?_))
      refine wp_ret ?_
      refine retN [.slice Ar_47f0 (o).length cr_47f0, .bool (true)] (.tuple #[.slice Ar_47f0 (o).length cr_47f0, .bool (true)]) Try.results36 (.tmp (by kernel_rfl) (by kernel_rfl) (.tmp (by kernel_rfl) (by kernel_rfl) .nil)) (by kernel_rfl) (hRet _ _ ⟨_, _, rfl, hM45.clear, ?_⟩)
      -- end LfLf
      have ho : o = cdK s l l.length := by assumption
      refine ⟨Ar_47f0, cr_47f0, ?_, ?_⟩
      · rw [ho]
      · first | exact hfAr_47f0 | (exact Rd.eq hfAr_47f0 (by exact ho))

end Go.Vk
