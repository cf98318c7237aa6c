import Derived.Test.YtnibbocbefnnnaaRC
import Derived.Test.YtnibbocbefnnnaaRD
import Derived.Test.YtnibbocbefnnnaaRG
set_option linter.unusedVariables false
set_option linter.unusedSimpArgs false
namespace Go.Vk
open Go.Proofs
set_option maxHeartbeats 4000000 in
set_option maxRecDepth 100000 in
theorem f55r (V : VT) (w : World) (Al : Option Addr) (cl : Nat) (l : List Str) (y : Str) (hy : y.length ≤ maxL) (hS : St V w [.row strK 9 Al cl (l)]) (h5 : l.length ≤ 100000) :
    Calls Try.prog 55 #[.slice Al (l).length cl, bs (y)] w (Ret V w [.row strK 9 Al cl (l)] fun rv V' E' => rv = .tuple #[.int .i64 (((bsN l y : Nat) : Int)), .bool (bsB l y)] ∧ E' = [.row strK 9 Al cl (l)]) := by
  have mxy : y.length ≤ 140737488355328 := hy
  refine calls_env (n := 54) Try.func55 (c := _) rfl Try.ntmps55 (by kernel_rfl) (fun R hRet => ?_)
  have hV := hS.inW
  have hM0 : Step V w [.row strK 9 Al cl (l)] V w [.row strK 9 Al cl (l)] := Step.refl hS
  refine wp_seq_k (fun K1 hK1 => ?_)
  refine wp_reg ?_
  refine wpF_seg 2 (by kernel_rfl) ?_
  refine wpF_end _ (by kernel_rfl) (then_n (hK1 _ _ ?_))
  refine wp_seq_k (fun K2 hK2 => ?_)
  refine wp_reg ?_
  refine wpF_seg 3 (by kernel_rfl) ?_
  refine wpF_end _ (by kernel_rfl) (then_n (hK2 _ _ ?_))
  refine wp_seq_k (fun K3 hK3 => ?_)
  refine wp_reg ?_
  refine wpF_seg 3 (by kernel_rfl) ?_
  refine wpF_end _ (by kernel_rfl) (then_n (hK3 _ _ ?_))
  refine wp_seq_k (fun K4 hK4 => ?_)
  refine wp_block ?_
  refine wp_base [(0, .slice Al (l).length cl), (1, bs (y)), (4, .int .i64 (0)), (5, .bool (false)), (6, .int .i64 ((l.length : Int))), (7, .int .i64 (((0 : Nat) : Int))), (8, .int .i64 (((l.length : Nat) : Int)))] (by kernel_rfl) (fun g6 => ?_)
  refine wp_loopX (fun (x_ : Nat × Nat) a_ w_ => ∃ (g : Nat → Value) (V_ : VT), a_ = env [] 54 [(0, .slice Al (l).length cl), (1, bs (y)), (4, .int .i64 (0)), (5, .bool (false)), (6, .int .i64 ((l.length : Int))), (7, .int .i64 (((x_.1 : Nat) : Int))), (8, .int .i64 (((x_.2 : Nat) : Int)))] g ∧ Step V w [.row strK 9 Al cl (l)] V_ w_ [.row strK 9 Al cl (l)] ∧ VT.le V V_ ∧ (x_.1 ≤ x_.2 ∧ x_.2 ≤ l.length) ∧ (srch (fun (j_ : Nat) => !decide (l.getD j_ [] < y)) x_.1 x_.2 = srch (fun (j_ : Nat) => !decide (l.getD j_ [] < y)) 0 l.length)) (fun (x_ : Nat × Nat) => x_.2 - x_.1) ((0 : Nat), (l.length : Nat)) ⟨g6, V, rfl, hM0, VT.le.refl _, by omega, by rfl⟩ ?_
  rintro ⟨i, j⟩ a_ w8 ⟨g7, Vl5, rfl, hM9, le10, hi11_0, hi11_1⟩ K11 hK11
  refine wp_seq_k (fun K12 hK12 => ?_)
  refine wp_seq_k (fun K13 hK13 => ?_)
  refine wp_reg ?_
  refine wpF_seg 3 (by kernel_rfl) ?_
  refine wpF_end _ (by kernel_rfl) (then_n (hK13 _ _ ?_))
  refine wp_if (decide ((((i : Nat) : Int)) < (((j : Nat) : Int)))) (by kernel_rfl) (fun h14 => ?_) (fun h14 => ?_)
  · -- Lt
    have p15 : ((((i : Nat) : Int)) < (((j : Nat) : Int))) := of_decide_eq_true h14
    refine wp_skip (then_n (hK12 _ _ ?_))
    refine wp_block ?_
    refine wp_seq_k (fun K16 hK16 => ?_)
    refine wp_reg ?_
    refine wpF_seg 2 (by kernel_rfl) ?_
    refine gF hM9 (.binOp .add 3 (.tmp 16) (.tmp 17) 3) (some 18) (by kernel_rfl) (Y_add .i64 (((i : Nat) : Int)) (((j : Nat) : Int)) (((i : Nat) : Int) + ((j : Nat) : Int)) (by kernel_rfl) (by kernel_rfl) (wrap64_ok _ (by omega))) ?_
    refine gF hM9 (.convert 3 155 (.tmp 18)) (some 19) (by kernel_rfl) (Y_conv .i64 .i64 .u64 (((i : Nat) : Int) + ((j : Nat) : Int)) (((i : Nat) : Int) + ((j : Nat) : Int)) (by kernel_rfl) (by kernel_rfl) (by kernel_rfl) (wrapu64_ok _ (by omega))) ?_
    refine gF hM9 (.binOp .shr 155 (.tmp 19) (.const (.int .u64 1)) 155) (some 20) (by kernel_rfl) (Y_shr .u64 .u64 (((i : Nat) : Int) + ((j : Nat) : Int)) (1) ((((i : Nat) : Int) + ((j : Nat) : Int)) / 2) (by kernel_rfl) (by kernel_rfl) (by omega) (by rw [Int.fdiv_eq_ediv_of_nonneg _ (by decide)]; rfl)) ?_
    refine gF hM9 (.convert 155 3 (.tmp 20)) (some 21) (by kernel_rfl) (Y_conv .u64 .u64 .i64 ((((i : Nat) : Int) + ((j : Nat) : Int)) / 2) ((((i : Nat) : Int) + ((j : Nat) : Int)) / 2) (by kernel_rfl) (by kernel_rfl) (by kernel_rfl) (wrap64_ok _ (by omega))) ?_
    refine wpF_seg 1 (by kernel_rfl) ?_
    refine wpF_end _ (by kernel_rfl) (then_n (hK16 _ _ ?_))
    refine wp_seq_k (fun K17 hK17 => ?_)
    refine wp_reg ?_
    refine wpF_seg 2 (by kernel_rfl) ?_
    refine wpF_indexW hM9 0 rfl .i64 ((((i : Nat) : Int) + ((j : Nat) : Int)) / 2) (h := (by kernel_rfl : opAt _ _ _ _ _ = some (.indexAddr 22 (.tmp 22) (.tmp 23), some 24))) (e' := 9) (by kernel_rfl) (by kernel_rfl) (by kernel_rfl) (((i : Nat) + (j : Nat)) / 2) (by omega) (by omega) (fun b18 hA19 => ?_)
    refine wpF_loadW (m := (((i : Nat) + (j : Nat)) / 2)) hM9 0 rfl hA19 (h := (by kernel_rfl : opAt _ _ _ _ _ = some (.load 9 (.tmp 24), some 25))) (by kernel_rfl) (by kernel_rfl) (by omega) (fun l20 => ?_)
    refine wpF_seg 1 (by kernel_rfl) ?_
    refine wpF_callP hM9 (f := 103) (caps := #[]) (h := (by kernel_rfl : opAt _ _ _ _ _ = some (.call (.mk (.value (.func 103)) #[(.tmp 25), (.tmp 26)] #[9, 9]), some 27))) (by kernel_rfl) (by kernel_rfl) (by kernel_rfl) (f103 _ _ hM9.inW ((l.getD (((i : Nat) + (j : Nat)) / 2) [])) (l20) (y) (hy)) (fun v21 V22 w23 le24 hM25 hp26 => ?_)
    obtain rfl := hp26
    refine wpF_end _ (by kernel_rfl) (then_n (hK17 _ _ ?_))
    refine wp_if (decide (((l.getD (((i : Nat) + (j : Nat)) / 2) [])) < (y))) (by kernel_rfl) (fun h27 => ?_) (fun h27 => ?_)
    · -- Ltt
      have p28 : (((l.getD (((i : Nat) + (j : Nat)) / 2) [])) < (y)) := of_decide_eq_true h27
      refine wp_reg ?_
      refine wpF_seg 1 (by kernel_rfl) ?_
      refine gF hM25 (.binOp .add 3 (.tmp 28) (.const (.int .i64 1)) 3) (some 29) (by kernel_rfl) (Y_add .i64 ((((i : Nat) : Int) + ((j : Nat) : Int)) / 2) (1) (((((i : Nat) : Int) + ((j : Nat) : Int)) / 2) + 1) (by kernel_rfl) (by kernel_rfl) (wrap64_ok _ (by omega))) ?_
      refine wpF_seg 1 (by kernel_rfl) ?_
      refine wpF_base [(0, .slice Al (l).length cl), (1, bs (y)), (4, .int .i64 (0)), (5, .bool (false)), (6, .int .i64 ((l.length : Int))), (7, .int .i64 ((((i + j) / 2 + 1 : Nat) : Int))), (8, .int .i64 (((j : Nat) : Int)))] (by kernel_rfl) (fun g29 => ?_)
      refine wpF_end _ (by kernel_rfl) (blk_n (then_n (hK11 _ _ ((i + j) / 2 + 1, j) (by omega) ?_)))
      refine ⟨g29, V22, rfl, hM25, hM25.le, ?_, ?_⟩
      · -- Ltt inv 0
        omega
      · -- Ltt inv 1
        rw [← (by assumption : srch (fun (j_ : Nat) => !decide (l.getD j_ [] < y)) i j = srch (fun (j_ : Nat) => !decide (l.getD j_ [] < y)) 0 l.length)]; exact bs_lo (by omega) (by assumption)
    · -- Ltf
      have p30 : ¬ (((l.getD (((i : Nat) + (j : Nat)) / 2) [])) < (y)) := of_decide_eq_false h27
      refine wp_reg ?_
      refine wpF_seg 2 (by kernel_rfl) ?_
      refine wpF_base [(0, .slice Al (l).length cl), (1, bs (y)), (4, .int .i64 (0)), (5, .bool (false)), (6, .int .i64 ((l.length : Int))), (7, .int .i64 (((i : Nat) : Int))), (8, .int .i64 ((((i + j) / 2 : Nat) : Int)))] (by kernel_rfl) (fun g31 => ?_)
      refine wpF_end _ (by kernel_rfl) (blk_n (then_n (hK11 _ _ (i, (i + j) / 2) (by omega) ?_)))
      refine ⟨g31, V22, rfl, hM25, hM25.le, ?_, ?_⟩
      · -- Ltf inv 0
        omega
      · -- Ltf inv 1
        rw [← (by assumption : srch (fun (j_ : Nat) => !decide (l.getD j_ [] < y)) i j = srch (fun (j_ : Nat) => !decide (l.getD j_ [] < y)) 0 l.length)]; exact bs_hi (by omega) (by assumption)
  · -- Lf
    have p32 : ¬ ((((i : Nat) : Int)) < (((j : Nat) : Int))) := of_decide_eq_false h14
    refine wp_exit (then_x (then_x (blk_hit (then_n (hK4 _ _ ?_)))))
    refine wp_seq_k (fun K33 hK33 => ?_)
    refine wp_reg ?_
    refine wpF_seg 5 (by kernel_rfl) ?_
    refine wpF_caseB 35 (decide ((((i : Nat) : Int)) < ((l.length : Int)))) (by kernel_rfl) (by kernel_rfl) (fun h34 => ?_) (fun h34 => ?_)
    · -- Lft
      have p35 : ((((i : Nat) : Int)) < ((l.length : Int))) := of_decide_eq_true h34
      refine wpF_seg 2 (by kernel_rfl) ?_
      refine wpF_indexW hM9 0 rfl .i64 (((i : Nat) : Int)) (h := (by kernel_rfl : opAt _ _ _ _ _ = some (.indexAddr 22 (.tmp 36) (.tmp 37), some 38))) (e' := 9) (by kernel_rfl) (by kernel_rfl) (by kernel_rfl) ((i)) (by omega) (by omega) (fun b36 hA37 => ?_)
      refine wpF_loadW (m := ((i))) hM9 0 rfl hA37 (h := (by kernel_rfl : opAt _ _ _ _ _ = some (.load 9 (.tmp 38), some 39))) (by kernel_rfl) (by kernel_rfl) (by omega) (fun l38 => ?_)
      refine wpF_seg 3 (by kernel_rfl) ?_
      refine wpF_caseB 42 (decide (((l.getD ((i)) [])) = (y))) (by kernel_rfl) (by kernel_rfl) (fun h39 => ?_) (fun h39 => ?_)
      · -- Lftt
        have p40 : (((l.getD ((i)) [])) = (y)) := of_decide_eq_true h39
        refine wpF_seg 13 (by kernel_rfl) ?_
        refine wpF_end _ (by kernel_rfl) (then_n (hK33 _ _ ?_))
        refine wp_ret ?_
        have hM41 := hM9.front 0 rfl
        have hM42 : Step V w [.row strK 9 Al cl (l)] Vl5 _ ([.row strK 9 Al cl (l)]) := hM41
        refine retN [.int .i64 (((i : Nat) : Int)), .bool (true)] (.tuple #[.int .i64 (((i : Nat) : Int)), .bool (true)]) Try.results55 (.tmp (by kernel_rfl) (by kernel_rfl) (.tmp (by kernel_rfl) (by kernel_rfl) .nil)) (by kernel_rfl) (hRet _ _ ⟨_, _, _, rfl, hM42, ?_⟩)
        -- end Lftt
        have hb : bsN l y = i := by unfold bsN; rw [← (by assumption : srch (fun (j_ : Nat) => !decide (l.getD j_ [] < y)) i j = srch (fun (j_ : Nat) => !decide (l.getD j_ [] < y)) 0 l.length), srch_end (by omega)]
        refine ⟨?_, ?_⟩
        · rw [bsB, hb]; simp only [h14, h34, h39, Bool.true_and, Bool.and_true, Bool.false_and, Bool.and_false]
        · rfl
      · -- Lftf
        have p43 : ¬ (((l.getD ((i)) [])) = (y)) := of_decide_eq_false h39
        refine wpF_seg 2 (by kernel_rfl) ?_
        refine wpF_indexW hM9 0 rfl .i64 (((i : Nat) : Int)) (h := (by kernel_rfl : opAt _ _ _ _ _ = some (.indexAddr 22 (.tmp 43) (.tmp 44), some 45))) (e' := 9) (by kernel_rfl) (by kernel_rfl) (by kernel_rfl) ((i)) (by omega) (by omega) (fun b44 hA45 => ?_)
        refine wpF_loadW (m := ((i))) hM9 0 rfl hA45 (h := (by kernel_rfl : opAt _ _ _ _ _ = some (.load 9 (.tmp 45), some 46))) (by kernel_rfl) (by kernel_rfl) (by omega) (fun l46 => ?_)
        refine wpF_callP hM9 (f := 104) (caps := #[]) (h := (by kernel_rfl : opAt _ _ _ _ _ = some (.call (.mk (.value (.func 104)) #[(.tmp 46)] #[9]), some 47))) (by kernel_rfl) (by kernel_rfl) (by kernel_rfl) (f104 _ _ hM9.inW ((l.getD ((i)) [])) (l46)) (fun v47 V48 w49 le50 hM51 hp52 => ?_)
        obtain rfl := hp52
        refine wpF_seg 8 (by kernel_rfl) ?_
        refine wpF_end _ (by kernel_rfl) (then_n (hK33 _ _ ?_))
        refine wp_ret ?_
        have hM53 := hM51.front 0 rfl
        have hM54 : Step V w [.row strK 9 Al cl (l)] V48 _ ([.row strK 9 Al cl (l)]) := hM53
        refine retN [.int .i64 (((i : Nat) : Int)), .bool (false)] (.tuple #[.int .i64 (((i : Nat) : Int)), .bool (false)]) Try.results55 (.tmp (by kernel_rfl) (by kernel_rfl) (.tmp (by kernel_rfl) (by kernel_rfl) .nil)) (by kernel_rfl) (hRet _ _ ⟨_, _, _, rfl, hM54, ?_⟩)
        -- end Lftf
        have hb : bsN l y = i := by unfold bsN; rw [← (by assumption : srch (fun (j_ : Nat) => !decide (l.getD j_ [] < y)) i j = srch (fun (j_ : Nat) => !decide (l.getD j_ [] < y)) 0 l.length), srch_end (by omega)]
        refine ⟨?_, ?_⟩
        · rw [bsB, hb]; simp only [h14, h34, h39, Bool.true_and, Bool.and_true, Bool.false_and, Bool.and_false]
        · rfl
    · -- Lff
      have p55 : ¬ ((((i : Nat) : Int)) < ((l.length : Int))) := of_decide_eq_false h34
      refine wpF_seg 20 (by kernel_rfl) ?_
      refine wpF_end _ (by kernel_rfl) (then_n (hK33 _ _ ?_))
      refine wp_ret ?_
      have hM56 := hM9.front 0 rfl
      have hM57 : Step V w [.row strK 9 Al cl (l)] Vl5 _ ([.row strK 9 Al cl (l)]) := hM56
      refine retN [.int .i64 (((i : Nat) : Int)), .bool (false)] (.tuple #[.int .i64 (((i : Nat) : Int)), .bool (false)]) Try.results55 (.tmp (by kernel_rfl) (by kernel_rfl) (.tmp (by kernel_rfl) (by kernel_rfl) .nil)) (by kernel_rfl) (hRet _ _ ⟨_, _, _, rfl, hM57, ?_⟩)
      -- end Lff
      have hb : bsN l y = i := by unfold bsN; rw [← (by assumption : srch (fun (j_ : Nat) => !decide (l.getD j_ [] < y)) i j = srch (fun (j_ : Nat) => !decide (l.getD j_ [] < y)) 0 l.length), srch_end (by omega)]
      refine ⟨?_, ?_⟩
      · rw [bsB, hb]; simp only [h14, h34, Bool.true_and, Bool.and_true, Bool.false_and, Bool.and_false]
      · rfl

end Go.Vk
