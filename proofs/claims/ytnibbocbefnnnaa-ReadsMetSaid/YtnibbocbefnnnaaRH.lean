import Derived.Test.YtnibbocbefnnnaaRC
import Derived.Test.YtnibbocbefnnnaaRD
import Derived.Test.YtnibbocbefnnnaaRG
set_option linter.unusedVariables false
set_option linter.unusedSimpArgs false
namespace Go.Vk
open Go.Proofs
set_option maxHeartbeats 4000000 in
set_option maxRecDepth 100000 in
theorem f55r (V : VT) (w : World) (Al : Option Addr) (cl : Nat) (l : List Str) (y : Str) (hy : y.length ≤ maxL) (hS : St V w [.row strK 9 Al cl (l)]) (h5 : l.length ≤ 100000) :
    Calls Try.prog 55 #[.slice Al (l).length cl, bs (y)] w (Ret V w [.row strK 9 Al cl (l)] fun rv V' E' => rv = .tuple #[.int .i64 (((bsN l y : Nat) : Int)), .bool (bsB l y)] ∧ E' = [.row strK 9 Al cl (l)]) := by
  have mxy : y.length ≤ 140737488355328 := hy
  refine calls_env (n := 54) Try.func55 (c := _) rfl Try.ntmps55 (by kernel_rfl) (fun R hRet => ?_)
  have hV := hS.inW
  have hM0 : Step V w [.row strK 9 Al cl (l)] V w [.row strK 9 Al cl (l)] := Step.refl hS
  refine wp_seq_k (fun K1 hK1 => ?_)
  refine wp_reg ?_
  refine wpF_seg 2 (by kernel_rfl) ?_
  refine wpF_end _ (by kernel_rfl) (then_n (hK1 _ _ ?_))
  refine wp_seq_k (fun K2 hK2 => ?_)
  refine wp_reg ?_
  refine wpF_seg 3 (by kernel_rfl) ?_
  refine wpF_end _ (by kernel_rfl) (then_n (hK2 _ _ ?_))
  refine wp_seq_k (fun K3 hK3 => ?_)
  refine wp_reg ?_
  refine wpF_seg 3 (by kernel_rfl) ?_
  refine wpF_end _ (by kernel_rfl) (then_n (hK3 _ _ ?_))
  refine wp_seq_k (fun K4 hK4 => ?_)
  refine wp_block ?_
  refine wp_base [(0, .slice Al (l).length cl), (1, bs (y)), (4, .int .i64 (0)), (5, .bool (false)), (6, .int .i64 ((l.length : Int))), (7, .int .i64 (((0 : Nat) : Int))), (8, .int .i64 (((l.length : Nat) : Int)))] (by kernel_rfl) (fun g6 => ?_)
  refine wp_loopX (fun (x_ : Nat × Nat) a_ w_ => ∃ (g : Nat → Value) (V_ : VT), a_ = env [] 54 [(0, .slice Al (l).length cl), (1, bs (y)), (4, .int .i64 (0)), (5, .bool (false)), (6, .int .i64 ((l.length : Int))), (7, .int .i64 (((x_.1 : Nat) : Int))), (8, .int .i64 (((x_.2 : Nat) : Int)))] g ∧ Step V w [.row strK 9 Al cl (l)] V_ w_ [.row strK 9 Al cl (l)] ∧ VT.le V V_ ∧ (x_.1 ≤ x_.2 ∧ x_.2 ≤ l.length) ∧ (srch (fun (j_ : Nat) => !decide (l.getD j_ [] < y)) x_.1 x_.2 = srch (fun (j_ : Nat) => !decide (l.getD j_ [] < y)) 0 l.length)) (fun (x_ : Nat × Nat) => x_.2 - x_.1) ((0 : Nat), (l.length : Nat)) ⟨g6, V, rfl, hM0, VT.le.refl _, by omega, by rfl⟩ ?_
  rintro ⟨i, j⟩ a_ w8 ⟨g7, Vl5, rfl, hM9, le10, hi11_0, hi11_1⟩ K11 hK11
  refine wp_seq_k (fun K12 hK12 => ?_)
  refine wp_seq_k (fun K13 hK13 => ?_)
  refine wp_reg ?_
  refine wpF_seg 3 (by kernel_rfl) ?_
  refine wpF_end _ (by kernel_rfl) (then_n (hK13 _ _ ?_))
  refine wp_if (decide ((((i : Nat) : Int)) < (((j : Nat) : Int)))) (by kernel_rfl) (fun h14 => ?_) (fun h14 => ?_)
  · -- Lt
    have p15 : ((((i : Nat) : Int)) < (((j : Nat) : Int))) := of_decide_eq_true h14
    refine wp_skip (then_n (hK12 _ _ ?_))
    refine wp_block ?_
    refine wp_seq_k (fun K16 hK16 => ?_)
    refine wp_reg ?_
    refine wpF_seg 2 (by kernel_rfl) ?_
    refine gF hM9 (.binOp .add 3 (.tmp 16) (.tmp 17) 3) (some 18) (by kernel_rfl) (Y_add .i64 (((i : Nat) : Int)) (((j : Nat) : Int)) (((i : Nat) : Int) + ((j : Nat) : Int)) (by kernel_rfl) (by kernel_rfl) (wrap64_ok _ (by omega))) ?_
    refine gF hM9 (.convert 3 155 (.tmp 18)) (some 19) (by kernel_rfl) (Y_conv .i64 .i64 .u64 (((i : Nat) : Int) + ((j : Nat) : Int)) (((i : Nat) : Int) + ((j : Nat) : Int)) (by kernel_rfl) (by kernel_rfl) (by kernel_rfl) (wrapu64_ok _ (by omega))) ?_
    refine gF hM9 (.binOp .shr 155 (.tmp 19) (.const (.int .u64 1)) 155) (some 20) (by kernel_rfl) (Y_shr .u64 .u64 (((i : Nat) : Int) + ((j : Nat) : Int)) (1) ((((i : Nat) : Int) + ((j : Nat) : Int)) / 2) (by kernel_rfl) (by kernel_rfl) (by omega) (by rw [Int.fdiv_eq_ediv_of_nonneg _ (by decide)]; rfl)) ?_
    refine gF hM9 (.convert 155 3 (.tmp 20)) (some 21) (by kernel_rfl) (Y_conv .u64 .u64 .i64 ((((i : Nat) : Int) + ((j : Nat) : Int)) / 2) ((((i : Nat) : Int) + ((j : Nat) : Int)) / 2) (by kernel_rfl) (by kernel_rfl) (by kernel_rfl) (wrap64_ok _ (by omega))) ?_
    refine wpF_seg 1 (by kernel_rfl) ?_
    refine wpF_end _ (by kernel_rfl) (then_n (hK16 _ _ ?_))
    refine wp_seq_k (fun K17 hK17 => ?_)
    refine wp_reg ?_
    refine wpF_seg 2 (by kernel_rfl) ?_
    refine wpF_indexW hM9 0 rfl .i64 ((((i : Nat) : Int) + ((j : Nat) : Int)) / 2) (h := (by kernel_rfl : opAt _ _ _ _ _ = some (.indexAddr 22 (.tmp 22) (.tmp 23), some 24))) (e' := 9) (by kernel_rfl) (by kernel_rfl) (by kernel_rfl) (((i : Nat) + (j : Nat)) / 2) (by omega) (by omega) (fun b18 hA19 => ?_)
    refine wpF_loadW (m := (((i : Nat) + (j : Nat)) / 2)) hM9 0 rfl hA19 (h := (by kernel_rfl : opAt _ _ _ _ _ = some (.load 9 (.tmp 24), some 25))) (by kernel_rfl) (by kernel_rfl) (by omega) (fun l20 => ?_)
    refine wpF_seg 1 (by kernel_rfl) ?_
    refine wpF_callP hM9 (f := 103) (caps := #[]) (h := (by kernel_rfl : opAt _ _ _ _ _ = some (.call (.mk (.value (.func 103)) #[(.tmp 25), (.tmp 26)] #[9, 9]), some 27))) (by kernel_rfl) (by kernel_rfl) (by kernel_rfl) (f103 _ _ hM9.inW ((l.getD (((i : Nat) + (j : Nat)) / 2) [])) (l20) (y) (hy)) (fun v21 V22 w23 le24 hM25 hp26 => ?_)
    obtain rfl := hp26
    refine wpF_end _ (by kernel_rfl) (then_n (hK17 _ _ ?_))
    refine wp_if (decide (((l.getD (((i : Nat) + (j : Nat)) / 2) [])) < (y))) (by kernel_rfl) (fun h27 => ?_) (fun h27 => ?_)
    · -- Ltt
      have p28 : (((l.getD (((i : Nat) + (j : Nat)) / 2) [])) < (y)) := of_decide_eq_true h27
      refine wp_reg ?_
      refine wpF_seg 1 (by kernel_rfl) ?_
      refine gF hM25 (.binOp .add 3 (.tmp 28) (.const (.int .i64 1)) 3) (some 29) (by kernel_rfl) (Y_add .i64 ((((i : Nat) : Int) + ((j : Nat) : Int)) / 2) (1) (((((i : Nat) : Int) + ((j : Nat) : Int)) / 2) + 1) (by kernel_rfl) (by kernel_rfl) (wrap64_ok _ (by omega))) ?_
      refine wpF_seg 1 (by kernel_rfl) ?_
      refine wpF_base [(0, .slice Al (l).length cl), (1, bs (y)), (4, .int .i64 (0)), (5, .bool (false)), (6, .int .i64 ((l.length : Int))), (7, .int .i64 ((((i + j) / 2 + 1 : Nat) : Int))), (8, .int .i64 (((j : Nat) : Int)))] (by kernel_rfl) (fun g29 => ?_)
      refine wpF_end _ (by kernel_rfl) (blk_n (then_n (hK11 _ _ ((i + j) / 2 + 1, j) (by omega) ?_)))
      refine ⟨g29, V22, rfl, hM25, hM25.le, ?_, ?_⟩
      · -- Ltt inv 0
        omega
      · -- Ltt inv 1
        rw [← (by assumption : srch (fun (j_ : Nat) => !decide (l.getD j_ [] < y)) i j = srch (fun (j_ : Nat) => !decide (l.getD j_ [] < y)) 0 l.length)]; exact bs_lo (by omega) (by assumption)
    · -- Ltf
      have p30 : ¬ (((l.getD (((i : Nat) + (j : Nat)) / 2) [])) < (y)) := of_decide_eq_false h27
      refine wp_reg ?_
      refine wpF_seg 2 (by kernel_rfl) ?_
      refine wpF_base [(0, .slice Al (l).length cl), (1, bs (y)), (4, .int .i64 (0)), (5, .bool (false)), (6, .int .i64 ((l.length : Int))), (7, .int .i64 (((i : Nat) : Int))), (8, .int .i64 ((((i + j) / 2 : Nat) : Int)))] (by kernel_rfl) (fun g31 => ?_)
      refine wpF_end _ (by kernel_rfl) (blk_n (then_n (hK11 _ _ (i, (i + j) / 2) (by omega) ?_)))
      refine ⟨g31, V22, rfl, hM25, hM25.le, ?_, ?_⟩
      · -- Ltf inv 0
        omega
      · -- Ltf inv 1
        rw [← (by assumption : srch (fun (j_ : Nat) => !decide (l.getD j_ [] < y)) i j = srch (fun (j_ : Nat) => !decide (l.getD j_ [] < y)) 0 l.length)]; exact bs_hi (by omega) (by assumption)
  · -- Lf
    have p32 : ¬ ((((i : Nat) : Int)) < (((j : Nat) : Int))) := of_decide_eq_false h14
    refine wp_exit (then_x (then_x (blk_hit (then_n (hK4 _ _ ?_)))))
    refine wp_seq_k (fun K33 hK33 => ?_)
    refine wp_reg ?_
    refine wpF_seg 5 (by kernel_rfl) ?_
    refine wpF_caseB 35 (decide ((((i : Nat) : Int)) < ((l.length : Int)))) (by kernel_rfl) (by kernel_rfl) (fun h34 => ?_) (fun h34 => ?_)
    · -- Lft
      have p35 : ((((i : Nat) : Int)) < ((l.length : Int))) := of_decide_eq_true h34
      refine wpF_seg 2 (by kernel_rfl) ?_
      refine wpF_indexW hM9 0 rfl .i64 (((i : Nat) : Int)) (h := (by kernel_rfl : opAt _ _ _ _ _ = some (.indexAddr 22 (.tmp 36) (.tmp 37), some 38))) (e' := 9) (by kernel_rfl) (by kernel_rfl) (by kernel_rfl) ((i)) (by omega) (by omega) (fun b36 hA37 => ?_)
      refine wpF_loadW (m := ((i))) hM9 0 rfl hA37 (h := (by kernel_rfl : opAt _ _ _ _ _ = some (.load 9 (.tmp 38), some 39))) (by kernel_rfl) (by kernel_rfl) (by omega) (fun l38 => ?_)
      refine wpF_seg 3 (by kernel_rfl) ?_
      refine wpF_caseB 42 (decide (((l.getD ((i)) [])) = (y))) (by kernel_rfl) (by kernel_rfl) (fun h39 => ?_) (fun h39 => ?_)
      · -- Lftt
        have p40 : (((l.getD ((i)) [])) = (y)) := of_decide_eq_true h39
        refine wpF_seg 13 (by kernel_rfl) ?_
        refine wpF_end _ (by kernel_rfl) (then_n (hK33 _ _ ?_))
        refine wp_ret ?_
        have hM41 := hM9.front 0 rfl
        have hM42 : Step V w [.row strK 9 Al cl (l)] Vl5 _ ([.row strK 9 Al cl (l)]) := hM41
        refine retN [.int .i64 (((i : Nat) : Int)), .bool (true)] (.tuple #[.int .i64 (((i : Nat) : Int)), .bool (true)]) Try.results55 (.tmp (by kernel_rfl) (by kernel_rfl) (.tmp (by kernel_rfl) (by kernel_rfl) .nil)) (by kernel_rfl) (hRet _ _ ⟨_, _, _, rfl, hM42, ?_⟩)
        -- end Lftt
        have hb : bsN l y = i := by unfold bsN; rw [← (by assumption : srch (fun (j_ : Nat) => !decide (l.getD j_ [] < y)) i j = srch (fun (j_ : Nat) => !decide (l.getD j_ [] < y)) 0 l.length), srch_end (by omega)]
        refine ⟨?_, ?_⟩
        · rw [bsB, hb]; simp only [h14, h34, h39, Bool.true_and, Bool.and_true, Bool.false_and, Bool.and_false]
        · rfl
      · -- Lftf
        have p43 : ¬ (((l.getD ((i)) [])) = (y)) := of_decide_eq_false h39
        refine wpF_seg 2 (by kernel_rfl) ?_
        refine wpF_indexW hM9 0 rfl .i64 (((i : Nat) : Int)) (h := (by kernel_rfl : opAt _ _ _ _ _ = some (.indexAddr 22 (.tmp 43) (.tmp 44), some 45))) (e' := 9) (by kernel_rfl) (by kernel_rfl) (by kernel_rfl) ((i)) (by omega) (by omega) (fun b44 hA45 => ?_)
        refine wpF_loadW (m := ((i))) hM9 0 rfl hA45 (h := (by kernel_rfl : opAt _ _ _ _ _ = some (.load 9 (.tmp 45), some 46))) (by kernel_rfl) (by kernel_rfl) (by omega) (fun l46 => ?_)
        refine wpF_callP hM9 (f := 104) (caps := #[]) (h := (by kernel_rfl : opAt _ _ _ _ _ = some (.call (.mk (.value (.func 104)) #[(.tmp 46)] #[9]), some 47))) (by kernel_rfl) (by kernel_rfl) (by kernel_rfl) (f104 _ _ hM9.inW ((l.getD ((i)) [])) (l46)) (fun v47 V48 w49 le50 hM51 hp52 => ?_)
        obtain rfl := hp52
        refine wpF_seg 8 (by kernel_rfl) ?_
        refine wpF_end _ (by kernel_rfl) (then_n (hK33 _ _ ?_))
        refine wp_ret ?_
        have hM53 := hM51.front 0 rfl
        have hM54 : Step V w [.row strK 9 Al cl (l)] V48 _ ([.row strK 9 Al cl (l)]) := hM53
        refine retN [.int .i64 (((i : Nat) : Int)), .bool (false)] (.tuple #[.int .i64 (((i : Nat) : Int)), .bool (false)]) Try.results55 (.tmp (by kernel_rfl) (by kernel_rfl) (.tmp (by kernel_rfl) (by kernel_rfl) .nil)) (by kernel_rfl) (hRet _ _ ⟨_, _, _, rfl, hM54, ?_⟩)
        -- end Lftf
        have hb : bsN l y = i := by unfold bsN; rw [← (by assumption : srch (fun (j_ : Nat) => !decide (l.getD j_ [] < y)) i j = srch (fun (j_ : Nat) => !decide (l.getD j_ [] < y)) 0 l.length), srch_end (by omega)]
        refine ⟨?_, ?_⟩
        · rw [bsB, hb]; simp only [h14, h34, h39, Bool.true_and, Bool.and_true, Bool.false_and, Bool.and_false]
        · rfl
    · -- Lff
      have p55 : ¬ ((((i : Nat) : Int)) < ((l.length : Int))) := of_decide_eq_false h34
      refine wpF_seg 20 (by kernel_rfl) ?_
      refine wpF_end _ (by kernel_rfl) (then_n (hK33 _ _ ?_))
      refine wp_ret ?_
      have hM56 := hM9.front 0 rfl
      have hM57 : Step V w [.row strK 9 Al cl (l)] Vl5 _ ([.row strK 9 Al cl (l)]) := hM56
      refine retN [.int .i64 (((i : Nat) : Int)), .bool (false)] (.tuple #[.int .i64 (((i : Nat) : Int)), .bool (false)]) Try.results55 (.tmp (by kernel_rfl) (by kernel_rfl) (.tmp (by kernel_rfl) (by kernel_rfl) .nil)) (by kernel_rfl) (hRet _ _ ⟨_, _, _, rfl, hM57, ?_⟩)
      -- end Lff
      have hb : bsN l y = i := by unfold bsN; rw [← (by assumption : srch (fun (j_ : Nat) => !decide (l.getD j_ [] < y)) i j = srch (fun (j_ : Nat) => !decide (l.getD j_ [] < y)) 0 l.length), srch_end (by omega)]
      refine ⟨?_, ?_⟩
      · rw [bsB, hb]; simp only [h14, h34, Bool.true_and, Bool.and_true, Bool.false_and, Bool.and_false]
      · rfl

set_option maxHeartbeats 4000000 in
set_option maxRecDepth 100000 in
theorem f18 (V : VT) (w : World) (hV : V.inW w) (Ark : Option Addr) (crk : Nat) (rk : List Str) (hrk : Rd strK V Ark crk rk) (Arq : Option Addr) (crq : Nat) (rq : List ((Str × Str))) (hrq : Rd (prK strK strK) V Arq crq rq) (y : Str) (hy : y.length ≤ maxL) :
    Calls Try.prog 18 #[.agg #[.slice Ark (rk).length crk, .slice Arq (rq).length crq], bs (y)] w (RetP V w fun rv V' => ∃ (A1 : Option Addr), ∃ (c1 : Nat), ∃ (A2 : Option Addr), ∃ (c2 : Nat), rv = .tuple #[.agg #[.slice A1 (kyK rk rq y).length c1, .slice A2 (kyS rk rq y).length c2], .int .i64 (kyE rk rq y)] ∧ Rd strK V' A1 c1 (kyK rk rq y) ∧ Rd (prK strK strK) V' A2 c2 (kyS rk rq y)) := by
  have mxrk : rk.length ≤ 140737488355328 := hrk.max
  have mxrq : rq.length ≤ 140737488355328 := hrq.max
  have mxy : y.length ≤ 140737488355328 := hy
  refine calls_env (n := 39) Try.func18 (c := _) rfl Try.ntmps18 (by kernel_rfl) (fun R hRet => ?_)
  have hM0 : Step V w [] V w [] := Step.refl (St.nilE hV)
  refine wp_seq_k (fun K1 hK1 => ?_)
  refine wp_reg ?_
  refine wpF_box hM0 #[.slice Ark (rk).length crk, .slice Arq (rq).length crq] (h := (by kernel_rfl : opAt _ _ _ _ _ = some (.box 25 (.tmp 0), some 2))) (by kernel_rfl) (fun b2 w3 hM4 => ?_)
  refine wpF_alloc hM4 #[.slice none 0 0, .slice none 0 0] (h := (by kernel_rfl : opAt _ _ _ _ _ = some (.alloc 25, some 4))) (by kernel_rfl) (fun b5 w6 hM7 => ?_)
  refine wpF_seg 1 (by kernel_rfl) ?_
  refine wpF_end _ (by kernel_rfl) (then_n (hK1 _ _ ?_))
  refine wp_seq_k (fun K8 hK8 => ?_)
  refine wp_seq_k (fun K9 hK9 => ?_)
  refine wp_reg ?_
  refine gF hM7 (.load 25 (.tmp 2)) (some 10) (by kernel_rfl) (Y_load 1 rfl (off := 0) (by kernel_rfl) (.agg #[.slice Ark (rk).length crk, .slice Arq (rq).length crq]) (by kernel_rfl)) ?_
  refine wpF_callP hM7 (f := 22) (caps := #[]) (h := (by kernel_rfl : opAt _ _ _ _ _ = some (.call (.mk (.value (.func 22)) #[(.tmp 10)] #[25]), some 11))) (by kernel_rfl) (by kernel_rfl) (by kernel_rfl) (f22 _ _ hM7.inW Ark crk (rk) hrk Arq crq (rq) hrq) (fun v10 V11 w12 le13 hM14 hp15 => ?_)
  obtain rfl := hp15
  refine wpF_seg 1 (by kernel_rfl) ?_
  refine wpF_end _ (by kernel_rfl) (then_n (hK9 _ _ ?_))
  refine wp_seq_k (fun K16 hK16 => ?_)
  refine wp_reg ?_
  refine wpF_seg 2 (by kernel_rfl) ?_
  refine wpF_end _ (by kernel_rfl) (then_n (hK16 _ _ ?_))
  refine wp_if (!(decide ((chkM (rk) (rq)) = (0)))) (by kernel_rfl) (fun h17 => ?_) (fun h17 => ?_)
  · -- t
    have h18 : decide ((chkM (rk) (rq)) = (0)) = false := by rw [← Bool.not_not (decide _), h17]; rfl
    have p19 : ¬ ((chkM (rk) (rq)) = (0)) := of_decide_eq_false h18
    have hr := chk_n (by assumption : ¬ chkM rk rq = 0)
    refine wp_seq_k (fun K20 hK20 => ?_)
    refine wp_reg ?_
    refine wpF_seg 2 (by kernel_rfl) ?_
    refine wpF_store hM14 0 rfl (h := (by kernel_rfl : opAt _ _ _ _ _ = some (.store 25 (.tmp 4) (.tmp 14), none))) (off := 0) (by kernel_rfl) #[.slice none 0 0, .slice none 0 0] (by kernel_rfl) (by kernel_rfl) (by kernel_rfl) (by kernel_rfl) (fun w22 hM21 => ?_)
    have hM23 : Step V w [] V11 _ ([.blk b5 (.cells #[.slice none 0 0, .slice none 0 0] 25), .blk b2 (.cells #[.slice Ark (rk).length crk, .slice Arq (rq).length crq] 25)]) := hM21
    refine wpF_seg 1 (by kernel_rfl) ?_
    refine wpF_end _ (by kernel_rfl) (then_n (hK20 _ _ ?_))
    refine wp_ret (then_r (?_))
    refine retN [.agg #[.slice none 0 0, .slice none 0 0], .int .i64 (chkM (rk) (rq))] (.tuple #[.agg #[.slice none 0 0, .slice none 0 0], .int .i64 (chkM (rk) (rq))]) Try.results18 (.cell (by kernel_rfl) (by kernel_rfl) hM23 0 rfl (by kernel_rfl) (.tmp (by kernel_rfl) (by kernel_rfl) .nil)) (by kernel_rfl) (hRet _ _ ⟨_, _, rfl, hM23.clear, ?_⟩)
    -- end t
    refine ⟨none, 0, none, 0, ?_, ?_, ?_⟩
    · first | (simp only [kyK, kyS, kyE, insK, hr, h17, h18, cond_true, cond_false] <;> rfl) | (simp only [kyK, kyS, kyE, insK, hr.1, hr.2, cond_false] <;> rfl)
    · first | exact (Rd.nil _ _) | (exact Rd.eq (Rd.nil _ _) (by first | (simp only [kyK, kyS, kyE, insK, hr, h17, h18, cond_true, cond_false]; done) | (simp only [kyK, kyS, kyE, insK, hr.1, cond_false]; done)))
    · first | exact (Rd.nil _ _) | (exact Rd.eq (Rd.nil _ _) (by first | (simp only [kyK, kyS, kyE, insK, hr, h17, h18, cond_true, cond_false]; done) | (simp only [kyK, kyS, kyE, insK, hr.1, cond_false]; done)))
  · -- f
    have h24 : decide ((chkM (rk) (rq)) = (0)) = true := by rw [← Bool.not_not (decide _), h17]; rfl
    have p25 : ((chkM (rk) (rq)) = (0)) := of_decide_eq_true h24
    have hr := chk_0 (by assumption : chkM rk rq = 0)
    have hrl := right_len hr
    refine wp_skip (then_n (hK8 _ _ ?_))
    refine wp_seq_k (fun K26 hK26 => ?_)
    refine wp_reg ?_
    refine wpF_seg 1 (by kernel_rfl) ?_
    refine gF hM14 (.load 22 (.tmp 16)) (some 17) (by kernel_rfl) (Y_load 1 rfl (off := 0) (by kernel_rfl) (.slice Ark (rk).length crk) (by kernel_rfl)) ?_
    have hM34 : Step V w [] V11 _ ([.blk b5 (.cells #[.slice none 0 0, .slice none 0 0] 25), .blk b2 (.cells #[.slice Ark (rk).length crk, .slice Arq (rq).length crq] 25)]) := hM14
    refine wpF_callE [] ([.blk b5 (.cells #[.slice none 0 0, .slice none 0 0] 25), .blk b2 (.cells #[.slice Ark (rk).length crk, .slice Arq (rq).length crq] 25)]) hM34 (f := 54) (caps := #[]) (h := (by kernel_rfl : opAt _ _ _ _ _ = some (.call (.mk (.value (.func 54)) #[(.tmp 17)] #[22]), some 18))) (by kernel_rfl) (by kernel_rfl) (by kernel_rfl) (f54 _ _ hM34.inW Ark crk (rk) (hrk.up hM14.le) (by omega)) (fun v27 V28 w29 Eo30 le31 hM32 hp33 => ?_)
    obtain ⟨Ar34_1, cr34_1, rfl, rfl⟩ := hp33
    have hM35 : Step V w [] V28 _ ([.row strK 9 Ar34_1 cr34_1 ((rk)), .blk b5 (.cells #[.slice none 0 0, .slice none 0 0] 25), .blk b2 (.cells #[.slice Ark (rk).length crk, .slice Arq (rq).length crq] 25)]) := hM32
    refine wpF_seg 1 (by kernel_rfl) ?_
    refine wpF_end _ (by kernel_rfl) (then_n (hK26 _ _ ?_))
    refine wp_seq_k (fun K36 hK36 => ?_)
    refine wp_seq_k (fun K37 hK37 => ?_)
    refine wp_reg ?_
    refine wpF_seg 2 (by kernel_rfl) ?_
    have hM38 := hM35.front 0 rfl
    have hM46 : Step V w [] V28 _ ([.row strK 9 Ar34_1 cr34_1 ((rk)), .blk b5 (.cells #[.slice none 0 0, .slice none 0 0] 25), .blk b2 (.cells #[.slice Ark (rk).length crk, .slice Arq (rq).length crq] 25)]) := hM38
    refine wpF_callE [.row strK 9 Ar34_1 cr34_1 ((rk))] ([.blk b5 (.cells #[.slice none 0 0, .slice none 0 0] 25), .blk b2 (.cells #[.slice Ark (rk).length crk, .slice Arq (rq).length crq] 25)]) hM46 (f := 55) (caps := #[]) (h := (by kernel_rfl : opAt _ _ _ _ _ = some (.call (.mk (.value (.func 55)) #[(.tmp 20), (.tmp 21)] #[22, 9]), some 22))) (by kernel_rfl) (by kernel_rfl) (by kernel_rfl) (f55r _ _ Ar34_1 cr34_1 ((rk)) (y) (hy) (St.part (E := [.row strK 9 Ar34_1 cr34_1 ((rk))]) (F := ([.blk b5 (.cells #[.slice none 0 0, .slice none 0 0] 25), .blk b2 (.cells #[.slice Ark (rk).length crk, .slice Arq (rq).length crq] 25)])) hM46.ok) (by omega)) (fun v39 V40 w41 Eo42 le43 hM44 hp45 => ?_)
    obtain ⟨rfl, rfl⟩ := hp45
    have hM47 : Step V w [] V40 _ ([.row strK 9 Ar34_1 cr34_1 (rk), .blk b5 (.cells #[.slice none 0 0, .slice none 0 0] 25), .blk b2 (.cells #[.slice Ark (rk).length crk, .slice Arq (rq).length crq] 25)]) := hM44
    refine wpF_seg 5 (by kernel_rfl) ?_
    refine wpF_end _ (by kernel_rfl) (then_n (hK37 _ _ ?_))
    refine wp_seq_k (fun K48 hK48 => ?_)
    refine wp_reg ?_
    refine wpF_seg 2 (by kernel_rfl) ?_
    refine wpF_end _ (by kernel_rfl) (then_n (hK48 _ _ ?_))
    refine wp_if (!(bsB ((rk)) (y))) (by kernel_rfl) (fun h49 => ?_) (fun h49 => ?_)
    · -- ft
      have h50 : (bsB ((rk)) (y)) = false := by simpa using h49
      refine wp_reg ?_
      refine wpF_seg 3 (by kernel_rfl) ?_
      refine wpF_litW strK hM47 #[bs (y)] (h := (by kernel_rfl : opAt _ _ _ _ _ = some (.buildSlice 22 1 #[(0, (.tmp 29))], some 30))) (e := 9) (by kernel_rfl) (([y] : List Str)) (Reps.one_str (hy)) rfl (by simp [maxL]) (fun A51 c52 w53 hM54 => ?_)
      have hM55 := hM54.front 0 rfl
      have hM56 := hM55.front 1 rfl
      have hM64 : Step V w [] V40 _ ([.row strK 9 Ar34_1 cr34_1 (rk), .row strK 9 A51 c52 (([y] : List Str)), .blk b5 (.cells #[.slice none 0 0, .slice none 0 0] 25), .blk b2 (.cells #[.slice Ark (rk).length crk, .slice Arq (rq).length crq] 25)]) := hM56
      refine wpF_callE [.row strK 9 Ar34_1 cr34_1 (rk), .row strK 9 A51 c52 (([y] : List Str))] ([.blk b5 (.cells #[.slice none 0 0, .slice none 0 0] 25), .blk b2 (.cells #[.slice Ark (rk).length crk, .slice Arq (rq).length crq] 25)]) hM64 (f := 56) (caps := #[]) (h := (by kernel_rfl : opAt _ _ _ _ _ = some (.call (.mk (.value (.func 56)) #[(.tmp 27), (.tmp 28), (.tmp 30)] #[22, 3, 22]), some 31))) (by kernel_rfl) (by kernel_rfl) (by kernel_rfl) (f56 _ _ Ar34_1 cr34_1 ((rk)) ((bsN ((rk)) (y))) A51 c52 (([y] : List Str)) (St.part (E := [.row strK 9 Ar34_1 cr34_1 (rk), .row strK 9 A51 c52 (([y] : List Str))]) (F := ([.blk b5 (.cells #[.slice none 0 0, .slice none 0 0] 25), .blk b2 (.cells #[.slice Ark (rk).length crk, .slice Arq (rq).length crq] 25)])) hM64.ok) (by exact bsN_le _ _) (by exact ⟨_, rfl⟩) (by omega)) (fun v57 V58 w59 Eo60 le61 hM62 hp63 => ?_)
      obtain ⟨Ar64_1, cr64_1, rfl, rfl⟩ := hp63
      have hM65 : Step V w [] V58 _ ([.row strK 9 Ar64_1 cr64_1 (((rk)).take ((bsN ((rk)) (y))) ++ (([y] : List Str)) ++ ((rk)).drop ((bsN ((rk)) (y)))), .blk b5 (.cells #[.slice none 0 0, .slice none 0 0] 25), .blk b2 (.cells #[.slice Ark (rk).length crk, .slice Arq (rq).length crq] 25)]) := hM62
      refine wpF_seg 1 (by kernel_rfl) ?_
      refine wpF_end _ (by kernel_rfl) (then_n (hK36 _ _ ?_))
      refine wp_seq_k (fun K66 hK66 => ?_)
      refine wp_reg ?_
      refine wpF_seg 2 (by kernel_rfl) ?_
      refine gF hM65 (.load 23 (.tmp 33)) (some 34) (by kernel_rfl) (Y_load 2 rfl (off := 1) (by kernel_rfl) (.slice Arq (rq).length crq) (by kernel_rfl)) ?_
      refine wpF_callP hM65 (f := 58) (caps := #[]) (h := (by kernel_rfl : opAt _ _ _ _ _ = some (.call (.mk (.value (.func 58)) #[(.tmp 34)] #[23]), some 35))) (by kernel_rfl) (by kernel_rfl) (by kernel_rfl) (f58 _ _ hM65.inW Arq crq (rq) (hrq.up hM65.le) (by omega)) (fun v67 V68 w69 le70 hM71 hp72 => ?_)
      obtain ⟨Ar72_1, cr72_1, rfl, r73⟩ := hp72
      have l74 : ((rq)).length ≤ 140737488355328 := r73.max
      have hM75 := hM71.front 0 rfl
      have hM83 : Step V w [] V68 _ ([.row strK 9 Ar64_1 cr64_1 (((rk)).take ((bsN ((rk)) (y))) ++ (([y] : List Str)) ++ ((rk)).drop ((bsN ((rk)) (y)))), .blk b5 (.cells #[.slice none 0 0, .slice none 0 0] 25), .blk b2 (.cells #[.slice Ark (rk).length crk, .slice Arq (rq).length crq] 25)]) := hM75
      refine wpF_callE [.row strK 9 Ar64_1 cr64_1 (((rk)).take ((bsN ((rk)) (y))) ++ (([y] : List Str)) ++ ((rk)).drop ((bsN ((rk)) (y))))] ([.blk b5 (.cells #[.slice none 0 0, .slice none 0 0] 25), .blk b2 (.cells #[.slice Ark (rk).length crk, .slice Arq (rq).length crq] 25)]) hM83 (f := 57) (caps := #[]) (h := (by kernel_rfl : opAt _ _ _ _ _ = some (.call (.mk (.value (.func 57)) #[(.tmp 32), (.tmp 35)] #[22, 23]), some 36))) (by kernel_rfl) (by kernel_rfl) (by kernel_rfl) (f57 _ _ Ar64_1 cr64_1 (((rk)).take ((bsN ((rk)) (y))) ++ (([y] : List Str)) ++ ((rk)).drop ((bsN ((rk)) (y)))) Ar72_1 cr72_1 ((rq)) r73 (St.part (E := [.row strK 9 Ar64_1 cr64_1 (((rk)).take ((bsN ((rk)) (y))) ++ (([y] : List Str)) ++ ((rk)).drop ((bsN ((rk)) (y))))]) (F := ([.blk b5 (.cells #[.slice none 0 0, .slice none 0 0] 25), .blk b2 (.cells #[.slice Ark (rk).length crk, .slice Arq (rq).length crq] 25)])) hM83.ok)) (fun v76 V77 w78 Eo79 le80 hM81 hp82 => ?_)
      obtain ⟨Ar83_1, cr83_1, Ar83_2, cr83_2, rfl, rfl, r84, r85⟩ := hp82
      have hM86 : Step V w [] V77 _ ([.blk b5 (.cells #[.slice none 0 0, .slice none 0 0] 25), .blk b2 (.cells #[.slice Ark (rk).length crk, .slice Arq (rq).length crq] 25)]) := hM81
      have l87 : (mdK (((rk)).take ((bsN ((rk)) (y))) ++ (([y] : List Str)) ++ ((rk)).drop ((bsN ((rk)) (y)))) ((rq))).length ≤ 140737488355328 := r84.max
      have l88 : (mdS (((rk)).take ((bsN ((rk)) (y))) ++ (([y] : List Str)) ++ ((rk)).drop ((bsN ((rk)) (y)))) ((rq))).length ≤ 140737488355328 := r85.max
      refine wpF_seg 2 (by kernel_rfl) ?_
      refine wpF_store hM86 0 rfl (h := (by kernel_rfl : opAt _ _ _ _ _ = some (.store 25 (.tmp 4) (.tmp 37), none))) (off := 0) (by kernel_rfl) #[.slice Ar83_1 (mdK (((rk)).take ((bsN ((rk)) (y))) ++ (([y] : List Str)) ++ ((rk)).drop ((bsN ((rk)) (y)))) ((rq))).length cr83_1, .slice Ar83_2 (mdS (((rk)).take ((bsN ((rk)) (y))) ++ (([y] : List Str)) ++ ((rk)).drop ((bsN ((rk)) (y)))) ((rq))).length cr83_2] (by kernel_rfl) (by kernel_rfl) (by kernel_rfl) (by kernel_rfl) (fun w90 hM89 => ?_)
      have hM91 : Step V w [] V77 _ ([.blk b5 (.cells #[.slice Ar83_1 (mdK (((rk)).take ((bsN ((rk)) (y))) ++ (([y] : List Str)) ++ ((rk)).drop ((bsN ((rk)) (y)))) ((rq))).length cr83_1, .slice Ar83_2 (mdS (((rk)).take ((bsN ((rk)) (y))) ++ (([y] : List Str)) ++ ((rk)).drop ((bsN ((rk)) (y)))) ((rq))).length cr83_2] 25), .blk b2 (.cells #[.slice Ark (rk).length crk, .slice Arq (rq).length crq] 25)]) := hM89
      refine wpF_seg 1 (by kernel_rfl) ?_
      refine wpF_end _ (by kernel_rfl) (then_n (hK66 _ _ ?_))
      refine wp_ret ?_
      refine retN [.agg #[.slice Ar83_1 (mdK (((rk)).take ((bsN ((rk)) (y))) ++ (([y] : List Str)) ++ ((rk)).drop ((bsN ((rk)) (y)))) ((rq))).length cr83_1, .slice Ar83_2 (mdS (((rk)).take ((bsN ((rk)) (y))) ++ (([y] : List Str)) ++ ((rk)).drop ((bsN ((rk)) (y)))) ((rq))).length cr83_2], .int .i64 (mdE (((rk)).take ((bsN ((rk)) (y))) ++ (([y] : List Str)) ++ ((rk)).drop ((bsN ((rk)) (y)))) ((rq)))] (.tuple #[.agg #[.slice Ar83_1 (mdK (((rk)).take ((bsN ((rk)) (y))) ++ (([y] : List Str)) ++ ((rk)).drop ((bsN ((rk)) (y)))) ((rq))).length cr83_1, .slice Ar83_2 (mdS (((rk)).take ((bsN ((rk)) (y))) ++ (([y] : List Str)) ++ ((rk)).drop ((bsN ((rk)) (y)))) ((rq))).length cr83_2], .int .i64 (mdE (((rk)).take ((bsN ((rk)) (y))) ++ (([y] : List Str)) ++ ((rk)).drop ((bsN ((rk)) (y)))) ((rq)))]) Try.results18 (.cell (by kernel_rfl) (by kernel_rfl) hM91 0 rfl (by kernel_rfl) (.tmp (by kernel_rfl) (by kernel_rfl) .nil)) (by kernel_rfl) (hRet _ _ ⟨_, _, rfl, hM91.clear, ?_⟩)
      -- end ft
      refine ⟨Ar83_1, cr83_1, Ar83_2, cr83_2, ?_, ?_, ?_⟩
      · first | (simp only [kyK, kyS, kyE, insK, hr, h17, h24, h49, h50, cond_true, cond_false] <;> rfl) | (simp only [kyK, kyS, kyE, insK, hr.1, hr.2, cond_false] <;> rfl)
      · first | exact r84 | (exact Rd.eq r84 (by first | (simp only [kyK, kyS, kyE, insK, hr, h17, h24, h49, h50, cond_true, cond_false]; done) | (simp only [kyK, kyS, kyE, insK, hr.1, cond_false]; done)))
      · first | exact r85 | (exact Rd.eq r85 (by first | (simp only [kyK, kyS, kyE, insK, hr, h17, h24, h49, h50, cond_true, cond_false]; done) | (simp only [kyK, kyS, kyE, insK, hr.1, cond_false]; done)))
    · -- ff
      have h92 : (bsB ((rk)) (y)) = true := by simpa using h49
      refine wp_skip (then_n (hK36 _ _ ?_))
      refine wp_seq_k (fun K93 hK93 => ?_)
      refine wp_reg ?_
      refine wpF_seg 2 (by kernel_rfl) ?_
      refine gF hM47 (.load 23 (.tmp 33)) (some 34) (by kernel_rfl) (Y_load 2 rfl (off := 1) (by kernel_rfl) (.slice Arq (rq).length crq) (by kernel_rfl)) ?_
      refine wpF_callP hM47 (f := 58) (caps := #[]) (h := (by kernel_rfl : opAt _ _ _ _ _ = some (.call (.mk (.value (.func 58)) #[(.tmp 34)] #[23]), some 35))) (by kernel_rfl) (by kernel_rfl) (by kernel_rfl) (f58 _ _ hM47.inW Arq crq (rq) (hrq.up hM47.le) (by omega)) (fun v94 V95 w96 le97 hM98 hp99 => ?_)
      obtain ⟨Ar99_1, cr99_1, rfl, r100⟩ := hp99
      have l101 : ((rq)).length ≤ 140737488355328 := r100.max
      have hM102 := hM98.front 0 rfl
      have hM110 : Step V w [] V95 _ ([.row strK 9 Ar34_1 cr34_1 (rk), .blk b5 (.cells #[.slice none 0 0, .slice none 0 0] 25), .blk b2 (.cells #[.slice Ark (rk).length crk, .slice Arq (rq).length crq] 25)]) := hM102
      refine wpF_callE [.row strK 9 Ar34_1 cr34_1 (rk)] ([.blk b5 (.cells #[.slice none 0 0, .slice none 0 0] 25), .blk b2 (.cells #[.slice Ark (rk).length crk, .slice Arq (rq).length crq] 25)]) hM110 (f := 57) (caps := #[]) (h := (by kernel_rfl : opAt _ _ _ _ _ = some (.call (.mk (.value (.func 57)) #[(.tmp 32), (.tmp 35)] #[22, 23]), some 36))) (by kernel_rfl) (by kernel_rfl) (by kernel_rfl) (f57 _ _ Ar34_1 cr34_1 ((rk)) Ar99_1 cr99_1 ((rq)) r100 (St.part (E := [.row strK 9 Ar34_1 cr34_1 (rk)]) (F := ([.blk b5 (.cells #[.slice none 0 0, .slice none 0 0] 25), .blk b2 (.cells #[.slice Ark (rk).length crk, .slice Arq (rq).length crq] 25)])) hM110.ok)) (fun v103 V104 w105 Eo106 le107 hM108 hp109 => ?_)
      obtain ⟨Ar110_1, cr110_1, Ar110_2, cr110_2, rfl, rfl, r111, r112⟩ := hp109
      have hM113 : Step V w [] V104 _ ([.blk b5 (.cells #[.slice none 0 0, .slice none 0 0] 25), .blk b2 (.cells #[.slice Ark (rk).length crk, .slice Arq (rq).length crq] 25)]) := hM108
      have l114 : (mdK ((rk)) ((rq))).length ≤ 140737488355328 := r111.max
      have l115 : (mdS ((rk)) ((rq))).length ≤ 140737488355328 := r112.max
      refine wpF_seg 2 (by kernel_rfl) ?_
      refine wpF_store hM113 0 rfl (h := (by kernel_rfl : opAt _ _ _ _ _ = some (.store 25 (.tmp 4) (.tmp 37), none))) (off := 0) (by kernel_rfl) #[.slice Ar110_1 (mdK ((rk)) ((rq))).length cr110_1, .slice Ar110_2 (mdS ((rk)) ((rq))).length cr110_2] (by kernel_rfl) (by kernel_rfl) (by kernel_rfl) (by kernel_rfl) (fun w117 hM116 => ?_)
      have hM118 : Step V w [] V104 _ ([.blk b5 (.cells #[.slice Ar110_1 (mdK ((rk)) ((rq))).length cr110_1, .slice Ar110_2 (mdS ((rk)) ((rq))).length cr110_2] 25), .blk b2 (.cells #[.slice Ark (rk).length crk, .slice Arq (rq).length crq] 25)]) := hM116
      refine wpF_seg 1 (by kernel_rfl) ?_
      refine wpF_end _ (by kernel_rfl) (then_n (hK93 _ _ ?_))
      refine wp_ret ?_
      refine retN [.agg #[.slice Ar110_1 (mdK ((rk)) ((rq))).length cr110_1, .slice Ar110_2 (mdS ((rk)) ((rq))).length cr110_2], .int .i64 (mdE ((rk)) ((rq)))] (.tuple #[.agg #[.slice Ar110_1 (mdK ((rk)) ((rq))).length cr110_1, .slice Ar110_2 (mdS ((rk)) ((rq))).length cr110_2], .int .i64 (mdE ((rk)) ((rq)))]) Try.results18 (.cell (by kernel_rfl) (by kernel_rfl) hM118 0 rfl (by kernel_rfl) (.tmp (by kernel_rfl) (by kernel_rfl) .nil)) (by kernel_rfl) (hRet _ _ ⟨_, _, rfl, hM118.clear, ?_⟩)
      -- end ff
      refine ⟨Ar110_1, cr110_1, Ar110_2, cr110_2, ?_, ?_, ?_⟩
      · first | (simp only [kyK, kyS, kyE, insK, hr, h17, h24, h49, h92, cond_true, cond_false] <;> rfl) | (simp only [kyK, kyS, kyE, insK, hr.1, hr.2, cond_false] <;> rfl)
      · first | exact r111 | (exact Rd.eq r111 (by first | (simp only [kyK, kyS, kyE, insK, hr, h17, h24, h49, h92, cond_true, cond_false]; done) | (simp only [kyK, kyS, kyE, insK, hr.1, cond_false]; done)))
      · first | exact r112 | (exact Rd.eq r112 (by first | (simp only [kyK, kyS, kyE, insK, hr, h17, h24, h49, h92, cond_true, cond_false]; done) | (simp only [kyK, kyS, kyE, insK, hr.1, cond_false]; done)))

end Go.Vk
