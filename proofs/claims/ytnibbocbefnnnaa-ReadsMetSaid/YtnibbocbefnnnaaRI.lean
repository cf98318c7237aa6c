import Derived.Test.YtnibbocbefnnnaaRA
import Derived.Test.YtnibbocbefnnnaaRC
import Derived.Test.YtnibbocbefnnnaaRD
import Derived.Test.YtnibbocbefnnnaaRG
set_option linter.unusedVariables false
set_option linter.unusedSimpArgs false
namespace Go.Vk
open Go.Proofs
set_option maxHeartbeats 4000000 in
set_option maxRecDepth 100000 in
theorem f64 (V : VT) (w : World) (hV : V.inW w) (aF : Str) (haF : aF.length ≤ maxL) (aT : Str) (haT : aT.length ≤ maxL) (bF : Str) (hbF : bF.length ≤ maxL) (bT : Str) (hbT : bT.length ≤ maxL) :
    Calls Try.prog 64 #[.agg #[bs (aF), bs (aT)], .agg #[bs (bF), bs (bT)]] w (RetP V w fun rv V' => rv = .agg #[bs (minS aF bF), bs (jnT aT bT)] ∧ (minS aF bF).length ≤ 140737488355328 ∧ (jnT aT bT).length ≤ 140737488355328) := by
  have mxaF : aF.length ≤ 140737488355328 := haF
  have mxaT : aT.length ≤ 140737488355328 := haT
  have mxbF : bF.length ≤ 140737488355328 := hbF
  have mxbT : bT.length ≤ 140737488355328 := hbT
  refine calls_env (n := 27) Try.func64 (c := _) rfl Try.ntmps64 (by kernel_rfl) (fun R hRet => ?_)
  have hM0 : Step V w [] V w [] := Step.refl (St.nilE hV)
  refine wp_seq_k (fun K1 hK1 => ?_)
  refine wp_reg ?_
  refine wpF_box hM0 #[bs (aF), bs (aT)] (h := (by kernel_rfl : opAt _ _ _ _ _ = some (.box 40 (.tmp 0), some 2))) (by kernel_rfl) (fun b2 w3 hM4 => ?_)
  refine wpF_box hM4 #[bs (bF), bs (bT)] (h := (by kernel_rfl : opAt _ _ _ _ _ = some (.box 40 (.tmp 1), some 3))) (by kernel_rfl) (fun b5 w6 hM7 => ?_)
  refine wpF_alloc hM7 #[bs ([]), bs ([])] (h := (by kernel_rfl : opAt _ _ _ _ _ = some (.alloc 40, some 4))) (by kernel_rfl) (fun b8 w9 hM10 => ?_)
  refine wpF_end _ (by kernel_rfl) (then_n (hK1 _ _ ?_))
  refine wp_seq_k (fun K11 hK11 => ?_)
  refine wp_reg ?_
  refine wpF_seg 1 (by kernel_rfl) ?_
  refine gF hM10 (.load 9 (.tmp 6)) (some 7) (by kernel_rfl) (Y_load 2 rfl (off := 0) (by kernel_rfl) (bs (aF)) (by kernel_rfl)) ?_
  refine wpF_seg 1 (by kernel_rfl) ?_
  refine gF hM10 (.load 9 (.tmp 8)) (some 9) (by kernel_rfl) (Y_load 1 rfl (off := 0) (by kernel_rfl) (bs (bF)) (by kernel_rfl)) ?_
  refine gF hM10 (.call (.mk (.builtin .min) #[(.tmp 7), (.tmp 9)] #[9, 9])) (some 10) (by kernel_rfl) (Y_min (aF) (bF) (by kernel_rfl) (by kernel_rfl)) ?_
  have l12 : (minS (aF) (bF)).length ≤ maxL := minS_len (haF) (hbF)
  refine wpF_seg 1 (by kernel_rfl) ?_
  refine gF hM10 (.load 9 (.tmp 11)) (some 12) (by kernel_rfl) (Y_load 2 rfl (off := 1) (by kernel_rfl) (bs (aT)) (by kernel_rfl)) ?_
  refine wpF_seg 1 (by kernel_rfl) ?_
  refine gF hM10 (.load 9 (.tmp 13)) (some 14) (by kernel_rfl) (Y_load 1 rfl (off := 1) (by kernel_rfl) (bs (bT)) (by kernel_rfl)) ?_
  refine gF hM10 (.call (.mk (.builtin .max) #[(.tmp 12), (.tmp 14)] #[9, 9])) (some 15) (by kernel_rfl) (Y_max (aT) (bT) (by kernel_rfl) (by kernel_rfl)) ?_
  have l13 : (maxS (aT) (bT)).length ≤ maxL := maxS_len (haT) (hbT)
  refine wpF_seg 1 (by kernel_rfl) ?_
  refine wpF_alloc hM10 #[bs ([]), bs ([])] (h := (by kernel_rfl : opAt _ _ _ _ _ = some (.alloc 40, some 5))) (by kernel_rfl) (fun b14 w15 hM16 => ?_)
  refine wpF_store hM16 0 rfl (h := (by kernel_rfl : opAt _ _ _ _ _ = some (.store 40 (.tmp 5) (.tmp 16), none))) (off := 0) (by kernel_rfl) #[bs (minS (aF) (bF)), bs (maxS (aT) (bT))] (by kernel_rfl) (by kernel_rfl) (by kernel_rfl) (by kernel_rfl) (fun w18 hM17 => ?_)
  have hM19 : Step V w [] V _ ([.blk b14 (.cells #[bs (minS (aF) (bF)), bs (maxS (aT) (bT))] 40), .blk b8 (.cells #[bs ([]), bs ([])] 40), .blk b5 (.cells #[bs (bF), bs (bT)] 40), .blk b2 (.cells #[bs (aF), bs (aT)] 40)]) := hM17
  refine wpF_end _ (by kernel_rfl) (then_n (hK11 _ _ ?_))
  refine wp_seq_k (fun K20 hK20 => ?_)
  refine wp_seq_k (fun K21 hK21 => ?_)
  refine wp_reg ?_
  refine wpF_seg 1 (by kernel_rfl) ?_
  refine gF hM19 (.load 9 (.tmp 17)) (some 18) (by kernel_rfl) (Y_load 3 rfl (off := 1) (by kernel_rfl) (bs (aT)) (by kernel_rfl)) ?_
  refine wpF_seg 2 (by kernel_rfl) ?_
  refine wpF_caseB 20 (decide ((aT) = ([]))) (by kernel_rfl) (by kernel_rfl) (fun h22 => ?_) (fun h22 => ?_)
  · -- t
    have p23 : ((aT) = ([])) := of_decide_eq_true h22
    refine wpF_seg 4 (by kernel_rfl) ?_
    refine wpF_end _ (by kernel_rfl) (then_n (hK21 _ _ ?_))
    refine wp_ct (by kernel_rfl) ?_
    refine wp_reg ?_
    refine wpF_seg 1 (by kernel_rfl) ?_
    refine wpF_store hM19 0 rfl (h := (by kernel_rfl : opAt _ _ _ _ _ = some (.store 9 (.tmp 25) (.const (.string (ByteArray.mk #[]))), none))) (off := 1) (by kernel_rfl) #[bs ([])] (by kernel_rfl) (by kernel_rfl) (by kernel_rfl) (by kernel_rfl) (fun w25 hM24 => ?_)
    have hM26 : Step V w [] V _ ([.blk b14 (.cells #[bs (minS (aF) (bF)), bs ([])] 40), .blk b8 (.cells #[bs ([]), bs ([])] 40), .blk b5 (.cells #[bs (bF), bs (bT)] 40), .blk b2 (.cells #[bs (aF), bs (aT)] 40)]) := hM24
    refine wpF_end _ (by kernel_rfl) (then_n (hK20 _ _ ?_))
    refine wp_seq_k (fun K27 hK27 => ?_)
    refine wp_reg ?_
    refine gF hM26 (.load 40 (.tmp 5)) (some 26) (by kernel_rfl) (Y_load 0 rfl (off := 0) (by kernel_rfl) (.agg #[bs (minS (aF) (bF)), bs ([])]) (by kernel_rfl)) ?_
    refine wpF_store hM26 1 rfl (h := (by kernel_rfl : opAt _ _ _ _ _ = some (.store 40 (.tmp 4) (.tmp 26), none))) (off := 0) (by kernel_rfl) #[bs (minS (aF) (bF)), bs ([])] (by kernel_rfl) (by kernel_rfl) (by kernel_rfl) (by kernel_rfl) (fun w29 hM28 => ?_)
    have hM30 : Step V w [] V _ ([.blk b14 (.cells #[bs (minS (aF) (bF)), bs ([])] 40), .blk b8 (.cells #[bs (minS (aF) (bF)), bs ([])] 40), .blk b5 (.cells #[bs (bF), bs (bT)] 40), .blk b2 (.cells #[bs (aF), bs (aT)] 40)]) := hM28
    refine wpF_end _ (by kernel_rfl) (then_n (hK27 _ _ ?_))
    refine wp_ret ?_
    refine retN [.agg #[bs (minS (aF) (bF)), bs ([])]] (.agg #[bs (minS (aF) (bF)), bs ([])]) Try.results64 (.cell (by kernel_rfl) (by kernel_rfl) hM30 1 rfl (by kernel_rfl) .nil) (by kernel_rfl) (hRet _ _ ⟨_, _, rfl, hM30.clear, ?_⟩)
    -- end t
    refine ⟨?_, ?_, ?_⟩
    · simp only [jnT, h22, cond_true, cond_false, Bool.true_or, Bool.or_true, Bool.false_or, Bool.or_false, Bool.true_and, Bool.and_true, Bool.false_and, Bool.and_false, Bool.not_true, Bool.not_false] <;> rfl
    · first | exact minS_len (by assumption) (by assumption) | exact jnT_len (by assumption) (by assumption)
    · first | exact minS_len (by assumption) (by assumption) | exact jnT_len (by assumption) (by assumption)
  · -- f
    have p31 : ¬ ((aT) = ([])) := of_decide_eq_false h22
    refine wpF_seg 1 (by kernel_rfl) ?_
    refine gF hM19 (.load 9 (.tmp 21)) (some 22) (by kernel_rfl) (Y_load 2 rfl (off := 1) (by kernel_rfl) (bs (bT)) (by kernel_rfl)) ?_
    refine wpF_seg 2 (by kernel_rfl) ?_
    refine wpF_end _ (by kernel_rfl) (then_n (hK21 _ _ ?_))
    refine wp_if (decide ((bT) = ([]))) (by kernel_rfl) (fun h32 => ?_) (fun h32 => ?_)
    · -- ft
      have p33 : ((bT) = ([])) := of_decide_eq_true h32
      refine wp_reg ?_
      refine wpF_seg 1 (by kernel_rfl) ?_
      refine wpF_store hM19 0 rfl (h := (by kernel_rfl : opAt _ _ _ _ _ = some (.store 9 (.tmp 25) (.const (.string (ByteArray.mk #[]))), none))) (off := 1) (by kernel_rfl) #[bs ([])] (by kernel_rfl) (by kernel_rfl) (by kernel_rfl) (by kernel_rfl) (fun w35 hM34 => ?_)
      have hM36 : Step V w [] V _ ([.blk b14 (.cells #[bs (minS (aF) (bF)), bs ([])] 40), .blk b8 (.cells #[bs ([]), bs ([])] 40), .blk b5 (.cells #[bs (bF), bs (bT)] 40), .blk b2 (.cells #[bs (aF), bs (aT)] 40)]) := hM34
      refine wpF_end _ (by kernel_rfl) (then_n (hK20 _ _ ?_))
      refine wp_seq_k (fun K37 hK37 => ?_)
      refine wp_reg ?_
      refine gF hM36 (.load 40 (.tmp 5)) (some 26) (by kernel_rfl) (Y_load 0 rfl (off := 0) (by kernel_rfl) (.agg #[bs (minS (aF) (bF)), bs ([])]) (by kernel_rfl)) ?_
      refine wpF_store hM36 1 rfl (h := (by kernel_rfl : opAt _ _ _ _ _ = some (.store 40 (.tmp 4) (.tmp 26), none))) (off := 0) (by kernel_rfl) #[bs (minS (aF) (bF)), bs ([])] (by kernel_rfl) (by kernel_rfl) (by kernel_rfl) (by kernel_rfl) (fun w39 hM38 => ?_)
      have hM40 : Step V w [] V _ ([.blk b14 (.cells #[bs (minS (aF) (bF)), bs ([])] 40), .blk b8 (.cells #[bs (minS (aF) (bF)), bs ([])] 40), .blk b5 (.cells #[bs (bF), bs (bT)] 40), .blk b2 (.cells #[bs (aF), bs (aT)] 40)]) := hM38
      refine wpF_end _ (by kernel_rfl) (then_n (hK37 _ _ ?_))
      refine wp_ret ?_
      refine retN [.agg #[bs (minS (aF) (bF)), bs ([])]] (.agg #[bs (minS (aF) (bF)), bs ([])]) Try.results64 (.cell (by kernel_rfl) (by kernel_rfl) hM40 1 rfl (by kernel_rfl) .nil) (by kernel_rfl) (hRet _ _ ⟨_, _, rfl, hM40.clear, ?_⟩)
      -- end ft
      refine ⟨?_, ?_, ?_⟩
      · simp only [jnT, h22, h32, cond_true, cond_false, Bool.true_or, Bool.or_true, Bool.false_or, Bool.or_false, Bool.true_and, Bool.and_true, Bool.false_and, Bool.and_false, Bool.not_true, Bool.not_false] <;> rfl
      · first | exact minS_len (by assumption) (by assumption) | exact jnT_len (by assumption) (by assumption)
      · first | exact minS_len (by assumption) (by assumption) | exact jnT_len (by assumption) (by assumption)
    · -- ff
      have p41 : ¬ ((bT) = ([])) := of_decide_eq_false h32
      refine wp_skip (then_n (hK20 _ _ ?_))
      refine wp_seq_k (fun K42 hK42 => ?_)
      refine wp_reg ?_
      refine gF hM19 (.load 40 (.tmp 5)) (some 26) (by kernel_rfl) (Y_load 0 rfl (off := 0) (by kernel_rfl) (.agg #[bs (minS (aF) (bF)), bs (maxS (aT) (bT))]) (by kernel_rfl)) ?_
      refine wpF_store hM19 1 rfl (h := (by kernel_rfl : opAt _ _ _ _ _ = some (.store 40 (.tmp 4) (.tmp 26), none))) (off := 0) (by kernel_rfl) #[bs (minS (aF) (bF)), bs (maxS (aT) (bT))] (by kernel_rfl) (by kernel_rfl) (by kernel_rfl) (by kernel_rfl) (fun w44 hM43 => ?_)
      have hM45 : Step V w [] V _ ([.blk b14 (.cells #[bs (minS (aF) (bF)), bs (maxS (aT) (bT))] 40), .blk b8 (.cells #[bs (minS (aF) (bF)), bs (maxS (aT) (bT))] 40), .blk b5 (.cells #[bs (bF), bs (bT)] 40), .blk b2 (.cells #[bs (aF), bs (aT)] 40)]) := hM43
      refine wpF_end _ (by kernel_rfl) (then_n (hK42 _ _ ?_))
      refine wp_ret ?_
      refine retN [.agg #[bs (minS (aF) (bF)), bs (maxS (aT) (bT))]] (.agg #[bs (minS (aF) (bF)), bs (maxS (aT) (bT))]) Try.results64 (.cell (by kernel_rfl) (by kernel_rfl) hM45 1 rfl (by kernel_rfl) .nil) (by kernel_rfl) (hRet _ _ ⟨_, _, rfl, hM45.clear, ?_⟩)
      -- end ff
      refine ⟨?_, ?_, ?_⟩
      · simp only [jnT, h22, h32, cond_true, cond_false, Bool.true_or, Bool.or_true, Bool.false_or, Bool.or_false, Bool.true_and, Bool.and_true, Bool.false_and, Bool.and_false, Bool.not_true, Bool.not_false] <;> rfl
      · first | exact minS_len (by assumption) (by assumption) | exact jnT_len (by assumption) (by assumption)
      · first | exact minS_len (by assumption) (by assumption) | exact jnT_len (by assumption) (by assumption)

set_option maxHeartbeats 4000000 in
set_option maxRecDepth 100000 in
theorem f20 (V : VT) (w : World) (hV : V.inW w) (Ark : Option Addr) (crk : Nat) (rk : List Str) (hrk : Rd strK V Ark crk rk) (Arq : Option Addr) (crq : Nat) (rq : List ((Str × Str))) (hrq : Rd (prK strK strK) V Arq crq rq) (f0 : Str) (hf0 : f0.length ≤ maxL) (t0 : Str) (ht0 : t0.length ≤ maxL) :
    Calls Try.prog 20 #[.agg #[.slice Ark (rk).length crk, .slice Arq (rq).length crq], bs (f0), bs (t0)] w (RetP V w fun rv V' => ∃ (A1 : Option Addr), ∃ (c1 : Nat), ∃ (A2 : Option Addr), ∃ (c2 : Nat), rv = .tuple #[.agg #[.slice A1 (snK rk rq f0 t0).length c1, .slice A2 (snQ rk rq f0 t0).length c2], .int .i64 (snE rk rq f0 t0)] ∧ Rd strK V' A1 c1 (snK rk rq f0 t0) ∧ Rd (prK strK strK) V' A2 c2 (snQ rk rq f0 t0)) := by
  have mxrk : rk.length ≤ 140737488355328 := hrk.max
  have mxrq : rq.length ≤ 140737488355328 := hrq.max
  have mxf0 : f0.length ≤ 140737488355328 := hf0
  have mxt0 : t0.length ≤ 140737488355328 := ht0
  refine calls_env (n := 84) Try.func20 (c := _) rfl Try.ntmps20 (by kernel_rfl) (fun R hRet => ?_)
  have hM0 : Step V w [] V w [] := Step.refl (St.nilE hV)
  refine wp_seq_k (fun K1 hK1 => ?_)
  refine wp_reg ?_
  refine wpF_box hM0 #[.slice Ark (rk).length crk, .slice Arq (rq).length crq] (h := (by kernel_rfl : opAt _ _ _ _ _ = some (.box 25 (.tmp 0), some 3))) (by kernel_rfl) (fun b2 w3 hM4 => ?_)
  refine wpF_alloc hM4 #[.slice none 0 0, .slice none 0 0] (h := (by kernel_rfl : opAt _ _ _ _ _ = some (.alloc 25, some 6))) (by kernel_rfl) (fun b5 w6 hM7 => ?_)
  refine wpF_seg 1 (by kernel_rfl) ?_
  refine wpF_end _ (by kernel_rfl) (then_n (hK1 _ _ ?_))
  refine wp_scope_straight ?_
  refine wp_seq_k (fun K8 hK8 => ?_)
  refine wp_seq_k (fun K9 hK9 => ?_)
  refine wp_reg ?_
  refine gF hM7 (.load 25 (.tmp 3)) (some 15) (by kernel_rfl) (Y_load 1 rfl (off := 0) (by kernel_rfl) (.agg #[.slice Ark (rk).length crk, .slice Arq (rq).length crq]) (by kernel_rfl)) ?_
  refine wpF_callP hM7 (f := 22) (caps := #[]) (h := (by kernel_rfl : opAt _ _ _ _ _ = some (.call (.mk (.value (.func 22)) #[(.tmp 15)] #[25]), some 16))) (by kernel_rfl) (by kernel_rfl) (by kernel_rfl) (f22 _ _ hM7.inW Ark crk (rk) hrk Arq crq (rq) hrq) (fun v10 V11 w12 le13 hM14 hp15 => ?_)
  obtain rfl := hp15
  refine wpF_seg 1 (by kernel_rfl) ?_
  refine wpF_end _ (by kernel_rfl) (then_n (hK9 _ _ ?_))
  refine wp_seq_k (fun K16 hK16 => ?_)
  refine wp_reg ?_
  refine wpF_seg 2 (by kernel_rfl) ?_
  refine wpF_end _ (by kernel_rfl) (then_n (hK16 _ _ ?_))
  refine wp_if (!(decide ((chkM (rk) (rq)) = (0)))) (by kernel_rfl) (fun h17 => ?_) (fun h17 => ?_)
  · -- t
    have h18 : decide ((chkM (rk) (rq)) = (0)) = false := by rw [← Bool.not_not (decide _), h17]; rfl
    have p19 : ¬ ((chkM (rk) (rq)) = (0)) := of_decide_eq_false h18
    have hr := chk_n (by assumption : ¬ chkM rk rq = 0)
    refine wp_seq_k (fun K20 hK20 => ?_)
    refine wp_reg ?_
    refine wpF_seg 2 (by kernel_rfl) ?_
    refine wpF_store hM14 0 rfl (h := (by kernel_rfl : opAt _ _ _ _ _ = some (.store 25 (.tmp 6) (.tmp 19), none))) (off := 0) (by kernel_rfl) #[.slice none 0 0, .slice none 0 0] (by kernel_rfl) (by kernel_rfl) (by kernel_rfl) (by kernel_rfl) (fun w22 hM21 => ?_)
    have hM23 : Step V w [] V11 _ ([.blk b5 (.cells #[.slice none 0 0, .slice none 0 0] 25), .blk b2 (.cells #[.slice Ark (rk).length crk, .slice Arq (rq).length crq] 25)]) := hM21
    refine wpF_seg 1 (by kernel_rfl) ?_
    refine wpF_end _ (by kernel_rfl) (then_n (hK20 _ _ ?_))
    refine wp_ret (then_r (ng_r (?_)))
    refine retN [.agg #[.slice none 0 0, .slice none 0 0], .int .i64 (chkM (rk) (rq))] (.tuple #[.agg #[.slice none 0 0, .slice none 0 0], .int .i64 (chkM (rk) (rq))]) Try.results20 (.cell (by kernel_rfl) (by kernel_rfl) hM23 0 rfl (by kernel_rfl) (.tmp (by kernel_rfl) (by kernel_rfl) .nil)) (by kernel_rfl) (hRet _ _ ⟨_, _, rfl, hM23.clear, ?_⟩)
    -- end t
    refine ⟨none, 0, none, 0, ?_, ?_, ?_⟩
    · first | (simp only [snK, snQ, snE, snS, spO, hrun, hr, h17, h18, cond_true, cond_false] <;> rfl) | (simp only [snK, snQ, snE, snS, hr, h17, h18, cond_true, cond_false] <;> rfl) | (simp only [snK, snQ, snE, hr.1, hr.2, cond_false] <;> rfl)
    · first | exact (Rd.nil _ _) | (exact Rd.eq (Rd.nil _ _) (by first | (simp only [snK, snQ, snE, snS, spO, hrun, hr, h17, h18, cond_true, cond_false]; done) | (simp only [snK, snQ, snE, snS, hr, h17, h18, cond_true, cond_false]; done) | (simp only [snK, snQ, snE, hr.1, cond_false]; done)))
    · first | exact (Rd.nil _ _) | (exact Rd.eq (Rd.nil _ _) (by first | (simp only [snK, snQ, snE, snS, spO, hrun, hr, h17, h18, cond_true, cond_false]; done) | (simp only [snK, snQ, snE, snS, hr, h17, h18, cond_true, cond_false]; done) | (simp only [snK, snQ, snE, hr.1, cond_false]; done)))
  · -- f
    have h24 : decide ((chkM (rk) (rq)) = (0)) = true := by rw [← Bool.not_not (decide _), h17]; rfl
    have p25 : ((chkM (rk) (rq)) = (0)) := of_decide_eq_true h24
    have hr := chk_0 (by assumption : chkM rk rq = 0)
    have hrl := right_len hr
    refine wp_skip (then_n (hK8 _ _ ?_))
    refine wp_seq_k (fun K26 hK26 => ?_)
    refine wp_reg ?_
    refine wpF_seg 3 (by kernel_rfl) ?_
    refine wpF_alloc hM14 #[bs ([]), bs ([])] (h := (by kernel_rfl : opAt _ _ _ _ _ = some (.alloc 40, some 9))) (by kernel_rfl) (fun b27 w28 hM29 => ?_)
    refine wpF_store hM29 0 rfl (h := (by kernel_rfl : opAt _ _ _ _ _ = some (.store 40 (.tmp 9) (.tmp 23), none))) (off := 0) (by kernel_rfl) #[bs (f0), bs (t0)] (by kernel_rfl) (by kernel_rfl) (by kernel_rfl) (by kernel_rfl) (fun w31 hM30 => ?_)
    have hM32 : Step V w [] V11 _ ([.blk b27 (.cells #[bs (f0), bs (t0)] 40), .blk b5 (.cells #[.slice none 0 0, .slice none 0 0] 25), .blk b2 (.cells #[.slice Ark (rk).length crk, .slice Arq (rq).length crq] 25)]) := hM30
    refine wpF_end _ (by kernel_rfl) (then_n (hK26 _ _ ?_))
    refine wp_seq_k (fun K33 hK33 => ?_)
    refine wp_reg ?_
    refine wpF_seg 1 (by kernel_rfl) ?_
    refine gF hM32 (.load 23 (.tmp 24)) (some 25) (by kernel_rfl) (Y_load 2 rfl (off := 1) (by kernel_rfl) (.slice Arq (rq).length crq) (by kernel_rfl)) ?_
    refine wpF_callP hM32 (f := 58) (caps := #[]) (h := (by kernel_rfl : opAt _ _ _ _ _ = some (.call (.mk (.value (.func 58)) #[(.tmp 25)] #[23]), some 26))) (by kernel_rfl) (by kernel_rfl) (by kernel_rfl) (f58 _ _ hM32.inW Arq crq (rq) (hrq.up hM32.le) (by omega)) (fun v34 V35 w36 le37 hM38 hp39 => ?_)
    obtain ⟨Ar39_1, cr39_1, rfl, r40⟩ := hp39
    have l41 : ((rq)).length ≤ 140737488355328 := r40.max
    refine wpF_seg 1 (by kernel_rfl) ?_
    refine wpF_end _ (by kernel_rfl) (then_n (hK33 _ _ ?_))
    refine wp_seq_k (fun K42 hK42 => ?_)
    refine wp_seq_k (fun K43 hK43 => ?_)
    refine wp_reg ?_
    refine gF hM38 (.load 40 (.tmp 9)) (some 27) (by kernel_rfl) (Y_load 0 rfl (off := 0) (by kernel_rfl) (.agg #[bs (f0), bs (t0)]) (by kernel_rfl)) ?_
    refine wpF_callP hM38 (f := 62) (caps := #[]) (h := (by kernel_rfl : opAt _ _ _ _ _ = some (.call (.mk (.value (.func 62)) #[(.tmp 27)] #[40]), some 28))) (by kernel_rfl) (by kernel_rfl) (by kernel_rfl) (f62 _ _ hM38.inW (f0) (hf0) (t0) (ht0)) (fun v44 V45 w46 le47 hM48 hp49 => ?_)
    obtain rfl := hp49
    refine wpF_seg 1 (by kernel_rfl) ?_
    refine wpF_end _ (by kernel_rfl) (then_n (hK43 _ _ ?_))
    refine wp_if (!(hasB (f0) (t0))) (by kernel_rfl) (fun h50 => ?_) (fun h50 => ?_)
    · -- ft
      have h51 : (hasB (f0) (t0)) = false := by simpa using h50
      refine wp_seq_k (fun K52 hK52 => ?_)
      refine wp_reg ?_
      refine wpF_seg 1 (by kernel_rfl) ?_
      refine gF hM48 (.load 22 (.tmp 30)) (some 31) (by kernel_rfl) (Y_load 2 rfl (off := 0) (by kernel_rfl) (.slice Ark (rk).length crk) (by kernel_rfl)) ?_
      have hM60 : Step V w [] V45 _ ([.blk b27 (.cells #[bs (f0), bs (t0)] 40), .blk b5 (.cells #[.slice none 0 0, .slice none 0 0] 25), .blk b2 (.cells #[.slice Ark (rk).length crk, .slice Arq (rq).length crq] 25)]) := hM48
      refine wpF_callE [] ([.blk b27 (.cells #[bs (f0), bs (t0)] 40), .blk b5 (.cells #[.slice none 0 0, .slice none 0 0] 25), .blk b2 (.cells #[.slice Ark (rk).length crk, .slice Arq (rq).length crq] 25)]) hM60 (f := 54) (caps := #[]) (h := (by kernel_rfl : opAt _ _ _ _ _ = some (.call (.mk (.value (.func 54)) #[(.tmp 31)] #[22]), some 32))) (by kernel_rfl) (by kernel_rfl) (by kernel_rfl) (f54 _ _ hM60.inW Ark crk (rk) (hrk.up hM48.le) (by omega)) (fun v53 V54 w55 Eo56 le57 hM58 hp59 => ?_)
      obtain ⟨Ar60_1, cr60_1, rfl, rfl⟩ := hp59
      have hM61 : Step V w [] V54 _ ([.row strK 9 Ar60_1 cr60_1 ((rk)), .blk b27 (.cells #[bs (f0), bs (t0)] 40), .blk b5 (.cells #[.slice none 0 0, .slice none 0 0] 25), .blk b2 (.cells #[.slice Ark (rk).length crk, .slice Arq (rq).length crq] 25)]) := hM58
      refine wpF_seg 1 (by kernel_rfl) ?_
      have hM62 := hM61.front 0 rfl
      have hM70 : Step V w [] V54 _ ([.row strK 9 Ar60_1 cr60_1 ((rk)), .blk b27 (.cells #[bs (f0), bs (t0)] 40), .blk b5 (.cells #[.slice none 0 0, .slice none 0 0] 25), .blk b2 (.cells #[.slice Ark (rk).length crk, .slice Arq (rq).length crq] 25)]) := hM62
      refine wpF_callE [.row strK 9 Ar60_1 cr60_1 ((rk))] ([.blk b27 (.cells #[bs (f0), bs (t0)] 40), .blk b5 (.cells #[.slice none 0 0, .slice none 0 0] 25), .blk b2 (.cells #[.slice Ark (rk).length crk, .slice Arq (rq).length crq] 25)]) hM70 (f := 57) (caps := #[]) (h := (by kernel_rfl : opAt _ _ _ _ _ = some (.call (.mk (.value (.func 57)) #[(.tmp 32), (.tmp 33)] #[22, 23]), some 34))) (by kernel_rfl) (by kernel_rfl) (by kernel_rfl) (f57 _ _ Ar60_1 cr60_1 ((rk)) Ar39_1 cr39_1 ((rq)) (r40.up (le47.trans le57)) (St.part (E := [.row strK 9 Ar60_1 cr60_1 ((rk))]) (F := ([.blk b27 (.cells #[bs (f0), bs (t0)] 40), .blk b5 (.cells #[.slice none 0 0, .slice none 0 0] 25), .blk b2 (.cells #[.slice Ark (rk).length crk, .slice Arq (rq).length crq] 25)])) hM70.ok)) (fun v63 V64 w65 Eo66 le67 hM68 hp69 => ?_)
      obtain ⟨Ar70_1, cr70_1, Ar70_2, cr70_2, rfl, rfl, r71, r72⟩ := hp69
      have hM73 : Step V w [] V64 _ ([.blk b27 (.cells #[bs (f0), bs (t0)] 40), .blk b5 (.cells #[.slice none 0 0, .slice none 0 0] 25), .blk b2 (.cells #[.slice Ark (rk).length crk, .slice Arq (rq).length crq] 25)]) := hM68
      have l74 : (mdK ((rk)) ((rq))).length ≤ 140737488355328 := r71.max
      have l75 : (mdS ((rk)) ((rq))).length ≤ 140737488355328 := r72.max
      refine wpF_seg 2 (by kernel_rfl) ?_
      refine wpF_store hM73 1 rfl (h := (by kernel_rfl : opAt _ _ _ _ _ = some (.store 25 (.tmp 6) (.tmp 35), none))) (off := 0) (by kernel_rfl) #[.slice Ar70_1 (mdK ((rk)) ((rq))).length cr70_1, .slice Ar70_2 (mdS ((rk)) ((rq))).length cr70_2] (by kernel_rfl) (by kernel_rfl) (by kernel_rfl) (by kernel_rfl) (fun w77 hM76 => ?_)
      have hM78 : Step V w [] V64 _ ([.blk b27 (.cells #[bs (f0), bs (t0)] 40), .blk b5 (.cells #[.slice Ar70_1 (mdK ((rk)) ((rq))).length cr70_1, .slice Ar70_2 (mdS ((rk)) ((rq))).length cr70_2] 25), .blk b2 (.cells #[.slice Ark (rk).length crk, .slice Arq (rq).length crq] 25)]) := hM76
      refine wpF_seg 1 (by kernel_rfl) ?_
      refine wpF_end _ (by kernel_rfl) (then_n (hK52 _ _ ?_))
      refine wp_ret (then_r (ng_r (?_)))
      refine retN [.agg #[.slice Ar70_1 (mdK ((rk)) ((rq))).length cr70_1, .slice Ar70_2 (mdS ((rk)) ((rq))).length cr70_2], .int .i64 (mdE ((rk)) ((rq)))] (.tuple #[.agg #[.slice Ar70_1 (mdK ((rk)) ((rq))).length cr70_1, .slice Ar70_2 (mdS ((rk)) ((rq))).length cr70_2], .int .i64 (mdE ((rk)) ((rq)))]) Try.results20 (.cell (by kernel_rfl) (by kernel_rfl) hM78 1 rfl (by kernel_rfl) (.tmp (by kernel_rfl) (by kernel_rfl) .nil)) (by kernel_rfl) (hRet _ _ ⟨_, _, rfl, hM78.clear, ?_⟩)
      -- end ft
      refine ⟨Ar70_1, cr70_1, Ar70_2, cr70_2, ?_, ?_, ?_⟩
      · first | (simp only [snK, snQ, snE, snS, spO, hrun, hr, h17, h24, h50, h51, cond_true, cond_false] <;> rfl) | (simp only [snK, snQ, snE, snS, hr, h17, h24, h50, h51, cond_true, cond_false] <;> rfl) | (simp only [snK, snQ, snE, hr.1, hr.2, cond_false] <;> rfl)
      · first | exact r71 | (exact Rd.eq r71 (by first | (simp only [snK, snQ, snE, snS, spO, hrun, hr, h17, h24, h50, h51, cond_true, cond_false]; done) | (simp only [snK, snQ, snE, snS, hr, h17, h24, h50, h51, cond_true, cond_false]; done) | (simp only [snK, snQ, snE, hr.1, cond_false]; done)))
      · first | exact r72 | (exact Rd.eq r72 (by first | (simp only [snK, snQ, snE, snS, spO, hrun, hr, h17, h24, h50, h51, cond_true, cond_false]; done) | (simp only [snK, snQ, snE, snS, hr, h17, h24, h50, h51, cond_true, cond_false]; done) | (simp only [snK, snQ, snE, hr.1, cond_false]; done)))
    · -- ff
      have h79 : (hasB (f0) (t0)) = true := by simpa using h50
      refine wp_skip (then_n (hK42 _ _ ?_))
      refine wp_seq_k (fun K80 hK80 => ?_)
      refine wp_reg ?_
      refine wpF_seg 1 (by kernel_rfl) ?_
      refine wpF_end _ (by kernel_rfl) (then_n (hK80 _ _ ?_))
      refine wp_seq_k (fun K81 hK81 => ?_)
      refine wp_reg ?_
      refine wpF_seg 1 (by kernel_rfl) ?_
      refine wpF_end _ (by kernel_rfl) (then_n (hK81 _ _ ?_))
      refine wp_seq_k (fun K82 hK82 => ?_)
      refine wp_label (then_n (hK82 _ _ ?_))
      refine wp_seq_k (fun K83 hK83 => ?_)
      refine wp_seq_k (fun K84 hK84 => ?_)
      refine wp_reg ?_
      refine wpF_seg 3 (by kernel_rfl) ?_
      refine wpF_end _ (by kernel_rfl) (then_n (hK84 _ _ ?_))
      refine wp_block ?_
      have hM86 := hM48.nilrow (prK strK strK) 40
      have hM87 : Step V w [] V45 _ ([.row (prK strK strK) 40 none 0 (([] : List ((Str × Str)))), .blk b27 (.cells #[bs (f0), bs (t0)] 40), .blk b5 (.cells #[.slice none 0 0, .slice none 0 0] 25), .blk b2 (.cells #[.slice Ark (rk).length crk, .slice Arq (rq).length crq] 25)]) := hM86
      refine wp_base [(3, .pointer (some ⟨b2, 0, none⟩)), (6, .pointer (some ⟨b5, 0, none⟩)), (7, .int .i64 (0)), (9, .pointer (some ⟨b27, 0, none⟩)), (11, .slice none (([] : List (Str × Str))).length 0), (12, .bool (false)), (37, .slice Ar39_1 ((rq)).length cr39_1), (38, .int .i64 ((((rq)).length : Int))), (39, .int .i64 ((0 : Int)))] (by kernel_rfl) (fun g88 => ?_)
      refine wp_loopX (fun (x_ : Nat × List (Str × Str) × Bool × Str × Str) a_ w_ => ∃ (g : Nat → Value) (V_ : VT), ∃ (Ar11 : Option Addr) (cr11 : Nat), a_ = env [] 84 [(3, .pointer (some ⟨b2, 0, none⟩)), (6, .pointer (some ⟨b5, 0, none⟩)), (7, .int .i64 (0)), (9, .pointer (some ⟨b27, 0, none⟩)), (11, .slice Ar11 (x_.2.1).length cr11), (12, .bool (x_.2.2.1)), (37, .slice Ar39_1 ((rq)).length cr39_1), (38, .int .i64 ((((rq)).length : Int))), (39, .int .i64 ((x_.1 : Int)))] g ∧ Step V w [] V_ w_ [.row (prK strK strK) 40 Ar11 cr11 (x_.2.1), .blk b27 (.cells #[bs (x_.2.2.2.1), bs (x_.2.2.2.2)] 40), .blk b5 (.cells #[.slice none 0 0, .slice none 0 0] 25), .blk b2 (.cells #[.slice Ark (rk).length crk, .slice Arq (rq).length crq] 25)] ∧ VT.le V45 V_ ∧ (x_.1 ≤ rq.length) ∧ (runP rq f0 t0 x_.1 = (x_.2.1, x_.2.2.1, x_.2.2.2.1, x_.2.2.2.2)) ∧ ((x_.2.2.2.1).length ≤ 140737488355328) ∧ ((x_.2.2.2.2).length ≤ 140737488355328) ∧ ((x_.2.1).length ≤ 2 * (x_.1))) (fun (x_ : Nat × List (Str × Str) × Bool × Str × Str) => rq.length - x_.1) ((0 : Nat), (([] : List (Str × Str)) : List (Str × Str)), (false : Bool), (f0 : Str), (t0 : Str)) ⟨g88, V45, none, 0, rfl, hM87, VT.le.refl _, by omega, by rfl, by assumption, by assumption, by simp⟩ ?_
      rintro ⟨k, o, ld, f, t⟩ a_ w90 ⟨g89, Vl85, Ar_9311, cr_9311, rfl, hM91, le92, hi93_0, hi93_1, hi93_2, hi93_3, hi93_4⟩ K93 hK93
      replace hi93_0 : k ≤ rq.length := hi93_0
      replace hi93_1 : runP rq f0 t0 k = (o, ld, f, t) := hi93_1
      replace hi93_2 : (f).length ≤ 140737488355328 := hi93_2
      replace hi93_3 : (t).length ≤ 140737488355328 := hi93_3
      replace hi93_4 : (o).length ≤ 2 * (k) := hi93_4
      refine wp_seq_k (fun K94 hK94 => ?_)
      refine wp_reg ?_
      refine wpF_seg 1 (by kernel_rfl) ?_
      refine wpF_end _ (by kernel_rfl) (then_n (hK94 _ _ ?_))
      refine wp_seq_k (fun K95 hK95 => ?_)
      refine wp_if (decide (((k : Int)) < ((((rq)).length : Int)))) (by kernel_rfl) (fun h96 => ?_) (fun h96 => ?_)
      · -- ffLt
        have p97 : (((k : Int)) < ((((rq)).length : Int))) := of_decide_eq_true h96
        refine wp_skip (then_n (hK95 _ _ ?_))
        refine wp_seq_k (fun K98 hK98 => ?_)
        refine wp_block ?_
        refine wp_seq_k (fun K99 hK99 => ?_)
        refine wp_reg ?_
        refine gF_index (A := Ar39_1) (c := cr39_1) (r40.up (le47.trans le92)) .i64 ((k : Int)) (h := (by kernel_rfl : opAt _ _ _ _ _ = some (.indexAddr 23 (.tmp 37) (.tmp 39), some 41))) (e := 40) (by kernel_rfl) (by kernel_rfl) (by kernel_rfl) (k) rfl (by omega) (fun b100 o101 at_b100 => ?_)
        have c102 : Vl85 b100 o101 = some (bs (((rq)).getD (k) ([], [])).1) := (At.str (At.pr at_b100).1).1
        have l103 : (((rq)).getD (k) ([], [])).1.length ≤ 140737488355328 := (At.str (At.pr at_b100).1).2
        have c104 : Vl85 b100 (o101 + 1) = some (bs (((rq)).getD (k) ([], [])).2) := (At.str (At.pr at_b100).2).1
        have l105 : (((rq)).getD (k) ([], [])).2.length ≤ 140737488355328 := (At.str (At.pr at_b100).2).2
        refine gF hM91 (.load 40 (.tmp 41)) (some 42) (by kernel_rfl) (Y_loadS (b := b100) (off := o101) [bs ((((rq)).getD (k) ([], [])).1), bs ((((rq)).getD (k) ([], [])).2)] (cells2 c102 c104) (by kernel_rfl) (by kernel_rfl) (by kernel_rfl)) ?_
        refine wpF_alloc hM91 #[bs ([]), bs ([])] (h := (by kernel_rfl : opAt _ _ _ _ _ = some (.alloc 40, some 14))) (by kernel_rfl) (fun b106 w107 hM108 => ?_)
        refine wpF_store hM108 0 rfl (h := (by kernel_rfl : opAt _ _ _ _ _ = some (.store 40 (.tmp 14) (.tmp 42), none))) (off := 0) (by kernel_rfl) #[bs ((((rq)).getD (k) ([], [])).1), bs ((((rq)).getD (k) ([], [])).2)] (by kernel_rfl) (by kernel_rfl) (by kernel_rfl) (by kernel_rfl) (fun w110 hM109 => ?_)
        have hM111 : Step V w [] Vl85 _ ([.blk b106 (.cells #[bs ((((rq)).getD (k) ([], [])).1), bs ((((rq)).getD (k) ([], [])).2)] 40), .row (prK strK strK) 40 Ar_9311 cr_9311 (o), .blk b27 (.cells #[bs (f), bs (t)] 40), .blk b5 (.cells #[.slice none 0 0, .slice none 0 0] 25), .blk b2 (.cells #[.slice Ark (rk).length crk, .slice Arq (rq).length crq] 25)]) := hM109
        refine wpF_end _ (by kernel_rfl) (then_n (hK99 _ _ ?_))
        refine wp_seq_k (fun K112 hK112 => ?_)
        refine wp_block ?_
        refine wp_seq_k (fun K113 hK113 => ?_)
        refine wp_reg ?_
        refine gF hM111 (.load 40 (.tmp 14)) (some 44) (by kernel_rfl) (Y_load 0 rfl (off := 0) (by kernel_rfl) (.agg #[bs ((((rq)).getD (k) ([], [])).1), bs ((((rq)).getD (k) ([], [])).2)]) (by kernel_rfl)) ?_
        refine gF hM111 (.load 40 (.tmp 9)) (some 45) (by kernel_rfl) (Y_load 2 rfl (off := 0) (by kernel_rfl) (.agg #[bs (f), bs (t)]) (by kernel_rfl)) ?_
        refine wpF_callP hM111 (f := 63) (caps := #[]) (h := (by kernel_rfl : opAt _ _ _ _ _ = some (.call (.mk (.value (.func 63)) #[(.tmp 44), (.tmp 45)] #[40, 40]), some 46))) (by kernel_rfl) (by kernel_rfl) (by kernel_rfl) (f63 _ _ hM111.inW ((((rq)).getD (k) ([], [])).1) (l103) ((((rq)).getD (k) ([], [])).2) (l105) (f) (by first | decide | (simp only [maxL, List.length_append, List.length_cons, List.length_nil]; omega)) (t) (by first | decide | (simp only [maxL, List.length_append, List.length_cons, List.length_nil]; omega))) (fun v114 V115 w116 le117 hM118 hp119 => ?_)
        obtain rfl := hp119
        refine wpF_seg 1 (by kernel_rfl) ?_
        refine wpF_end _ (by kernel_rfl) (then_n (hK113 _ _ ?_))
        refine wp_if (apB ((((rq)).getD (k) ([], [])).2) (f)) (by kernel_rfl) (fun h120 => ?_) (fun h120 => ?_)
        · -- ffLtt
          refine wp_seq_k (fun K121 hK121 => ?_)
          refine wp_reg ?_
          refine wpF_seg 1 (by kernel_rfl) ?_
          refine gF hM118 (.load 40 (.tmp 14)) (some 48) (by kernel_rfl) (Y_load 0 rfl (off := 0) (by kernel_rfl) (.agg #[bs ((((rq)).getD (k) ([], [])).1), bs ((((rq)).getD (k) ([], [])).2)]) (by kernel_rfl)) ?_
          refine wpF_litR (prK strK strK) hM118 #[bs ((((rq)).getD (k) ([], [])).1), bs ((((rq)).getD (k) ([], [])).2)] (h := (by kernel_rfl : opAt _ _ _ _ _ = some (.buildSlice 23 1 #[(0, (.tmp 48))], some 49))) (e := 40) (by kernel_rfl) ([((((rq)).getD (k) ([], [])).1, (((rq)).getD (k) ([], [])).2)]) (Reps.single (K := (prK strK strK)) (x := ((((rq)).getD (k) ([], [])).1, (((rq)).getD (k) ([], [])).2)) ⟨[bs ((((rq)).getD (k) ([], [])).1)], [bs ((((rq)).getD (k) ([], [])).2)], rfl, ⟨rfl, l103⟩, ⟨rfl, l105⟩⟩) rfl (by simp [maxL]) (fun A122 c123 V126 w124 le127 hM125 r128 => ?_)
          refine wpF_append (by_ := 32) hM125 1 rfl (h := (by kernel_rfl : opAt _ _ _ _ _ = some (.call (.mk (.builtin .append) #[(.tmp 47), (.tmp 49)] #[23, 23]), some 50))) (by kernel_rfl) (by kernel_rfl) (by kernel_rfl) (by kernel_rfl) (by kernel_rfl) (by kernel_rfl) (by kernel_rfl) (Src.rd r128) (by first | omega | (simp only [List.length_append, List.length_cons, List.length_nil, List.length_take, List.length_drop]; omega)) (fun A129 c130 w131 hM132 => ?_)
          have hM133 : Step V w [] V126 _ ([.row (prK strK strK) 40 A129 c130 (o ++ [((((rq)).getD (k) ([], [])).1, (((rq)).getD (k) ([], [])).2)]), .blk b106 (.cells #[bs ((((rq)).getD (k) ([], [])).1), bs ((((rq)).getD (k) ([], [])).2)] 40), .blk b27 (.cells #[bs (f), bs (t)] 40), .blk b5 (.cells #[.slice none 0 0, .slice none 0 0] 25), .blk b2 (.cells #[.slice Ark (rk).length crk, .slice Arq (rq).length crq] 25)]) := hM132
          refine wpF_seg 1 (by kernel_rfl) ?_
          refine wpF_end _ (by kernel_rfl) (then_n (hK121 _ _ ?_))
          refine wp_exit (blk_miss (by rfl) (then_x (blk_hit (then_n (hK98 _ _ ?_)))))
          refine wp_reg ?_
          refine gF hM133 (.binOp .add 3 (.tmp 39) (.const (.int .i64 1)) 3) (some 70) (by kernel_rfl) (Y_add .i64 ((k : Int)) (1) ((k : Int) + 1) (by kernel_rfl) (by kernel_rfl) (wrap64_ok _ (by omega))) ?_
          refine wpF_seg 1 (by kernel_rfl) ?_
          refine wpF_base [(3, .pointer (some ⟨b2, 0, none⟩)), (6, .pointer (some ⟨b5, 0, none⟩)), (7, .int .i64 (0)), (9, .pointer (some ⟨b27, 0, none⟩)), (11, .slice A129 (o ++ ([((rq.getD k ([], [])).1, (rq.getD k ([], [])).2)] : List (Str × Str))).length c130), (12, .bool (ld)), (37, .slice Ar39_1 ((rq)).length cr39_1), (38, .int .i64 ((((rq)).length : Int))), (39, .int .i64 ((k + 1 : Int)))] (by kernel_rfl) (fun g134 => ?_)
          have hM135 := (hM133.front 1 rfl).drop
          refine wpF_end _ (by kernel_rfl) (then_n (hK93 _ _ (k + 1, o ++ ([((rq.getD k ([], [])).1, (rq.getD k ([], [])).2)] : List (Str × Str)), ld, f, t) (by omega) ?_))
          refine ⟨g134, V126, A129, c130, rfl, hM135, ((le92.trans le117).trans le127), ?_, ?_, ?_, ?_, ?_⟩
          · -- ffLtt inv 0
            omega
          · -- ffLtt inv 1
            exact runP_a (by assumption) (by assumption)
          · -- ffLtt inv 2
            assumption
          · -- ffLtt inv 3
            assumption
          · -- ffLtt inv 4
            first | omega | (simp only [List.length_append, List.length_cons, List.length_nil]; omega)
        · -- ffLtf
          refine wp_seq_k (fun K136 hK136 => ?_)
          refine wp_reg ?_
          refine gF hM118 (.load 40 (.tmp 9)) (some 52) (by kernel_rfl) (Y_load 2 rfl (off := 0) (by kernel_rfl) (.agg #[bs (f), bs (t)]) (by kernel_rfl)) ?_
          refine gF hM118 (.load 40 (.tmp 14)) (some 53) (by kernel_rfl) (Y_load 0 rfl (off := 0) (by kernel_rfl) (.agg #[bs ((((rq)).getD (k) ([], [])).1), bs ((((rq)).getD (k) ([], [])).2)]) (by kernel_rfl)) ?_
          refine wpF_callP hM118 (f := 63) (caps := #[]) (h := (by kernel_rfl : opAt _ _ _ _ _ = some (.call (.mk (.value (.func 63)) #[(.tmp 52), (.tmp 53)] #[40, 40]), some 54))) (by kernel_rfl) (by kernel_rfl) (by kernel_rfl) (f63 _ _ hM118.inW (f) (by first | decide | (simp only [maxL, List.length_append, List.length_cons, List.length_nil]; omega)) (t) (by first | decide | (simp only [maxL, List.length_append, List.length_cons, List.length_nil]; omega)) ((((rq)).getD (k) ([], [])).1) (l103) ((((rq)).getD (k) ([], [])).2) (l105)) (fun v137 V138 w139 le140 hM141 hp142 => ?_)
          obtain rfl := hp142
          refine wpF_seg 2 (by kernel_rfl) ?_
          refine wpF_end _ (by kernel_rfl) (then_n (hK136 _ _ ?_))
          refine wp_if (!(apB (t) ((((rq)).getD (k) ([], [])).1))) (by kernel_rfl) (fun h143 => ?_) (fun h143 => ?_)
          · -- ffLtft
            have h144 : (apB (t) ((((rq)).getD (k) ([], [])).1)) = false := by simpa using h143
            refine wp_seq_k (fun K145 hK145 => ?_)
            refine wp_reg ?_
            refine gF hM141 (.load 40 (.tmp 9)) (some 56) (by kernel_rfl) (Y_load 2 rfl (off := 0) (by kernel_rfl) (.agg #[bs (f), bs (t)]) (by kernel_rfl)) ?_
            refine gF hM141 (.load 40 (.tmp 14)) (some 57) (by kernel_rfl) (Y_load 0 rfl (off := 0) (by kernel_rfl) (.agg #[bs ((((rq)).getD (k) ([], [])).1), bs ((((rq)).getD (k) ([], [])).2)]) (by kernel_rfl)) ?_
            refine wpF_callP hM141 (f := 64) (caps := #[]) (h := (by kernel_rfl : opAt _ _ _ _ _ = some (.call (.mk (.value (.func 64)) #[(.tmp 56), (.tmp 57)] #[40, 40]), some 58))) (by kernel_rfl) (by kernel_rfl) (by kernel_rfl) (f64 _ _ hM141.inW (f) (by first | decide | (simp only [maxL, List.length_append, List.length_cons, List.length_nil]; omega)) (t) (by first | decide | (simp only [maxL, List.length_append, List.length_cons, List.length_nil]; omega)) ((((rq)).getD (k) ([], [])).1) (l103) ((((rq)).getD (k) ([], [])).2) (l105)) (fun v146 V147 w148 le149 hM150 hp151 => ?_)
            obtain ⟨rfl, x152, x153⟩ := hp151
            have x152 : (minS (f) ((((rq)).getD (k) ([], [])).1)).length ≤ 140737488355328 := x152
            have x153 : (jnT (t) ((((rq)).getD (k) ([], [])).2)).length ≤ 140737488355328 := x153
            refine wpF_store hM150 2 rfl (h := (by kernel_rfl : opAt _ _ _ _ _ = some (.store 40 (.tmp 9) (.tmp 58), none))) (off := 0) (by kernel_rfl) #[bs (minS (f) ((((rq)).getD (k) ([], [])).1)), bs (jnT (t) ((((rq)).getD (k) ([], [])).2))] (by kernel_rfl) (by kernel_rfl) (by kernel_rfl) (by kernel_rfl) (fun w155 hM154 => ?_)
            have hM156 : Step V w [] V147 _ ([.blk b106 (.cells #[bs ((((rq)).getD (k) ([], [])).1), bs ((((rq)).getD (k) ([], [])).2)] 40), .row (prK strK strK) 40 Ar_9311 cr_9311 (o), .blk b27 (.cells #[bs (minS (f) ((((rq)).getD (k) ([], [])).1)), bs (jnT (t) ((((rq)).getD (k) ([], [])).2))] 40), .blk b5 (.cells #[.slice none 0 0, .slice none 0 0] 25), .blk b2 (.cells #[.slice Ark (rk).length crk, .slice Arq (rq).length crq] 25)]) := hM154
            refine wpF_end _ (by kernel_rfl) (then_n (hK145 _ _ ?_))
            refine wp_exit (blk_miss (by rfl) (then_x (blk_hit (then_n (hK98 _ _ ?_)))))
            refine wp_reg ?_
            refine gF hM156 (.binOp .add 3 (.tmp 39) (.const (.int .i64 1)) 3) (some 70) (by kernel_rfl) (Y_add .i64 ((k : Int)) (1) ((k : Int) + 1) (by kernel_rfl) (by kernel_rfl) (wrap64_ok _ (by omega))) ?_
            refine wpF_seg 1 (by kernel_rfl) ?_
            refine wpF_base [(3, .pointer (some ⟨b2, 0, none⟩)), (6, .pointer (some ⟨b5, 0, none⟩)), (7, .int .i64 (0)), (9, .pointer (some ⟨b27, 0, none⟩)), (11, .slice Ar_9311 (o).length cr_9311), (12, .bool (ld)), (37, .slice Ar39_1 ((rq)).length cr39_1), (38, .int .i64 ((((rq)).length : Int))), (39, .int .i64 ((k + 1 : Int)))] (by kernel_rfl) (fun g157 => ?_)
            have hM158 := (hM156.front 0 rfl).drop
            refine wpF_end _ (by kernel_rfl) (then_n (hK93 _ _ (k + 1, o, ld, minS f (rq.getD k ([], [])).1, jnT t (rq.getD k ([], [])).2) (by omega) ?_))
            refine ⟨g157, V147, Ar_9311, cr_9311, rfl, hM158, (((le92.trans le117).trans le140).trans le149), ?_, ?_, ?_, ?_, ?_⟩
            · -- ffLtft inv 0
              omega
            · -- ffLtft inv 1
              exact runP_j (by assumption) (by assumption) (by assumption)
            · -- ffLtft inv 2
              assumption
            · -- ffLtft inv 3
              assumption
            · -- ffLtft inv 4
              first | omega | (simp only [List.length_append, List.length_cons, List.length_nil]; omega)
          · -- ffLtff
            have h159 : (apB (t) ((((rq)).getD (k) ([], [])).1)) = true := by simpa using h143
            refine wp_seq_k (fun K160 hK160 => ?_)
            refine wp_reg ?_
            refine wpF_seg 3 (by kernel_rfl) ?_
            refine wpF_end _ (by kernel_rfl) (then_n (hK160 _ _ ?_))
            refine wp_if (!ld) (by kernel_rfl) (fun h161 => ?_) (fun h161 => ?_)
            · -- ffLtfft
              have h162 : (ld) = false := by simpa using h161
              refine wp_seq_k (fun K163 hK163 => ?_)
              refine wp_reg ?_
              refine wpF_seg 1 (by kernel_rfl) ?_
              refine gF hM141 (.load 40 (.tmp 9)) (some 63) (by kernel_rfl) (Y_load 2 rfl (off := 0) (by kernel_rfl) (.agg #[bs (f), bs (t)]) (by kernel_rfl)) ?_
              refine wpF_litR (prK strK strK) hM141 #[bs (f), bs (t)] (h := (by kernel_rfl : opAt _ _ _ _ _ = some (.buildSlice 23 1 #[(0, (.tmp 63))], some 64))) (e := 40) (by kernel_rfl) ([(f, t)]) (Reps.single (K := (prK strK strK)) (x := (f, t)) ⟨[bs (f)], [bs (t)], rfl, ⟨rfl, by first | decide | (simp only [maxL, List.length_append, List.length_cons, List.length_nil]; omega)⟩, ⟨rfl, by first | decide | (simp only [maxL, List.length_append, List.length_cons, List.length_nil]; omega)⟩⟩) rfl (by simp [maxL]) (fun A164 c165 V168 w166 le169 hM167 r170 => ?_)
              refine wpF_append (by_ := 32) hM167 1 rfl (h := (by kernel_rfl : opAt _ _ _ _ _ = some (.call (.mk (.builtin .append) #[(.tmp 62), (.tmp 64)] #[23, 23]), some 65))) (by kernel_rfl) (by kernel_rfl) (by kernel_rfl) (by kernel_rfl) (by kernel_rfl) (by kernel_rfl) (by kernel_rfl) (Src.rd r170) (by first | omega | (simp only [List.length_append, List.length_cons, List.length_nil, List.length_take, List.length_drop]; omega)) (fun A171 c172 w173 hM174 => ?_)
              have hM175 : Step V w [] V168 _ ([.row (prK strK strK) 40 A171 c172 (o ++ [(f, t)]), .blk b106 (.cells #[bs ((((rq)).getD (k) ([], [])).1), bs ((((rq)).getD (k) ([], [])).2)] 40), .blk b27 (.cells #[bs (f), bs (t)] 40), .blk b5 (.cells #[.slice none 0 0, .slice none 0 0] 25), .blk b2 (.cells #[.slice Ark (rk).length crk, .slice Arq (rq).length crq] 25)]) := hM174
              refine wpF_seg 1 (by kernel_rfl) ?_
              refine wpF_end _ (by kernel_rfl) (then_n (hK163 _ _ ?_))
              refine wp_reg ?_
              refine wpF_seg 1 (by kernel_rfl) ?_
              refine wpF_end _ (by kernel_rfl) (blk_n (then_n (hK112 _ _ ?_)))
              refine wp_reg ?_
              refine wpF_seg 1 (by kernel_rfl) ?_
              refine gF hM175 (.load 40 (.tmp 14)) (some 67) (by kernel_rfl) (Y_load 1 rfl (off := 0) (by kernel_rfl) (.agg #[bs ((((rq)).getD (k) ([], [])).1), bs ((((rq)).getD (k) ([], [])).2)]) (by kernel_rfl)) ?_
              refine wpF_litR (prK strK strK) hM175 #[bs ((((rq)).getD (k) ([], [])).1), bs ((((rq)).getD (k) ([], [])).2)] (h := (by kernel_rfl : opAt _ _ _ _ _ = some (.buildSlice 23 1 #[(0, (.tmp 67))], some 68))) (e := 40) (by kernel_rfl) ([((((rq)).getD (k) ([], [])).1, (((rq)).getD (k) ([], [])).2)]) (Reps.single (K := (prK strK strK)) (x := ((((rq)).getD (k) ([], [])).1, (((rq)).getD (k) ([], [])).2)) ⟨[bs ((((rq)).getD (k) ([], [])).1)], [bs ((((rq)).getD (k) ([], [])).2)], rfl, ⟨rfl, l103⟩, ⟨rfl, l105⟩⟩) rfl (by simp [maxL]) (fun A176 c177 V180 w178 le181 hM179 r182 => ?_)
              refine wpF_append (by_ := 32) hM179 0 rfl (h := (by kernel_rfl : opAt _ _ _ _ _ = some (.call (.mk (.builtin .append) #[(.tmp 66), (.tmp 68)] #[23, 23]), some 69))) (by kernel_rfl) (by kernel_rfl) (by kernel_rfl) (by kernel_rfl) (by kernel_rfl) (by kernel_rfl) (by kernel_rfl) (Src.rd r182) (by first | omega | (simp only [List.length_append, List.length_cons, List.length_nil, List.length_take, List.length_drop]; omega)) (fun A183 c184 w185 hM186 => ?_)
              have hM187 : Step V w [] V180 _ ([.row (prK strK strK) 40 A183 c184 (o ++ [(f, t)] ++ [((((rq)).getD (k) ([], [])).1, (((rq)).getD (k) ([], [])).2)]), .blk b106 (.cells #[bs ((((rq)).getD (k) ([], [])).1), bs ((((rq)).getD (k) ([], [])).2)] 40), .blk b27 (.cells #[bs (f), bs (t)] 40), .blk b5 (.cells #[.slice none 0 0, .slice none 0 0] 25), .blk b2 (.cells #[.slice Ark (rk).length crk, .slice Arq (rq).length crq] 25)]) := hM186
              refine wpF_seg 1 (by kernel_rfl) ?_
              refine wpF_end _ (by kernel_rfl) (blk_n (then_n (hK98 _ _ ?_)))
              refine wp_reg ?_
              refine gF hM187 (.binOp .add 3 (.tmp 39) (.const (.int .i64 1)) 3) (some 70) (by kernel_rfl) (Y_add .i64 ((k : Int)) (1) ((k : Int) + 1) (by kernel_rfl) (by kernel_rfl) (wrap64_ok _ (by omega))) ?_
              refine wpF_seg 1 (by kernel_rfl) ?_
              refine wpF_base [(3, .pointer (some ⟨b2, 0, none⟩)), (6, .pointer (some ⟨b5, 0, none⟩)), (7, .int .i64 (0)), (9, .pointer (some ⟨b27, 0, none⟩)), (11, .slice A183 (o ++ ([(f, t)] : List (Str × Str)) ++ ([((rq.getD k ([], [])).1, (rq.getD k ([], [])).2)] : List (Str × Str))).length c184), (12, .bool (true)), (37, .slice Ar39_1 ((rq)).length cr39_1), (38, .int .i64 ((((rq)).length : Int))), (39, .int .i64 ((k + 1 : Int)))] (by kernel_rfl) (fun g188 => ?_)
              have hM189 := (hM187.front 1 rfl).drop
              refine wpF_end _ (by kernel_rfl) (then_n (hK93 _ _ (k + 1, o ++ ([(f, t)] : List (Str × Str)) ++ ([((rq.getD k ([], [])).1, (rq.getD k ([], [])).2)] : List (Str × Str)), true, f, t) (by omega) ?_))
              refine ⟨g188, V180, A183, c184, rfl, hM189, ((((le92.trans le117).trans le140).trans le169).trans le181), ?_, ?_, ?_, ?_, ?_⟩
              · -- ffLtfft inv 0
                omega
              · -- ffLtfft inv 1
                (obtain rfl : ld = false := by assumption); exact runP_f (by assumption) (by assumption) (by assumption)
              · -- ffLtfft inv 2
                assumption
              · -- ffLtfft inv 3
                assumption
              · -- ffLtfft inv 4
                first | omega | (simp only [List.length_append, List.length_cons, List.length_nil]; omega)
            · -- ffLtfff
              have h190 : (ld) = true := by simpa using h161
              refine wp_skip (blk_n (then_n (hK112 _ _ ?_)))
              refine wp_reg ?_
              refine wpF_seg 1 (by kernel_rfl) ?_
              refine gF hM141 (.load 40 (.tmp 14)) (some 67) (by kernel_rfl) (Y_load 0 rfl (off := 0) (by kernel_rfl) (.agg #[bs ((((rq)).getD (k) ([], [])).1), bs ((((rq)).getD (k) ([], [])).2)]) (by kernel_rfl)) ?_
              refine wpF_litR (prK strK strK) hM141 #[bs ((((rq)).getD (k) ([], [])).1), bs ((((rq)).getD (k) ([], [])).2)] (h := (by kernel_rfl : opAt _ _ _ _ _ = some (.buildSlice 23 1 #[(0, (.tmp 67))], some 68))) (e := 40) (by kernel_rfl) ([((((rq)).getD (k) ([], [])).1, (((rq)).getD (k) ([], [])).2)]) (Reps.single (K := (prK strK strK)) (x := ((((rq)).getD (k) ([], [])).1, (((rq)).getD (k) ([], [])).2)) ⟨[bs ((((rq)).getD (k) ([], [])).1)], [bs ((((rq)).getD (k) ([], [])).2)], rfl, ⟨rfl, l103⟩, ⟨rfl, l105⟩⟩) rfl (by simp [maxL]) (fun A191 c192 V195 w193 le196 hM194 r197 => ?_)
              refine wpF_append (by_ := 32) hM194 1 rfl (h := (by kernel_rfl : opAt _ _ _ _ _ = some (.call (.mk (.builtin .append) #[(.tmp 66), (.tmp 68)] #[23, 23]), some 69))) (by kernel_rfl) (by kernel_rfl) (by kernel_rfl) (by kernel_rfl) (by kernel_rfl) (by kernel_rfl) (by kernel_rfl) (Src.rd r197) (by first | omega | (simp only [List.length_append, List.length_cons, List.length_nil, List.length_take, List.length_drop]; omega)) (fun A198 c199 w200 hM201 => ?_)
              have hM202 : Step V w [] V195 _ ([.row (prK strK strK) 40 A198 c199 (o ++ [((((rq)).getD (k) ([], [])).1, (((rq)).getD (k) ([], [])).2)]), .blk b106 (.cells #[bs ((((rq)).getD (k) ([], [])).1), bs ((((rq)).getD (k) ([], [])).2)] 40), .blk b27 (.cells #[bs (f), bs (t)] 40), .blk b5 (.cells #[.slice none 0 0, .slice none 0 0] 25), .blk b2 (.cells #[.slice Ark (rk).length crk, .slice Arq (rq).length crq] 25)]) := hM201
              refine wpF_seg 1 (by kernel_rfl) ?_
              refine wpF_end _ (by kernel_rfl) (blk_n (then_n (hK98 _ _ ?_)))
              refine wp_reg ?_
              refine gF hM202 (.binOp .add 3 (.tmp 39) (.const (.int .i64 1)) 3) (some 70) (by kernel_rfl) (Y_add .i64 ((k : Int)) (1) ((k : Int) + 1) (by kernel_rfl) (by kernel_rfl) (wrap64_ok _ (by omega))) ?_
              refine wpF_seg 1 (by kernel_rfl) ?_
              refine wpF_base [(3, .pointer (some ⟨b2, 0, none⟩)), (6, .pointer (some ⟨b5, 0, none⟩)), (7, .int .i64 (0)), (9, .pointer (some ⟨b27, 0, none⟩)), (11, .slice A198 (o ++ ([((rq.getD k ([], [])).1, (rq.getD k ([], [])).2)] : List (Str × Str))).length c199), (12, .bool (ld)), (37, .slice Ar39_1 ((rq)).length cr39_1), (38, .int .i64 ((((rq)).length : Int))), (39, .int .i64 ((k + 1 : Int)))] (by kernel_rfl) (fun g203 => ?_)
              have hM204 := (hM202.front 1 rfl).drop
              refine wpF_end _ (by kernel_rfl) (then_n (hK93 _ _ (k + 1, o ++ ([((rq.getD k ([], [])).1, (rq.getD k ([], [])).2)] : List (Str × Str)), ld, f, t) (by omega) ?_))
              refine ⟨g203, V195, A198, c199, rfl, hM204, (((le92.trans le117).trans le140).trans le196), ?_, ?_, ?_, ?_, ?_⟩
              · -- ffLtfff inv 0
                omega
              · -- ffLtfff inv 1
                (obtain rfl : ld = true := by assumption); exact runP_l (by assumption) (by assumption) (by assumption)
              · -- ffLtfff inv 2
                assumption
              · -- ffLtfff inv 3
                assumption
              · -- ffLtfff inv 4
                first | omega | (simp only [List.length_append, List.length_cons, List.length_nil]; omega)
      · -- ffLf
        have p205 : ¬ (((k : Int)) < ((((rq)).length : Int))) := of_decide_eq_false h96
        refine wp_exit (then_x (then_x (blk_hit (then_n (hK83 _ _ ?_)))))
        obtain rfl : k = rq.length := by omega
        refine wp_seq_k (fun K206 hK206 => ?_)
        refine wp_seq_k (fun K207 hK207 => ?_)
        refine wp_reg ?_
        refine wpF_seg 2 (by kernel_rfl) ?_
        refine wpF_end _ (by kernel_rfl) (then_n (hK207 _ _ ?_))
        refine wp_if (!ld) (by kernel_rfl) (fun h208 => ?_) (fun h208 => ?_)
        · -- ffLft
          have h209 : (ld) = false := by simpa using h208
          refine wp_reg ?_
          refine wpF_seg 1 (by kernel_rfl) ?_
          refine gF hM91 (.load 40 (.tmp 9)) (some 74) (by kernel_rfl) (Y_load 1 rfl (off := 0) (by kernel_rfl) (.agg #[bs (f), bs (t)]) (by kernel_rfl)) ?_
          refine wpF_litR (prK strK strK) hM91 #[bs (f), bs (t)] (h := (by kernel_rfl : opAt _ _ _ _ _ = some (.buildSlice 23 1 #[(0, (.tmp 74))], some 75))) (e := 40) (by kernel_rfl) ([(f, t)]) (Reps.single (K := (prK strK strK)) (x := (f, t)) ⟨[bs (f)], [bs (t)], rfl, ⟨rfl, by first | decide | (simp only [maxL, List.length_append, List.length_cons, List.length_nil]; omega)⟩, ⟨rfl, by first | decide | (simp only [maxL, List.length_append, List.length_cons, List.length_nil]; omega)⟩⟩) rfl (by simp [maxL]) (fun A210 c211 V214 w212 le215 hM213 r216 => ?_)
          refine wpF_append (by_ := 32) hM213 0 rfl (h := (by kernel_rfl : opAt _ _ _ _ _ = some (.call (.mk (.builtin .append) #[(.tmp 73), (.tmp 75)] #[23, 23]), some 76))) (by kernel_rfl) (by kernel_rfl) (by kernel_rfl) (by kernel_rfl) (by kernel_rfl) (by kernel_rfl) (by kernel_rfl) (Src.rd r216) (by first | omega | (simp only [List.length_append, List.length_cons, List.length_nil, List.length_take, List.length_drop]; omega)) (fun A217 c218 w219 hM220 => ?_)
          have hM221 : Step V w [] V214 _ ([.row (prK strK strK) 40 A217 c218 (o ++ [(f, t)]), .blk b27 (.cells #[bs (f), bs (t)] 40), .blk b5 (.cells #[.slice none 0 0, .slice none 0 0] 25), .blk b2 (.cells #[.slice Ark (rk).length crk, .slice Arq (rq).length crq] 25)]) := hM220
          refine wpF_seg 1 (by kernel_rfl) ?_
          refine wpF_end _ (by kernel_rfl) (then_n (hK206 _ _ ?_))
          refine wp_seq_k (fun K222 hK222 => ?_)
          refine wp_reg ?_
          refine wpF_seg 1 (by kernel_rfl) ?_
          refine gF hM221 (.load 22 (.tmp 77)) (some 78) (by kernel_rfl) (Y_load 3 rfl (off := 0) (by kernel_rfl) (.slice Ark (rk).length crk) (by kernel_rfl)) ?_
          have hM230 : Step V w [] V214 _ ([.row (prK strK strK) 40 A217 c218 (o ++ [(f, t)]), .blk b27 (.cells #[bs (f), bs (t)] 40), .blk b5 (.cells #[.slice none 0 0, .slice none 0 0] 25), .blk b2 (.cells #[.slice Ark (rk).length crk, .slice Arq (rq).length crq] 25)]) := hM221
          refine wpF_callE [] ([.row (prK strK strK) 40 A217 c218 (o ++ [(f, t)]), .blk b27 (.cells #[bs (f), bs (t)] 40), .blk b5 (.cells #[.slice none 0 0, .slice none 0 0] 25), .blk b2 (.cells #[.slice Ark (rk).length crk, .slice Arq (rq).length crq] 25)]) hM230 (f := 54) (caps := #[]) (h := (by kernel_rfl : opAt _ _ _ _ _ = some (.call (.mk (.value (.func 54)) #[(.tmp 78)] #[22]), some 79))) (by kernel_rfl) (by kernel_rfl) (by kernel_rfl) (f54 _ _ hM230.inW Ark crk (rk) (hrk.up hM221.le) (by omega)) (fun v223 V224 w225 Eo226 le227 hM228 hp229 => ?_)
          obtain ⟨Ar230_1, cr230_1, rfl, rfl⟩ := hp229
          have hM231 : Step V w [] V224 _ ([.row strK 9 Ar230_1 cr230_1 ((rk)), .row (prK strK strK) 40 A217 c218 (o ++ [(f, t)]), .blk b27 (.cells #[bs (f), bs (t)] 40), .blk b5 (.cells #[.slice none 0 0, .slice none 0 0] 25), .blk b2 (.cells #[.slice Ark (rk).length crk, .slice Arq (rq).length crq] 25)]) := hM228
          refine wpF_seg 1 (by kernel_rfl) ?_
          obtain ⟨V232, le233, hM234, r235⟩ := hM231.settleRow 1 rfl
          have hM236 : Step V w [] V232 _ ([.row strK 9 Ar230_1 cr230_1 ((rk)), .blk b27 (.cells #[bs (f), bs (t)] 40), .blk b5 (.cells #[.slice none 0 0, .slice none 0 0] 25), .blk b2 (.cells #[.slice Ark (rk).length crk, .slice Arq (rq).length crq] 25)]) := hM234
          have hM237 := hM236.front 0 rfl
          have hM245 : Step V w [] V232 _ ([.row strK 9 Ar230_1 cr230_1 ((rk)), .blk b27 (.cells #[bs (f), bs (t)] 40), .blk b5 (.cells #[.slice none 0 0, .slice none 0 0] 25), .blk b2 (.cells #[.slice Ark (rk).length crk, .slice Arq (rq).length crq] 25)]) := hM237
          refine wpF_callE [.row strK 9 Ar230_1 cr230_1 ((rk))] ([.blk b27 (.cells #[bs (f), bs (t)] 40), .blk b5 (.cells #[.slice none 0 0, .slice none 0 0] 25), .blk b2 (.cells #[.slice Ark (rk).length crk, .slice Arq (rq).length crq] 25)]) hM245 (f := 57) (caps := #[]) (h := (by kernel_rfl : opAt _ _ _ _ _ = some (.call (.mk (.value (.func 57)) #[(.tmp 79), (.tmp 80)] #[22, 23]), some 81))) (by kernel_rfl) (by kernel_rfl) (by kernel_rfl) (f57 _ _ Ar230_1 cr230_1 ((rk)) A217 c218 (o ++ [(f, t)]) r235 (St.part (E := [.row strK 9 Ar230_1 cr230_1 ((rk))]) (F := ([.blk b27 (.cells #[bs (f), bs (t)] 40), .blk b5 (.cells #[.slice none 0 0, .slice none 0 0] 25), .blk b2 (.cells #[.slice Ark (rk).length crk, .slice Arq (rq).length crq] 25)])) hM245.ok)) (fun v238 V239 w240 Eo241 le242 hM243 hp244 => ?_)
          obtain ⟨Ar245_1, cr245_1, Ar245_2, cr245_2, rfl, rfl, r246, r247⟩ := hp244
          have hM248 : Step V w [] V239 _ ([.blk b27 (.cells #[bs (f), bs (t)] 40), .blk b5 (.cells #[.slice none 0 0, .slice none 0 0] 25), .blk b2 (.cells #[.slice Ark (rk).length crk, .slice Arq (rq).length crq] 25)]) := hM243
          have l249 : (mdK ((rk)) (o ++ [(f, t)])).length ≤ 140737488355328 := r246.max
          have l250 : (mdS ((rk)) (o ++ [(f, t)])).length ≤ 140737488355328 := r247.max
          refine wpF_seg 2 (by kernel_rfl) ?_
          refine wpF_store hM248 1 rfl (h := (by kernel_rfl : opAt _ _ _ _ _ = some (.store 25 (.tmp 6) (.tmp 82), none))) (off := 0) (by kernel_rfl) #[.slice Ar245_1 (mdK ((rk)) (o ++ [(f, t)])).length cr245_1, .slice Ar245_2 (mdS ((rk)) (o ++ [(f, t)])).length cr245_2] (by kernel_rfl) (by kernel_rfl) (by kernel_rfl) (by kernel_rfl) (fun w252 hM251 => ?_)
          have hM253 : Step V w [] V239 _ ([.blk b27 (.cells #[bs (f), bs (t)] 40), .blk b5 (.cells #[.slice Ar245_1 (mdK ((rk)) (o ++ [(f, t)])).length cr245_1, .slice Ar245_2 (mdS ((rk)) (o ++ [(f, t)])).length cr245_2] 25), .blk b2 (.cells #[.slice Ark (rk).length crk, .slice Arq (rq).length crq] 25)]) := hM251
          refine wpF_seg 1 (by kernel_rfl) ?_
          refine wpF_end _ (by kernel_rfl) (then_n (hK222 _ _ ?_))
          refine wp_ret (ng_r (?_))
          refine retN [.agg #[.slice Ar245_1 (mdK ((rk)) (o ++ [(f, t)])).length cr245_1, .slice Ar245_2 (mdS ((rk)) (o ++ [(f, t)])).length cr245_2], .int .i64 (mdE ((rk)) (o ++ [(f, t)]))] (.tuple #[.agg #[.slice Ar245_1 (mdK ((rk)) (o ++ [(f, t)])).length cr245_1, .slice Ar245_2 (mdS ((rk)) (o ++ [(f, t)])).length cr245_2], .int .i64 (mdE ((rk)) (o ++ [(f, t)]))]) Try.results20 (.cell (by kernel_rfl) (by kernel_rfl) hM253 1 rfl (by kernel_rfl) (.tmp (by kernel_rfl) (by kernel_rfl) .nil)) (by kernel_rfl) (hRet _ _ ⟨_, _, rfl, hM253.clear, ?_⟩)
          -- end ffLft
          have hrun := (by assumption : runP rq f0 t0 rq.length = (o, ld, f, t))
          refine ⟨Ar245_1, cr245_1, Ar245_2, cr245_2, ?_, ?_, ?_⟩
          · first | (simp only [snK, snQ, snE, snS, spO, hrun, hr, h17, h208, h209, h24, h50, h79, h96, cond_true, cond_false] <;> rfl) | (simp only [snK, snQ, snE, snS, hr, h17, h208, h209, h24, h50, h79, h96, cond_true, cond_false] <;> rfl) | (simp only [snK, snQ, snE, hr.1, hr.2, cond_false] <;> rfl)
          · first | exact r246 | (exact Rd.eq r246 (by first | (simp only [snK, snQ, snE, snS, spO, hrun, hr, h17, h208, h209, h24, h50, h79, h96, cond_true, cond_false]; done) | (simp only [snK, snQ, snE, snS, hr, h17, h208, h209, h24, h50, h79, h96, cond_true, cond_false]; done) | (simp only [snK, snQ, snE, hr.1, cond_false]; done)))
          · first | exact r247 | (exact Rd.eq r247 (by first | (simp only [snK, snQ, snE, snS, spO, hrun, hr, h17, h208, h209, h24, h50, h79, h96, cond_true, cond_false]; done) | (simp only [snK, snQ, snE, snS, hr, h17, h208, h209, h24, h50, h79, h96, cond_true, cond_false]; done) | (simp only [snK, snQ, snE, hr.1, cond_false]; done)))
        · -- ffLff
          have h254 : (ld) = true := by simpa using h208
          refine wp_skip (then_n (hK206 _ _ ?_))
          refine wp_seq_k (fun K255 hK255 => ?_)
          refine wp_reg ?_
          refine wpF_seg 1 (by kernel_rfl) ?_
          refine gF hM91 (.load 22 (.tmp 77)) (some 78) (by kernel_rfl) (Y_load 3 rfl (off := 0) (by kernel_rfl) (.slice Ark (rk).length crk) (by kernel_rfl)) ?_
          have hM263 : Step V w [] Vl85 _ ([.row (prK strK strK) 40 Ar_9311 cr_9311 (o), .blk b27 (.cells #[bs (f), bs (t)] 40), .blk b5 (.cells #[.slice none 0 0, .slice none 0 0] 25), .blk b2 (.cells #[.slice Ark (rk).length crk, .slice Arq (rq).length crq] 25)]) := hM91
          refine wpF_callE [] ([.row (prK strK strK) 40 Ar_9311 cr_9311 (o), .blk b27 (.cells #[bs (f), bs (t)] 40), .blk b5 (.cells #[.slice none 0 0, .slice none 0 0] 25), .blk b2 (.cells #[.slice Ark (rk).length crk, .slice Arq (rq).length crq] 25)]) hM263 (f := 54) (caps := #[]) (h := (by kernel_rfl : opAt _ _ _ _ _ = some (.call (.mk (.value (.func 54)) #[(.tmp 78)] #[22]), some 79))) (by kernel_rfl) (by kernel_rfl) (by kernel_rfl) (f54 _ _ hM263.inW Ark crk (rk) (hrk.up hM91.le) (by omega)) (fun v256 V257 w258 Eo259 le260 hM261 hp262 => ?_)
          obtain ⟨Ar263_1, cr263_1, rfl, rfl⟩ := hp262
          have hM264 : Step V w [] V257 _ ([.row strK 9 Ar263_1 cr263_1 ((rk)), .row (prK strK strK) 40 Ar_9311 cr_9311 (o), .blk b27 (.cells #[bs (f), bs (t)] 40), .blk b5 (.cells #[.slice none 0 0, .slice none 0 0] 25), .blk b2 (.cells #[.slice Ark (rk).length crk, .slice Arq (rq).length crq] 25)]) := hM261
          refine wpF_seg 1 (by kernel_rfl) ?_
          obtain ⟨V265, le266, hM267, r268⟩ := hM264.settleRow 1 rfl
          have hM269 : Step V w [] V265 _ ([.row strK 9 Ar263_1 cr263_1 ((rk)), .blk b27 (.cells #[bs (f), bs (t)] 40), .blk b5 (.cells #[.slice none 0 0, .slice none 0 0] 25), .blk b2 (.cells #[.slice Ark (rk).length crk, .slice Arq (rq).length crq] 25)]) := hM267
          have hM270 := hM269.front 0 rfl
          have hM278 : Step V w [] V265 _ ([.row strK 9 Ar263_1 cr263_1 ((rk)), .blk b27 (.cells #[bs (f), bs (t)] 40), .blk b5 (.cells #[.slice none 0 0, .slice none 0 0] 25), .blk b2 (.cells #[.slice Ark (rk).length crk, .slice Arq (rq).length crq] 25)]) := hM270
          refine wpF_callE [.row strK 9 Ar263_1 cr263_1 ((rk))] ([.blk b27 (.cells #[bs (f), bs (t)] 40), .blk b5 (.cells #[.slice none 0 0, .slice none 0 0] 25), .blk b2 (.cells #[.slice Ark (rk).length crk, .slice Arq (rq).length crq] 25)]) hM278 (f := 57) (caps := #[]) (h := (by kernel_rfl : opAt _ _ _ _ _ = some (.call (.mk (.value (.func 57)) #[(.tmp 79), (.tmp 80)] #[22, 23]), some 81))) (by kernel_rfl) (by kernel_rfl) (by kernel_rfl) (f57 _ _ Ar263_1 cr263_1 ((rk)) Ar_9311 cr_9311 (o) r268 (St.part (E := [.row strK 9 Ar263_1 cr263_1 ((rk))]) (F := ([.blk b27 (.cells #[bs (f), bs (t)] 40), .blk b5 (.cells #[.slice none 0 0, .slice none 0 0] 25), .blk b2 (.cells #[.slice Ark (rk).length crk, .slice Arq (rq).length crq] 25)])) hM278.ok)) (fun v271 V272 w273 Eo274 le275 hM276 hp277 => ?_)
          obtain ⟨Ar278_1, cr278_1, Ar278_2, cr278_2, rfl, rfl, r279, r280⟩ := hp277
          have hM281 : Step V w [] V272 _ ([.blk b27 (.cells #[bs (f), bs (t)] 40), .blk b5 (.cells #[.slice none 0 0, .slice none 0 0] 25), .blk b2 (.cells #[.slice Ark (rk).length crk, .slice Arq (rq).length crq] 25)]) := hM276
          have l282 : (mdK ((rk)) (o)).length ≤ 140737488355328 := r279.max
          have l283 : (mdS ((rk)) (o)).length ≤ 140737488355328 := r280.max
          refine wpF_seg 2 (by kernel_rfl) ?_
          refine wpF_store hM281 1 rfl (h := (by kernel_rfl : opAt _ _ _ _ _ = some (.store 25 (.tmp 6) (.tmp 82), none))) (off := 0) (by kernel_rfl) #[.slice Ar278_1 (mdK ((rk)) (o)).length cr278_1, .slice Ar278_2 (mdS ((rk)) (o)).length cr278_2] (by kernel_rfl) (by kernel_rfl) (by kernel_rfl) (by kernel_rfl) (fun w285 hM284 => ?_)
          have hM286 : Step V w [] V272 _ ([.blk b27 (.cells #[bs (f), bs (t)] 40), .blk b5 (.cells #[.slice Ar278_1 (mdK ((rk)) (o)).length cr278_1, .slice Ar278_2 (mdS ((rk)) (o)).length cr278_2] 25), .blk b2 (.cells #[.slice Ark (rk).length crk, .slice Arq (rq).length crq] 25)]) := hM284
          refine wpF_seg 1 (by kernel_rfl) ?_
          refine wpF_end _ (by kernel_rfl) (then_n (hK255 _ _ ?_))
          refine wp_ret (ng_r (?_))
          refine retN [.agg #[.slice Ar278_1 (mdK ((rk)) (o)).length cr278_1, .slice Ar278_2 (mdS ((rk)) (o)).length cr278_2], .int .i64 (mdE ((rk)) (o))] (.tuple #[.agg #[.slice Ar278_1 (mdK ((rk)) (o)).length cr278_1, .slice Ar278_2 (mdS ((rk)) (o)).length cr278_2], .int .i64 (mdE ((rk)) (o))]) Try.results20 (.cell (by kernel_rfl) (by kernel_rfl) hM286 1 rfl (by kernel_rfl) (.tmp (by kernel_rfl) (by kernel_rfl) .nil)) (by kernel_rfl) (hRet _ _ ⟨_, _, rfl, hM286.clear, ?_⟩)
          -- end ffLff
          have hrun := (by assumption : runP rq f0 t0 rq.length = (o, ld, f, t))
          refine ⟨Ar278_1, cr278_1, Ar278_2, cr278_2, ?_, ?_, ?_⟩
          · first | (simp only [snK, snQ, snE, snS, spO, hrun, hr, h17, h208, h24, h254, h50, h79, h96, cond_true, cond_false] <;> rfl) | (simp only [snK, snQ, snE, snS, hr, h17, h208, h24, h254, h50, h79, h96, cond_true, cond_false] <;> rfl) | (simp only [snK, snQ, snE, hr.1, hr.2, cond_false] <;> rfl)
          · first | exact r279 | (exact Rd.eq r279 (by first | (simp only [snK, snQ, snE, snS, spO, hrun, hr, h17, h208, h24, h254, h50, h79, h96, cond_true, cond_false]; done) | (simp only [snK, snQ, snE, snS, hr, h17, h208, h24, h254, h50, h79, h96, cond_true, cond_false]; done) | (simp only [snK, snQ, snE, hr.1, cond_false]; done)))
          · first | exact r280 | (exact Rd.eq r280 (by first | (simp only [snK, snQ, snE, snS, spO, hrun, hr, h17, h208, h24, h254, h50, h79, h96, cond_true, cond_false]; done) | (simp only [snK, snQ, snE, snS, hr, h17, h208, h24, h254, h50, h79, h96, cond_true, cond_false]; done) | (simp only [snK, snQ, snE, hr.1, cond_false]; done)))

end Go.Vk
