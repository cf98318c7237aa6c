/- Contracts of the second seat's functions, part P: printed by wip/tools/st.py. -/
import Derived.Test.YtnibbocbefnnnaaRA
import Derived.Test.YtnibbocbefnnnaaRC
import Derived.Test.YtnibbocbefnnnaaRO
set_option linter.unusedVariables false
set_option linter.unusedSimpArgs false
namespace Go.Vk
open Go.Proofs
set_option maxHeartbeats 4000000 in
set_option maxRecDepth 100000 in
theorem f21 (V : VT) (w : World) (hV : V.inW w) (Ark : Option Addr) (crk : Nat) (rk : List Str) (hrk : Rd strK V Ark crk rk) (Arq : Option Addr) (crq : Nat) (rq : List ((Str × Str))) (hrq : Rd (prK strK strK) V Arq crq rq) (f0 : Str) (hf0 : f0.length ≤ maxL) (t0 : Str) (ht0 : t0.length ≤ maxL) :
    Calls Try.prog 21 #[.agg #[.slice Ark (rk).length crk, .slice Arq (rq).length crq], bs (f0), bs (t0)] w (RetP V w fun rv V' => ∃ (A1 : Option Addr), ∃ (c1 : Nat), ∃ (A2 : Option Addr), ∃ (c2 : Nat), rv = .tuple #[.agg #[.slice A1 (rsK rk rq f0 t0).length c1, .slice A2 (rsS rk rq f0 t0).length c2], .int .i64 (rsE rk rq f0 t0)] ∧ Rd strK V' A1 c1 (rsK rk rq f0 t0) ∧ Rd (prK strK strK) V' A2 c2 (rsS rk rq f0 t0)) := by
  have mxrk : rk.length ≤ 140737488355328 := hrk.max
  have mxrq : rq.length ≤ 140737488355328 := hrq.max
  have mxf0 : f0.length ≤ 140737488355328 := hf0
  have mxt0 : t0.length ≤ 140737488355328 := ht0
  refine calls_env (n := 96) Try.func21 (c := _) rfl Try.ntmps21 (by kernel_rfl) (fun R hRet => ?_)
  have hM0 : Step V w [] V w [] := Step.refl (St.nilE hV)
  refine wp_seq_k (fun K1 hK1 => ?_)
  refine wp_reg ?_
  refine wpF_box hM0 #[.slice Ark (rk).length crk, .slice Arq (rq).length crq] (h := (by kernel_rfl : opAt _ _ _ _ _ = some (.box 25 (.tmp 0), some 3))) (by kernel_rfl) (fun b2 w3 hM4 => ?_)
  obtain ⟨V5, le6, hM7, hc8⟩ := hM4.settle 0 rfl
  have hM9 : Step V w [] V5 _ ([]) := hM7
  refine wpF_alloc hM9 #[.slice none 0 0, .slice none 0 0] (h := (by kernel_rfl : opAt _ _ _ _ _ = some (.alloc 25, some 6))) (by kernel_rfl) (fun b10 w11 hM12 => ?_)
  refine wpF_seg 1 (by kernel_rfl) ?_
  refine wpF_end _ (by kernel_rfl) (then_n (hK1 _ _ ?_))
  refine wp_seq_k (fun K13 hK13 => ?_)
  refine wp_seq_k (fun K14 hK14 => ?_)
  refine wp_reg ?_
  refine gF hM12 (.load 25 (.tmp 3)) (some 15) (by kernel_rfl) (Y_loadB #[.slice Ark (rk).length crk, .slice Arq (rq).length crq] hc8 (off := 0) (by kernel_rfl) (.agg #[.slice Ark (rk).length crk, .slice Arq (rq).length crq]) (by kernel_rfl)) ?_
  refine wpF_callP hM12 (f := 59) (caps := #[]) (h := (by kernel_rfl : opAt _ _ _ _ _ = some (.call (.mk (.value (.func 59)) #[(.tmp 15)] #[25]), some 16))) (by kernel_rfl) (by kernel_rfl) (by kernel_rfl) (f59 _ _ hM12.inW Ark crk (rk) (hrk.up hM12.le) Arq crq (rq) (hrq.up hM12.le)) (fun v15 V16 w17 le18 hM19 hp20 => ?_)
  obtain rfl := hp20
  refine wpF_seg 1 (by kernel_rfl) ?_
  refine wpF_end _ (by kernel_rfl) (then_n (hK14 _ _ ?_))
  refine wp_if (!(rightB (rk) (rq))) (by kernel_rfl) (fun h21 => ?_) (fun h21 => ?_)
  · -- t
    have h22 : (rightB (rk) (rq)) = false := by simpa using h21
    refine wp_seq_k (fun K23 hK23 => ?_)
    refine wp_reg ?_
    refine wpF_seg 1 (by kernel_rfl) ?_
    refine wpF_store hM19 0 rfl (h := (by kernel_rfl : opAt _ _ _ _ _ = some (.store 25 (.tmp 6) (.tmp 18), none))) (off := 0) (by kernel_rfl) #[.slice none 0 0, .slice none 0 0] (by kernel_rfl) (by kernel_rfl) (by kernel_rfl) (by kernel_rfl) (fun w25 hM24 => ?_)
    have hM26 : Step V w [] V16 _ ([.blk b10 (.cells #[.slice none 0 0, .slice none 0 0] 25)]) := hM24
    refine wpF_seg 1 (by kernel_rfl) ?_
    refine wpF_end _ (by kernel_rfl) (then_n (hK23 _ _ ?_))
    refine wp_ret (then_r (?_))
    refine retN [.agg #[.slice none 0 0, .slice none 0 0], .int .i64 (4)] (.tuple #[.agg #[.slice none 0 0, .slice none 0 0], .int .i64 (4)]) Try.results21 (.cell (by kernel_rfl) (by kernel_rfl) hM26 0 rfl (by kernel_rfl) (.tmp (by kernel_rfl) (by kernel_rfl) .nil)) (by kernel_rfl) (hRet _ _ ⟨_, _, rfl, hM26.clear, ?_⟩)
    -- end t
    refine ⟨none, 0, none, 0, ?_, ?_, ?_⟩
    · first | (simp only [rsK, rsS, rsE, mdK, mdS, mdE, refO, hrun, h21, h22, cond_true, cond_false] <;> rfl) | (simp only [rsK, rsS, rsE, h21, h22, cond_true, cond_false] <;> rfl)
    · first | exact (Rd.nil _ _) | (exact Rd.eq (Rd.nil _ _) (by first | (simp only [rsK, rsS, rsE, mdK, mdS, mdE, refO, hrun, h21, h22, cond_true, cond_false]; done) | (simp only [rsK, rsS, rsE, h21, h22, cond_true, cond_false]; done)))
    · first | exact (Rd.nil _ _) | (exact Rd.eq (Rd.nil _ _) (by first | (simp only [rsK, rsS, rsE, mdK, mdS, mdE, refO, hrun, h21, h22, cond_true, cond_false]; done) | (simp only [rsK, rsS, rsE, h21, h22, cond_true, cond_false]; done)))
  · -- f
    have h27 : (rightB (rk) (rq)) = true := by simpa using h21
    have hrl := right_len (by assumption : rightB rk rq = true)
    refine wp_skip (then_n (hK13 _ _ ?_))
    refine wp_seq_k (fun K28 hK28 => ?_)
    refine wp_reg ?_
    refine wpF_seg 3 (by kernel_rfl) ?_
    refine wpF_alloc hM19 #[bs ([]), bs ([])] (h := (by kernel_rfl : opAt _ _ _ _ _ = some (.alloc 40, some 8))) (by kernel_rfl) (fun b29 w30 hM31 => ?_)
    refine wpF_store hM31 0 rfl (h := (by kernel_rfl : opAt _ _ _ _ _ = some (.store 40 (.tmp 8) (.tmp 21), none))) (off := 0) (by kernel_rfl) #[bs (f0), bs (t0)] (by kernel_rfl) (by kernel_rfl) (by kernel_rfl) (by kernel_rfl) (fun w33 hM32 => ?_)
    have hM34 : Step V w [] V16 _ ([.blk b29 (.cells #[bs (f0), bs (t0)] 40), .blk b10 (.cells #[.slice none 0 0, .slice none 0 0] 25)]) := hM32
    refine wpF_end _ (by kernel_rfl) (then_n (hK28 _ _ ?_))
    refine wp_seq_k (fun K35 hK35 => ?_)
    refine wp_seq_k (fun K36 hK36 => ?_)
    refine wp_reg ?_
    refine gF hM34 (.load 40 (.tmp 8)) (some 22) (by kernel_rfl) (Y_load 0 rfl (off := 0) (by kernel_rfl) (.agg #[bs (f0), bs (t0)]) (by kernel_rfl)) ?_
    refine wpF_callP hM34 (f := 65) (caps := #[]) (h := (by kernel_rfl : opAt _ _ _ _ _ = some (.call (.mk (.value (.func 65)) #[(.tmp 22)] #[40]), some 23))) (by kernel_rfl) (by kernel_rfl) (by kernel_rfl) (f65 _ _ hM34.inW (f0) (hf0) (t0) (ht0)) (fun v37 V38 w39 le40 hM41 hp42 => ?_)
    obtain rfl := hp42
    refine wpF_seg 1 (by kernel_rfl) ?_
    refine wpF_end _ (by kernel_rfl) (then_n (hK36 _ _ ?_))
    refine wp_if (!(hasB (f0) (t0))) (by kernel_rfl) (fun h43 => ?_) (fun h43 => ?_)
    · -- ft
      have h44 : (hasB (f0) (t0)) = false := by simpa using h43
      refine wp_seq_k (fun K45 hK45 => ?_)
      refine wp_reg ?_
      refine gF hM41 (.load 25 (.tmp 3)) (some 25) (by kernel_rfl) (Y_loadB #[.slice Ark (rk).length crk, .slice Arq (rq).length crq] (fun i v hi => (le18.trans le40) _ _ _ (hc8 i v hi)) (off := 0) (by kernel_rfl) (.agg #[.slice Ark (rk).length crk, .slice Arq (rq).length crq]) (by kernel_rfl)) ?_
      refine wpF_store hM41 1 rfl (h := (by kernel_rfl : opAt _ _ _ _ _ = some (.store 25 (.tmp 6) (.tmp 25), none))) (off := 0) (by kernel_rfl) #[.slice Ark (rk).length crk, .slice Arq (rq).length crq] (by kernel_rfl) (by kernel_rfl) (by kernel_rfl) (by kernel_rfl) (fun w47 hM46 => ?_)
      have hM48 : Step V w [] V38 _ ([.blk b29 (.cells #[bs (f0), bs (t0)] 40), .blk b10 (.cells #[.slice Ark (rk).length crk, .slice Arq (rq).length crq] 25)]) := hM46
      refine wpF_seg 1 (by kernel_rfl) ?_
      refine wpF_end _ (by kernel_rfl) (then_n (hK45 _ _ ?_))
      refine wp_ret (then_r (?_))
      refine retN [.agg #[.slice Ark (rk).length crk, .slice Arq (rq).length crq], .int .i64 (0)] (.tuple #[.agg #[.slice Ark (rk).length crk, .slice Arq (rq).length crq], .int .i64 (0)]) Try.results21 (.cell (by kernel_rfl) (by kernel_rfl) hM48 1 rfl (by kernel_rfl) (.tmp (by kernel_rfl) (by kernel_rfl) .nil)) (by kernel_rfl) (hRet _ _ ⟨_, _, rfl, hM48.clear, ?_⟩)
      -- end ft
      refine ⟨Ark, crk, Arq, crq, ?_, ?_, ?_⟩
      · first | (simp only [rsK, rsS, rsE, mdK, mdS, mdE, refO, hrun, h21, h27, h43, h44, cond_true, cond_false] <;> rfl) | (simp only [rsK, rsS, rsE, h21, h27, h43, h44, cond_true, cond_false] <;> rfl)
      · first | exact (hrk.up hM48.le) | (exact Rd.eq (hrk.up hM48.le) (by first | (simp only [rsK, rsS, rsE, mdK, mdS, mdE, refO, hrun, h21, h27, h43, h44, cond_true, cond_false]; done) | (simp only [rsK, rsS, rsE, h21, h27, h43, h44, cond_true, cond_false]; done)))
      · first | exact (hrq.up hM48.le) | (exact Rd.eq (hrq.up hM48.le) (by first | (simp only [rsK, rsS, rsE, mdK, mdS, mdE, refO, hrun, h21, h27, h43, h44, cond_true, cond_false]; done) | (simp only [rsK, rsS, rsE, h21, h27, h43, h44, cond_true, cond_false]; done)))
    · -- ff
      have h49 : (hasB (f0) (t0)) = true := by simpa using h43
      refine wp_skip (then_n (hK35 _ _ ?_))
      refine wp_seq_k (fun K50 hK50 => ?_)
      refine wp_reg ?_
      refine wpF_seg 2 (by kernel_rfl) ?_
      refine wpF_end _ (by kernel_rfl) (then_n (hK50 _ _ ?_))
      refine wp_seq_k (fun K51 hK51 => ?_)
      refine wp_seq_k (fun K52 hK52 => ?_)
      refine wp_reg ?_
      refine wpF_seg 1 (by kernel_rfl) ?_
      refine wpF_end _ (by kernel_rfl) (then_n (hK52 _ _ ?_))
      refine wp_block ?_
      have hM54 := hM41.nilrow (prK strK strK) 40
      have hM55 : Step V w [] V38 _ ([.row (prK strK strK) 40 none 0 (([] : List ((Str × Str)))), .blk b29 (.cells #[bs (f0), bs (t0)] 40), .blk b10 (.cells #[.slice none 0 0, .slice none 0 0] 25)]) := hM54
      have hM56 := hM55.nilrow (prK strK strK) 40
      have hM57 : Step V w [] V38 _ ([.row (prK strK strK) 40 none 0 (([] : List ((Str × Str)))), .row (prK strK strK) 40 none 0 (([] : List ((Str × Str)))), .blk b29 (.cells #[bs (f0), bs (t0)] 40), .blk b10 (.cells #[.slice none 0 0, .slice none 0 0] 25)]) := hM56
      refine wp_base [(3, .pointer (some ⟨b2, 0, none⟩)), (6, .pointer (some ⟨b10, 0, none⟩)), (7, .int .i64 (0)), (8, .pointer (some ⟨b29, 0, none⟩)), (9, .slice none (([] : List (Str × Str))).length 0), (10, .slice none (([] : List (Str × Str))).length 0), (11, .int .i64 ((0 : Int)))] (by kernel_rfl) (fun g58 => ?_)
      refine wp_loopX (fun (x_ : Nat × List (Str × Str) × List (Str × Str) × Str × Str) a_ w_ => ∃ (g : Nat → Value) (V_ : VT), ∃ (Ar9 : Option Addr) (cr9 : Nat), ∃ (Ar10 : Option Addr) (cr10 : Nat), a_ = env 96 [(3, .pointer (some ⟨b2, 0, none⟩)), (6, .pointer (some ⟨b10, 0, none⟩)), (7, .int .i64 (0)), (8, .pointer (some ⟨b29, 0, none⟩)), (9, .slice Ar9 (x_.2.1).length cr9), (10, .slice Ar10 (x_.2.2.1).length cr10), (11, .int .i64 ((x_.1 : Int)))] g ∧ Step V w [] V_ w_ [.row (prK strK strK) 40 Ar10 cr10 (x_.2.2.1), .row (prK strK strK) 40 Ar9 cr9 (x_.2.1), .blk b29 (.cells #[bs (x_.2.2.2.1), bs (x_.2.2.2.2)] 40), .blk b10 (.cells #[.slice none 0 0, .slice none 0 0] 25)] ∧ VT.le V38 V_ ∧ (x_.1 ≤ rq.length) ∧ (runR rq f0 t0 x_.1 = (x_.2.1, x_.2.2.1, x_.2.2.2.1, x_.2.2.2.2)) ∧ ((x_.2.2.2.1).length ≤ 140737488355328) ∧ ((x_.2.2.2.2).length ≤ 140737488355328) ∧ ((x_.2.1).length + (x_.2.2.1).length ≤ x_.1)) (fun (x_ : Nat × List (Str × Str) × List (Str × Str) × Str × Str) => rq.length - x_.1) ((0 : Nat), (([] : List (Str × Str)) : List (Str × Str)), (([] : List (Str × Str)) : List (Str × Str)), (f0 : Str), (t0 : Str)) ⟨g58, V38, none, 0, none, 0, rfl, hM57, VT.le.refl _, by omega, by rfl, by assumption, by assumption, by simp⟩ ?_
      rintro ⟨k, ah, be, f, t⟩ a_ w60 ⟨g59, Vl53, Ar_639, cr_639, Ar_6310, cr_6310, rfl, hM61, le62, hi63_0, hi63_1, hi63_2, hi63_3, hi63_4⟩ K63 hK63
      replace hi63_0 : k ≤ rq.length := hi63_0
      replace hi63_1 : runR rq f0 t0 k = (ah, be, f, t) := hi63_1
      replace hi63_2 : (f).length ≤ 140737488355328 := hi63_2
      replace hi63_3 : (t).length ≤ 140737488355328 := hi63_3
      replace hi63_4 : (ah).length + (be).length ≤ k := hi63_4
      refine wp_seq_k (fun K64 hK64 => ?_)
      refine wp_seq_k (fun K65 hK65 => ?_)
      refine wp_reg ?_
      refine wpF_seg 2 (by kernel_rfl) ?_
      refine gF hM61 (.load 23 (.tmp 27)) (some 28) (by kernel_rfl) (Y_loadB #[.slice Ark (rk).length crk, .slice Arq (rq).length crq] (fun i v hi => ((le18.trans le40).trans le62) _ _ _ (hc8 i v hi)) (off := 1) (by kernel_rfl) (.slice Arq (rq).length crq) (by kernel_rfl)) ?_
      refine wpF_seg 2 (by kernel_rfl) ?_
      refine wpF_end _ (by kernel_rfl) (then_n (hK65 _ _ ?_))
      refine wp_if (decide (((k : Int)) < ((rq.length : Int)))) (by kernel_rfl) (fun h66 => ?_) (fun h66 => ?_)
      · -- ffLt
        have p67 : (((k : Int)) < ((rq.length : Int))) := of_decide_eq_true h66
        refine wp_skip (then_n (hK64 _ _ ?_))
        refine wp_seq_k (fun K68 hK68 => ?_)
        refine wp_block ?_
        refine wp_seq_k (fun K69 hK69 => ?_)
        refine wp_reg ?_
        refine wpF_seg 1 (by kernel_rfl) ?_
        refine gF hM61 (.load 23 (.tmp 33)) (some 34) (by kernel_rfl) (Y_loadB #[.slice Ark (rk).length crk, .slice Arq (rq).length crq] (fun i v hi => ((le18.trans le40).trans le62) _ _ _ (hc8 i v hi)) (off := 1) (by kernel_rfl) (.slice Arq (rq).length crq) (by kernel_rfl)) ?_
        refine wpF_seg 1 (by kernel_rfl) ?_
        refine gF_index (A := Arq) (c := crq) (hrq.up hM61.le) .i64 ((k : Int)) (h := (by kernel_rfl : opAt _ _ _ _ _ = some (.indexAddr 23 (.tmp 34) (.tmp 35), some 36))) (e := 40) (by kernel_rfl) (by kernel_rfl) (by kernel_rfl) (k) rfl (by omega) (fun b70 o71 at_b70 => ?_)
        have c72 : Vl53 b70 o71 = some (bs (rq.getD (k) ([], [])).1) := (At.str (At.pr at_b70).1).1
        have l73 : (rq.getD (k) ([], [])).1.length ≤ 140737488355328 := (At.str (At.pr at_b70).1).2
        have c74 : Vl53 b70 (o71 + 1) = some (bs (rq.getD (k) ([], [])).2) := (At.str (At.pr at_b70).2).1
        have l75 : (rq.getD (k) ([], [])).2.length ≤ 140737488355328 := (At.str (At.pr at_b70).2).2
        refine gF hM61 (.load 40 (.tmp 36)) (some 37) (by kernel_rfl) (Y_loadS (b := b70) (off := o71) [bs ((rq.getD (k) ([], [])).1), bs ((rq.getD (k) ([], [])).2)] (cells2 c72 c74) (by kernel_rfl) (by kernel_rfl) (by kernel_rfl)) ?_
        refine wpF_alloc hM61 #[bs ([]), bs ([])] (h := (by kernel_rfl : opAt _ _ _ _ _ = some (.alloc 40, some 12))) (by kernel_rfl) (fun b76 w77 hM78 => ?_)
        refine wpF_store hM78 0 rfl (h := (by kernel_rfl : opAt _ _ _ _ _ = some (.store 40 (.tmp 12) (.tmp 37), none))) (off := 0) (by kernel_rfl) #[bs ((rq.getD (k) ([], [])).1), bs ((rq.getD (k) ([], [])).2)] (by kernel_rfl) (by kernel_rfl) (by kernel_rfl) (by kernel_rfl) (fun w80 hM79 => ?_)
        have hM81 : Step V w [] Vl53 _ ([.blk b76 (.cells #[bs ((rq.getD (k) ([], [])).1), bs ((rq.getD (k) ([], [])).2)] 40), .row (prK strK strK) 40 Ar_6310 cr_6310 (be), .row (prK strK strK) 40 Ar_639 cr_639 (ah), .blk b29 (.cells #[bs (f), bs (t)] 40), .blk b10 (.cells #[.slice none 0 0, .slice none 0 0] 25)]) := hM79
        refine wpF_end _ (by kernel_rfl) (then_n (hK69 _ _ ?_))
        refine wp_block ?_
        refine wp_seq_k (fun K82 hK82 => ?_)
        refine wp_reg ?_
        refine gF hM81 (.load 40 (.tmp 12)) (some 65) (by kernel_rfl) (Y_load 0 rfl (off := 0) (by kernel_rfl) (.agg #[bs ((rq.getD (k) ([], [])).1), bs ((rq.getD (k) ([], [])).2)]) (by kernel_rfl)) ?_
        refine gF hM81 (.load 40 (.tmp 8)) (some 66) (by kernel_rfl) (Y_load 3 rfl (off := 0) (by kernel_rfl) (.agg #[bs (f), bs (t)]) (by kernel_rfl)) ?_
        refine wpF_callP hM81 (f := 66) (caps := #[]) (h := (by kernel_rfl : opAt _ _ _ _ _ = some (.call (.mk (.value (.func 66)) #[(.tmp 65), (.tmp 66)] #[40, 40]), some 67))) (by kernel_rfl) (by kernel_rfl) (by kernel_rfl) (f66 _ _ hM81.inW ((rq.getD (k) ([], [])).1) (l73) ((rq.getD (k) ([], [])).2) (l75) (f) (by first | decide | (simp only [maxL, List.length_append, List.length_cons, List.length_nil]; omega)) (t) (by first | decide | (simp only [maxL, List.length_append, List.length_cons, List.length_nil]; omega))) (fun v83 V84 w85 le86 hM87 hp88 => ?_)
        obtain rfl := hp88
        refine wpF_seg 1 (by kernel_rfl) ?_
        refine wpF_end _ (by kernel_rfl) (then_n (hK82 _ _ ?_))
        refine wp_if (apB ((rq.getD (k) ([], [])).2) (f)) (by kernel_rfl) (fun h89 => ?_) (fun h89 => ?_)
        · -- ffLtt
          refine wp_reg ?_
          refine wpF_seg 1 (by kernel_rfl) ?_
          refine gF hM87 (.load 40 (.tmp 12)) (some 69) (by kernel_rfl) (Y_load 0 rfl (off := 0) (by kernel_rfl) (.agg #[bs ((rq.getD (k) ([], [])).1), bs ((rq.getD (k) ([], [])).2)]) (by kernel_rfl)) ?_
          refine wpF_litR (prK strK strK) hM87 #[bs ((rq.getD (k) ([], [])).1), bs ((rq.getD (k) ([], [])).2)] (h := (by kernel_rfl : opAt _ _ _ _ _ = some (.buildSlice 23 1 #[(0, (.tmp 69))], some 70))) (e := 40) (by kernel_rfl) ([((rq.getD (k) ([], [])).1, (rq.getD (k) ([], [])).2)]) (Reps.single (K := (prK strK strK)) (x := ((rq.getD (k) ([], [])).1, (rq.getD (k) ([], [])).2)) ⟨[bs ((rq.getD (k) ([], [])).1)], [bs ((rq.getD (k) ([], [])).2)], rfl, ⟨rfl, l73⟩, ⟨rfl, l75⟩⟩) rfl (by simp [maxL]) (fun A90 c91 V94 w92 le95 hM93 r96 => ?_)
          refine wpF_append (by_ := 32) hM93 2 rfl (h := (by kernel_rfl : opAt _ _ _ _ _ = some (.call (.mk (.builtin .append) #[(.tmp 68), (.tmp 70)] #[23, 23]), some 71))) (by kernel_rfl) (by kernel_rfl) (by kernel_rfl) (by kernel_rfl) (by kernel_rfl) (by kernel_rfl) (by kernel_rfl) (Src.rd r96) (by first | omega | (simp only [List.length_append, List.length_cons, List.length_nil]; omega)) (fun A97 c98 w99 hM100 => ?_)
          have hM101 : Step V w [] V94 _ ([.row (prK strK strK) 40 A97 c98 (ah ++ [((rq.getD (k) ([], [])).1, (rq.getD (k) ([], [])).2)]), .blk b76 (.cells #[bs ((rq.getD (k) ([], [])).1), bs ((rq.getD (k) ([], [])).2)] 40), .row (prK strK strK) 40 Ar_6310 cr_6310 (be), .blk b29 (.cells #[bs (f), bs (t)] 40), .blk b10 (.cells #[.slice none 0 0, .slice none 0 0] 25)]) := hM100
          refine wpF_seg 1 (by kernel_rfl) ?_
          refine wpF_end _ (by kernel_rfl) (blk_n (blk_n (then_n (hK68 _ _ ?_))))
          refine wp_reg ?_
          refine wpF_seg 1 (by kernel_rfl) ?_
          refine gF hM101 (.binOp .add 3 (.tmp 31) (.const (.int .i64 1)) 3) (some 32) (by kernel_rfl) (Y_add .i64 ((k : Int)) (1) ((k : Int) + 1) (by kernel_rfl) (by kernel_rfl) (wrap64_ok _ (by omega))) ?_
          refine wpF_seg 1 (by kernel_rfl) ?_
          refine wpF_base [(3, .pointer (some ⟨b2, 0, none⟩)), (6, .pointer (some ⟨b10, 0, none⟩)), (7, .int .i64 (0)), (8, .pointer (some ⟨b29, 0, none⟩)), (9, .slice A97 (ah ++ ([((rq.getD (k) ([], [])).1, (rq.getD (k) ([], [])).2)] : List (Str × Str))).length c98), (10, .slice Ar_6310 (be).length cr_6310), (11, .int .i64 ((k + 1 : Int)))] (by kernel_rfl) (fun g102 => ?_)
          have hM103 := (hM101.front 1 rfl).drop
          have hM104 := hM103.front 3 rfl
          have hM105 := hM104.front 3 rfl
          have hM106 := hM105.front 2 rfl
          have hM107 := hM106.front 3 rfl
          refine wpF_end _ (by kernel_rfl) (then_n (hK63 _ _ (k + 1, ah ++ ([((rq.getD (k) ([], [])).1, (rq.getD (k) ([], [])).2)] : List (Str × Str)), be, f, t) (by omega) ?_))
          refine ⟨g102, V94, A97, c98, Ar_6310, cr_6310, rfl, hM107, ((le62.trans le86).trans le95), ?_, ?_, ?_, ?_, ?_⟩
          · -- ffLtt inv 0
            omega
          · -- ffLtt inv 1
            rw [runR_n (by assumption)]; exact stepR_a (by assumption)
          · -- ffLtt inv 2
            first | assumption | omega
          · -- ffLtt inv 3
            first | assumption | omega
          · -- ffLtt inv 4
            first | omega | (simp only [List.length_append, List.length_cons, List.length_nil]; omega)
        · -- ffLtf
          refine wp_seq_k (fun K108 hK108 => ?_)
          refine wp_reg ?_
          refine gF hM87 (.load 40 (.tmp 8)) (some 73) (by kernel_rfl) (Y_load 3 rfl (off := 0) (by kernel_rfl) (.agg #[bs (f), bs (t)]) (by kernel_rfl)) ?_
          refine gF hM87 (.load 40 (.tmp 12)) (some 74) (by kernel_rfl) (Y_load 0 rfl (off := 0) (by kernel_rfl) (.agg #[bs ((rq.getD (k) ([], [])).1), bs ((rq.getD (k) ([], [])).2)]) (by kernel_rfl)) ?_
          refine wpF_callP hM87 (f := 66) (caps := #[]) (h := (by kernel_rfl : opAt _ _ _ _ _ = some (.call (.mk (.value (.func 66)) #[(.tmp 73), (.tmp 74)] #[40, 40]), some 75))) (by kernel_rfl) (by kernel_rfl) (by kernel_rfl) (f66 _ _ hM87.inW (f) (by first | decide | (simp only [maxL, List.length_append, List.length_cons, List.length_nil]; omega)) (t) (by first | decide | (simp only [maxL, List.length_append, List.length_cons, List.length_nil]; omega)) ((rq.getD (k) ([], [])).1) (l73) ((rq.getD (k) ([], [])).2) (l75)) (fun v109 V110 w111 le112 hM113 hp114 => ?_)
          obtain rfl := hp114
          refine wpF_seg 1 (by kernel_rfl) ?_
          refine wpF_end _ (by kernel_rfl) (then_n (hK108 _ _ ?_))
          refine wp_if (apB (t) ((rq.getD (k) ([], [])).1)) (by kernel_rfl) (fun h115 => ?_) (fun h115 => ?_)
          · -- ffLtft
            refine wp_reg ?_
            refine wpF_seg 1 (by kernel_rfl) ?_
            refine gF hM113 (.load 40 (.tmp 12)) (some 77) (by kernel_rfl) (Y_load 0 rfl (off := 0) (by kernel_rfl) (.agg #[bs ((rq.getD (k) ([], [])).1), bs ((rq.getD (k) ([], [])).2)]) (by kernel_rfl)) ?_
            refine wpF_litR (prK strK strK) hM113 #[bs ((rq.getD (k) ([], [])).1), bs ((rq.getD (k) ([], [])).2)] (h := (by kernel_rfl : opAt _ _ _ _ _ = some (.buildSlice 23 1 #[(0, (.tmp 77))], some 78))) (e := 40) (by kernel_rfl) ([((rq.getD (k) ([], [])).1, (rq.getD (k) ([], [])).2)]) (Reps.single (K := (prK strK strK)) (x := ((rq.getD (k) ([], [])).1, (rq.getD (k) ([], [])).2)) ⟨[bs ((rq.getD (k) ([], [])).1)], [bs ((rq.getD (k) ([], [])).2)], rfl, ⟨rfl, l73⟩, ⟨rfl, l75⟩⟩) rfl (by simp [maxL]) (fun A116 c117 V120 w118 le121 hM119 r122 => ?_)
            refine wpF_append (by_ := 32) hM119 1 rfl (h := (by kernel_rfl : opAt _ _ _ _ _ = some (.call (.mk (.builtin .append) #[(.tmp 76), (.tmp 78)] #[23, 23]), some 79))) (by kernel_rfl) (by kernel_rfl) (by kernel_rfl) (by kernel_rfl) (by kernel_rfl) (by kernel_rfl) (by kernel_rfl) (Src.rd r122) (by first | omega | (simp only [List.length_append, List.length_cons, List.length_nil]; omega)) (fun A123 c124 w125 hM126 => ?_)
            have hM127 : Step V w [] V120 _ ([.row (prK strK strK) 40 A123 c124 (be ++ [((rq.getD (k) ([], [])).1, (rq.getD (k) ([], [])).2)]), .blk b76 (.cells #[bs ((rq.getD (k) ([], [])).1), bs ((rq.getD (k) ([], [])).2)] 40), .row (prK strK strK) 40 Ar_639 cr_639 (ah), .blk b29 (.cells #[bs (f), bs (t)] 40), .blk b10 (.cells #[.slice none 0 0, .slice none 0 0] 25)]) := hM126
            refine wpF_seg 1 (by kernel_rfl) ?_
            refine wpF_end _ (by kernel_rfl) (blk_n (blk_n (then_n (hK68 _ _ ?_))))
            refine wp_reg ?_
            refine wpF_seg 1 (by kernel_rfl) ?_
            refine gF hM127 (.binOp .add 3 (.tmp 31) (.const (.int .i64 1)) 3) (some 32) (by kernel_rfl) (Y_add .i64 ((k : Int)) (1) ((k : Int) + 1) (by kernel_rfl) (by kernel_rfl) (wrap64_ok _ (by omega))) ?_
            refine wpF_seg 1 (by kernel_rfl) ?_
            refine wpF_base [(3, .pointer (some ⟨b2, 0, none⟩)), (6, .pointer (some ⟨b10, 0, none⟩)), (7, .int .i64 (0)), (8, .pointer (some ⟨b29, 0, none⟩)), (9, .slice Ar_639 (ah).length cr_639), (10, .slice A123 (be ++ ([((rq.getD (k) ([], [])).1, (rq.getD (k) ([], [])).2)] : List (Str × Str))).length c124), (11, .int .i64 ((k + 1 : Int)))] (by kernel_rfl) (fun g128 => ?_)
            have hM129 := (hM127.front 1 rfl).drop
            refine wpF_end _ (by kernel_rfl) (then_n (hK63 _ _ (k + 1, ah, be ++ ([((rq.getD (k) ([], [])).1, (rq.getD (k) ([], [])).2)] : List (Str × Str)), f, t) (by omega) ?_))
            refine ⟨g128, V120, Ar_639, cr_639, A123, c124, rfl, hM129, (((le62.trans le86).trans le112).trans le121), ?_, ?_, ?_, ?_, ?_⟩
            · -- ffLtft inv 0
              omega
            · -- ffLtft inv 1
              rw [runR_n (by assumption)]; exact stepR_b (by assumption) (by assumption)
            · -- ffLtft inv 2
              first | assumption | omega
            · -- ffLtft inv 3
              first | assumption | omega
            · -- ffLtft inv 4
              first | omega | (simp only [List.length_append, List.length_cons, List.length_nil]; omega)
          · -- ffLtff
            refine wp_seq_k (fun K130 hK130 => ?_)
            refine wp_seq_k (fun K131 hK131 => ?_)
            refine wp_reg ?_
            refine wpF_seg 1 (by kernel_rfl) ?_
            refine gF hM113 (.load 9 (.tmp 38)) (some 39) (by kernel_rfl) (Y_load 0 rfl (off := 0) (by kernel_rfl) (bs ((rq.getD (k) ([], [])).1)) (by kernel_rfl)) ?_
            refine wpF_seg 1 (by kernel_rfl) ?_
            refine gF hM113 (.load 9 (.tmp 40)) (some 41) (by kernel_rfl) (Y_load 3 rfl (off := 0) (by kernel_rfl) (bs (f)) (by kernel_rfl)) ?_
            refine wpF_callP hM113 (f := 60) (caps := #[]) (h := (by kernel_rfl : opAt _ _ _ _ _ = some (.call (.mk (.value (.func 60)) #[(.tmp 39), (.tmp 41)] #[9, 9]), some 42))) (by kernel_rfl) (by kernel_rfl) (by kernel_rfl) (f60 _ _ hM113.inW ((rq.getD (k) ([], [])).1) (l73) (f) (by first | decide | (simp only [maxL, List.length_append, List.length_cons, List.length_nil]; omega))) (fun v132 V133 w134 le135 hM136 hp137 => ?_)
            obtain rfl := hp137
            refine wpF_end _ (by kernel_rfl) (then_n (hK131 _ _ ?_))
            refine wp_if (decide (((rq.getD (k) ([], [])).1) < (f))) (by kernel_rfl) (fun h138 => ?_) (fun h138 => ?_)
            · -- ffLtfft
              have p139 : (((rq.getD (k) ([], [])).1) < (f)) := of_decide_eq_true h138
              refine wp_reg ?_
              refine wpF_seg 1 (by kernel_rfl) ?_
              refine gF hM136 (.load 9 (.tmp 43)) (some 44) (by kernel_rfl) (Y_load 0 rfl (off := 0) (by kernel_rfl) (bs ((rq.getD (k) ([], [])).1)) (by kernel_rfl)) ?_
              refine wpF_seg 1 (by kernel_rfl) ?_
              refine wpF_store hM136 3 rfl (h := (by kernel_rfl : opAt _ _ _ _ _ = some (.store 9 (.tmp 45) (.tmp 44), none))) (off := 0) (by kernel_rfl) #[bs ((rq.getD (k) ([], [])).1)] (by kernel_rfl) (by kernel_rfl) (by kernel_rfl) (by kernel_rfl) (fun w141 hM140 => ?_)
              have hM142 : Step V w [] V133 _ ([.blk b76 (.cells #[bs ((rq.getD (k) ([], [])).1), bs ((rq.getD (k) ([], [])).2)] 40), .row (prK strK strK) 40 Ar_6310 cr_6310 (be), .row (prK strK strK) 40 Ar_639 cr_639 (ah), .blk b29 (.cells #[bs ((rq.getD (k) ([], [])).1), bs (t)] 40), .blk b10 (.cells #[.slice none 0 0, .slice none 0 0] 25)]) := hM140
              refine wpF_end _ (by kernel_rfl) (then_n (hK130 _ _ ?_))
              refine wp_seq_k (fun K143 hK143 => ?_)
              refine wp_reg ?_
              refine wpF_seg 1 (by kernel_rfl) ?_
              refine gF hM142 (.load 9 (.tmp 46)) (some 47) (by kernel_rfl) (Y_load 0 rfl (off := 1) (by kernel_rfl) (bs ((rq.getD (k) ([], [])).2)) (by kernel_rfl)) ?_
              refine wpF_seg 2 (by kernel_rfl) ?_
              refine wpF_caseB 49 (decide (((rq.getD (k) ([], [])).2) = ([]))) (by kernel_rfl) (by kernel_rfl) (fun h144 => ?_) (fun h144 => ?_)
              · -- ffLtfftt
                have p145 : (((rq.getD (k) ([], [])).2) = ([])) := of_decide_eq_true h144
                refine wpF_seg 11 (by kernel_rfl) ?_
                refine wpF_end _ (by kernel_rfl) (then_n (hK143 _ _ ?_))
                refine wp_ct (by kernel_rfl) ?_
                refine wp_reg ?_
                refine wpF_seg 1 (by kernel_rfl) ?_
                refine gF hM142 (.load 9 (.tmp 61)) (some 62) (by kernel_rfl) (Y_load 0 rfl (off := 1) (by kernel_rfl) (bs ((rq.getD (k) ([], [])).2)) (by kernel_rfl)) ?_
                refine wpF_seg 1 (by kernel_rfl) ?_
                refine wpF_store hM142 3 rfl (h := (by kernel_rfl : opAt _ _ _ _ _ = some (.store 9 (.tmp 63) (.tmp 62), none))) (off := 1) (by kernel_rfl) #[bs ((rq.getD (k) ([], [])).2)] (by kernel_rfl) (by kernel_rfl) (by kernel_rfl) (by kernel_rfl) (fun w147 hM146 => ?_)
                have hM148 : Step V w [] V133 _ ([.blk b76 (.cells #[bs ((rq.getD (k) ([], [])).1), bs ((rq.getD (k) ([], [])).2)] 40), .row (prK strK strK) 40 Ar_6310 cr_6310 (be), .row (prK strK strK) 40 Ar_639 cr_639 (ah), .blk b29 (.cells #[bs ((rq.getD (k) ([], [])).1), bs ((rq.getD (k) ([], [])).2)] 40), .blk b10 (.cells #[.slice none 0 0, .slice none 0 0] 25)]) := hM146
                refine wpF_end _ (by kernel_rfl) (blk_n (blk_n (then_n (hK68 _ _ ?_))))
                refine wp_reg ?_
                refine wpF_seg 1 (by kernel_rfl) ?_
                refine gF hM148 (.binOp .add 3 (.tmp 31) (.const (.int .i64 1)) 3) (some 32) (by kernel_rfl) (Y_add .i64 ((k : Int)) (1) ((k : Int) + 1) (by kernel_rfl) (by kernel_rfl) (wrap64_ok _ (by omega))) ?_
                refine wpF_seg 1 (by kernel_rfl) ?_
                refine wpF_base [(3, .pointer (some ⟨b2, 0, none⟩)), (6, .pointer (some ⟨b10, 0, none⟩)), (7, .int .i64 (0)), (8, .pointer (some ⟨b29, 0, none⟩)), (9, .slice Ar_639 (ah).length cr_639), (10, .slice Ar_6310 (be).length cr_6310), (11, .int .i64 ((k + 1 : Int)))] (by kernel_rfl) (fun g149 => ?_)
                have hM150 := (hM148.front 0 rfl).drop
                refine wpF_end _ (by kernel_rfl) (then_n (hK63 _ _ (k + 1, ah, be, (rq.getD (k) ([], [])).1, (rq.getD (k) ([], [])).2) (by omega) ?_))
                refine ⟨g149, V133, Ar_639, cr_639, Ar_6310, cr_6310, rfl, hM150, (((le62.trans le86).trans le112).trans le135), ?_, ?_, ?_, ?_, ?_⟩
                · -- ffLtfftt inv 0
                  omega
                · -- ffLtfftt inv 1
                  rw [runR_n (by assumption)]; exact stepR_c (by assumption) (by assumption) (.inl ⟨(by assumption), rfl⟩) (.inl ⟨(by assumption), rfl⟩)
                · -- ffLtfftt inv 2
                  first | assumption | omega
                · -- ffLtfftt inv 3
                  first | assumption | omega
                · -- ffLtfftt inv 4
                  first | omega | (simp only [List.length_append, List.length_cons, List.length_nil]; omega)
              · -- ffLtfftf
                have p151 : ¬ (((rq.getD (k) ([], [])).2) = ([])) := of_decide_eq_false h144
                refine wpF_seg 1 (by kernel_rfl) ?_
                refine gF hM142 (.load 9 (.tmp 50)) (some 51) (by kernel_rfl) (Y_load 3 rfl (off := 1) (by kernel_rfl) (bs (t)) (by kernel_rfl)) ?_
                refine wpF_seg 2 (by kernel_rfl) ?_
                refine wpF_caseB 53 (!(decide ((t) = ([])))) (by kernel_rfl) (by kernel_rfl) (fun h152 => ?_) (fun h152 => ?_)
                · -- ffLtfftft
                  have h153 : decide ((t) = ([])) = false := by rw [← Bool.not_not (decide _), h152]; rfl
                  have p154 : ¬ ((t) = ([])) := of_decide_eq_false h153
                  refine wpF_seg 1 (by kernel_rfl) ?_
                  refine gF hM142 (.load 9 (.tmp 54)) (some 55) (by kernel_rfl) (Y_load 3 rfl (off := 1) (by kernel_rfl) (bs (t)) (by kernel_rfl)) ?_
                  refine wpF_seg 1 (by kernel_rfl) ?_
                  refine gF hM142 (.load 9 (.tmp 56)) (some 57) (by kernel_rfl) (Y_load 0 rfl (off := 1) (by kernel_rfl) (bs ((rq.getD (k) ([], [])).2)) (by kernel_rfl)) ?_
                  refine wpF_callP hM142 (f := 60) (caps := #[]) (h := (by kernel_rfl : opAt _ _ _ _ _ = some (.call (.mk (.value (.func 60)) #[(.tmp 55), (.tmp 57)] #[9, 9]), some 58))) (by kernel_rfl) (by kernel_rfl) (by kernel_rfl) (f60 _ _ hM142.inW (t) (by first | decide | (simp only [maxL, List.length_append, List.length_cons, List.length_nil]; omega)) ((rq.getD (k) ([], [])).2) (l75)) (fun v155 V156 w157 le158 hM159 hp160 => ?_)
                  obtain rfl := hp160
                  refine wpF_seg 2 (by kernel_rfl) ?_
                  refine wpF_end _ (by kernel_rfl) (then_n (hK143 _ _ ?_))
                  refine wp_if (decide ((t) < ((rq.getD (k) ([], [])).2))) (by kernel_rfl) (fun h161 => ?_) (fun h161 => ?_)
                  · -- ffLtfftftt
                    have p162 : ((t) < ((rq.getD (k) ([], [])).2)) := of_decide_eq_true h161
                    refine wp_reg ?_
                    refine wpF_seg 1 (by kernel_rfl) ?_
                    refine gF hM159 (.load 9 (.tmp 61)) (some 62) (by kernel_rfl) (Y_load 0 rfl (off := 1) (by kernel_rfl) (bs ((rq.getD (k) ([], [])).2)) (by kernel_rfl)) ?_
                    refine wpF_seg 1 (by kernel_rfl) ?_
                    refine wpF_store hM159 3 rfl (h := (by kernel_rfl : opAt _ _ _ _ _ = some (.store 9 (.tmp 63) (.tmp 62), none))) (off := 1) (by kernel_rfl) #[bs ((rq.getD (k) ([], [])).2)] (by kernel_rfl) (by kernel_rfl) (by kernel_rfl) (by kernel_rfl) (fun w164 hM163 => ?_)
                    have hM165 : Step V w [] V156 _ ([.blk b76 (.cells #[bs ((rq.getD (k) ([], [])).1), bs ((rq.getD (k) ([], [])).2)] 40), .row (prK strK strK) 40 Ar_6310 cr_6310 (be), .row (prK strK strK) 40 Ar_639 cr_639 (ah), .blk b29 (.cells #[bs ((rq.getD (k) ([], [])).1), bs ((rq.getD (k) ([], [])).2)] 40), .blk b10 (.cells #[.slice none 0 0, .slice none 0 0] 25)]) := hM163
                    refine wpF_end _ (by kernel_rfl) (blk_n (blk_n (then_n (hK68 _ _ ?_))))
                    refine wp_reg ?_
                    refine wpF_seg 1 (by kernel_rfl) ?_
                    refine gF hM165 (.binOp .add 3 (.tmp 31) (.const (.int .i64 1)) 3) (some 32) (by kernel_rfl) (Y_add .i64 ((k : Int)) (1) ((k : Int) + 1) (by kernel_rfl) (by kernel_rfl) (wrap64_ok _ (by omega))) ?_
                    refine wpF_seg 1 (by kernel_rfl) ?_
                    refine wpF_base [(3, .pointer (some ⟨b2, 0, none⟩)), (6, .pointer (some ⟨b10, 0, none⟩)), (7, .int .i64 (0)), (8, .pointer (some ⟨b29, 0, none⟩)), (9, .slice Ar_639 (ah).length cr_639), (10, .slice Ar_6310 (be).length cr_6310), (11, .int .i64 ((k + 1 : Int)))] (by kernel_rfl) (fun g166 => ?_)
                    have hM167 := (hM165.front 0 rfl).drop
                    refine wpF_end _ (by kernel_rfl) (then_n (hK63 _ _ (k + 1, ah, be, (rq.getD (k) ([], [])).1, (rq.getD (k) ([], [])).2) (by omega) ?_))
                    refine ⟨g166, V156, Ar_639, cr_639, Ar_6310, cr_6310, rfl, hM167, ((((le62.trans le86).trans le112).trans le135).trans le158), ?_, ?_, ?_, ?_, ?_⟩
                    · -- ffLtfftftt inv 0
                      omega
                    · -- ffLtfftftt inv 1
                      rw [runR_n (by assumption)]; exact stepR_c (by assumption) (by assumption) (.inl ⟨(by assumption), rfl⟩) (.inr (.inr (.inl ⟨(by assumption), (by assumption), (by assumption), rfl⟩)))
                    · -- ffLtfftftt inv 2
                      first | assumption | omega
                    · -- ffLtfftftt inv 3
                      first | assumption | omega
                    · -- ffLtfftftt inv 4
                      first | omega | (simp only [List.length_append, List.length_cons, List.length_nil]; omega)
                  · -- ffLtfftftf
                    have p168 : ¬ ((t) < ((rq.getD (k) ([], [])).2)) := of_decide_eq_false h161
                    refine wp_skip (blk_n (blk_n (then_n (hK68 _ _ ?_))))
                    refine wp_reg ?_
                    refine wpF_seg 1 (by kernel_rfl) ?_
                    refine gF hM159 (.binOp .add 3 (.tmp 31) (.const (.int .i64 1)) 3) (some 32) (by kernel_rfl) (Y_add .i64 ((k : Int)) (1) ((k : Int) + 1) (by kernel_rfl) (by kernel_rfl) (wrap64_ok _ (by omega))) ?_
                    refine wpF_seg 1 (by kernel_rfl) ?_
                    refine wpF_base [(3, .pointer (some ⟨b2, 0, none⟩)), (6, .pointer (some ⟨b10, 0, none⟩)), (7, .int .i64 (0)), (8, .pointer (some ⟨b29, 0, none⟩)), (9, .slice Ar_639 (ah).length cr_639), (10, .slice Ar_6310 (be).length cr_6310), (11, .int .i64 ((k + 1 : Int)))] (by kernel_rfl) (fun g169 => ?_)
                    have hM170 := (hM159.front 0 rfl).drop
                    refine wpF_end _ (by kernel_rfl) (then_n (hK63 _ _ (k + 1, ah, be, (rq.getD (k) ([], [])).1, t) (by omega) ?_))
                    refine ⟨g169, V156, Ar_639, cr_639, Ar_6310, cr_6310, rfl, hM170, ((((le62.trans le86).trans le112).trans le135).trans le158), ?_, ?_, ?_, ?_, ?_⟩
                    · -- ffLtfftftf inv 0
                      omega
                    · -- ffLtfftftf inv 1
                      rw [runR_n (by assumption)]; exact stepR_c (by assumption) (by assumption) (.inl ⟨(by assumption), rfl⟩) (.inr (.inr (.inr ⟨(by assumption), (by assumption), (by assumption), rfl⟩)))
                    · -- ffLtfftftf inv 2
                      first | assumption | omega
                    · -- ffLtfftftf inv 3
                      first | assumption | omega
                    · -- ffLtfftftf inv 4
                      first | omega | (simp only [List.length_append, List.length_cons, List.length_nil]; omega)
                · -- ffLtfftff
                  have h171 : decide ((t) = ([])) = true := by rw [← Bool.not_not (decide _), h152]; rfl
                  have p172 : ((t) = ([])) := of_decide_eq_true h171
                  refine wpF_seg 7 (by kernel_rfl) ?_
                  refine wpF_end _ (by kernel_rfl) (then_n (hK143 _ _ ?_))
                  refine wp_cf (by kernel_rfl) ?_
                  refine wp_skip (blk_n (blk_n (then_n (hK68 _ _ ?_))))
                  refine wp_reg ?_
                  refine wpF_seg 1 (by kernel_rfl) ?_
                  refine gF hM142 (.binOp .add 3 (.tmp 31) (.const (.int .i64 1)) 3) (some 32) (by kernel_rfl) (Y_add .i64 ((k : Int)) (1) ((k : Int) + 1) (by kernel_rfl) (by kernel_rfl) (wrap64_ok _ (by omega))) ?_
                  refine wpF_seg 1 (by kernel_rfl) ?_
                  refine wpF_base [(3, .pointer (some ⟨b2, 0, none⟩)), (6, .pointer (some ⟨b10, 0, none⟩)), (7, .int .i64 (0)), (8, .pointer (some ⟨b29, 0, none⟩)), (9, .slice Ar_639 (ah).length cr_639), (10, .slice Ar_6310 (be).length cr_6310), (11, .int .i64 ((k + 1 : Int)))] (by kernel_rfl) (fun g173 => ?_)
                  have hM174 := (hM142.front 0 rfl).drop
                  refine wpF_end _ (by kernel_rfl) (then_n (hK63 _ _ (k + 1, ah, be, (rq.getD (k) ([], [])).1, t) (by omega) ?_))
                  refine ⟨g173, V133, Ar_639, cr_639, Ar_6310, cr_6310, rfl, hM174, (((le62.trans le86).trans le112).trans le135), ?_, ?_, ?_, ?_, ?_⟩
                  · -- ffLtfftff inv 0
                    omega
                  · -- ffLtfftff inv 1
                    rw [runR_n (by assumption)]; exact stepR_c (by assumption) (by assumption) (.inl ⟨(by assumption), rfl⟩) (.inr (.inl ⟨(by assumption), (by assumption), rfl⟩))
                  · -- ffLtfftff inv 2
                    first | assumption | omega
                  · -- ffLtfftff inv 3
                    first | assumption | omega
                  · -- ffLtfftff inv 4
                    first | omega | (simp only [List.length_append, List.length_cons, List.length_nil]; omega)
            · -- ffLtfff
              have p175 : ¬ (((rq.getD (k) ([], [])).1) < (f)) := of_decide_eq_false h138
              refine wp_skip (then_n (hK130 _ _ ?_))
              refine wp_seq_k (fun K176 hK176 => ?_)
              refine wp_reg ?_
              refine wpF_seg 1 (by kernel_rfl) ?_
              refine gF hM136 (.load 9 (.tmp 46)) (some 47) (by kernel_rfl) (Y_load 0 rfl (off := 1) (by kernel_rfl) (bs ((rq.getD (k) ([], [])).2)) (by kernel_rfl)) ?_
              refine wpF_seg 2 (by kernel_rfl) ?_
              refine wpF_caseB 49 (decide (((rq.getD (k) ([], [])).2) = ([]))) (by kernel_rfl) (by kernel_rfl) (fun h177 => ?_) (fun h177 => ?_)
              · -- ffLtffft
                have p178 : (((rq.getD (k) ([], [])).2) = ([])) := of_decide_eq_true h177
                refine wpF_seg 11 (by kernel_rfl) ?_
                refine wpF_end _ (by kernel_rfl) (then_n (hK176 _ _ ?_))
                refine wp_ct (by kernel_rfl) ?_
                refine wp_reg ?_
                refine wpF_seg 1 (by kernel_rfl) ?_
                refine gF hM136 (.load 9 (.tmp 61)) (some 62) (by kernel_rfl) (Y_load 0 rfl (off := 1) (by kernel_rfl) (bs ((rq.getD (k) ([], [])).2)) (by kernel_rfl)) ?_
                refine wpF_seg 1 (by kernel_rfl) ?_
                refine wpF_store hM136 3 rfl (h := (by kernel_rfl : opAt _ _ _ _ _ = some (.store 9 (.tmp 63) (.tmp 62), none))) (off := 1) (by kernel_rfl) #[bs ((rq.getD (k) ([], [])).2)] (by kernel_rfl) (by kernel_rfl) (by kernel_rfl) (by kernel_rfl) (fun w180 hM179 => ?_)
                have hM181 : Step V w [] V133 _ ([.blk b76 (.cells #[bs ((rq.getD (k) ([], [])).1), bs ((rq.getD (k) ([], [])).2)] 40), .row (prK strK strK) 40 Ar_6310 cr_6310 (be), .row (prK strK strK) 40 Ar_639 cr_639 (ah), .blk b29 (.cells #[bs (f), bs ((rq.getD (k) ([], [])).2)] 40), .blk b10 (.cells #[.slice none 0 0, .slice none 0 0] 25)]) := hM179
                refine wpF_end _ (by kernel_rfl) (blk_n (blk_n (then_n (hK68 _ _ ?_))))
                refine wp_reg ?_
                refine wpF_seg 1 (by kernel_rfl) ?_
                refine gF hM181 (.binOp .add 3 (.tmp 31) (.const (.int .i64 1)) 3) (some 32) (by kernel_rfl) (Y_add .i64 ((k : Int)) (1) ((k : Int) + 1) (by kernel_rfl) (by kernel_rfl) (wrap64_ok _ (by omega))) ?_
                refine wpF_seg 1 (by kernel_rfl) ?_
                refine wpF_base [(3, .pointer (some ⟨b2, 0, none⟩)), (6, .pointer (some ⟨b10, 0, none⟩)), (7, .int .i64 (0)), (8, .pointer (some ⟨b29, 0, none⟩)), (9, .slice Ar_639 (ah).length cr_639), (10, .slice Ar_6310 (be).length cr_6310), (11, .int .i64 ((k + 1 : Int)))] (by kernel_rfl) (fun g182 => ?_)
                have hM183 := (hM181.front 0 rfl).drop
                refine wpF_end _ (by kernel_rfl) (then_n (hK63 _ _ (k + 1, ah, be, f, (rq.getD (k) ([], [])).2) (by omega) ?_))
                refine ⟨g182, V133, Ar_639, cr_639, Ar_6310, cr_6310, rfl, hM183, (((le62.trans le86).trans le112).trans le135), ?_, ?_, ?_, ?_, ?_⟩
                · -- ffLtffft inv 0
                  omega
                · -- ffLtffft inv 1
                  rw [runR_n (by assumption)]; exact stepR_c (by assumption) (by assumption) (.inr ⟨(by assumption), rfl⟩) (.inl ⟨(by assumption), rfl⟩)
                · -- ffLtffft inv 2
                  first | assumption | omega
                · -- ffLtffft inv 3
                  first | assumption | omega
                · -- ffLtffft inv 4
                  first | omega | (simp only [List.length_append, List.length_cons, List.length_nil]; omega)
              · -- ffLtffff
                have p184 : ¬ (((rq.getD (k) ([], [])).2) = ([])) := of_decide_eq_false h177
                refine wpF_seg 1 (by kernel_rfl) ?_
                refine gF hM136 (.load 9 (.tmp 50)) (some 51) (by kernel_rfl) (Y_load 3 rfl (off := 1) (by kernel_rfl) (bs (t)) (by kernel_rfl)) ?_
                refine wpF_seg 2 (by kernel_rfl) ?_
                refine wpF_caseB 53 (!(decide ((t) = ([])))) (by kernel_rfl) (by kernel_rfl) (fun h185 => ?_) (fun h185 => ?_)
                · -- ffLtfffft
                  have h186 : decide ((t) = ([])) = false := by rw [← Bool.not_not (decide _), h185]; rfl
                  have p187 : ¬ ((t) = ([])) := of_decide_eq_false h186
                  refine wpF_seg 1 (by kernel_rfl) ?_
                  refine gF hM136 (.load 9 (.tmp 54)) (some 55) (by kernel_rfl) (Y_load 3 rfl (off := 1) (by kernel_rfl) (bs (t)) (by kernel_rfl)) ?_
                  refine wpF_seg 1 (by kernel_rfl) ?_
                  refine gF hM136 (.load 9 (.tmp 56)) (some 57) (by kernel_rfl) (Y_load 0 rfl (off := 1) (by kernel_rfl) (bs ((rq.getD (k) ([], [])).2)) (by kernel_rfl)) ?_
                  refine wpF_callP hM136 (f := 60) (caps := #[]) (h := (by kernel_rfl : opAt _ _ _ _ _ = some (.call (.mk (.value (.func 60)) #[(.tmp 55), (.tmp 57)] #[9, 9]), some 58))) (by kernel_rfl) (by kernel_rfl) (by kernel_rfl) (f60 _ _ hM136.inW (t) (by first | decide | (simp only [maxL, List.length_append, List.length_cons, List.length_nil]; omega)) ((rq.getD (k) ([], [])).2) (l75)) (fun v188 V189 w190 le191 hM192 hp193 => ?_)
                  obtain rfl := hp193
                  refine wpF_seg 2 (by kernel_rfl) ?_
                  refine wpF_end _ (by kernel_rfl) (then_n (hK176 _ _ ?_))
                  refine wp_if (decide ((t) < ((rq.getD (k) ([], [])).2))) (by kernel_rfl) (fun h194 => ?_) (fun h194 => ?_)
                  · -- ffLtfffftt
                    have p195 : ((t) < ((rq.getD (k) ([], [])).2)) := of_decide_eq_true h194
                    refine wp_reg ?_
                    refine wpF_seg 1 (by kernel_rfl) ?_
                    refine gF hM192 (.load 9 (.tmp 61)) (some 62) (by kernel_rfl) (Y_load 0 rfl (off := 1) (by kernel_rfl) (bs ((rq.getD (k) ([], [])).2)) (by kernel_rfl)) ?_
                    refine wpF_seg 1 (by kernel_rfl) ?_
                    refine wpF_store hM192 3 rfl (h := (by kernel_rfl : opAt _ _ _ _ _ = some (.store 9 (.tmp 63) (.tmp 62), none))) (off := 1) (by kernel_rfl) #[bs ((rq.getD (k) ([], [])).2)] (by kernel_rfl) (by kernel_rfl) (by kernel_rfl) (by kernel_rfl) (fun w197 hM196 => ?_)
                    have hM198 : Step V w [] V189 _ ([.blk b76 (.cells #[bs ((rq.getD (k) ([], [])).1), bs ((rq.getD (k) ([], [])).2)] 40), .row (prK strK strK) 40 Ar_6310 cr_6310 (be), .row (prK strK strK) 40 Ar_639 cr_639 (ah), .blk b29 (.cells #[bs (f), bs ((rq.getD (k) ([], [])).2)] 40), .blk b10 (.cells #[.slice none 0 0, .slice none 0 0] 25)]) := hM196
                    refine wpF_end _ (by kernel_rfl) (blk_n (blk_n (then_n (hK68 _ _ ?_))))
                    refine wp_reg ?_
                    refine wpF_seg 1 (by kernel_rfl) ?_
                    refine gF hM198 (.binOp .add 3 (.tmp 31) (.const (.int .i64 1)) 3) (some 32) (by kernel_rfl) (Y_add .i64 ((k : Int)) (1) ((k : Int) + 1) (by kernel_rfl) (by kernel_rfl) (wrap64_ok _ (by omega))) ?_
                    refine wpF_seg 1 (by kernel_rfl) ?_
                    refine wpF_base [(3, .pointer (some ⟨b2, 0, none⟩)), (6, .pointer (some ⟨b10, 0, none⟩)), (7, .int .i64 (0)), (8, .pointer (some ⟨b29, 0, none⟩)), (9, .slice Ar_639 (ah).length cr_639), (10, .slice Ar_6310 (be).length cr_6310), (11, .int .i64 ((k + 1 : Int)))] (by kernel_rfl) (fun g199 => ?_)
                    have hM200 := (hM198.front 0 rfl).drop
                    refine wpF_end _ (by kernel_rfl) (then_n (hK63 _ _ (k + 1, ah, be, f, (rq.getD (k) ([], [])).2) (by omega) ?_))
                    refine ⟨g199, V189, Ar_639, cr_639, Ar_6310, cr_6310, rfl, hM200, ((((le62.trans le86).trans le112).trans le135).trans le191), ?_, ?_, ?_, ?_, ?_⟩
                    · -- ffLtfffftt inv 0
                      omega
                    · -- ffLtfffftt inv 1
                      rw [runR_n (by assumption)]; exact stepR_c (by assumption) (by assumption) (.inr ⟨(by assumption), rfl⟩) (.inr (.inr (.inl ⟨(by assumption), (by assumption), (by assumption), rfl⟩)))
                    · -- ffLtfffftt inv 2
                      first | assumption | omega
                    · -- ffLtfffftt inv 3
                      first | assumption | omega
                    · -- ffLtfffftt inv 4
                      first | omega | (simp only [List.length_append, List.length_cons, List.length_nil]; omega)
                  · -- ffLtfffftf
                    have p201 : ¬ ((t) < ((rq.getD (k) ([], [])).2)) := of_decide_eq_false h194
                    refine wp_skip (blk_n (blk_n (then_n (hK68 _ _ ?_))))
                    refine wp_reg ?_
                    refine wpF_seg 1 (by kernel_rfl) ?_
                    refine gF hM192 (.binOp .add 3 (.tmp 31) (.const (.int .i64 1)) 3) (some 32) (by kernel_rfl) (Y_add .i64 ((k : Int)) (1) ((k : Int) + 1) (by kernel_rfl) (by kernel_rfl) (wrap64_ok _ (by omega))) ?_
                    refine wpF_seg 1 (by kernel_rfl) ?_
                    refine wpF_base [(3, .pointer (some ⟨b2, 0, none⟩)), (6, .pointer (some ⟨b10, 0, none⟩)), (7, .int .i64 (0)), (8, .pointer (some ⟨b29, 0, none⟩)), (9, .slice Ar_639 (ah).length cr_639), (10, .slice Ar_6310 (be).length cr_6310), (11, .int .i64 ((k + 1 : Int)))] (by kernel_rfl) (fun g202 => ?_)
                    have hM203 := (hM192.front 0 rfl).drop
                    refine wpF_end _ (by kernel_rfl) (then_n (hK63 _ _ (k + 1, ah, be, f, t) (by omega) ?_))
                    refine ⟨g202, V189, Ar_639, cr_639, Ar_6310, cr_6310, rfl, hM203, ((((le62.trans le86).trans le112).trans le135).trans le191), ?_, ?_, ?_, ?_, ?_⟩
                    · -- ffLtfffftf inv 0
                      omega
                    · -- ffLtfffftf inv 1
                      rw [runR_n (by assumption)]; exact stepR_c (by assumption) (by assumption) (.inr ⟨(by assumption), rfl⟩) (.inr (.inr (.inr ⟨(by assumption), (by assumption), (by assumption), rfl⟩)))
                    · -- ffLtfffftf inv 2
                      first | assumption | omega
                    · -- ffLtfffftf inv 3
                      first | assumption | omega
                    · -- ffLtfffftf inv 4
                      first | omega | (simp only [List.length_append, List.length_cons, List.length_nil]; omega)
                · -- ffLtfffff
                  have h204 : decide ((t) = ([])) = true := by rw [← Bool.not_not (decide _), h185]; rfl
                  have p205 : ((t) = ([])) := of_decide_eq_true h204
                  refine wpF_seg 7 (by kernel_rfl) ?_
                  refine wpF_end _ (by kernel_rfl) (then_n (hK176 _ _ ?_))
                  refine wp_cf (by kernel_rfl) ?_
                  refine wp_skip (blk_n (blk_n (then_n (hK68 _ _ ?_))))
                  refine wp_reg ?_
                  refine wpF_seg 1 (by kernel_rfl) ?_
                  refine gF hM136 (.binOp .add 3 (.tmp 31) (.const (.int .i64 1)) 3) (some 32) (by kernel_rfl) (Y_add .i64 ((k : Int)) (1) ((k : Int) + 1) (by kernel_rfl) (by kernel_rfl) (wrap64_ok _ (by omega))) ?_
                  refine wpF_seg 1 (by kernel_rfl) ?_
                  refine wpF_base [(3, .pointer (some ⟨b2, 0, none⟩)), (6, .pointer (some ⟨b10, 0, none⟩)), (7, .int .i64 (0)), (8, .pointer (some ⟨b29, 0, none⟩)), (9, .slice Ar_639 (ah).length cr_639), (10, .slice Ar_6310 (be).length cr_6310), (11, .int .i64 ((k + 1 : Int)))] (by kernel_rfl) (fun g206 => ?_)
                  have hM207 := (hM136.front 0 rfl).drop
                  refine wpF_end _ (by kernel_rfl) (then_n (hK63 _ _ (k + 1, ah, be, f, t) (by omega) ?_))
                  refine ⟨g206, V133, Ar_639, cr_639, Ar_6310, cr_6310, rfl, hM207, (((le62.trans le86).trans le112).trans le135), ?_, ?_, ?_, ?_, ?_⟩
                  · -- ffLtfffff inv 0
                    omega
                  · -- ffLtfffff inv 1
                    rw [runR_n (by assumption)]; exact stepR_c (by assumption) (by assumption) (.inr ⟨(by assumption), rfl⟩) (.inr (.inl ⟨(by assumption), (by assumption), rfl⟩))
                  · -- ffLtfffff inv 2
                    first | assumption | omega
                  · -- ffLtfffff inv 3
                    first | assumption | omega
                  · -- ffLtfffff inv 4
                    first | omega | (simp only [List.length_append, List.length_cons, List.length_nil]; omega)
      · -- ffLf
        have p208 : ¬ (((k : Int)) < ((rq.length : Int))) := of_decide_eq_false h66
        refine wp_exit (then_x (then_x (blk_hit (then_n (hK51 _ _ ?_)))))
        obtain rfl : k = rq.length := by omega
        refine wp_seq_k (fun K209 hK209 => ?_)
        refine wp_base [(3, .pointer (some ⟨b2, 0, none⟩)), (6, .pointer (some ⟨b10, 0, none⟩)), (7, .int .i64 (0)), (8, .pointer (some ⟨b29, 0, none⟩)), (9, .slice Ar_639 (ah).length cr_639), (10, .slice Ar_6310 (be).length cr_6310)] (by kernel_rfl) (fun g210 => ?_)
        refine wp_drawN hM61 [(.blk b29 (.cells #[bs (f), bs (t)] 40), 9999)] (and_held 2 rfl no_held) [⟨4, fun b_ => .slice (some ⟨b_, 0, none⟩) 1 1, #[bs (f), bs (t)], 40⟩, ⟨12, fun b_ => .pointer (some ⟨b_, 0, none⟩), #[.slice none 0 0, .slice none 0 0], 25⟩] [0, 1, 2, 3, 6] [.f 4, .a 5, .a 7, .a 8, .p 9, .p 10, .p 11, .f 12, .a 13, .p 14] [.p 0, .p 1, .p 2, .p 3, .p 6, .s, .f 4, .a 5, .a 7, .a 8, .p 9, .p 10, .p 11, .f 12, .a 13, .p 14] rfl (by kernel_rfl) (by kernel_rfl) ?_
        refine h_seg 1 (by kernel_rfl) ?_
        refine gH (.load 22 (.tmp 81)) (some 82) (by kernel_rfl) (Y_loadB #[.slice Ark (rk).length crk, .slice Arq (rq).length crq] (fun i v hi => ((le18.trans le40).trans le62) _ _ _ (hc8 i v hi)) (off := 0) (by kernel_rfl) (.slice Ark (rk).length crk) (by kernel_rfl)) ?_
        refine h_seg 1 (by kernel_rfl) ?_
        refine gH (.load 40 (.tmp 8)) (some 84) (by kernel_rfl) (Y_load 0 (by kernel_rfl : (FOf _ _ _)[0]? = some (.blk b29 (.cells #[bs (f), bs (t)] 40))) (off := 0) (by kernel_rfl) (.agg #[bs (f), bs (t)]) (by kernel_rfl)) ?_
        refine h_seg 1 (by kernel_rfl) ?_
        refine h_s (and_fs (fre_lit (h := (by kernel_rfl : opAt _ _ _ _ _ = some (.buildSlice 23 1 #[(0, (.tmp 84))], some 85))) (by kernel_rfl)) (and_fs (fre_alloc (h := (by kernel_rfl : opAt _ _ _ _ _ = some (.alloc 25, some 13))) (by kernel_rfl)) no_fs)) ?_
        refine h_f (d := 85) ⟨4, fun b_ => .slice (some ⟨b_, 0, none⟩) 1 1, #[bs (f), bs (t)], 40⟩ (by kernel_rfl) (by kernel_rfl) (by kernel_rfl) (fun b211 => ?_)
        refine h_a (by kernel_rfl) (by kernel_rfl) (fun w212 X213 hM214 => ?_)
        have hM215 := hM214.blkrow 0 rfl (K := (prK strK strK)) (ys := [(f, t)]) (Reps.single (K := (prK strK strK)) (x := (f, t)) ⟨[bs (f)], [bs (t)], rfl, ⟨rfl, by first | decide | (simp only [maxL, List.length_append, List.length_cons, List.length_nil]; omega)⟩, ⟨rfl, by first | decide | (simp only [maxL, List.length_append, List.length_cons, List.length_nil]; omega)⟩⟩) (by simp [maxL])
        have hM216 : Step V w [] Vl53 _ ([.row (prK strK strK) 40 (some ⟨b211, 0, none⟩) 1 ([(f, t)]), .row (prK strK strK) 40 Ar_6310 cr_6310 (be), .row (prK strK strK) 40 Ar_639 cr_639 (ah), .blk b29 (.cells #[bs (f), bs (t)] 40), .blk b10 (.cells #[.slice none 0 0, .slice none 0 0] 25)] ++ X213) := hM215
        obtain ⟨V217, le218, hM219, r220⟩ := hM216.settleRow 0 rfl
        have hM221 : Step V w [] V217 _ ([.row (prK strK strK) 40 Ar_6310 cr_6310 (be), .row (prK strK strK) 40 Ar_639 cr_639 (ah), .blk b29 (.cells #[bs (f), bs (t)] 40), .blk b10 (.cells #[.slice none 0 0, .slice none 0 0] 25)] ++ X213) := hM219
        refine wpF_append (by_ := 32) hM221 1 rfl (h := (by kernel_rfl : opAt _ _ _ _ _ = some (.call (.mk (.builtin .append) #[(.tmp 83), (.tmp 85)] #[23, 23]), some 86))) (by kernel_rfl) (by kernel_rfl) (by kernel_rfl) (by kernel_rfl) (by kernel_rfl) (by kernel_rfl) (by kernel_rfl) (Src.rd r220) (by first | omega | (simp only [List.length_append, List.length_cons, List.length_nil]; omega)) (fun A222 c223 w224 hM225 => ?_)
        have hM226 : Step V w [] V217 _ ([.row (prK strK strK) 40 A222 c223 (ah ++ [(f, t)]), .row (prK strK strK) 40 Ar_6310 cr_6310 (be), .blk b29 (.cells #[bs (f), bs (t)] 40), .blk b10 (.cells #[.slice none 0 0, .slice none 0 0] 25)] ++ X213) := hM225
        refine wpF_end _ (by kernel_rfl) (then_n (h_d [(.blk b29 (.cells #[bs (f), bs (t)] 40), 9999)] (by kernel_rfl) [.row (prK strK strK) 40 A222 c223 (ah ++ [(f, t)]), .row (prK strK strK) 40 Ar_6310 cr_6310 (be), .blk b29 (.cells #[bs (f), bs (t)] 40), .blk b10 (.cells #[.slice none 0 0, .slice none 0 0] 25)] hM226 (and_held 2 rfl no_held) le218 ?_))
        refine h_a (by kernel_rfl) (by kernel_rfl) (fun w227 X228 hM229 => ?_)
        obtain ⟨V230, le231, hM232, r233⟩ := hM229.settleRow 1 rfl
        have hM234 : Step V w [] V230 _ ([.row (prK strK strK) 40 A222 c223 (ah ++ [(f, t)]), .blk b29 (.cells #[bs (f), bs (t)] 40), .blk b10 (.cells #[.slice none 0 0, .slice none 0 0] 25)] ++ X228) := hM232
        refine wpF_append (by_ := 32) hM234 0 rfl (h := (by kernel_rfl : opAt _ _ _ _ _ = some (.call (.mk (.builtin .append) #[(.tmp 86), (.tmp 87)] #[23, 23]), some 88))) (by kernel_rfl) (by kernel_rfl) (by kernel_rfl) (by kernel_rfl) (by kernel_rfl) (by kernel_rfl) (by kernel_rfl) (Src.rd r233) (by first | omega | (simp only [List.length_append, List.length_cons, List.length_nil]; omega)) (fun A235 c236 w237 hM238 => ?_)
        have hM239 : Step V w [] V230 _ ([.row (prK strK strK) 40 A235 c236 (ah ++ [(f, t)] ++ be), .blk b29 (.cells #[bs (f), bs (t)] 40), .blk b10 (.cells #[.slice none 0 0, .slice none 0 0] 25)] ++ X228) := hM238
        refine wpF_end _ (by kernel_rfl) (then_n (h_d [(.blk b29 (.cells #[bs (f), bs (t)] 40), 9999)] (by kernel_rfl) [.row (prK strK strK) 40 A235 c236 (ah ++ [(f, t)] ++ be), .blk b29 (.cells #[bs (f), bs (t)] 40), .blk b10 (.cells #[.slice none 0 0, .slice none 0 0] 25)] hM239 (and_held 1 rfl no_held) le231 ?_))
        refine h_a (by kernel_rfl) (by kernel_rfl) (fun w240 X241 hM242 => ?_)
        obtain ⟨V243, le244, hM245, r246⟩ := hM242.settleRow 0 rfl
        have hM247 : Step V w [] V243 _ ([.blk b29 (.cells #[bs (f), bs (t)] 40), .blk b10 (.cells #[.slice none 0 0, .slice none 0 0] 25)] ++ X241) := hM245
        refine wpF_callP hM247 (f := 61) (caps := #[]) (h := (by kernel_rfl : opAt _ _ _ _ _ = some (.call (.mk (.value (.func 61)) #[(.tmp 82), (.tmp 88)] #[22, 23]), some 89))) (by kernel_rfl) (by kernel_rfl) (by kernel_rfl) (f61 _ _ hM247.inW Ark crk (rk) (hrk.up hM247.le) A235 c236 (ah ++ [(f, t)] ++ be) r246 (by first | omega | (simp only [List.length_append, List.length_cons, List.length_nil]; omega))) (fun v248 V249 w250 le251 hM252 hp253 => ?_)
        obtain ⟨Ar253_1, cr253_1, Ar253_2, cr253_2, rfl, r254, r255⟩ := hp253
        have l256 : (mkK (rk) (ah ++ [(f, t)] ++ be)).length ≤ 140737488355328 := r254.max
        have l257 : ((ah ++ [(f, t)] ++ be)).length ≤ 140737488355328 := r255.max
        refine wpF_end _ (by kernel_rfl) (then_n (h_d [(.blk b29 (.cells #[bs (f), bs (t)] 40), 9999)] (by kernel_rfl) [.blk b29 (.cells #[bs (f), bs (t)] 40), .blk b10 (.cells #[.slice none 0 0, .slice none 0 0] 25)] hM252 (and_held 0 rfl no_held) (le244.trans le251) ?_))
        refine h_seg 3 (by kernel_rfl) ?_
        refine h_f (d := 13) ⟨12, fun b_ => .pointer (some ⟨b_, 0, none⟩), #[.slice none 0 0, .slice none 0 0], 25⟩ (by kernel_rfl) (by kernel_rfl) (by kernel_rfl) (fun b258 => ?_)
        refine h_a (by kernel_rfl) (by kernel_rfl) (fun w259 X260 hM261 => ?_)
        refine wpF_store hM261 0 rfl (h := (by kernel_rfl : opAt _ _ _ _ _ = some (.store 25 (.tmp 13) (.tmp 90), none))) (off := 0) (by kernel_rfl) #[.slice Ar253_1 (mkK (rk) (ah ++ [(f, t)] ++ be)).length cr253_1, .slice Ar253_2 ((ah ++ [(f, t)] ++ be)).length cr253_2] (by kernel_rfl) (by kernel_rfl) (by kernel_rfl) (by kernel_rfl) (fun w263 hM262 => ?_)
        have hM264 : Step V w [] V249 _ ([.blk b258 (.cells #[.slice Ar253_1 (mkK (rk) (ah ++ [(f, t)] ++ be)).length cr253_1, .slice Ar253_2 ((ah ++ [(f, t)] ++ be)).length cr253_2] 25), .blk b29 (.cells #[bs (f), bs (t)] 40), .blk b10 (.cells #[.slice none 0 0, .slice none 0 0] 25)] ++ X260) := hM262
        refine wpF_end _ (by kernel_rfl) (then_n (h_d [(.blk b29 (.cells #[bs (f), bs (t)] 40), 9999)] (by kernel_rfl) [.blk b258 (.cells #[.slice Ar253_1 (mkK (rk) (ah ++ [(f, t)] ++ be)).length cr253_1, .slice Ar253_2 ((ah ++ [(f, t)] ++ be)).length cr253_2] 25), .blk b29 (.cells #[bs (f), bs (t)] 40), .blk b10 (.cells #[.slice none 0 0, .slice none 0 0] 25)] hM264 (and_held 1 rfl no_held) (VT.le.refl _) ?_))
        refine h_seg 1 (by kernel_rfl) ?_
        refine h_n (fun w265 hM266 => ?_)
        refine  (then_n (hK209 _ _ ?_))
        refine wp_seq_k (fun K267 hK267 => ?_)
        refine wp_seq_k (fun K268 hK268 => ?_)
        refine wp_reg ?_
        refine wpF_seg 2 (by kernel_rfl) ?_
        refine wpF_end _ (by kernel_rfl) (then_n (hK268 _ _ ?_))
        refine wp_if (!(mkOk (rk) (ah ++ [(f, t)] ++ be))) (by kernel_rfl) (fun h269 => ?_) (fun h269 => ?_)
        · -- ffLft
          have h270 : (mkOk (rk) (ah ++ [(f, t)] ++ be)) = false := by simpa using h269
          refine wp_seq_k (fun K271 hK271 => ?_)
          refine wp_reg ?_
          refine wpF_seg 1 (by kernel_rfl) ?_
          refine wpF_store hM266 2 rfl (h := (by kernel_rfl : opAt _ _ _ _ _ = some (.store 25 (.tmp 6) (.tmp 94), none))) (off := 0) (by kernel_rfl) #[.slice none 0 0, .slice none 0 0] (by kernel_rfl) (by kernel_rfl) (by kernel_rfl) (by kernel_rfl) (fun w273 hM272 => ?_)
          have hM274 : Step V w [] V249 _ ([.blk b258 (.cells #[.slice Ar253_1 (mkK (rk) (ah ++ [(f, t)] ++ be)).length cr253_1, .slice Ar253_2 ((ah ++ [(f, t)] ++ be)).length cr253_2] 25), .blk b29 (.cells #[bs (f), bs (t)] 40), .blk b10 (.cells #[.slice none 0 0, .slice none 0 0] 25)]) := hM272
          refine wpF_seg 1 (by kernel_rfl) ?_
          refine wpF_end _ (by kernel_rfl) (then_n (hK271 _ _ ?_))
          refine wp_ret (then_r (?_))
          refine retN [.agg #[.slice none 0 0, .slice none 0 0], .int .i64 (9)] (.tuple #[.agg #[.slice none 0 0, .slice none 0 0], .int .i64 (9)]) Try.results21 (.cell (by kernel_rfl) (by kernel_rfl) hM274 2 rfl (by kernel_rfl) (.tmp (by kernel_rfl) (by kernel_rfl) .nil)) (by kernel_rfl) (hRet _ _ ⟨_, _, rfl, hM274.clear, ?_⟩)
          -- end ffLft
          have hrun := (by assumption : runR rq f0 t0 rq.length = (ah, be, f, t))
          refine ⟨none, 0, none, 0, ?_, ?_, ?_⟩
          · first | (simp only [rsK, rsS, rsE, mdK, mdS, mdE, refO, hrun, h21, h269, h27, h270, h43, h49, h66, cond_true, cond_false] <;> rfl) | (simp only [rsK, rsS, rsE, h21, h269, h27, h270, h43, h49, h66, cond_true, cond_false] <;> rfl)
          · first | exact (Rd.nil _ _) | (exact Rd.eq (Rd.nil _ _) (by first | (simp only [rsK, rsS, rsE, mdK, mdS, mdE, refO, hrun, h21, h269, h27, h270, h43, h49, h66, cond_true, cond_false]; done) | (simp only [rsK, rsS, rsE, h21, h269, h27, h270, h43, h49, h66, cond_true, cond_false]; done)))
          · first | exact (Rd.nil _ _) | (exact Rd.eq (Rd.nil _ _) (by first | (simp only [rsK, rsS, rsE, mdK, mdS, mdE, refO, hrun, h21, h269, h27, h270, h43, h49, h66, cond_true, cond_false]; done) | (simp only [rsK, rsS, rsE, h21, h269, h27, h270, h43, h49, h66, cond_true, cond_false]; done)))
        · -- ffLff
          have h275 : (mkOk (rk) (ah ++ [(f, t)] ++ be)) = true := by simpa using h269
          refine wp_skip (then_n (hK267 _ _ ?_))
          refine wp_seq_k (fun K276 hK276 => ?_)
          refine wp_reg ?_
          refine gF hM266 (.load 25 (.tmp 13)) (some 95) (by kernel_rfl) (Y_load 0 rfl (off := 0) (by kernel_rfl) (.agg #[.slice Ar253_1 (mkK (rk) (ah ++ [(f, t)] ++ be)).length cr253_1, .slice Ar253_2 ((ah ++ [(f, t)] ++ be)).length cr253_2]) (by kernel_rfl)) ?_
          refine wpF_store hM266 2 rfl (h := (by kernel_rfl : opAt _ _ _ _ _ = some (.store 25 (.tmp 6) (.tmp 95), none))) (off := 0) (by kernel_rfl) #[.slice Ar253_1 (mkK (rk) (ah ++ [(f, t)] ++ be)).length cr253_1, .slice Ar253_2 ((ah ++ [(f, t)] ++ be)).length cr253_2] (by kernel_rfl) (by kernel_rfl) (by kernel_rfl) (by kernel_rfl) (fun w278 hM277 => ?_)
          have hM279 : Step V w [] V249 _ ([.blk b258 (.cells #[.slice Ar253_1 (mkK (rk) (ah ++ [(f, t)] ++ be)).length cr253_1, .slice Ar253_2 ((ah ++ [(f, t)] ++ be)).length cr253_2] 25), .blk b29 (.cells #[bs (f), bs (t)] 40), .blk b10 (.cells #[.slice Ar253_1 (mkK (rk) (ah ++ [(f, t)] ++ be)).length cr253_1, .slice Ar253_2 ((ah ++ [(f, t)] ++ be)).length cr253_2] 25)]) := hM277
          refine wpF_seg 1 (by kernel_rfl) ?_
          refine wpF_end _ (by kernel_rfl) (then_n (hK276 _ _ ?_))
          refine wp_ret ?_
          refine retN [.agg #[.slice Ar253_1 (mkK (rk) (ah ++ [(f, t)] ++ be)).length cr253_1, .slice Ar253_2 ((ah ++ [(f, t)] ++ be)).length cr253_2], .int .i64 (0)] (.tuple #[.agg #[.slice Ar253_1 (mkK (rk) (ah ++ [(f, t)] ++ be)).length cr253_1, .slice Ar253_2 ((ah ++ [(f, t)] ++ be)).length cr253_2], .int .i64 (0)]) Try.results21 (.cell (by kernel_rfl) (by kernel_rfl) hM279 2 rfl (by kernel_rfl) (.tmp (by kernel_rfl) (by kernel_rfl) .nil)) (by kernel_rfl) (hRet _ _ ⟨_, _, rfl, hM279.clear, ?_⟩)
          -- end ffLff
          have hrun := (by assumption : runR rq f0 t0 rq.length = (ah, be, f, t))
          refine ⟨Ar253_1, cr253_1, Ar253_2, cr253_2, ?_, ?_, ?_⟩
          · first | (simp only [rsK, rsS, rsE, mdK, mdS, mdE, refO, hrun, h21, h269, h27, h275, h43, h49, h66, cond_true, cond_false] <;> rfl) | (simp only [rsK, rsS, rsE, h21, h269, h27, h275, h43, h49, h66, cond_true, cond_false] <;> rfl)
          · first | exact r254 | (exact Rd.eq r254 (by first | (simp only [rsK, rsS, rsE, mdK, mdS, mdE, refO, hrun, h21, h269, h27, h275, h43, h49, h66, cond_true, cond_false]; done) | (simp only [rsK, rsS, rsE, h21, h269, h27, h275, h43, h49, h66, cond_true, cond_false]; done)))
          · first | exact r255 | (exact Rd.eq r255 (by first | (simp only [rsK, rsS, rsE, mdK, mdS, mdE, refO, hrun, h21, h269, h27, h275, h43, h49, h66, cond_true, cond_false]; done) | (simp only [rsK, rsS, rsE, h21, h269, h27, h275, h43, h49, h66, cond_true, cond_false]; done)))

end Go.Vk
