/- Contracts of the page's functions, part W: printed by wip/tools/p8.py. -/
import Derived.Test.YtpaljghjoajhfaaRB
import Derived.Test.YtpaljghjoajhfaaRD
import Derived.Test.YtpaljghjoajhfaaRG
import Derived.Test.YtpaljghjoajhfaaRI
import Derived.Test.YtpaljghjoajhfaaRP
import Derived.Test.YtpaljghjoajhfaaRV
set_option linter.unusedVariables false
set_option linter.unusedSimpArgs false
namespace Go.Vk
open Go.Proofs
set_option maxHeartbeats 4000000 in
set_option maxRecDepth 100000 in
theorem f28 (V : VT) (w : World) (hV : V.inW w) (nl : Bool) (Ank : Option Addr) (cnk : Nat) (nk : List Str) (hnk : Rd strK V Ank cnk nk) (Anv : Option Addr) (cnv : Nat) (nv : List Str) (hnv : Rd strK V Anv cnv nv) (Anc : Option Addr) (cnc : Nat) (nc : List Int) (hnc : Rd (intK .i64) V Anc cnc nc) (y : Str) (hy : y.length ≤ maxL) (hk : nk.length ≤ 4096) (hv : nv.length ≤ 4096) :
    Calls Try.prog 28 #[.agg #[.bool (nl), .slice Ank (nk).length cnk, .slice Anv (nv).length cnv, .slice Anc (nc).length cnc], bs (y)] w (RetP V w fun rv V' => ∃ (A1 : Option Addr), ∃ (c1 : Nat), ∃ (A2 : Option Addr), ∃ (c2 : Nat), ∃ (A3 : Option Addr), ∃ (c3 : Nat), rv = .tuple #[.agg #[.bool (findB nl nk nv nc y), .slice A1 (drK nl nk nv nc y).length c1, .slice A2 (drV nl nk nv nc y).length c2, .slice A3 (([] : List Int)).length c3], .bool (findB nl nk nv nc y)] ∧ Rd strK V' A1 c1 (drK nl nk nv nc y) ∧ Rd strK V' A2 c2 (drV nl nk nv nc y) ∧ Rd (intK .i64) V' A3 c3 (([] : List Int))) := by
  have mxnk : nk.length ≤ 140737488355328 := hnk.max
  have mxnv : nv.length ≤ 140737488355328 := hnv.max
  have mxnc : nc.length ≤ 140737488355328 := hnc.max
  have mxy : y.length ≤ 140737488355328 := hy
  refine calls_env (n := 26) Try.func28 (c := _) rfl Try.ntmps28 (by kernel_rfl) (fun R hRet => ?_)
  have hM0 : Step V w [] V w [] := Step.refl (St.nilE hV)
  refine wp_seq_k (fun K1 hK1 => ?_)
  refine wp_reg ?_
  refine wpF_box hM0 #[.bool (nl), .slice Ank (nk).length cnk, .slice Anv (nv).length cnv, .slice Anc (nc).length cnc] (h := (by kernel_rfl : opAt _ _ _ _ _ = some (.box 25 (.tmp 0), some 2))) (by kernel_rfl) (fun b2 w3 hM4 => ?_)
  obtain ⟨V5, le6, hM7, hc8⟩ := hM4.settle 0 rfl
  have hM9 : Step V w [] V5 _ ([]) := hM7
  refine wpF_alloc hM9 #[.bool (false), .slice none 0 0, .slice none 0 0, .slice none 0 0] (h := (by kernel_rfl : opAt _ _ _ _ _ = some (.alloc 25, some 4))) (by kernel_rfl) (fun b10 w11 hM12 => ?_)
  refine wpF_seg 1 (by kernel_rfl) ?_
  refine wpF_end _ (by kernel_rfl) (then_n (hK1 _ _ ?_))
  refine wp_seq_k (fun K13 hK13 => ?_)
  refine wp_reg ?_
  refine gF hM12 (.load 25 (.tmp 2)) (some 9) (by kernel_rfl) (Y_loadB #[.bool (nl), .slice Ank (nk).length cnk, .slice Anv (nv).length cnv, .slice Anc (nc).length cnc] hc8 (off := 0) (by kernel_rfl) (.agg #[.bool (nl), .slice Ank (nk).length cnk, .slice Anv (nv).length cnv, .slice Anc (nc).length cnc]) (by kernel_rfl)) ?_
  refine wpF_seg 1 (by kernel_rfl) ?_
  refine wpF_callP hM12 (f := 22) (caps := #[]) (h := (by kernel_rfl : opAt _ _ _ _ _ = some (.call (.mk (.value (.func 22)) #[(.tmp 9), (.tmp 10)] #[25, 9]), some 11))) (by kernel_rfl) (by kernel_rfl) (by kernel_rfl) (f22 _ _ hM12.inW (nl) Ank cnk (nk) (hnk.up hM12.le) Anv cnv (nv) (hnv.up hM12.le) Anc cnc (nc) (hnc.up hM12.le) (y) (hy)) (fun v14 V15 w16 le17 hM18 hp19 => ?_)
  obtain rfl := hp19
  refine wpF_seg 5 (by kernel_rfl) ?_
  refine wpF_end _ (by kernel_rfl) (then_n (hK13 _ _ ?_))
  refine wp_seq_k (fun K20 hK20 => ?_)
  refine wp_seq_k (fun K21 hK21 => ?_)
  refine wp_reg ?_
  refine wpF_seg 2 (by kernel_rfl) ?_
  refine wpF_end _ (by kernel_rfl) (then_n (hK21 _ _ ?_))
  refine wp_if (!(findB (nl) (nk) (nv) (nc) (y))) (by kernel_rfl) (fun h22 => ?_) (fun h22 => ?_)
  · -- t
    have h23 : (findB (nl) (nk) (nv) (nc) (y)) = false := by simpa using h22
    refine wp_seq_k (fun K24 hK24 => ?_)
    refine wp_reg ?_
    refine wpF_seg 1 (by kernel_rfl) ?_
    refine wpF_store hM18 0 rfl (h := (by kernel_rfl : opAt _ _ _ _ _ = some (.store 25 (.tmp 4) (.tmp 16), none))) (off := 0) (by kernel_rfl) #[.bool (false), .slice none 0 0, .slice none 0 0, .slice none 0 0] (by kernel_rfl) (by kernel_rfl) (by kernel_rfl) (by kernel_rfl) (fun w26 hM25 => ?_)
    have hM27 : Step V w [] V15 _ ([.blk b10 (.cells #[.bool (false), .slice none 0 0, .slice none 0 0, .slice none 0 0] 25)]) := hM25
    refine wpF_seg 1 (by kernel_rfl) ?_
    refine wpF_end _ (by kernel_rfl) (then_n (hK24 _ _ ?_))
    refine wp_ret (then_r (?_))
    refine retN [.agg #[.bool (false), .slice none 0 0, .slice none 0 0, .slice none 0 0], .bool (false)] (.tuple #[.agg #[.bool (false), .slice none 0 0, .slice none 0 0, .slice none 0 0], .bool (false)]) Try.results28 (.cell (by kernel_rfl) (by kernel_rfl) hM27 0 rfl (by kernel_rfl) (.tmp (by kernel_rfl) (by kernel_rfl) .nil)) (by kernel_rfl) (hRet _ _ ⟨_, _, rfl, hM27.clear, ?_⟩)
    -- end t
    refine ⟨none, 0, none, 0, none, 0, ?_, ?_, ?_, ?_⟩
    · simp only [drK, drV, h22, h23, cond_true, cond_false] <;> rfl
    · first | exact (Rd.nil _ _) | (exact Rd.eq (Rd.nil _ _) (by simp only [drK, drV, h22, h23, cond_true, cond_false]))
    · first | exact (Rd.nil _ _) | (exact Rd.eq (Rd.nil _ _) (by simp only [drK, drV, h22, h23, cond_true, cond_false]))
    · first | exact (Rd.nil _ _) | (exact Rd.eq (Rd.nil _ _) (by simp only [drK, drV, h22, h23, cond_true, cond_false]))
  · -- f
    have h28 : (findB (nl) (nk) (nv) (nc) (y)) = true := by simpa using h22
    have hfl := find_lens (by assumption : findB nl nk nv nc y = true)
    refine wp_slot 6 (.int .i64 (findI (nl) (nk) (nv) (nc) (y))) (.int .i64 (((findN nl nk y : Nat) : Int))) (by kernel_rfl) (by exact congrArg (Value.int .i64) (find_lens (by assumption : findB nl nk nv nc y = true)).1) ?_
    refine wp_skip (then_n (hK20 _ _ ?_))
    refine wp_seq_k (fun K29 hK29 => ?_)
    refine wp_base [(2, .pointer (some ⟨b2, 0, none⟩)), (4, .pointer (some ⟨b10, 0, none⟩)), (5, .bool (false)), (6, .int .i64 (((findN nl nk y : Nat) : Int)))] (by kernel_rfl) (fun g30 => ?_)
    refine wp_drawN hM18 [] no_held [] [0, 1, 2, 4, 5, 6] [.a 3, .a 7, .p 8, .a 9, .p 10] [.p 0, .p 1, .p 2, .p 4, .p 5, .p 6, .s, .a 3, .a 7, .p 8, .a 9, .p 10] rfl (by kernel_rfl) (by kernel_rfl) ?_
    refine h_seg 1 (by kernel_rfl) ?_
    refine gH (.load 22 (.tmp 17)) (some 18) (by kernel_rfl) (Y_loadB #[.bool (nl), .slice Ank (nk).length cnk, .slice Anv (nv).length cnv, .slice Anc (nc).length cnc] (fun i v hi => le17 _ _ _ (hc8 i v hi)) (off := 1) (by kernel_rfl) (.slice Ank (nk).length cnk) (by kernel_rfl)) ?_
    refine h_seg 2 (by kernel_rfl) ?_
    refine gH (.load 22 (.tmp 21)) (some 22) (by kernel_rfl) (Y_loadB #[.bool (nl), .slice Ank (nk).length cnk, .slice Anv (nv).length cnv, .slice Anc (nc).length cnc] (fun i v hi => le17 _ _ _ (hc8 i v hi)) (off := 2) (by kernel_rfl) (.slice Anv (nv).length cnv) (by kernel_rfl)) ?_
    refine h_seg 1 (by kernel_rfl) ?_
    refine h_s no_fs ?_
    refine h_a (by kernel_rfl) (by kernel_rfl) (fun w31 X32 hM33 => ?_)
    refine wpF_callP hM33 (f := 53) (caps := #[]) (h := (by kernel_rfl : opAt _ _ _ _ _ = some (.call (.mk (.value (.func 53)) #[(.tmp 18), (.tmp 19)] #[22, 3]), some 20))) (by kernel_rfl) (by kernel_rfl) (by kernel_rfl) (f53 _ _ hM33.inW Ank cnk (nk) (hnk.up hM33.le) ((findN nl nk y)) (by omega) (by omega)) (fun v34 V35 w36 le37 hM38 hp39 => ?_)
    obtain ⟨Ar39_1, cr39_1, rfl, r40⟩ := hp39
    have l41 : ((nk).take ((findN nl nk y)) ++ (nk).drop (((findN nl nk y)) + 1)).length ≤ 140737488355328 := r40.max
    refine wpF_end _ (by kernel_rfl) (then_n (h_d [] (by kernel_rfl) [.blk b10 (.cells #[.bool (false), .slice none 0 0, .slice none 0 0, .slice none 0 0] 25)] hM38 no_held le37 ?_))
    refine h_a (by kernel_rfl) (by kernel_rfl) (fun w42 X43 hM44 => ?_)
    refine wpF_callP hM44 (f := 53) (caps := #[]) (h := (by kernel_rfl : opAt _ _ _ _ _ = some (.call (.mk (.value (.func 53)) #[(.tmp 22), (.tmp 23)] #[22, 3]), some 24))) (by kernel_rfl) (by kernel_rfl) (by kernel_rfl) (f53 _ _ hM44.inW Anv cnv (nv) (hnv.up hM44.le) ((findN nl nk y)) (by omega) (by omega)) (fun v45 V46 w47 le48 hM49 hp50 => ?_)
    obtain ⟨Ar50_1, cr50_1, rfl, r51⟩ := hp50
    have l52 : ((nv).take ((findN nl nk y)) ++ (nv).drop (((findN nl nk y)) + 1)).length ≤ 140737488355328 := r51.max
    refine wpF_end _ (by kernel_rfl) (then_n (h_d [] (by kernel_rfl) [.blk b10 (.cells #[.bool (false), .slice none 0 0, .slice none 0 0, .slice none 0 0] 25)] hM49 no_held le48 ?_))
    refine h_seg 1 (by kernel_rfl) ?_
    refine h_a (by kernel_rfl) (by kernel_rfl) (fun w53 X54 hM55 => ?_)
    refine wpF_store hM55 0 rfl (h := (by kernel_rfl : opAt _ _ _ _ _ = some (.store 25 (.tmp 4) (.tmp 25), none))) (off := 0) (by kernel_rfl) #[.bool (true), .slice Ar39_1 ((nk).take ((findN nl nk y)) ++ (nk).drop (((findN nl nk y)) + 1)).length cr39_1, .slice Ar50_1 ((nv).take ((findN nl nk y)) ++ (nv).drop (((findN nl nk y)) + 1)).length cr50_1, .slice none 0 0] (by kernel_rfl) (by kernel_rfl) (by kernel_rfl) (by kernel_rfl) (fun w57 hM56 => ?_)
    have hM58 : Step V w [] V46 _ ([.blk b10 (.cells #[.bool (true), .slice Ar39_1 ((nk).take ((findN nl nk y)) ++ (nk).drop (((findN nl nk y)) + 1)).length cr39_1, .slice Ar50_1 ((nv).take ((findN nl nk y)) ++ (nv).drop (((findN nl nk y)) + 1)).length cr50_1, .slice none 0 0] 25)] ++ X54) := hM56
    refine wpF_end _ (by kernel_rfl) (then_n (h_d [] (by kernel_rfl) [.blk b10 (.cells #[.bool (true), .slice Ar39_1 ((nk).take ((findN nl nk y)) ++ (nk).drop (((findN nl nk y)) + 1)).length cr39_1, .slice Ar50_1 ((nv).take ((findN nl nk y)) ++ (nv).drop (((findN nl nk y)) + 1)).length cr50_1, .slice none 0 0] 25)] hM58 no_held (VT.le.refl _) ?_))
    refine h_seg 1 (by kernel_rfl) ?_
    refine h_n (fun w59 hM60 => ?_)
    refine  (then_n (hK29 _ _ ?_))
    refine wp_ret ?_
    refine retN [.agg #[.bool (true), .slice Ar39_1 ((nk).take ((findN nl nk y)) ++ (nk).drop (((findN nl nk y)) + 1)).length cr39_1, .slice Ar50_1 ((nv).take ((findN nl nk y)) ++ (nv).drop (((findN nl nk y)) + 1)).length cr50_1, .slice none 0 0], .bool (true)] (.tuple #[.agg #[.bool (true), .slice Ar39_1 ((nk).take ((findN nl nk y)) ++ (nk).drop (((findN nl nk y)) + 1)).length cr39_1, .slice Ar50_1 ((nv).take ((findN nl nk y)) ++ (nv).drop (((findN nl nk y)) + 1)).length cr50_1, .slice none 0 0], .bool (true)]) Try.results28 (.cell (by kernel_rfl) (by kernel_rfl) hM60 0 rfl (by kernel_rfl) (.tmp (by kernel_rfl) (by kernel_rfl) .nil)) (by kernel_rfl) (hRet _ _ ⟨_, _, rfl, hM60.clear, ?_⟩)
    -- end f
    refine ⟨Ar39_1, cr39_1, Ar50_1, cr50_1, none, 0, ?_, ?_, ?_, ?_⟩
    · simp only [drK, drV, h22, h28, cond_true, cond_false] <;> rfl
    · first | exact (r40.up le48) | (exact Rd.eq (r40.up le48) (by simp only [drK, drV, h22, h28, cond_true, cond_false]))
    · first | exact r51 | (exact Rd.eq r51 (by simp only [drK, drV, h22, h28, cond_true, cond_false]))
    · first | exact (Rd.nil _ _) | (exact Rd.eq (Rd.nil _ _) (by simp only [drK, drV, h22, h28, cond_true, cond_false]))

set_option maxHeartbeats 4000000 in
set_option maxRecDepth 100000 in
theorem f29 (V : VT) (w : World) (hV : V.inW w) (nl : Bool) (Ank : Option Addr) (cnk : Nat) (nk : List Str) (hnk : Rd strK V Ank cnk nk) (Anv : Option Addr) (cnv : Nat) (nv : List Str) (hnv : Rd strK V Anv cnv nv) (Anc : Option Addr) (cnc : Nat) (nc : List Int) (hnc : Rd (intK .i64) V Anc cnc nc) (y : Str) (hy : y.length ≤ maxL) (hk : nk.length ≤ 4096) (hv : nv.length ≤ 4096) :
    Calls Try.prog 29 #[.agg #[.bool (nl), .slice Ank (nk).length cnk, .slice Anv (nv).length cnv, .slice Anc (nc).length cnc], bs (y)] w (RetP V w fun rv V' => ∃ (A1 : Option Addr), ∃ (c1 : Nat), ∃ (A2 : Option Addr), ∃ (c2 : Nat), ∃ (A3 : Option Addr), ∃ (c3 : Nat), rv = .tuple #[.agg #[.bool (findB nl nk nv nc y), .slice A1 (drK nl nk nv nc y).length c1, .slice A2 (drV nl nk nv nc y).length c2, .slice A3 (([] : List Int)).length c3], .bool (findB nl nk nv nc y)] ∧ Rd strK V' A1 c1 (drK nl nk nv nc y) ∧ Rd strK V' A2 c2 (drV nl nk nv nc y) ∧ Rd (intK .i64) V' A3 c3 (([] : List Int))) := by
  have mxnk : nk.length ≤ 140737488355328 := hnk.max
  have mxnv : nv.length ≤ 140737488355328 := hnv.max
  have mxnc : nc.length ≤ 140737488355328 := hnc.max
  have mxy : y.length ≤ 140737488355328 := hy
  refine calls_env (n := 42) Try.func29 (c := _) rfl Try.ntmps29 (by kernel_rfl) (fun R hRet => ?_)
  have hM0 : Step V w [] V w [] := Step.refl (St.nilE hV)
  refine wp_seq_k (fun K1 hK1 => ?_)
  refine wp_reg ?_
  refine wpF_box hM0 #[.bool (nl), .slice Ank (nk).length cnk, .slice Anv (nv).length cnv, .slice Anc (nc).length cnc] (h := (by kernel_rfl : opAt _ _ _ _ _ = some (.box 25 (.tmp 0), some 2))) (by kernel_rfl) (fun b2 w3 hM4 => ?_)
  obtain ⟨V5, le6, hM7, hc8⟩ := hM4.settle 0 rfl
  have hM9 : Step V w [] V5 _ ([]) := hM7
  refine wpF_alloc hM9 #[.bool (false), .slice none 0 0, .slice none 0 0, .slice none 0 0] (h := (by kernel_rfl : opAt _ _ _ _ _ = some (.alloc 25, some 4))) (by kernel_rfl) (fun b10 w11 hM12 => ?_)
  refine wpF_seg 1 (by kernel_rfl) ?_
  refine wpF_end _ (by kernel_rfl) (then_n (hK1 _ _ ?_))
  refine wp_seq_k (fun K13 hK13 => ?_)
  refine wp_reg ?_
  refine gF hM12 (.load 25 (.tmp 2)) (some 9) (by kernel_rfl) (Y_loadB #[.bool (nl), .slice Ank (nk).length cnk, .slice Anv (nv).length cnv, .slice Anc (nc).length cnc] hc8 (off := 0) (by kernel_rfl) (.agg #[.bool (nl), .slice Ank (nk).length cnk, .slice Anv (nv).length cnv, .slice Anc (nc).length cnc]) (by kernel_rfl)) ?_
  refine wpF_seg 1 (by kernel_rfl) ?_
  refine wpF_callP hM12 (f := 25) (caps := #[]) (h := (by kernel_rfl : opAt _ _ _ _ _ = some (.call (.mk (.value (.func 25)) #[(.tmp 9), (.tmp 10)] #[25, 9]), some 11))) (by kernel_rfl) (by kernel_rfl) (by kernel_rfl) (f25 _ _ hM12.inW (nl) Ank cnk (nk) (hnk.up hM12.le) Anv cnv (nv) (hnv.up hM12.le) Anc cnc (nc) (hnc.up hM12.le) (y) (hy)) (fun v14 V15 w16 le17 hM18 hp19 => ?_)
  obtain rfl := hp19
  refine wpF_seg 5 (by kernel_rfl) ?_
  refine wpF_end _ (by kernel_rfl) (then_n (hK13 _ _ ?_))
  refine wp_seq_k (fun K20 hK20 => ?_)
  refine wp_seq_k (fun K21 hK21 => ?_)
  refine wp_reg ?_
  refine wpF_seg 2 (by kernel_rfl) ?_
  refine wpF_end _ (by kernel_rfl) (then_n (hK21 _ _ ?_))
  refine wp_if (!(findB (nl) (nk) (nv) (nc) (y))) (by kernel_rfl) (fun h22 => ?_) (fun h22 => ?_)
  · -- t
    have h23 : (findB (nl) (nk) (nv) (nc) (y)) = false := by simpa using h22
    refine wp_seq_k (fun K24 hK24 => ?_)
    refine wp_reg ?_
    refine wpF_seg 1 (by kernel_rfl) ?_
    refine wpF_store hM18 0 rfl (h := (by kernel_rfl : opAt _ _ _ _ _ = some (.store 25 (.tmp 4) (.tmp 16), none))) (off := 0) (by kernel_rfl) #[.bool (false), .slice none 0 0, .slice none 0 0, .slice none 0 0] (by kernel_rfl) (by kernel_rfl) (by kernel_rfl) (by kernel_rfl) (fun w26 hM25 => ?_)
    have hM27 : Step V w [] V15 _ ([.blk b10 (.cells #[.bool (false), .slice none 0 0, .slice none 0 0, .slice none 0 0] 25)]) := hM25
    refine wpF_seg 1 (by kernel_rfl) ?_
    refine wpF_end _ (by kernel_rfl) (then_n (hK24 _ _ ?_))
    refine wp_ret (then_r (?_))
    refine retN [.agg #[.bool (false), .slice none 0 0, .slice none 0 0, .slice none 0 0], .bool (false)] (.tuple #[.agg #[.bool (false), .slice none 0 0, .slice none 0 0, .slice none 0 0], .bool (false)]) Try.results29 (.cell (by kernel_rfl) (by kernel_rfl) hM27 0 rfl (by kernel_rfl) (.tmp (by kernel_rfl) (by kernel_rfl) .nil)) (by kernel_rfl) (hRet _ _ ⟨_, _, rfl, hM27.clear, ?_⟩)
    -- end t
    refine ⟨none, 0, none, 0, none, 0, ?_, ?_, ?_, ?_⟩
    · simp only [drK, drV, h22, h23, cond_true, cond_false] <;> rfl
    · first | exact (Rd.nil _ _) | (exact Rd.eq (Rd.nil _ _) (by simp only [drK, drV, h22, h23, cond_true, cond_false]))
    · first | exact (Rd.nil _ _) | (exact Rd.eq (Rd.nil _ _) (by simp only [drK, drV, h22, h23, cond_true, cond_false]))
    · first | exact (Rd.nil _ _) | (exact Rd.eq (Rd.nil _ _) (by simp only [drK, drV, h22, h23, cond_true, cond_false]))
  · -- f
    have h28 : (findB (nl) (nk) (nv) (nc) (y)) = true := by simpa using h22
    have hfl := find_lens (by assumption : findB nl nk nv nc y = true)
    refine wp_slot 6 (.int .i64 (findI (nl) (nk) (nv) (nc) (y))) (.int .i64 (((findN nl nk y : Nat) : Int))) (by kernel_rfl) (by exact congrArg (Value.int .i64) (find_lens (by assumption : findB nl nk nv nc y = true)).1) ?_
    refine wp_skip (then_n (hK20 _ _ ?_))
    refine wp_seq_k (fun K29 hK29 => ?_)
    refine wp_base [(2, .pointer (some ⟨b2, 0, none⟩)), (4, .pointer (some ⟨b10, 0, none⟩)), (5, .bool (false)), (6, .int .i64 (((findN nl nk y : Nat) : Int)))] (by kernel_rfl) (fun g30 => ?_)
    refine wp_drawN hM18 [] no_held [⟨0, fun b_ => .slice (some ⟨b_, 0, none⟩) 0 0, #[], 9⟩, ⟨12, fun b_ => .slice (some ⟨b_, 0, none⟩) 0 0, #[], 9⟩] [1, 2, 3, 4, 6, 7, 8, 9, 10, 13, 14, 15, 16, 18, 19, 20, 21, 22] [.f 0, .a 5, .a 11, .f 12, .a 17, .a 23, .p 24, .a 25, .p 26] [.p 1, .p 2, .p 3, .p 4, .p 6, .p 7, .p 8, .p 9, .p 10, .p 13, .p 14, .p 15, .p 16, .p 18, .p 19, .p 20, .p 21, .p 22, .s, .f 0, .a 5, .a 11, .f 12, .a 17, .a 23, .p 24, .a 25, .p 26] rfl (by kernel_rfl) (by kernel_rfl) ?_
    refine h_seg 1 (by kernel_rfl) ?_
    refine gH (.load 22 (.tmp 18)) (some 19) (by kernel_rfl) (Y_loadB #[.bool (nl), .slice Ank (nk).length cnk, .slice Anv (nv).length cnv, .slice Anc (nc).length cnc] (fun i v hi => le17 _ _ _ (hc8 i v hi)) (off := 1) (by kernel_rfl) (.slice Ank (nk).length cnk) (by kernel_rfl)) ?_
    refine h_seg 1 (by kernel_rfl) ?_
    refine gH_slice (A := Ank) (c := cnk) (hnk.up hM18.le) (h := (by kernel_rfl : opAt _ _ _ _ _ = some (.slice 22 (.tmp 19) none (some (.tmp 20)) none, some 21))) (e := 9) (by kernel_rfl) (by kernel_rfl) (0) ((findN nl nk y)) rfl ⟨.i64, by rw [show (((findN nl nk y) : Nat) : Int) = ((findN nl nk y : Nat) : Int) from by omega]; kernel_rfl⟩ (by omega) (by omega) (nk.take ((findN nl nk y))) (by simp) (fun A31 c32 r33 => ?_)
    refine h_seg 1 (by kernel_rfl) ?_
    refine gH (.load 22 (.tmp 23)) (some 24) (by kernel_rfl) (Y_loadB #[.bool (nl), .slice Ank (nk).length cnk, .slice Anv (nv).length cnv, .slice Anc (nc).length cnc] (fun i v hi => le17 _ _ _ (hc8 i v hi)) (off := 1) (by kernel_rfl) (.slice Ank (nk).length cnk) (by kernel_rfl)) ?_
    refine h_seg 1 (by kernel_rfl) ?_
    refine gH (.binOp .add 3 (.tmp 25) (.const (.int .i64 1)) 3) (some 26) (by kernel_rfl) (Y_add .i64 (((findN nl nk y : Nat) : Int)) (1) (((findN nl nk y : Nat) : Int) + 1) (by kernel_rfl) (by kernel_rfl) (wrap64_ok _ (by omega))) ?_
    refine gH_slice (A := Ank) (c := cnk) (hnk.up hM18.le) (h := (by kernel_rfl : opAt _ _ _ _ _ = some (.slice 22 (.tmp 24) (some (.tmp 26)) none none, some 27))) (e := 9) (by kernel_rfl) (by kernel_rfl) ((findN nl nk y : Nat) + 1) (nk.length) ⟨.i64, by rw [show (((findN nl nk y : Nat) + 1 : Nat) : Int) = ((findN nl nk y : Nat) : Int) + 1 from by omega]; kernel_rfl⟩ rfl (by omega) (by omega) (nk.drop ((findN nl nk y : Nat) + 1)) (by rw [List.take_length]) (fun A34 c35 r36 => ?_)
    refine h_seg 1 (by kernel_rfl) ?_
    refine gH (.load 22 (.tmp 30)) (some 31) (by kernel_rfl) (Y_loadB #[.bool (nl), .slice Ank (nk).length cnk, .slice Anv (nv).length cnv, .slice Anc (nc).length cnc] (fun i v hi => le17 _ _ _ (hc8 i v hi)) (off := 2) (by kernel_rfl) (.slice Anv (nv).length cnv) (by kernel_rfl)) ?_
    refine h_seg 1 (by kernel_rfl) ?_
    refine gH_slice (A := Anv) (c := cnv) (hnv.up hM18.le) (h := (by kernel_rfl : opAt _ _ _ _ _ = some (.slice 22 (.tmp 31) none (some (.tmp 32)) none, some 33))) (e := 9) (by kernel_rfl) (by kernel_rfl) (0) ((findN nl nk y)) rfl ⟨.i64, by rw [show (((findN nl nk y) : Nat) : Int) = ((findN nl nk y : Nat) : Int) from by omega]; kernel_rfl⟩ (by omega) (by omega) (nv.take ((findN nl nk y))) (by simp) (fun A37 c38 r39 => ?_)
    refine h_seg 1 (by kernel_rfl) ?_
    refine gH (.load 22 (.tmp 35)) (some 36) (by kernel_rfl) (Y_loadB #[.bool (nl), .slice Ank (nk).length cnk, .slice Anv (nv).length cnv, .slice Anc (nc).length cnc] (fun i v hi => le17 _ _ _ (hc8 i v hi)) (off := 2) (by kernel_rfl) (.slice Anv (nv).length cnv) (by kernel_rfl)) ?_
    refine h_seg 1 (by kernel_rfl) ?_
    refine gH (.binOp .add 3 (.tmp 37) (.const (.int .i64 1)) 3) (some 38) (by kernel_rfl) (Y_add .i64 (((findN nl nk y : Nat) : Int)) (1) (((findN nl nk y : Nat) : Int) + 1) (by kernel_rfl) (by kernel_rfl) (wrap64_ok _ (by omega))) ?_
    refine gH_slice (A := Anv) (c := cnv) (hnv.up hM18.le) (h := (by kernel_rfl : opAt _ _ _ _ _ = some (.slice 22 (.tmp 36) (some (.tmp 38)) none none, some 39))) (e := 9) (by kernel_rfl) (by kernel_rfl) ((findN nl nk y : Nat) + 1) (nv.length) ⟨.i64, by rw [show (((findN nl nk y : Nat) + 1 : Nat) : Int) = ((findN nl nk y : Nat) : Int) + 1 from by omega]; kernel_rfl⟩ rfl (by omega) (by omega) (nv.drop ((findN nl nk y : Nat) + 1)) (by rw [List.take_length]) (fun A40 c41 r42 => ?_)
    refine h_s (and_fs (fre_lit (h := (by kernel_rfl : opAt _ _ _ _ _ = some (.buildSlice 22 0 #[], some 17))) (by kernel_rfl)) (and_fs (fre_lit (h := (by kernel_rfl : opAt _ _ _ _ _ = some (.buildSlice 22 0 #[], some 29))) (by kernel_rfl)) no_fs)) ?_
    refine h_f (d := 17) ⟨0, fun b_ => .slice (some ⟨b_, 0, none⟩) 0 0, #[], 9⟩ (by kernel_rfl) (by kernel_rfl) (by kernel_rfl) (fun b43 => ?_)
    refine h_a (by kernel_rfl) (by kernel_rfl) (fun w44 X45 hM46 => ?_)
    have hM47 := hM46.blkrow 0 rfl (K := strK) (ys := ([] : List Str)) Reps.nils (by simp [maxL])
    have hM48 : Step V w [] V15 _ ([.row strK 9 (some ⟨b43, 0, none⟩) 0 (([] : List Str)), .blk b10 (.cells #[.bool (false), .slice none 0 0, .slice none 0 0, .slice none 0 0] 25)] ++ X45) := hM47
    refine wpF_append (by_ := 16) hM48 0 rfl (h := (by kernel_rfl : opAt _ _ _ _ _ = some (.call (.mk (.builtin .append) #[(.tmp 17), (.tmp 21)] #[22, 22]), some 22))) (by kernel_rfl) (by kernel_rfl) (by kernel_rfl) (by kernel_rfl) (by kernel_rfl) (by kernel_rfl) (by kernel_rfl) (Src.rd r33) (by first | omega | (simp only [List.length_append, List.length_cons, List.length_nil, List.length_take, List.length_drop]; omega)) (fun A49 c50 w51 hM52 => ?_)
    have hM53 : Step V w [] V15 _ ([.row strK 9 A49 c50 (nk.take ((findN nl nk y))), .blk b10 (.cells #[.bool (false), .slice none 0 0, .slice none 0 0, .slice none 0 0] 25)] ++ X45) := hM52
    refine wpF_end _ (by kernel_rfl) (then_n (h_d [] (by kernel_rfl) [.row strK 9 A49 c50 (nk.take ((findN nl nk y))), .blk b10 (.cells #[.bool (false), .slice none 0 0, .slice none 0 0, .slice none 0 0] 25)] hM53 no_held (VT.le.refl _) ?_))
    refine h_a (by kernel_rfl) (by kernel_rfl) (fun w54 X55 hM56 => ?_)
    refine wpF_append (by_ := 16) hM56 0 rfl (h := (by kernel_rfl : opAt _ _ _ _ _ = some (.call (.mk (.builtin .append) #[(.tmp 22), (.tmp 27)] #[22, 22]), some 28))) (by kernel_rfl) (by kernel_rfl) (by kernel_rfl) (by kernel_rfl) (by kernel_rfl) (by kernel_rfl) (by kernel_rfl) (Src.rd r36) (by first | omega | (simp only [List.length_append, List.length_cons, List.length_nil, List.length_take, List.length_drop]; omega)) (fun A57 c58 w59 hM60 => ?_)
    have hM61 : Step V w [] V15 _ ([.row strK 9 A57 c58 (nk.take ((findN nl nk y)) ++ nk.drop ((findN nl nk y : Nat) + 1)), .blk b10 (.cells #[.bool (false), .slice none 0 0, .slice none 0 0, .slice none 0 0] 25)] ++ X55) := hM60
    refine wpF_end _ (by kernel_rfl) (then_n (h_d [] (by kernel_rfl) [.row strK 9 A57 c58 (nk.take ((findN nl nk y)) ++ nk.drop ((findN nl nk y : Nat) + 1)), .blk b10 (.cells #[.bool (false), .slice none 0 0, .slice none 0 0, .slice none 0 0] 25)] hM61 no_held (VT.le.refl _) ?_))
    refine h_f (d := 29) ⟨12, fun b_ => .slice (some ⟨b_, 0, none⟩) 0 0, #[], 9⟩ (by kernel_rfl) (by kernel_rfl) (by kernel_rfl) (fun b62 => ?_)
    refine h_a (by kernel_rfl) (by kernel_rfl) (fun w63 X64 hM65 => ?_)
    have hM66 := hM65.blkrow 0 rfl (K := strK) (ys := ([] : List Str)) Reps.nils (by simp [maxL])
    have hM67 : Step V w [] V15 _ ([.row strK 9 (some ⟨b62, 0, none⟩) 0 (([] : List Str)), .row strK 9 A57 c58 (nk.take ((findN nl nk y)) ++ nk.drop ((findN nl nk y : Nat) + 1)), .blk b10 (.cells #[.bool (false), .slice none 0 0, .slice none 0 0, .slice none 0 0] 25)] ++ X64) := hM66
    refine wpF_append (by_ := 16) hM67 0 rfl (h := (by kernel_rfl : opAt _ _ _ _ _ = some (.call (.mk (.builtin .append) #[(.tmp 29), (.tmp 33)] #[22, 22]), some 34))) (by kernel_rfl) (by kernel_rfl) (by kernel_rfl) (by kernel_rfl) (by kernel_rfl) (by kernel_rfl) (by kernel_rfl) (Src.rd r39) (by first | omega | (simp only [List.length_append, List.length_cons, List.length_nil, List.length_take, List.length_drop]; omega)) (fun A68 c69 w70 hM71 => ?_)
    have hM72 : Step V w [] V15 _ ([.row strK 9 A68 c69 (nv.take ((findN nl nk y))), .row strK 9 A57 c58 (nk.take ((findN nl nk y)) ++ nk.drop ((findN nl nk y : Nat) + 1)), .blk b10 (.cells #[.bool (false), .slice none 0 0, .slice none 0 0, .slice none 0 0] 25)] ++ X64) := hM71
    refine wpF_end _ (by kernel_rfl) (then_n (h_d [] (by kernel_rfl) [.row strK 9 A68 c69 (nv.take ((findN nl nk y))), .row strK 9 A57 c58 (nk.take ((findN nl nk y)) ++ nk.drop ((findN nl nk y : Nat) + 1)), .blk b10 (.cells #[.bool (false), .slice none 0 0, .slice none 0 0, .slice none 0 0] 25)] hM72 no_held (VT.le.refl _) ?_))
    refine h_a (by kernel_rfl) (by kernel_rfl) (fun w73 X74 hM75 => ?_)
    refine wpF_append (by_ := 16) hM75 0 rfl (h := (by kernel_rfl : opAt _ _ _ _ _ = some (.call (.mk (.builtin .append) #[(.tmp 34), (.tmp 39)] #[22, 22]), some 40))) (by kernel_rfl) (by kernel_rfl) (by kernel_rfl) (by kernel_rfl) (by kernel_rfl) (by kernel_rfl) (by kernel_rfl) (Src.rd r42) (by first | omega | (simp only [List.length_append, List.length_cons, List.length_nil, List.length_take, List.length_drop]; omega)) (fun A76 c77 w78 hM79 => ?_)
    have hM80 : Step V w [] V15 _ ([.row strK 9 A76 c77 (nv.take ((findN nl nk y)) ++ nv.drop ((findN nl nk y : Nat) + 1)), .row strK 9 A57 c58 (nk.take ((findN nl nk y)) ++ nk.drop ((findN nl nk y : Nat) + 1)), .blk b10 (.cells #[.bool (false), .slice none 0 0, .slice none 0 0, .slice none 0 0] 25)] ++ X74) := hM79
    refine wpF_end _ (by kernel_rfl) (then_n (h_d [] (by kernel_rfl) [.row strK 9 A76 c77 (nv.take ((findN nl nk y)) ++ nv.drop ((findN nl nk y : Nat) + 1)), .row strK 9 A57 c58 (nk.take ((findN nl nk y)) ++ nk.drop ((findN nl nk y : Nat) + 1)), .blk b10 (.cells #[.bool (false), .slice none 0 0, .slice none 0 0, .slice none 0 0] 25)] hM80 no_held (VT.le.refl _) ?_))
    refine h_seg 1 (by kernel_rfl) ?_
    refine h_a (by kernel_rfl) (by kernel_rfl) (fun w81 X82 hM83 => ?_)
    refine wpF_store hM83 2 rfl (h := (by kernel_rfl : opAt _ _ _ _ _ = some (.store 25 (.tmp 4) (.tmp 41), none))) (off := 0) (by kernel_rfl) #[.bool (true), .slice A57 (nk.take ((findN nl nk y)) ++ nk.drop ((findN nl nk y : Nat) + 1)).length c58, .slice A76 (nv.take ((findN nl nk y)) ++ nv.drop ((findN nl nk y : Nat) + 1)).length c77, .slice none 0 0] (by kernel_rfl) (by kernel_rfl) (by kernel_rfl) (by kernel_rfl) (fun w85 hM84 => ?_)
    have hM86 : Step V w [] V15 _ ([.row strK 9 A76 c77 (nv.take ((findN nl nk y)) ++ nv.drop ((findN nl nk y : Nat) + 1)), .row strK 9 A57 c58 (nk.take ((findN nl nk y)) ++ nk.drop ((findN nl nk y : Nat) + 1)), .blk b10 (.cells #[.bool (true), .slice A57 (nk.take ((findN nl nk y)) ++ nk.drop ((findN nl nk y : Nat) + 1)).length c58, .slice A76 (nv.take ((findN nl nk y)) ++ nv.drop ((findN nl nk y : Nat) + 1)).length c77, .slice none 0 0] 25)] ++ X82) := hM84
    refine wpF_end _ (by kernel_rfl) (then_n (h_d [] (by kernel_rfl) [.row strK 9 A76 c77 (nv.take ((findN nl nk y)) ++ nv.drop ((findN nl nk y : Nat) + 1)), .row strK 9 A57 c58 (nk.take ((findN nl nk y)) ++ nk.drop ((findN nl nk y : Nat) + 1)), .blk b10 (.cells #[.bool (true), .slice A57 (nk.take ((findN nl nk y)) ++ nk.drop ((findN nl nk y : Nat) + 1)).length c58, .slice A76 (nv.take ((findN nl nk y)) ++ nv.drop ((findN nl nk y : Nat) + 1)).length c77, .slice none 0 0] 25)] hM86 no_held (VT.le.refl _) ?_))
    refine h_seg 1 (by kernel_rfl) ?_
    refine h_n (fun w87 hM88 => ?_)
    refine  (then_n (hK29 _ _ ?_))
    refine wp_ret ?_
    obtain ⟨V89, le90, hM91, r92⟩ := hM88.settleRow 1 rfl
    have hM93 : Step V w [] V89 _ ([.row strK 9 A76 c77 (nv.take ((findN nl nk y)) ++ nv.drop ((findN nl nk y : Nat) + 1)), .blk b10 (.cells #[.bool (true), .slice A57 (nk.take ((findN nl nk y)) ++ nk.drop ((findN nl nk y : Nat) + 1)).length c58, .slice A76 (nv.take ((findN nl nk y)) ++ nv.drop ((findN nl nk y : Nat) + 1)).length c77, .slice none 0 0] 25)]) := hM91
    obtain ⟨V94, le95, hM96, r97⟩ := hM93.settleRow 0 rfl
    have hM98 : Step V w [] V94 _ ([.blk b10 (.cells #[.bool (true), .slice A57 (nk.take ((findN nl nk y)) ++ nk.drop ((findN nl nk y : Nat) + 1)).length c58, .slice A76 (nv.take ((findN nl nk y)) ++ nv.drop ((findN nl nk y : Nat) + 1)).length c77, .slice none 0 0] 25)]) := hM96
    refine retN [.agg #[.bool (true), .slice A57 (nk.take ((findN nl nk y)) ++ nk.drop ((findN nl nk y : Nat) + 1)).length c58, .slice A76 (nv.take ((findN nl nk y)) ++ nv.drop ((findN nl nk y : Nat) + 1)).length c77, .slice none 0 0], .bool (true)] (.tuple #[.agg #[.bool (true), .slice A57 (nk.take ((findN nl nk y)) ++ nk.drop ((findN nl nk y : Nat) + 1)).length c58, .slice A76 (nv.take ((findN nl nk y)) ++ nv.drop ((findN nl nk y : Nat) + 1)).length c77, .slice none 0 0], .bool (true)]) Try.results29 (.cell (by kernel_rfl) (by kernel_rfl) hM98 0 rfl (by kernel_rfl) (.tmp (by kernel_rfl) (by kernel_rfl) .nil)) (by kernel_rfl) (hRet _ _ ⟨_, _, rfl, hM98.clear, ?_⟩)
    -- end f
    refine ⟨A57, c58, A76, c77, none, 0, ?_, ?_, ?_, ?_⟩
    · simp only [drK, drV, h22, h28, cond_true, cond_false] <;> rfl
    · first | exact (r92.up le95) | (exact Rd.eq (r92.up le95) (by simp only [drK, drV, h22, h28, cond_true, cond_false]))
    · first | exact r97 | (exact Rd.eq r97 (by simp only [drK, drV, h22, h28, cond_true, cond_false]))
    · first | exact (Rd.nil _ _) | (exact Rd.eq (Rd.nil _ _) (by simp only [drK, drV, h22, h28, cond_true, cond_false]))

set_option maxHeartbeats 4000000 in
set_option maxRecDepth 100000 in
theorem f26 (V : VT) (w : World) (hV : V.inW w) (nl : Bool) (Ank : Option Addr) (cnk : Nat) (nk : List Str) (hnk : Rd strK V Ank cnk nk) (Anv : Option Addr) (cnv : Nat) (nv : List Str) (hnv : Rd strK V Anv cnv nv) (Anc : Option Addr) (cnc : Nat) (nc : List Int) (hnc : Rd (intK .i64) V Anc cnc nc) (y : Str) (hy : y.length ≤ maxL) (u : Str) (hu : u.length ≤ maxL) (hk : nk.length ≤ 4096) (hv : nv.length ≤ 4096) :
    Calls Try.prog 26 #[.agg #[.bool (nl), .slice Ank (nk).length cnk, .slice Anv (nv).length cnv, .slice Anc (nc).length cnc], bs (y), bs (u)] w (RetP V w fun rv V' => ∃ (A1 : Option Addr), ∃ (c1 : Nat), ∃ (A2 : Option Addr), ∃ (c2 : Nat), ∃ (A3 : Option Addr), ∃ (c3 : Nat), rv = .tuple #[.agg #[.bool (putOk nl nk nv nc y u), .slice A1 (putK nl nk nv nc y u).length c1, .slice A2 (putV nl nk nv nc y u).length c2, .slice A3 (([] : List Int)).length c3], .int .i64 (putE nl nk nv nc y u)] ∧ Rd strK V' A1 c1 (putK nl nk nv nc y u) ∧ Rd strK V' A2 c2 (putV nl nk nv nc y u) ∧ Rd (intK .i64) V' A3 c3 (([] : List Int))) := by
  have mxnk : nk.length ≤ 140737488355328 := hnk.max
  have mxnv : nv.length ≤ 140737488355328 := hnv.max
  have mxnc : nc.length ≤ 140737488355328 := hnc.max
  have mxy : y.length ≤ 140737488355328 := hy
  have mxu : u.length ≤ 140737488355328 := hu
  refine calls_env (n := 61) Try.func26 (c := _) rfl Try.ntmps26 (by kernel_rfl) (fun R hRet => ?_)
  have hM0 : Step V w [] V w [] := Step.refl (St.nilE hV)
  cases nl with
  | false =>
    refine wp_seq_k (fun K1 hK1 => ?_)
    refine wp_reg ?_
    refine wpF_box hM0 #[.bool (false), .slice Ank (nk).length cnk, .slice Anv (nv).length cnv, .slice Anc (nc).length cnc] (h := (by kernel_rfl : opAt _ _ _ _ _ = some (.box 25 (.tmp 0), some 3))) (by kernel_rfl) (fun b2 w3 hM4 => ?_)
    obtain ⟨V5, le6, hM7, hc8⟩ := hM4.settle 0 rfl
    have hM9 : Step V w [] V5 _ ([]) := hM7
    refine wpF_alloc hM9 #[.bool (false), .slice none 0 0, .slice none 0 0, .slice none 0 0] (h := (by kernel_rfl : opAt _ _ _ _ _ = some (.alloc 25, some 6))) (by kernel_rfl) (fun b10 w11 hM12 => ?_)
    refine wpF_seg 1 (by kernel_rfl) ?_
    refine wpF_end _ (by kernel_rfl) (then_n (hK1 _ _ ?_))
    refine wp_seq_k (fun K13 hK13 => ?_)
    refine wp_seq_k (fun K14 hK14 => ?_)
    refine wp_reg ?_
    refine gF hM12 (.load 25 (.tmp 3)) (some 11) (by kernel_rfl) (Y_loadB #[.bool (false), .slice Ank (nk).length cnk, .slice Anv (nv).length cnv, .slice Anc (nc).length cnc] hc8 (off := 0) (by kernel_rfl) (.agg #[.bool (false), .slice Ank (nk).length cnk, .slice Anv (nv).length cnv, .slice Anc (nc).length cnc]) (by kernel_rfl)) ?_
    refine wpF_callP hM12 (f := 34) (caps := #[]) (h := (by kernel_rfl : opAt _ _ _ _ _ = some (.call (.mk (.value (.func 34)) #[(.tmp 11)] #[25]), some 12))) (by kernel_rfl) (by kernel_rfl) (by kernel_rfl) (f34 _ _ hM12.inW (false) Ank cnk (nk) (hnk.up hM12.le) Anv cnv (nv) (hnv.up hM12.le) Anc cnc (nc) (hnc.up hM12.le)) (fun v15 V16 w17 le18 hM19 hp20 => ?_)
    obtain rfl := hp20
    refine wpF_seg 2 (by kernel_rfl) ?_
    refine wpF_caseB 14 (!(stands (false) (nk) (nv) (nc))) (by kernel_rfl) (by kernel_rfl) (fun h21 => ?_) (fun h21 => ?_)
    · -- Ft
      have h22 : (stands (false) (nk) (nv) (nc)) = false := by simpa using h21
      refine wpF_seg 14 (by kernel_rfl) ?_
      refine wpF_end _ (by kernel_rfl) (then_n (hK14 _ _ ?_))
      refine wp_ct (by kernel_rfl) ?_
      refine wp_seq_k (fun K23 hK23 => ?_)
      refine wp_reg ?_
      refine wpF_seg 1 (by kernel_rfl) ?_
      refine wpF_store hM19 0 rfl (h := (by kernel_rfl : opAt _ _ _ _ _ = some (.store 25 (.tmp 6) (.tmp 29), none))) (off := 0) (by kernel_rfl) #[.bool (false), .slice none 0 0, .slice none 0 0, .slice none 0 0] (by kernel_rfl) (by kernel_rfl) (by kernel_rfl) (by kernel_rfl) (fun w25 hM24 => ?_)
      have hM26 : Step V w [] V16 _ ([.blk b10 (.cells #[.bool (false), .slice none 0 0, .slice none 0 0, .slice none 0 0] 25)]) := hM24
      refine wpF_seg 1 (by kernel_rfl) ?_
      refine wpF_end _ (by kernel_rfl) (then_n (hK23 _ _ ?_))
      refine wp_ret (then_r (?_))
      refine retN [.agg #[.bool (false), .slice none 0 0, .slice none 0 0, .slice none 0 0], .int .i64 (2)] (.tuple #[.agg #[.bool (false), .slice none 0 0, .slice none 0 0, .slice none 0 0], .int .i64 (2)]) Try.results26 (.cell (by kernel_rfl) (by kernel_rfl) hM26 0 rfl (by kernel_rfl) (.tmp (by kernel_rfl) (by kernel_rfl) .nil)) (by kernel_rfl) (hRet _ _ ⟨_, _, rfl, hM26.clear, ?_⟩)
      -- end Ft
      have hok : putOk false nk nv nc y u = false := by simp only [putOk, h21, h22, Bool.and_false, Bool.false_and, Bool.not_true, Bool.not_false]
      refine ⟨none, 0, none, 0, none, 0, ?_, ?_, ?_, ?_⟩
      · simp only [putK, putV, putE, hok, h21, h22, cond_true, cond_false, List.length_set] <;> rfl
      · first | exact (Rd.nil _ _) | (exact Rd.eq (Rd.nil _ _) (by simp only [putK, putV, putE, hok, h21, h22, cond_true, cond_false]))
      · first | exact (Rd.nil _ _) | (exact Rd.eq (Rd.nil _ _) (by simp only [putK, putV, putE, hok, h21, h22, cond_true, cond_false]))
      · first | exact (Rd.nil _ _) | (exact Rd.eq (Rd.nil _ _) (by simp only [putK, putV, putE, hok, h21, h22, cond_true, cond_false]))
    · -- Ff
      have h27 : (stands (false) (nk) (nv) (nc)) = true := by simpa using h21
      refine wpF_seg 1 (by kernel_rfl) ?_
      refine gF hM19 (.load 4 (.tmp 15)) (some 16) (by kernel_rfl) (Y_loadB #[.bool (false), .slice Ank (nk).length cnk, .slice Anv (nv).length cnv, .slice Anc (nc).length cnc] (fun i v hi => le18 _ _ _ (hc8 i v hi)) (off := 0) (by kernel_rfl) (.bool (false)) (by kernel_rfl)) ?_
      refine wpF_seg 12 (by kernel_rfl) ?_
      refine wpF_end _ (by kernel_rfl) (then_n (hK14 _ _ ?_))
      refine wp_ct (by kernel_rfl) ?_
      refine wp_seq_k (fun K28 hK28 => ?_)
      refine wp_reg ?_
      refine wpF_seg 1 (by kernel_rfl) ?_
      refine wpF_store hM19 0 rfl (h := (by kernel_rfl : opAt _ _ _ _ _ = some (.store 25 (.tmp 6) (.tmp 29), none))) (off := 0) (by kernel_rfl) #[.bool (false), .slice none 0 0, .slice none 0 0, .slice none 0 0] (by kernel_rfl) (by kernel_rfl) (by kernel_rfl) (by kernel_rfl) (fun w30 hM29 => ?_)
      have hM31 : Step V w [] V16 _ ([.blk b10 (.cells #[.bool (false), .slice none 0 0, .slice none 0 0, .slice none 0 0] 25)]) := hM29
      refine wpF_seg 1 (by kernel_rfl) ?_
      refine wpF_end _ (by kernel_rfl) (then_n (hK28 _ _ ?_))
      refine wp_ret (then_r (?_))
      refine retN [.agg #[.bool (false), .slice none 0 0, .slice none 0 0, .slice none 0 0], .int .i64 (2)] (.tuple #[.agg #[.bool (false), .slice none 0 0, .slice none 0 0, .slice none 0 0], .int .i64 (2)]) Try.results26 (.cell (by kernel_rfl) (by kernel_rfl) hM31 0 rfl (by kernel_rfl) (.tmp (by kernel_rfl) (by kernel_rfl) .nil)) (by kernel_rfl) (hRet _ _ ⟨_, _, rfl, hM31.clear, ?_⟩)
      -- end Ff
      have hok : putOk false nk nv nc y u = false := by simp only [putOk, h21, h27, Bool.and_false, Bool.false_and, Bool.not_true, Bool.not_false]
      refine ⟨none, 0, none, 0, none, 0, ?_, ?_, ?_, ?_⟩
      · simp only [putK, putV, putE, hok, h21, h27, cond_true, cond_false, List.length_set] <;> rfl
      · first | exact (Rd.nil _ _) | (exact Rd.eq (Rd.nil _ _) (by simp only [putK, putV, putE, hok, h21, h27, cond_true, cond_false]))
      · first | exact (Rd.nil _ _) | (exact Rd.eq (Rd.nil _ _) (by simp only [putK, putV, putE, hok, h21, h27, cond_true, cond_false]))
      · first | exact (Rd.nil _ _) | (exact Rd.eq (Rd.nil _ _) (by simp only [putK, putV, putE, hok, h21, h27, cond_true, cond_false]))
  | true =>
    refine wp_seq_k (fun K32 hK32 => ?_)
    refine wp_reg ?_
    refine wpF_box hM0 #[.bool (true), .slice Ank (nk).length cnk, .slice Anv (nv).length cnv, .slice Anc (nc).length cnc] (h := (by kernel_rfl : opAt _ _ _ _ _ = some (.box 25 (.tmp 0), some 3))) (by kernel_rfl) (fun b33 w34 hM35 => ?_)
    obtain ⟨V36, le37, hM38, hc39⟩ := hM35.settle 0 rfl
    have hM40 : Step V w [] V36 _ ([]) := hM38
    refine wpF_alloc hM40 #[.bool (false), .slice none 0 0, .slice none 0 0, .slice none 0 0] (h := (by kernel_rfl : opAt _ _ _ _ _ = some (.alloc 25, some 6))) (by kernel_rfl) (fun b41 w42 hM43 => ?_)
    refine wpF_seg 1 (by kernel_rfl) ?_
    refine wpF_end _ (by kernel_rfl) (then_n (hK32 _ _ ?_))
    refine wp_seq_k (fun K44 hK44 => ?_)
    refine wp_seq_k (fun K45 hK45 => ?_)
    refine wp_reg ?_
    refine gF hM43 (.load 25 (.tmp 3)) (some 11) (by kernel_rfl) (Y_loadB #[.bool (true), .slice Ank (nk).length cnk, .slice Anv (nv).length cnv, .slice Anc (nc).length cnc] hc39 (off := 0) (by kernel_rfl) (.agg #[.bool (true), .slice Ank (nk).length cnk, .slice Anv (nv).length cnv, .slice Anc (nc).length cnc]) (by kernel_rfl)) ?_
    refine wpF_callP hM43 (f := 34) (caps := #[]) (h := (by kernel_rfl : opAt _ _ _ _ _ = some (.call (.mk (.value (.func 34)) #[(.tmp 11)] #[25]), some 12))) (by kernel_rfl) (by kernel_rfl) (by kernel_rfl) (f34 _ _ hM43.inW (true) Ank cnk (nk) (hnk.up hM43.le) Anv cnv (nv) (hnv.up hM43.le) Anc cnc (nc) (hnc.up hM43.le)) (fun v46 V47 w48 le49 hM50 hp51 => ?_)
    obtain rfl := hp51
    refine wpF_seg 2 (by kernel_rfl) ?_
    refine wpF_caseB 14 (!(stands (true) (nk) (nv) (nc))) (by kernel_rfl) (by kernel_rfl) (fun h52 => ?_) (fun h52 => ?_)
    · -- Tt
      have h53 : (stands (true) (nk) (nv) (nc)) = false := by simpa using h52
      refine wpF_seg 14 (by kernel_rfl) ?_
      refine wpF_end _ (by kernel_rfl) (then_n (hK45 _ _ ?_))
      refine wp_ct (by kernel_rfl) ?_
      refine wp_seq_k (fun K54 hK54 => ?_)
      refine wp_reg ?_
      refine wpF_seg 1 (by kernel_rfl) ?_
      refine wpF_store hM50 0 rfl (h := (by kernel_rfl : opAt _ _ _ _ _ = some (.store 25 (.tmp 6) (.tmp 29), none))) (off := 0) (by kernel_rfl) #[.bool (false), .slice none 0 0, .slice none 0 0, .slice none 0 0] (by kernel_rfl) (by kernel_rfl) (by kernel_rfl) (by kernel_rfl) (fun w56 hM55 => ?_)
      have hM57 : Step V w [] V47 _ ([.blk b41 (.cells #[.bool (false), .slice none 0 0, .slice none 0 0, .slice none 0 0] 25)]) := hM55
      refine wpF_seg 1 (by kernel_rfl) ?_
      refine wpF_end _ (by kernel_rfl) (then_n (hK54 _ _ ?_))
      refine wp_ret (then_r (?_))
      refine retN [.agg #[.bool (false), .slice none 0 0, .slice none 0 0, .slice none 0 0], .int .i64 (2)] (.tuple #[.agg #[.bool (false), .slice none 0 0, .slice none 0 0, .slice none 0 0], .int .i64 (2)]) Try.results26 (.cell (by kernel_rfl) (by kernel_rfl) hM57 0 rfl (by kernel_rfl) (.tmp (by kernel_rfl) (by kernel_rfl) .nil)) (by kernel_rfl) (hRet _ _ ⟨_, _, rfl, hM57.clear, ?_⟩)
      -- end Tt
      have hok : putOk true nk nv nc y u = false := by simp only [putOk, h52, h53, Bool.and_false, Bool.false_and, Bool.not_true, Bool.not_false]
      refine ⟨none, 0, none, 0, none, 0, ?_, ?_, ?_, ?_⟩
      · simp only [putK, putV, putE, hok, h52, h53, cond_true, cond_false, List.length_set] <;> rfl
      · first | exact (Rd.nil _ _) | (exact Rd.eq (Rd.nil _ _) (by simp only [putK, putV, putE, hok, h52, h53, cond_true, cond_false]))
      · first | exact (Rd.nil _ _) | (exact Rd.eq (Rd.nil _ _) (by simp only [putK, putV, putE, hok, h52, h53, cond_true, cond_false]))
      · first | exact (Rd.nil _ _) | (exact Rd.eq (Rd.nil _ _) (by simp only [putK, putV, putE, hok, h52, h53, cond_true, cond_false]))
    · -- Tf
      have h58 : (stands (true) (nk) (nv) (nc)) = true := by simpa using h52
      refine wpF_seg 1 (by kernel_rfl) ?_
      refine gF hM50 (.load 4 (.tmp 15)) (some 16) (by kernel_rfl) (Y_loadB #[.bool (true), .slice Ank (nk).length cnk, .slice Anv (nv).length cnv, .slice Anc (nc).length cnc] (fun i v hi => le49 _ _ _ (hc39 i v hi)) (off := 0) (by kernel_rfl) (.bool (true)) (by kernel_rfl)) ?_
      refine wpF_seg 8 (by kernel_rfl) ?_
      refine wpF_caseB 24 (decide ((128) < ((y.length : Int)))) (by kernel_rfl) (by kernel_rfl) (fun h59 => ?_) (fun h59 => ?_)
      · -- Tft
        have p60 : ((128) < ((y.length : Int))) := of_decide_eq_true h59
        refine wpF_seg 4 (by kernel_rfl) ?_
        refine wpF_end _ (by kernel_rfl) (then_n (hK45 _ _ ?_))
        refine wp_ct (by kernel_rfl) ?_
        refine wp_seq_k (fun K61 hK61 => ?_)
        refine wp_reg ?_
        refine wpF_seg 1 (by kernel_rfl) ?_
        refine wpF_store hM50 0 rfl (h := (by kernel_rfl : opAt _ _ _ _ _ = some (.store 25 (.tmp 6) (.tmp 29), none))) (off := 0) (by kernel_rfl) #[.bool (false), .slice none 0 0, .slice none 0 0, .slice none 0 0] (by kernel_rfl) (by kernel_rfl) (by kernel_rfl) (by kernel_rfl) (fun w63 hM62 => ?_)
        have hM64 : Step V w [] V47 _ ([.blk b41 (.cells #[.bool (false), .slice none 0 0, .slice none 0 0, .slice none 0 0] 25)]) := hM62
        refine wpF_seg 1 (by kernel_rfl) ?_
        refine wpF_end _ (by kernel_rfl) (then_n (hK61 _ _ ?_))
        refine wp_ret (then_r (?_))
        refine retN [.agg #[.bool (false), .slice none 0 0, .slice none 0 0, .slice none 0 0], .int .i64 (2)] (.tuple #[.agg #[.bool (false), .slice none 0 0, .slice none 0 0, .slice none 0 0], .int .i64 (2)]) Try.results26 (.cell (by kernel_rfl) (by kernel_rfl) hM64 0 rfl (by kernel_rfl) (.tmp (by kernel_rfl) (by kernel_rfl) .nil)) (by kernel_rfl) (hRet _ _ ⟨_, _, rfl, hM64.clear, ?_⟩)
        -- end Tft
        have hok : putOk true nk nv nc y u = false := by simp only [putOk, h52, h58, h59, Bool.and_false, Bool.false_and, Bool.not_true, Bool.not_false]
        refine ⟨none, 0, none, 0, none, 0, ?_, ?_, ?_, ?_⟩
        · simp only [putK, putV, putE, hok, h52, h58, h59, cond_true, cond_false, List.length_set] <;> rfl
        · first | exact (Rd.nil _ _) | (exact Rd.eq (Rd.nil _ _) (by simp only [putK, putV, putE, hok, h52, h58, h59, cond_true, cond_false]))
        · first | exact (Rd.nil _ _) | (exact Rd.eq (Rd.nil _ _) (by simp only [putK, putV, putE, hok, h52, h58, h59, cond_true, cond_false]))
        · first | exact (Rd.nil _ _) | (exact Rd.eq (Rd.nil _ _) (by simp only [putK, putV, putE, hok, h52, h58, h59, cond_true, cond_false]))
      · -- Tff
        have p65 : ¬ ((128) < ((y.length : Int))) := of_decide_eq_false h59
        refine wpF_seg 4 (by kernel_rfl) ?_
        refine wpF_end _ (by kernel_rfl) (then_n (hK45 _ _ ?_))
        refine wp_if (decide ((200) < ((u.length : Int)))) (by kernel_rfl) (fun h66 => ?_) (fun h66 => ?_)
        · -- Tfft
          have p67 : ((200) < ((u.length : Int))) := of_decide_eq_true h66
          refine wp_seq_k (fun K68 hK68 => ?_)
          refine wp_reg ?_
          refine wpF_seg 1 (by kernel_rfl) ?_
          refine wpF_store hM50 0 rfl (h := (by kernel_rfl : opAt _ _ _ _ _ = some (.store 25 (.tmp 6) (.tmp 29), none))) (off := 0) (by kernel_rfl) #[.bool (false), .slice none 0 0, .slice none 0 0, .slice none 0 0] (by kernel_rfl) (by kernel_rfl) (by kernel_rfl) (by kernel_rfl) (fun w70 hM69 => ?_)
          have hM71 : Step V w [] V47 _ ([.blk b41 (.cells #[.bool (false), .slice none 0 0, .slice none 0 0, .slice none 0 0] 25)]) := hM69
          refine wpF_seg 1 (by kernel_rfl) ?_
          refine wpF_end _ (by kernel_rfl) (then_n (hK68 _ _ ?_))
          refine wp_ret (then_r (?_))
          refine retN [.agg #[.bool (false), .slice none 0 0, .slice none 0 0, .slice none 0 0], .int .i64 (2)] (.tuple #[.agg #[.bool (false), .slice none 0 0, .slice none 0 0, .slice none 0 0], .int .i64 (2)]) Try.results26 (.cell (by kernel_rfl) (by kernel_rfl) hM71 0 rfl (by kernel_rfl) (.tmp (by kernel_rfl) (by kernel_rfl) .nil)) (by kernel_rfl) (hRet _ _ ⟨_, _, rfl, hM71.clear, ?_⟩)
          -- end Tfft
          have hok : putOk true nk nv nc y u = false := by simp only [putOk, h52, h58, h59, h66, Bool.and_false, Bool.false_and, Bool.not_true, Bool.not_false]
          refine ⟨none, 0, none, 0, none, 0, ?_, ?_, ?_, ?_⟩
          · simp only [putK, putV, putE, hok, h52, h58, h59, h66, cond_true, cond_false, List.length_set] <;> rfl
          · first | exact (Rd.nil _ _) | (exact Rd.eq (Rd.nil _ _) (by simp only [putK, putV, putE, hok, h52, h58, h59, h66, cond_true, cond_false]))
          · first | exact (Rd.nil _ _) | (exact Rd.eq (Rd.nil _ _) (by simp only [putK, putV, putE, hok, h52, h58, h59, h66, cond_true, cond_false]))
          · first | exact (Rd.nil _ _) | (exact Rd.eq (Rd.nil _ _) (by simp only [putK, putV, putE, hok, h52, h58, h59, h66, cond_true, cond_false]))
        · -- Tfff
          have p72 : ¬ ((200) < ((u.length : Int))) := of_decide_eq_false h66
          have hs : stands true nk nv nc = true := by assumption
          have hl := stands_leaf hs
          have hle := findN_le true nk y
          refine wp_skip (then_n (hK44 _ _ ?_))
          refine wp_seq_k (fun K73 hK73 => ?_)
          refine wp_reg ?_
          refine gF hM50 (.load 25 (.tmp 3)) (some 31) (by kernel_rfl) (Y_loadB #[.bool (true), .slice Ank (nk).length cnk, .slice Anv (nv).length cnv, .slice Anc (nc).length cnc] (fun i v hi => le49 _ _ _ (hc39 i v hi)) (off := 0) (by kernel_rfl) (.agg #[.bool (true), .slice Ank (nk).length cnk, .slice Anv (nv).length cnv, .slice Anc (nc).length cnc]) (by kernel_rfl)) ?_
          refine wpF_seg 1 (by kernel_rfl) ?_
          refine wpF_callP hM50 (f := 22) (caps := #[]) (h := (by kernel_rfl : opAt _ _ _ _ _ = some (.call (.mk (.value (.func 22)) #[(.tmp 31), (.tmp 32)] #[25, 9]), some 33))) (by kernel_rfl) (by kernel_rfl) (by kernel_rfl) (f22 _ _ hM50.inW (true) Ank cnk (nk) (hnk.up hM50.le) Anv cnv (nv) (hnv.up hM50.le) Anc cnc (nc) (hnc.up hM50.le) (y) (hy)) (fun v74 V75 w76 le77 hM78 hp79 => ?_)
          obtain rfl := hp79
          refine wpF_seg 2 (by kernel_rfl) ?_
          refine wpF_slot 34 (.int .i64 (findI (true) (nk) (nv) (nc) (y))) (.int .i64 (((findN true nk y : Nat) : Int))) (by kernel_rfl) (by kernel_rfl) (by rw [findI_st (by assumption)]) ?_
          refine wpF_seg 3 (by kernel_rfl) ?_
          refine wpF_end _ (by kernel_rfl) (then_n (hK73 _ _ ?_))
          refine wp_seq_k (fun K80 hK80 => ?_)
          refine wp_seq_k (fun K81 hK81 => ?_)
          refine wp_reg ?_
          refine wpF_seg 1 (by kernel_rfl) ?_
          refine wpF_end _ (by kernel_rfl) (then_n (hK81 _ _ ?_))
          refine wp_if (findB (true) (nk) (nv) (nc) (y)) (by kernel_rfl) (fun h82 => ?_) (fun h82 => ?_)
          · -- Tffft
            have hfl := find_lens (by assumption : findB true nk nv nc y = true)
            refine wp_seq_k (fun K83 hK83 => ?_)
            refine wp_base [(1, bs (y)), (2, bs (u)), (3, .pointer (some ⟨b33, 0, none⟩)), (6, .pointer (some ⟨b41, 0, none⟩)), (7, .int .i64 (0)), (8, .int .i64 (((findN true nk y : Nat) : Int)))] (by kernel_rfl) (fun g84 => ?_)
            refine wp_drawN hM78 [] no_held [⟨7, fun b_ => .pointer (some ⟨b_, 0, none⟩), #[.bool (false), .slice none 0 0, .slice none 0 0, .slice none 0 0], 25⟩] [0, 1, 3, 4] [.a 2, .a 5, .p 6, .f 7, .a 8] [.p 0, .p 1, .p 3, .p 4, .s, .a 2, .a 5, .p 6, .f 7, .a 8] rfl (by kernel_rfl) (by kernel_rfl) ?_
            refine h_seg 1 (by kernel_rfl) ?_
            refine gH (.load 22 (.tmp 37)) (some 38) (by kernel_rfl) (Y_loadB #[.bool (true), .slice Ank (nk).length cnk, .slice Anv (nv).length cnv, .slice Anc (nc).length cnc] (fun i v hi => (le49.trans le77) _ _ _ (hc39 i v hi)) (off := 1) (by kernel_rfl) (.slice Ank (nk).length cnk) (by kernel_rfl)) ?_
            refine h_seg 1 (by kernel_rfl) ?_
            refine gH (.load 22 (.tmp 40)) (some 41) (by kernel_rfl) (Y_loadB #[.bool (true), .slice Ank (nk).length cnk, .slice Anv (nv).length cnv, .slice Anc (nc).length cnc] (fun i v hi => (le49.trans le77) _ _ _ (hc39 i v hi)) (off := 2) (by kernel_rfl) (.slice Anv (nv).length cnv) (by kernel_rfl)) ?_
            refine h_s (and_fs (fre_alloc (h := (by kernel_rfl : opAt _ _ _ _ _ = some (.alloc 25, some 10))) (by kernel_rfl)) no_fs) ?_
            refine h_a (by kernel_rfl) (by kernel_rfl) (fun w85 X86 hM87 => ?_)
            have hM95 : Step V w [] V75 _ ([.blk b41 (.cells #[.bool (false), .slice none 0 0, .slice none 0 0, .slice none 0 0] 25)] ++ X86) := hM87
            refine wpF_callE [] ([.blk b41 (.cells #[.bool (false), .slice none 0 0, .slice none 0 0, .slice none 0 0] 25)] ++ X86) hM95 (f := 50) (caps := #[]) (h := (by kernel_rfl : opAt _ _ _ _ _ = some (.call (.mk (.value (.func 50)) #[(.tmp 38)] #[22]), some 39))) (by kernel_rfl) (by kernel_rfl) (by kernel_rfl) (f50 _ _ hM95.inW Ank cnk (nk) (hnk.up hM87.le) (by omega)) (fun v88 V89 w90 Eo91 le92 hM93 hp94 => ?_)
            obtain ⟨Ar95_1, cr95_1, rfl, rfl⟩ := hp94
            have hM96 : Step V w [] V89 _ ([.row strK 9 Ar95_1 cr95_1 ((nk)), .blk b41 (.cells #[.bool (false), .slice none 0 0, .slice none 0 0, .slice none 0 0] 25)] ++ X86) := hM93
            refine wpF_end _ (by kernel_rfl) (then_n (h_d [] (by kernel_rfl) [.row strK 9 Ar95_1 cr95_1 ((nk)), .blk b41 (.cells #[.bool (false), .slice none 0 0, .slice none 0 0, .slice none 0 0] 25)] hM96 no_held le92 ?_))
            refine h_a (by kernel_rfl) (by kernel_rfl) (fun w97 X98 hM99 => ?_)
            have hM107 : Step V w [] V89 _ ([.row strK 9 Ar95_1 cr95_1 ((nk)), .blk b41 (.cells #[.bool (false), .slice none 0 0, .slice none 0 0, .slice none 0 0] 25)] ++ X98) := hM99
            refine wpF_callE [] ([.row strK 9 Ar95_1 cr95_1 ((nk)), .blk b41 (.cells #[.bool (false), .slice none 0 0, .slice none 0 0, .slice none 0 0] 25)] ++ X98) hM107 (f := 50) (caps := #[]) (h := (by kernel_rfl : opAt _ _ _ _ _ = some (.call (.mk (.value (.func 50)) #[(.tmp 41)] #[22]), some 42))) (by kernel_rfl) (by kernel_rfl) (by kernel_rfl) (f50 _ _ hM107.inW Anv cnv (nv) (hnv.up hM99.le) (by omega)) (fun v100 V101 w102 Eo103 le104 hM105 hp106 => ?_)
            obtain ⟨Ar107_1, cr107_1, rfl, rfl⟩ := hp106
            have hM108 : Step V w [] V101 _ ([.row strK 9 Ar107_1 cr107_1 ((nv)), .row strK 9 Ar95_1 cr95_1 ((nk)), .blk b41 (.cells #[.bool (false), .slice none 0 0, .slice none 0 0, .slice none 0 0] 25)] ++ X98) := hM105
            refine wpF_end _ (by kernel_rfl) (then_n (h_d [] (by kernel_rfl) [.row strK 9 Ar107_1 cr107_1 ((nv)), .row strK 9 Ar95_1 cr95_1 ((nk)), .blk b41 (.cells #[.bool (false), .slice none 0 0, .slice none 0 0, .slice none 0 0] 25)] hM108 no_held le104 ?_))
            refine h_seg 1 (by kernel_rfl) ?_
            refine h_f (d := 10) ⟨7, fun b_ => .pointer (some ⟨b_, 0, none⟩), #[.bool (false), .slice none 0 0, .slice none 0 0, .slice none 0 0], 25⟩ (by kernel_rfl) (by kernel_rfl) (by kernel_rfl) (fun b109 => ?_)
            refine h_a (by kernel_rfl) (by kernel_rfl) (fun w110 X111 hM112 => ?_)
            refine wpF_store hM112 0 rfl (h := (by kernel_rfl : opAt _ _ _ _ _ = some (.store 25 (.tmp 10) (.tmp 43), none))) (off := 0) (by kernel_rfl) #[.bool (true), .slice Ar95_1 ((nk)).length cr95_1, .slice Ar107_1 ((nv)).length cr107_1, .slice none 0 0] (by kernel_rfl) (by kernel_rfl) (by kernel_rfl) (by kernel_rfl) (fun w114 hM113 => ?_)
            have hM115 : Step V w [] V101 _ ([.blk b109 (.cells #[.bool (true), .slice Ar95_1 ((nk)).length cr95_1, .slice Ar107_1 ((nv)).length cr107_1, .slice none 0 0] 25), .row strK 9 Ar107_1 cr107_1 ((nv)), .row strK 9 Ar95_1 cr95_1 ((nk)), .blk b41 (.cells #[.bool (false), .slice none 0 0, .slice none 0 0, .slice none 0 0] 25)] ++ X111) := hM113
            refine wpF_end _ (by kernel_rfl) (then_n (h_d [] (by kernel_rfl) [.blk b109 (.cells #[.bool (true), .slice Ar95_1 ((nk)).length cr95_1, .slice Ar107_1 ((nv)).length cr107_1, .slice none 0 0] 25), .row strK 9 Ar107_1 cr107_1 ((nv)), .row strK 9 Ar95_1 cr95_1 ((nk)), .blk b41 (.cells #[.bool (false), .slice none 0 0, .slice none 0 0, .slice none 0 0] 25)] hM115 no_held (VT.le.refl _) ?_))
            refine h_n (fun w116 hM117 => ?_)
            refine  (then_n (hK83 _ _ ?_))
            refine wp_seq_k (fun K118 hK118 => ?_)
            refine wp_reg ?_
            refine wpF_seg 1 (by kernel_rfl) ?_
            refine gF hM117 (.load 22 (.tmp 44)) (some 45) (by kernel_rfl) (Y_load 0 rfl (off := 2) (by kernel_rfl) (.slice Ar107_1 ((nv)).length cr107_1) (by kernel_rfl)) ?_
            refine wpF_seg 2 (by kernel_rfl) ?_
            refine wpF_indexW hM117 1 rfl .i64 (((findN true nk y : Nat) : Int)) (h := (by kernel_rfl : opAt _ _ _ _ _ = some (.indexAddr 22 (.tmp 45) (.tmp 46), some 48))) (e' := 9) (by kernel_rfl) (by kernel_rfl) (by kernel_rfl) ((findN true nk y)) (by omega) (by omega) (fun b119 hA120 => ?_)
            refine wpF_storeW (m := ((findN true nk y))) hM117 1 rfl hA120 (h := (by kernel_rfl : opAt _ _ _ _ _ = some (.store 9 (.tmp 48) (.tmp 47), none))) (by kernel_rfl) (u) (by kernel_rfl) (hu) (by kernel_rfl) (by first | omega | (simp only [List.length_set]; omega)) (fun w122 hM121 => ?_)
            have hM123 : Step V w [] V101 _ ([.blk b109 (.cells #[.bool (true), .slice Ar95_1 ((nk)).length cr95_1, .slice Ar107_1 ((nv)).length cr107_1, .slice none 0 0] 25), .row strK 9 Ar107_1 cr107_1 (((nv)).set (((findN true nk y))) u), .row strK 9 Ar95_1 cr95_1 ((nk)), .blk b41 (.cells #[.bool (false), .slice none 0 0, .slice none 0 0, .slice none 0 0] 25)]) := hM121
            refine wpF_end _ (by kernel_rfl) (then_n (hK118 _ _ ?_))
            refine wp_seq_k (fun K124 hK124 => ?_)
            refine wp_reg ?_
            refine gF hM123 (.load 25 (.tmp 10)) (some 49) (by kernel_rfl) (Y_load 0 rfl (off := 0) (by kernel_rfl) (.agg #[.bool (true), .slice Ar95_1 ((nk)).length cr95_1, .slice Ar107_1 ((nv)).length cr107_1, .slice none 0 0]) (by kernel_rfl)) ?_
            refine wpF_store hM123 3 rfl (h := (by kernel_rfl : opAt _ _ _ _ _ = some (.store 25 (.tmp 6) (.tmp 49), none))) (off := 0) (by kernel_rfl) #[.bool (true), .slice Ar95_1 ((nk)).length cr95_1, .slice Ar107_1 ((nv)).length cr107_1, .slice none 0 0] (by kernel_rfl) (by kernel_rfl) (by kernel_rfl) (by kernel_rfl) (fun w126 hM125 => ?_)
            have hM127 : Step V w [] V101 _ ([.blk b109 (.cells #[.bool (true), .slice Ar95_1 ((nk)).length cr95_1, .slice Ar107_1 ((nv)).length cr107_1, .slice none 0 0] 25), .row strK 9 Ar107_1 cr107_1 (((nv)).set (((findN true nk y))) u), .row strK 9 Ar95_1 cr95_1 ((nk)), .blk b41 (.cells #[.bool (true), .slice Ar95_1 ((nk)).length cr95_1, .slice Ar107_1 ((nv)).length cr107_1, .slice none 0 0] 25)]) := hM125
            refine wpF_seg 1 (by kernel_rfl) ?_
            refine wpF_end _ (by kernel_rfl) (then_n (hK124 _ _ ?_))
            refine wp_ret (then_r (?_))
            obtain ⟨V128, le129, hM130, r131⟩ := hM127.settleRow 2 rfl
            have hM132 : Step V w [] V128 _ ([.blk b109 (.cells #[.bool (true), .slice Ar95_1 ((nk)).length cr95_1, .slice Ar107_1 ((nv)).length cr107_1, .slice none 0 0] 25), .row strK 9 Ar107_1 cr107_1 (((nv)).set (((findN true nk y))) u), .blk b41 (.cells #[.bool (true), .slice Ar95_1 ((nk)).length cr95_1, .slice Ar107_1 ((nv)).length cr107_1, .slice none 0 0] 25)]) := hM130
            obtain ⟨V133, le134, hM135, r136⟩ := hM132.settleRow 1 rfl
            have hM137 : Step V w [] V133 _ ([.blk b109 (.cells #[.bool (true), .slice Ar95_1 ((nk)).length cr95_1, .slice Ar107_1 ((nv)).length cr107_1, .slice none 0 0] 25), .blk b41 (.cells #[.bool (true), .slice Ar95_1 ((nk)).length cr95_1, .slice Ar107_1 ((nv)).length cr107_1, .slice none 0 0] 25)]) := hM135
            refine retN [.agg #[.bool (true), .slice Ar95_1 ((nk)).length cr95_1, .slice Ar107_1 ((nv)).length cr107_1, .slice none 0 0], .int .i64 (0)] (.tuple #[.agg #[.bool (true), .slice Ar95_1 ((nk)).length cr95_1, .slice Ar107_1 ((nv)).length cr107_1, .slice none 0 0], .int .i64 (0)]) Try.results26 (.cell (by kernel_rfl) (by kernel_rfl) hM137 1 rfl (by kernel_rfl) (.tmp (by kernel_rfl) (by kernel_rfl) .nil)) (by kernel_rfl) (hRet _ _ ⟨_, _, rfl, hM137.clear, ?_⟩)
            -- end Tffft
            have hok : putOk true nk nv nc y u = true := by simp only [putOk, h52, h58, h59, h66, h82, Bool.and_self, Bool.not_true, Bool.not_false]
            refine ⟨Ar95_1, cr95_1, Ar107_1, cr107_1, none, 0, ?_, ?_, ?_, ?_⟩
            · simp only [putK, putV, putE, hok, h52, h58, h59, h66, h82, cond_true, cond_false, List.length_set] <;> rfl
            · first | exact (r131.up le134) | (exact Rd.eq (r131.up le134) (by simp only [putK, putV, putE, hok, h52, h58, h59, h66, h82, cond_true, cond_false]))
            · first | exact r136 | (exact Rd.eq r136 (by simp only [putK, putV, putE, hok, h52, h58, h59, h66, h82, cond_true, cond_false]))
            · first | exact (Rd.nil _ _) | (exact Rd.eq (Rd.nil _ _) (by simp only [putK, putV, putE, hok, h52, h58, h59, h66, h82, cond_true, cond_false]))
          · -- Tffff
            refine wp_skip (then_n (hK80 _ _ ?_))
            refine wp_seq_k (fun K138 hK138 => ?_)
            refine wp_base [(1, bs (y)), (2, bs (u)), (3, .pointer (some ⟨b33, 0, none⟩)), (6, .pointer (some ⟨b41, 0, none⟩)), (7, .int .i64 (0)), (8, .int .i64 (((findN true nk y : Nat) : Int)))] (by kernel_rfl) (fun g139 => ?_)
            refine wp_drawN hM78 [] no_held [] [0, 1, 2, 3, 5, 6, 7, 8] [.a 4, .a 9, .p 10, .a 11, .p 12] [.p 0, .p 1, .p 2, .p 3, .p 5, .p 6, .p 7, .p 8, .s, .a 4, .a 9, .p 10, .a 11, .p 12] rfl (by kernel_rfl) (by kernel_rfl) ?_
            refine h_seg 1 (by kernel_rfl) ?_
            refine gH (.load 22 (.tmp 50)) (some 51) (by kernel_rfl) (Y_loadB #[.bool (true), .slice Ank (nk).length cnk, .slice Anv (nv).length cnv, .slice Anc (nc).length cnc] (fun i v hi => (le49.trans le77) _ _ _ (hc39 i v hi)) (off := 1) (by kernel_rfl) (.slice Ank (nk).length cnk) (by kernel_rfl)) ?_
            refine h_seg 3 (by kernel_rfl) ?_
            refine gH (.load 22 (.tmp 55)) (some 56) (by kernel_rfl) (Y_loadB #[.bool (true), .slice Ank (nk).length cnk, .slice Anv (nv).length cnv, .slice Anc (nc).length cnc] (fun i v hi => (le49.trans le77) _ _ _ (hc39 i v hi)) (off := 2) (by kernel_rfl) (.slice Anv (nv).length cnv) (by kernel_rfl)) ?_
            refine h_seg 2 (by kernel_rfl) ?_
            refine h_s no_fs ?_
            refine h_a (by kernel_rfl) (by kernel_rfl) (fun w140 X141 hM142 => ?_)
            refine wpF_callP hM142 (f := 51) (caps := #[]) (h := (by kernel_rfl : opAt _ _ _ _ _ = some (.call (.mk (.value (.func 51)) #[(.tmp 51), (.tmp 52), (.tmp 53)] #[22, 3, 9]), some 54))) (by kernel_rfl) (by kernel_rfl) (by kernel_rfl) (f51 _ _ hM142.inW Ank cnk (nk) (hnk.up hM142.le) ((findN true nk y)) (y) (hy) (by omega) (by omega)) (fun v143 V144 w145 le146 hM147 hp148 => ?_)
            obtain ⟨Ar148_1, cr148_1, rfl, r149⟩ := hp148
            have l150 : ((nk).take ((findN true nk y)) ++ ([(y)] : List Str) ++ (nk).drop ((findN true nk y))).length ≤ 140737488355328 := r149.max
            refine wpF_end _ (by kernel_rfl) (then_n (h_d [] (by kernel_rfl) [.blk b41 (.cells #[.bool (false), .slice none 0 0, .slice none 0 0, .slice none 0 0] 25)] hM147 no_held le146 ?_))
            refine h_a (by kernel_rfl) (by kernel_rfl) (fun w151 X152 hM153 => ?_)
            refine wpF_callP hM153 (f := 51) (caps := #[]) (h := (by kernel_rfl : opAt _ _ _ _ _ = some (.call (.mk (.value (.func 51)) #[(.tmp 56), (.tmp 57), (.tmp 58)] #[22, 3, 9]), some 59))) (by kernel_rfl) (by kernel_rfl) (by kernel_rfl) (f51 _ _ hM153.inW Anv cnv (nv) (hnv.up hM153.le) ((findN true nk y)) (u) (hu) (by omega) (by omega)) (fun v154 V155 w156 le157 hM158 hp159 => ?_)
            obtain ⟨Ar159_1, cr159_1, rfl, r160⟩ := hp159
            have l161 : ((nv).take ((findN true nk y)) ++ ([(u)] : List Str) ++ (nv).drop ((findN true nk y))).length ≤ 140737488355328 := r160.max
            refine wpF_end _ (by kernel_rfl) (then_n (h_d [] (by kernel_rfl) [.blk b41 (.cells #[.bool (false), .slice none 0 0, .slice none 0 0, .slice none 0 0] 25)] hM158 no_held le157 ?_))
            refine h_seg 1 (by kernel_rfl) ?_
            refine h_a (by kernel_rfl) (by kernel_rfl) (fun w162 X163 hM164 => ?_)
            refine wpF_store hM164 0 rfl (h := (by kernel_rfl : opAt _ _ _ _ _ = some (.store 25 (.tmp 6) (.tmp 60), none))) (off := 0) (by kernel_rfl) #[.bool (true), .slice Ar148_1 ((nk).take ((findN true nk y)) ++ ([(y)] : List Str) ++ (nk).drop ((findN true nk y))).length cr148_1, .slice Ar159_1 ((nv).take ((findN true nk y)) ++ ([(u)] : List Str) ++ (nv).drop ((findN true nk y))).length cr159_1, .slice none 0 0] (by kernel_rfl) (by kernel_rfl) (by kernel_rfl) (by kernel_rfl) (fun w166 hM165 => ?_)
            have hM167 : Step V w [] V155 _ ([.blk b41 (.cells #[.bool (true), .slice Ar148_1 ((nk).take ((findN true nk y)) ++ ([(y)] : List Str) ++ (nk).drop ((findN true nk y))).length cr148_1, .slice Ar159_1 ((nv).take ((findN true nk y)) ++ ([(u)] : List Str) ++ (nv).drop ((findN true nk y))).length cr159_1, .slice none 0 0] 25)] ++ X163) := hM165
            refine wpF_end _ (by kernel_rfl) (then_n (h_d [] (by kernel_rfl) [.blk b41 (.cells #[.bool (true), .slice Ar148_1 ((nk).take ((findN true nk y)) ++ ([(y)] : List Str) ++ (nk).drop ((findN true nk y))).length cr148_1, .slice Ar159_1 ((nv).take ((findN true nk y)) ++ ([(u)] : List Str) ++ (nv).drop ((findN true nk y))).length cr159_1, .slice none 0 0] 25)] hM167 no_held (VT.le.refl _) ?_))
            refine h_seg 1 (by kernel_rfl) ?_
            refine h_n (fun w168 hM169 => ?_)
            refine  (then_n (hK138 _ _ ?_))
            refine wp_ret ?_
            refine retN [.agg #[.bool (true), .slice Ar148_1 ((nk).take ((findN true nk y)) ++ ([(y)] : List Str) ++ (nk).drop ((findN true nk y))).length cr148_1, .slice Ar159_1 ((nv).take ((findN true nk y)) ++ ([(u)] : List Str) ++ (nv).drop ((findN true nk y))).length cr159_1, .slice none 0 0], .int .i64 (0)] (.tuple #[.agg #[.bool (true), .slice Ar148_1 ((nk).take ((findN true nk y)) ++ ([(y)] : List Str) ++ (nk).drop ((findN true nk y))).length cr148_1, .slice Ar159_1 ((nv).take ((findN true nk y)) ++ ([(u)] : List Str) ++ (nv).drop ((findN true nk y))).length cr159_1, .slice none 0 0], .int .i64 (0)]) Try.results26 (.cell (by kernel_rfl) (by kernel_rfl) hM169 0 rfl (by kernel_rfl) (.tmp (by kernel_rfl) (by kernel_rfl) .nil)) (by kernel_rfl) (hRet _ _ ⟨_, _, rfl, hM169.clear, ?_⟩)
            -- end Tffff
            have hok : putOk true nk nv nc y u = true := by simp only [putOk, h52, h58, h59, h66, h82, Bool.and_self, Bool.not_true, Bool.not_false]
            refine ⟨Ar148_1, cr148_1, Ar159_1, cr159_1, none, 0, ?_, ?_, ?_, ?_⟩
            · simp only [putK, putV, putE, hok, h52, h58, h59, h66, h82, cond_true, cond_false, List.length_set] <;> rfl
            · first | exact (r149.up le157) | (exact Rd.eq (r149.up le157) (by simp only [putK, putV, putE, hok, h52, h58, h59, h66, h82, cond_true, cond_false]))
            · first | exact r160 | (exact Rd.eq r160 (by simp only [putK, putV, putE, hok, h52, h58, h59, h66, h82, cond_true, cond_false]))
            · first | exact (Rd.nil _ _) | (exact Rd.eq (Rd.nil _ _) (by simp only [putK, putV, putE, hok, h52, h58, h59, h66, h82, cond_true, cond_false]))

set_option maxHeartbeats 4000000 in
set_option maxRecDepth 100000 in
theorem f27 (V : VT) (w : World) (hV : V.inW w) (nl : Bool) (Ank : Option Addr) (cnk : Nat) (nk : List Str) (hnk : Rd strK V Ank cnk nk) (Anv : Option Addr) (cnv : Nat) (nv : List Str) (hnv : Rd strK V Anv cnv nv) (Anc : Option Addr) (cnc : Nat) (nc : List Int) (hnc : Rd (intK .i64) V Anc cnc nc) (y : Str) (hy : y.length ≤ maxL) (u : Str) (hu : u.length ≤ maxL) (hk : nk.length ≤ 4096) (hv : nv.length ≤ 4096) :
    Calls Try.prog 27 #[.agg #[.bool (nl), .slice Ank (nk).length cnk, .slice Anv (nv).length cnv, .slice Anc (nc).length cnc], bs (y), bs (u)] w (RetP V w fun rv V' => ∃ (A1 : Option Addr), ∃ (c1 : Nat), ∃ (A2 : Option Addr), ∃ (c2 : Nat), ∃ (A3 : Option Addr), ∃ (c3 : Nat), rv = .tuple #[.agg #[.bool (putOk nl nk nv nc y u), .slice A1 (putK nl nk nv nc y u).length c1, .slice A2 (putV nl nk nv nc y u).length c2, .slice A3 (([] : List Int)).length c3], .int .i64 (putE nl nk nv nc y u)] ∧ Rd strK V' A1 c1 (putK nl nk nv nc y u) ∧ Rd strK V' A2 c2 (putV nl nk nv nc y u) ∧ Rd (intK .i64) V' A3 c3 (([] : List Int))) := by
  have mxnk : nk.length ≤ 140737488355328 := hnk.max
  have mxnv : nv.length ≤ 140737488355328 := hnv.max
  have mxnc : nc.length ≤ 140737488355328 := hnc.max
  have mxy : y.length ≤ 140737488355328 := hy
  have mxu : u.length ≤ 140737488355328 := hu
  refine calls_env (n := 56) Try.func27 (c := _) rfl Try.ntmps27 (by kernel_rfl) (fun R hRet => ?_)
  have hM0 : Step V w [] V w [] := Step.refl (St.nilE hV)
  cases nl with
  | false =>
    refine wp_seq_k (fun K1 hK1 => ?_)
    refine wp_reg ?_
    refine wpF_box hM0 #[.bool (false), .slice Ank (nk).length cnk, .slice Anv (nv).length cnv, .slice Anc (nc).length cnc] (h := (by kernel_rfl : opAt _ _ _ _ _ = some (.box 25 (.tmp 0), some 3))) (by kernel_rfl) (fun b2 w3 hM4 => ?_)
    refine wpF_alloc hM4 #[.bool (false), .slice none 0 0, .slice none 0 0, .slice none 0 0] (h := (by kernel_rfl : opAt _ _ _ _ _ = some (.alloc 25, some 6))) (by kernel_rfl) (fun b5 w6 hM7 => ?_)
    refine wpF_seg 1 (by kernel_rfl) ?_
    refine wpF_end _ (by kernel_rfl) (then_n (hK1 _ _ ?_))
    refine wp_seq_k (fun K8 hK8 => ?_)
    refine wp_seq_k (fun K9 hK9 => ?_)
    refine wp_reg ?_
    refine gF hM7 (.load 25 (.tmp 3)) (some 12) (by kernel_rfl) (Y_load 1 rfl (off := 0) (by kernel_rfl) (.agg #[.bool (false), .slice Ank (nk).length cnk, .slice Anv (nv).length cnv, .slice Anc (nc).length cnc]) (by kernel_rfl)) ?_
    refine wpF_callP hM7 (f := 35) (caps := #[]) (h := (by kernel_rfl : opAt _ _ _ _ _ = some (.call (.mk (.value (.func 35)) #[(.tmp 12)] #[25]), some 13))) (by kernel_rfl) (by kernel_rfl) (by kernel_rfl) (f35 _ _ hM7.inW (false) Ank cnk (nk) hnk Anv cnv (nv) hnv Anc cnc (nc) hnc) (fun v10 V11 w12 le13 hM14 hp15 => ?_)
    obtain rfl := hp15
    refine wpF_seg 2 (by kernel_rfl) ?_
    refine wpF_caseB 15 (!(stands (false) (nk) (nv) (nc))) (by kernel_rfl) (by kernel_rfl) (fun h16 => ?_) (fun h16 => ?_)
    · -- Ft
      have h17 : (stands (false) (nk) (nv) (nc)) = false := by simpa using h16
      refine wpF_seg 14 (by kernel_rfl) ?_
      refine wpF_end _ (by kernel_rfl) (then_n (hK9 _ _ ?_))
      refine wp_ct (by kernel_rfl) ?_
      refine wp_seq_k (fun K18 hK18 => ?_)
      refine wp_reg ?_
      refine wpF_seg 1 (by kernel_rfl) ?_
      refine wpF_store hM14 0 rfl (h := (by kernel_rfl : opAt _ _ _ _ _ = some (.store 25 (.tmp 6) (.tmp 30), none))) (off := 0) (by kernel_rfl) #[.bool (false), .slice none 0 0, .slice none 0 0, .slice none 0 0] (by kernel_rfl) (by kernel_rfl) (by kernel_rfl) (by kernel_rfl) (fun w20 hM19 => ?_)
      have hM21 : Step V w [] V11 _ ([.blk b5 (.cells #[.bool (false), .slice none 0 0, .slice none 0 0, .slice none 0 0] 25), .blk b2 (.cells #[.bool (false), .slice Ank (nk).length cnk, .slice Anv (nv).length cnv, .slice Anc (nc).length cnc] 25)]) := hM19
      refine wpF_seg 1 (by kernel_rfl) ?_
      refine wpF_end _ (by kernel_rfl) (then_n (hK18 _ _ ?_))
      refine wp_ret (then_r (?_))
      refine retN [.agg #[.bool (false), .slice none 0 0, .slice none 0 0, .slice none 0 0], .int .i64 (2)] (.tuple #[.agg #[.bool (false), .slice none 0 0, .slice none 0 0, .slice none 0 0], .int .i64 (2)]) Try.results27 (.cell (by kernel_rfl) (by kernel_rfl) hM21 0 rfl (by kernel_rfl) (.tmp (by kernel_rfl) (by kernel_rfl) .nil)) (by kernel_rfl) (hRet _ _ ⟨_, _, rfl, hM21.clear, ?_⟩)
      -- end Ft
      have hok : putOk false nk nv nc y u = false := by simp only [putOk, h16, h17, Bool.and_false, Bool.false_and, Bool.not_true, Bool.not_false]
      refine ⟨none, 0, none, 0, none, 0, ?_, ?_, ?_, ?_⟩
      · first | (rw [hpb.1, hpb.2]; simp only [putK, putV, putE, hok, h16, h17, cond_true, cond_false, List.length_set] <;> rfl) | (simp only [putK, putV, putE, hok, h16, h17, cond_true, cond_false, List.length_set] <;> rfl)
      · first | exact (Rd.nil _ _) | (exact Rd.eq (Rd.nil _ _) (by first | (rw [hpb.1]; simp only [putK, hok, h16, h17, cond_true]; done) | (rw [hpb.2]; simp only [putV, hok, h16, h17, cond_true]; done) | (simp only [putK, putV, putE, hok, h16, h17, cond_true, cond_false]; done)))
      · first | exact (Rd.nil _ _) | (exact Rd.eq (Rd.nil _ _) (by first | (rw [hpb.1]; simp only [putK, hok, h16, h17, cond_true]; done) | (rw [hpb.2]; simp only [putV, hok, h16, h17, cond_true]; done) | (simp only [putK, putV, putE, hok, h16, h17, cond_true, cond_false]; done)))
      · first | exact (Rd.nil _ _) | (exact Rd.eq (Rd.nil _ _) (by first | (rw [hpb.1]; simp only [putK, hok, h16, h17, cond_true]; done) | (rw [hpb.2]; simp only [putV, hok, h16, h17, cond_true]; done) | (simp only [putK, putV, putE, hok, h16, h17, cond_true, cond_false]; done)))
    · -- Ff
      have h22 : (stands (false) (nk) (nv) (nc)) = true := by simpa using h16
      refine wpF_seg 1 (by kernel_rfl) ?_
      refine gF hM14 (.load 4 (.tmp 16)) (some 17) (by kernel_rfl) (Y_load 1 rfl (off := 0) (by kernel_rfl) (.bool (false)) (by kernel_rfl)) ?_
      refine wpF_seg 12 (by kernel_rfl) ?_
      refine wpF_end _ (by kernel_rfl) (then_n (hK9 _ _ ?_))
      refine wp_ct (by kernel_rfl) ?_
      refine wp_seq_k (fun K23 hK23 => ?_)
      refine wp_reg ?_
      refine wpF_seg 1 (by kernel_rfl) ?_
      refine wpF_store hM14 0 rfl (h := (by kernel_rfl : opAt _ _ _ _ _ = some (.store 25 (.tmp 6) (.tmp 30), none))) (off := 0) (by kernel_rfl) #[.bool (false), .slice none 0 0, .slice none 0 0, .slice none 0 0] (by kernel_rfl) (by kernel_rfl) (by kernel_rfl) (by kernel_rfl) (fun w25 hM24 => ?_)
      have hM26 : Step V w [] V11 _ ([.blk b5 (.cells #[.bool (false), .slice none 0 0, .slice none 0 0, .slice none 0 0] 25), .blk b2 (.cells #[.bool (false), .slice Ank (nk).length cnk, .slice Anv (nv).length cnv, .slice Anc (nc).length cnc] 25)]) := hM24
      refine wpF_seg 1 (by kernel_rfl) ?_
      refine wpF_end _ (by kernel_rfl) (then_n (hK23 _ _ ?_))
      refine wp_ret (then_r (?_))
      refine retN [.agg #[.bool (false), .slice none 0 0, .slice none 0 0, .slice none 0 0], .int .i64 (2)] (.tuple #[.agg #[.bool (false), .slice none 0 0, .slice none 0 0, .slice none 0 0], .int .i64 (2)]) Try.results27 (.cell (by kernel_rfl) (by kernel_rfl) hM26 0 rfl (by kernel_rfl) (.tmp (by kernel_rfl) (by kernel_rfl) .nil)) (by kernel_rfl) (hRet _ _ ⟨_, _, rfl, hM26.clear, ?_⟩)
      -- end Ff
      have hok : putOk false nk nv nc y u = false := by simp only [putOk, h16, h22, Bool.and_false, Bool.false_and, Bool.not_true, Bool.not_false]
      refine ⟨none, 0, none, 0, none, 0, ?_, ?_, ?_, ?_⟩
      · first | (rw [hpb.1, hpb.2]; simp only [putK, putV, putE, hok, h16, h22, cond_true, cond_false, List.length_set] <;> rfl) | (simp only [putK, putV, putE, hok, h16, h22, cond_true, cond_false, List.length_set] <;> rfl)
      · first | exact (Rd.nil _ _) | (exact Rd.eq (Rd.nil _ _) (by first | (rw [hpb.1]; simp only [putK, hok, h16, h22, cond_true]; done) | (rw [hpb.2]; simp only [putV, hok, h16, h22, cond_true]; done) | (simp only [putK, putV, putE, hok, h16, h22, cond_true, cond_false]; done)))
      · first | exact (Rd.nil _ _) | (exact Rd.eq (Rd.nil _ _) (by first | (rw [hpb.1]; simp only [putK, hok, h16, h22, cond_true]; done) | (rw [hpb.2]; simp only [putV, hok, h16, h22, cond_true]; done) | (simp only [putK, putV, putE, hok, h16, h22, cond_true, cond_false]; done)))
      · first | exact (Rd.nil _ _) | (exact Rd.eq (Rd.nil _ _) (by first | (rw [hpb.1]; simp only [putK, hok, h16, h22, cond_true]; done) | (rw [hpb.2]; simp only [putV, hok, h16, h22, cond_true]; done) | (simp only [putK, putV, putE, hok, h16, h22, cond_true, cond_false]; done)))
  | true =>
    refine wp_seq_k (fun K27 hK27 => ?_)
    refine wp_reg ?_
    refine wpF_box hM0 #[.bool (true), .slice Ank (nk).length cnk, .slice Anv (nv).length cnv, .slice Anc (nc).length cnc] (h := (by kernel_rfl : opAt _ _ _ _ _ = some (.box 25 (.tmp 0), some 3))) (by kernel_rfl) (fun b28 w29 hM30 => ?_)
    refine wpF_alloc hM30 #[.bool (false), .slice none 0 0, .slice none 0 0, .slice none 0 0] (h := (by kernel_rfl : opAt _ _ _ _ _ = some (.alloc 25, some 6))) (by kernel_rfl) (fun b31 w32 hM33 => ?_)
    refine wpF_seg 1 (by kernel_rfl) ?_
    refine wpF_end _ (by kernel_rfl) (then_n (hK27 _ _ ?_))
    refine wp_seq_k (fun K34 hK34 => ?_)
    refine wp_seq_k (fun K35 hK35 => ?_)
    refine wp_reg ?_
    refine gF hM33 (.load 25 (.tmp 3)) (some 12) (by kernel_rfl) (Y_load 1 rfl (off := 0) (by kernel_rfl) (.agg #[.bool (true), .slice Ank (nk).length cnk, .slice Anv (nv).length cnv, .slice Anc (nc).length cnc]) (by kernel_rfl)) ?_
    refine wpF_callP hM33 (f := 35) (caps := #[]) (h := (by kernel_rfl : opAt _ _ _ _ _ = some (.call (.mk (.value (.func 35)) #[(.tmp 12)] #[25]), some 13))) (by kernel_rfl) (by kernel_rfl) (by kernel_rfl) (f35 _ _ hM33.inW (true) Ank cnk (nk) hnk Anv cnv (nv) hnv Anc cnc (nc) hnc) (fun v36 V37 w38 le39 hM40 hp41 => ?_)
    obtain rfl := hp41
    refine wpF_seg 2 (by kernel_rfl) ?_
    refine wpF_caseB 15 (!(stands (true) (nk) (nv) (nc))) (by kernel_rfl) (by kernel_rfl) (fun h42 => ?_) (fun h42 => ?_)
    · -- Tt
      have h43 : (stands (true) (nk) (nv) (nc)) = false := by simpa using h42
      refine wpF_seg 14 (by kernel_rfl) ?_
      refine wpF_end _ (by kernel_rfl) (then_n (hK35 _ _ ?_))
      refine wp_ct (by kernel_rfl) ?_
      refine wp_seq_k (fun K44 hK44 => ?_)
      refine wp_reg ?_
      refine wpF_seg 1 (by kernel_rfl) ?_
      refine wpF_store hM40 0 rfl (h := (by kernel_rfl : opAt _ _ _ _ _ = some (.store 25 (.tmp 6) (.tmp 30), none))) (off := 0) (by kernel_rfl) #[.bool (false), .slice none 0 0, .slice none 0 0, .slice none 0 0] (by kernel_rfl) (by kernel_rfl) (by kernel_rfl) (by kernel_rfl) (fun w46 hM45 => ?_)
      have hM47 : Step V w [] V37 _ ([.blk b31 (.cells #[.bool (false), .slice none 0 0, .slice none 0 0, .slice none 0 0] 25), .blk b28 (.cells #[.bool (true), .slice Ank (nk).length cnk, .slice Anv (nv).length cnv, .slice Anc (nc).length cnc] 25)]) := hM45
      refine wpF_seg 1 (by kernel_rfl) ?_
      refine wpF_end _ (by kernel_rfl) (then_n (hK44 _ _ ?_))
      refine wp_ret (then_r (?_))
      refine retN [.agg #[.bool (false), .slice none 0 0, .slice none 0 0, .slice none 0 0], .int .i64 (2)] (.tuple #[.agg #[.bool (false), .slice none 0 0, .slice none 0 0, .slice none 0 0], .int .i64 (2)]) Try.results27 (.cell (by kernel_rfl) (by kernel_rfl) hM47 0 rfl (by kernel_rfl) (.tmp (by kernel_rfl) (by kernel_rfl) .nil)) (by kernel_rfl) (hRet _ _ ⟨_, _, rfl, hM47.clear, ?_⟩)
      -- end Tt
      have hok : putOk true nk nv nc y u = false := by simp only [putOk, h42, h43, Bool.and_false, Bool.false_and, Bool.not_true, Bool.not_false]
      refine ⟨none, 0, none, 0, none, 0, ?_, ?_, ?_, ?_⟩
      · first | (rw [hpb.1, hpb.2]; simp only [putK, putV, putE, hok, h42, h43, cond_true, cond_false, List.length_set] <;> rfl) | (simp only [putK, putV, putE, hok, h42, h43, cond_true, cond_false, List.length_set] <;> rfl)
      · first | exact (Rd.nil _ _) | (exact Rd.eq (Rd.nil _ _) (by first | (rw [hpb.1]; simp only [putK, hok, h42, h43, cond_true]; done) | (rw [hpb.2]; simp only [putV, hok, h42, h43, cond_true]; done) | (simp only [putK, putV, putE, hok, h42, h43, cond_true, cond_false]; done)))
      · first | exact (Rd.nil _ _) | (exact Rd.eq (Rd.nil _ _) (by first | (rw [hpb.1]; simp only [putK, hok, h42, h43, cond_true]; done) | (rw [hpb.2]; simp only [putV, hok, h42, h43, cond_true]; done) | (simp only [putK, putV, putE, hok, h42, h43, cond_true, cond_false]; done)))
      · first | exact (Rd.nil _ _) | (exact Rd.eq (Rd.nil _ _) (by first | (rw [hpb.1]; simp only [putK, hok, h42, h43, cond_true]; done) | (rw [hpb.2]; simp only [putV, hok, h42, h43, cond_true]; done) | (simp only [putK, putV, putE, hok, h42, h43, cond_true, cond_false]; done)))
    · -- Tf
      have h48 : (stands (true) (nk) (nv) (nc)) = true := by simpa using h42
      refine wpF_seg 1 (by kernel_rfl) ?_
      refine gF hM40 (.load 4 (.tmp 16)) (some 17) (by kernel_rfl) (Y_load 1 rfl (off := 0) (by kernel_rfl) (.bool (true)) (by kernel_rfl)) ?_
      refine wpF_seg 8 (by kernel_rfl) ?_
      refine wpF_caseB 25 (decide ((128) < ((y.length : Int)))) (by kernel_rfl) (by kernel_rfl) (fun h49 => ?_) (fun h49 => ?_)
      · -- Tft
        have p50 : ((128) < ((y.length : Int))) := of_decide_eq_true h49
        refine wpF_seg 4 (by kernel_rfl) ?_
        refine wpF_end _ (by kernel_rfl) (then_n (hK35 _ _ ?_))
        refine wp_ct (by kernel_rfl) ?_
        refine wp_seq_k (fun K51 hK51 => ?_)
        refine wp_reg ?_
        refine wpF_seg 1 (by kernel_rfl) ?_
        refine wpF_store hM40 0 rfl (h := (by kernel_rfl : opAt _ _ _ _ _ = some (.store 25 (.tmp 6) (.tmp 30), none))) (off := 0) (by kernel_rfl) #[.bool (false), .slice none 0 0, .slice none 0 0, .slice none 0 0] (by kernel_rfl) (by kernel_rfl) (by kernel_rfl) (by kernel_rfl) (fun w53 hM52 => ?_)
        have hM54 : Step V w [] V37 _ ([.blk b31 (.cells #[.bool (false), .slice none 0 0, .slice none 0 0, .slice none 0 0] 25), .blk b28 (.cells #[.bool (true), .slice Ank (nk).length cnk, .slice Anv (nv).length cnv, .slice Anc (nc).length cnc] 25)]) := hM52
        refine wpF_seg 1 (by kernel_rfl) ?_
        refine wpF_end _ (by kernel_rfl) (then_n (hK51 _ _ ?_))
        refine wp_ret (then_r (?_))
        refine retN [.agg #[.bool (false), .slice none 0 0, .slice none 0 0, .slice none 0 0], .int .i64 (2)] (.tuple #[.agg #[.bool (false), .slice none 0 0, .slice none 0 0, .slice none 0 0], .int .i64 (2)]) Try.results27 (.cell (by kernel_rfl) (by kernel_rfl) hM54 0 rfl (by kernel_rfl) (.tmp (by kernel_rfl) (by kernel_rfl) .nil)) (by kernel_rfl) (hRet _ _ ⟨_, _, rfl, hM54.clear, ?_⟩)
        -- end Tft
        have hok : putOk true nk nv nc y u = false := by simp only [putOk, h42, h48, h49, Bool.and_false, Bool.false_and, Bool.not_true, Bool.not_false]
        refine ⟨none, 0, none, 0, none, 0, ?_, ?_, ?_, ?_⟩
        · first | (rw [hpb.1, hpb.2]; simp only [putK, putV, putE, hok, h42, h48, h49, cond_true, cond_false, List.length_set] <;> rfl) | (simp only [putK, putV, putE, hok, h42, h48, h49, cond_true, cond_false, List.length_set] <;> rfl)
        · first | exact (Rd.nil _ _) | (exact Rd.eq (Rd.nil _ _) (by first | (rw [hpb.1]; simp only [putK, hok, h42, h48, h49, cond_true]; done) | (rw [hpb.2]; simp only [putV, hok, h42, h48, h49, cond_true]; done) | (simp only [putK, putV, putE, hok, h42, h48, h49, cond_true, cond_false]; done)))
        · first | exact (Rd.nil _ _) | (exact Rd.eq (Rd.nil _ _) (by first | (rw [hpb.1]; simp only [putK, hok, h42, h48, h49, cond_true]; done) | (rw [hpb.2]; simp only [putV, hok, h42, h48, h49, cond_true]; done) | (simp only [putK, putV, putE, hok, h42, h48, h49, cond_true, cond_false]; done)))
        · first | exact (Rd.nil _ _) | (exact Rd.eq (Rd.nil _ _) (by first | (rw [hpb.1]; simp only [putK, hok, h42, h48, h49, cond_true]; done) | (rw [hpb.2]; simp only [putV, hok, h42, h48, h49, cond_true]; done) | (simp only [putK, putV, putE, hok, h42, h48, h49, cond_true, cond_false]; done)))
      · -- Tff
        have p55 : ¬ ((128) < ((y.length : Int))) := of_decide_eq_false h49
        refine wpF_seg 4 (by kernel_rfl) ?_
        refine wpF_end _ (by kernel_rfl) (then_n (hK35 _ _ ?_))
        refine wp_if (decide ((200) < ((u.length : Int)))) (by kernel_rfl) (fun h56 => ?_) (fun h56 => ?_)
        · -- Tfft
          have p57 : ((200) < ((u.length : Int))) := of_decide_eq_true h56
          refine wp_seq_k (fun K58 hK58 => ?_)
          refine wp_reg ?_
          refine wpF_seg 1 (by kernel_rfl) ?_
          refine wpF_store hM40 0 rfl (h := (by kernel_rfl : opAt _ _ _ _ _ = some (.store 25 (.tmp 6) (.tmp 30), none))) (off := 0) (by kernel_rfl) #[.bool (false), .slice none 0 0, .slice none 0 0, .slice none 0 0] (by kernel_rfl) (by kernel_rfl) (by kernel_rfl) (by kernel_rfl) (fun w60 hM59 => ?_)
          have hM61 : Step V w [] V37 _ ([.blk b31 (.cells #[.bool (false), .slice none 0 0, .slice none 0 0, .slice none 0 0] 25), .blk b28 (.cells #[.bool (true), .slice Ank (nk).length cnk, .slice Anv (nv).length cnv, .slice Anc (nc).length cnc] 25)]) := hM59
          refine wpF_seg 1 (by kernel_rfl) ?_
          refine wpF_end _ (by kernel_rfl) (then_n (hK58 _ _ ?_))
          refine wp_ret (then_r (?_))
          refine retN [.agg #[.bool (false), .slice none 0 0, .slice none 0 0, .slice none 0 0], .int .i64 (2)] (.tuple #[.agg #[.bool (false), .slice none 0 0, .slice none 0 0, .slice none 0 0], .int .i64 (2)]) Try.results27 (.cell (by kernel_rfl) (by kernel_rfl) hM61 0 rfl (by kernel_rfl) (.tmp (by kernel_rfl) (by kernel_rfl) .nil)) (by kernel_rfl) (hRet _ _ ⟨_, _, rfl, hM61.clear, ?_⟩)
          -- end Tfft
          have hok : putOk true nk nv nc y u = false := by simp only [putOk, h42, h48, h49, h56, Bool.and_false, Bool.false_and, Bool.not_true, Bool.not_false]
          refine ⟨none, 0, none, 0, none, 0, ?_, ?_, ?_, ?_⟩
          · first | (rw [hpb.1, hpb.2]; simp only [putK, putV, putE, hok, h42, h48, h49, h56, cond_true, cond_false, List.length_set] <;> rfl) | (simp only [putK, putV, putE, hok, h42, h48, h49, h56, cond_true, cond_false, List.length_set] <;> rfl)
          · first | exact (Rd.nil _ _) | (exact Rd.eq (Rd.nil _ _) (by first | (rw [hpb.1]; simp only [putK, hok, h42, h48, h49, h56, cond_true]; done) | (rw [hpb.2]; simp only [putV, hok, h42, h48, h49, h56, cond_true]; done) | (simp only [putK, putV, putE, hok, h42, h48, h49, h56, cond_true, cond_false]; done)))
          · first | exact (Rd.nil _ _) | (exact Rd.eq (Rd.nil _ _) (by first | (rw [hpb.1]; simp only [putK, hok, h42, h48, h49, h56, cond_true]; done) | (rw [hpb.2]; simp only [putV, hok, h42, h48, h49, h56, cond_true]; done) | (simp only [putK, putV, putE, hok, h42, h48, h49, h56, cond_true, cond_false]; done)))
          · first | exact (Rd.nil _ _) | (exact Rd.eq (Rd.nil _ _) (by first | (rw [hpb.1]; simp only [putK, hok, h42, h48, h49, h56, cond_true]; done) | (rw [hpb.2]; simp only [putV, hok, h42, h48, h49, h56, cond_true]; done) | (simp only [putK, putV, putE, hok, h42, h48, h49, h56, cond_true, cond_false]; done)))
        · -- Tfff
          have p62 : ¬ ((200) < ((u.length : Int))) := of_decide_eq_false h56
          have hs : stands true nk nv nc = true := by assumption
          have hl := stands_leaf hs
          have hle := findN_le true nk y
          refine wp_skip (then_n (hK34 _ _ ?_))
          refine wp_seq_k (fun K63 hK63 => ?_)
          refine wp_seq_k (fun K64 hK64 => ?_)
          refine wp_reg ?_
          refine gF hM40 (.load 25 (.tmp 3)) (some 32) (by kernel_rfl) (Y_load 1 rfl (off := 0) (by kernel_rfl) (.agg #[.bool (true), .slice Ank (nk).length cnk, .slice Anv (nv).length cnv, .slice Anc (nc).length cnc]) (by kernel_rfl)) ?_
          refine wpF_seg 1 (by kernel_rfl) ?_
          refine wpF_callP hM40 (f := 29) (caps := #[]) (h := (by kernel_rfl : opAt _ _ _ _ _ = some (.call (.mk (.value (.func 29)) #[(.tmp 32), (.tmp 33)] #[25, 9]), some 34))) (by kernel_rfl) (by kernel_rfl) (by kernel_rfl) (f29 _ _ hM40.inW (true) Ank cnk (nk) (hnk.up hM40.le) Anv cnv (nv) (hnv.up hM40.le) Anc cnc (nc) (hnc.up hM40.le) (y) (hy) (by omega) (by omega)) (fun v65 V66 w67 le68 hM69 hp70 => ?_)
          obtain ⟨Ar70_1, cr70_1, Ar70_2, cr70_2, Ar70_3, cr70_3, rfl, r71, r72, r73⟩ := hp70
          have l74 : (drK (true) (nk) (nv) (nc) (y)).length ≤ 140737488355328 := r71.max
          have l75 : (drV (true) (nk) (nv) (nc) (y)).length ≤ 140737488355328 := r72.max
          have l76 : (([] : List Int)).length ≤ 140737488355328 := r73.max
          refine wpF_seg 3 (by kernel_rfl) ?_
          refine wpF_alloc hM69 #[.bool (false), .slice none 0 0, .slice none 0 0, .slice none 0 0] (h := (by kernel_rfl : opAt _ _ _ _ _ = some (.alloc 25, some 8))) (by kernel_rfl) (fun b77 w78 hM79 => ?_)
          refine wpF_store hM79 0 rfl (h := (by kernel_rfl : opAt _ _ _ _ _ = some (.store 25 (.tmp 8) (.tmp 35), none))) (off := 0) (by kernel_rfl) #[.bool (findB (true) (nk) (nv) (nc) (y)), .slice Ar70_1 (drK (true) (nk) (nv) (nc) (y)).length cr70_1, .slice Ar70_2 (drV (true) (nk) (nv) (nc) (y)).length cr70_2, .slice Ar70_3 (([] : List Int)).length cr70_3] (by kernel_rfl) (by kernel_rfl) (by kernel_rfl) (by kernel_rfl) (fun w81 hM80 => ?_)
          have hM82 : Step V w [] V66 _ ([.blk b77 (.cells #[.bool (findB (true) (nk) (nv) (nc) (y)), .slice Ar70_1 (drK (true) (nk) (nv) (nc) (y)).length cr70_1, .slice Ar70_2 (drV (true) (nk) (nv) (nc) (y)).length cr70_2, .slice Ar70_3 (([] : List Int)).length cr70_3] 25), .blk b31 (.cells #[.bool (false), .slice none 0 0, .slice none 0 0, .slice none 0 0] 25), .blk b28 (.cells #[.bool (true), .slice Ank (nk).length cnk, .slice Anv (nv).length cnv, .slice Anc (nc).length cnc] 25)]) := hM80
          refine wpF_seg 1 (by kernel_rfl) ?_
          refine wpF_end _ (by kernel_rfl) (then_n (hK64 _ _ ?_))
          refine wp_seq_k (fun K83 hK83 => ?_)
          refine wp_reg ?_
          refine wpF_seg 1 (by kernel_rfl) ?_
          refine wpF_end _ (by kernel_rfl) (then_n (hK83 _ _ ?_))
          refine wp_if (findB (true) (nk) (nv) (nc) (y)) (by kernel_rfl) (fun h84 => ?_) (fun h84 => ?_)
          · -- Tffft
            have hfl := find_lens (by assumption : findB true nk nv nc y = true)
            have hdf := drop_find (by assumption : findB true nk nv nc y = true)
            have hdl := dr_len (by assumption : findB true nk nv nc y = true)
            refine wp_reg ?_
            refine gF hM82 (.load 25 (.tmp 8)) (some 38) (by kernel_rfl) (Y_load 0 rfl (off := 0) (by kernel_rfl) (.agg #[.bool (findB (true) (nk) (nv) (nc) (y)), .slice Ar70_1 (drK (true) (nk) (nv) (nc) (y)).length cr70_1, .slice Ar70_2 (drV (true) (nk) (nv) (nc) (y)).length cr70_2, .slice Ar70_3 (([] : List Int)).length cr70_3]) (by kernel_rfl)) ?_
            refine wpF_store hM82 2 rfl (h := (by kernel_rfl : opAt _ _ _ _ _ = some (.store 25 (.tmp 3) (.tmp 38), none))) (off := 0) (by kernel_rfl) #[.bool (findB (true) (nk) (nv) (nc) (y)), .slice Ar70_1 (drK (true) (nk) (nv) (nc) (y)).length cr70_1, .slice Ar70_2 (drV (true) (nk) (nv) (nc) (y)).length cr70_2, .slice Ar70_3 (([] : List Int)).length cr70_3] (by kernel_rfl) (by kernel_rfl) (by kernel_rfl) (by kernel_rfl) (fun w86 hM85 => ?_)
            have hM87 : Step V w [] V66 _ ([.blk b77 (.cells #[.bool (findB (true) (nk) (nv) (nc) (y)), .slice Ar70_1 (drK (true) (nk) (nv) (nc) (y)).length cr70_1, .slice Ar70_2 (drV (true) (nk) (nv) (nc) (y)).length cr70_2, .slice Ar70_3 (([] : List Int)).length cr70_3] 25), .blk b31 (.cells #[.bool (false), .slice none 0 0, .slice none 0 0, .slice none 0 0] 25), .blk b28 (.cells #[.bool (findB (true) (nk) (nv) (nc) (y)), .slice Ar70_1 (drK (true) (nk) (nv) (nc) (y)).length cr70_1, .slice Ar70_2 (drV (true) (nk) (nv) (nc) (y)).length cr70_2, .slice Ar70_3 (([] : List Int)).length cr70_3] 25)]) := hM85
            refine wpF_end _ (by kernel_rfl) (then_n (hK63 _ _ ?_))
            refine wp_seq_k (fun K88 hK88 => ?_)
            refine wp_reg ?_
            refine gF hM87 (.load 25 (.tmp 3)) (some 40) (by kernel_rfl) (Y_load 2 rfl (off := 0) (by kernel_rfl) (.agg #[.bool (findB (true) (nk) (nv) (nc) (y)), .slice Ar70_1 (drK (true) (nk) (nv) (nc) (y)).length cr70_1, .slice Ar70_2 (drV (true) (nk) (nv) (nc) (y)).length cr70_2, .slice Ar70_3 (([] : List Int)).length cr70_3]) (by kernel_rfl)) ?_
            refine wpF_seg 1 (by kernel_rfl) ?_
            refine wpF_callP hM87 (f := 25) (caps := #[]) (h := (by kernel_rfl : opAt _ _ _ _ _ = some (.call (.mk (.value (.func 25)) #[(.tmp 40), (.tmp 41)] #[25, 9]), some 42))) (by kernel_rfl) (by kernel_rfl) (by kernel_rfl) (f25 _ _ hM87.inW (findB (true) (nk) (nv) (nc) (y)) Ar70_1 cr70_1 (drK (true) (nk) (nv) (nc) (y)) r71 Ar70_2 cr70_2 (drV (true) (nk) (nv) (nc) (y)) r72 Ar70_3 cr70_3 (([] : List Int)) r73 (y) (hy)) (fun v89 V90 w91 le92 hM93 hp94 => ?_)
            obtain rfl := hp94
            refine wpF_seg 2 (by kernel_rfl) ?_
            refine wpF_slot 43 (.int .i64 (findI (findB (true) (nk) (nv) (nc) (y)) (drK (true) (nk) (nv) (nc) (y)) (drV (true) (nk) (nv) (nc) (y)) (([] : List Int)) (y))) (.int .i64 (((findN true nk y : Nat) : Int))) (by kernel_rfl) (by kernel_rfl) (by first | exact congrArg (Value.int .i64) hdf.2.2.1 | rw [findI_st (by assumption)]) ?_
            refine wpF_seg 3 (by kernel_rfl) ?_
            refine wpF_end _ (by kernel_rfl) (then_n (hK88 _ _ ?_))
            refine wp_seq_k (fun K95 hK95 => ?_)
            refine wp_base [(1, bs (y)), (2, bs (u)), (3, .pointer (some ⟨b28, 0, none⟩)), (6, .pointer (some ⟨b31, 0, none⟩)), (7, .int .i64 (0)), (10, .int .i64 (((findN true nk y : Nat) : Int)))] (by kernel_rfl) (fun g96 => ?_)
            refine wp_drawN hM93 [(.blk b28 (.cells #[.bool (findB (true) (nk) (nv) (nc) (y)), .slice Ar70_1 (drK (true) (nk) (nv) (nc) (y)).length cr70_1, .slice Ar70_2 (drV (true) (nk) (nv) (nc) (y)).length cr70_2, .slice Ar70_3 (([] : List Int)).length cr70_3] 25), 9999)] (and_held 2 rfl no_held) [] [0, 1, 2, 3, 5, 6, 7, 8] [.a 4, .a 9, .p 10, .a 11, .p 12] [.p 0, .p 1, .p 2, .p 3, .p 5, .p 6, .p 7, .p 8, .s, .a 4, .a 9, .p 10, .a 11, .p 12] rfl (by kernel_rfl) (by kernel_rfl) ?_
            refine h_seg 1 (by kernel_rfl) ?_
            refine gH (.load 22 (.tmp 45)) (some 46) (by kernel_rfl) (Y_load 0 (by kernel_rfl : (FOf _ _ _)[0]? = some (.blk b28 (.cells #[.bool (findB (true) (nk) (nv) (nc) (y)), .slice Ar70_1 (drK (true) (nk) (nv) (nc) (y)).length cr70_1, .slice Ar70_2 (drV (true) (nk) (nv) (nc) (y)).length cr70_2, .slice Ar70_3 (([] : List Int)).length cr70_3] 25))) (off := 1) (by kernel_rfl) (.slice Ar70_1 (drK (true) (nk) (nv) (nc) (y)).length cr70_1) (by kernel_rfl)) ?_
            refine h_seg 3 (by kernel_rfl) ?_
            refine gH (.load 22 (.tmp 50)) (some 51) (by kernel_rfl) (Y_load 0 (by kernel_rfl : (FOf _ _ _)[0]? = some (.blk b28 (.cells #[.bool (findB (true) (nk) (nv) (nc) (y)), .slice Ar70_1 (drK (true) (nk) (nv) (nc) (y)).length cr70_1, .slice Ar70_2 (drV (true) (nk) (nv) (nc) (y)).length cr70_2, .slice Ar70_3 (([] : List Int)).length cr70_3] 25))) (off := 2) (by kernel_rfl) (.slice Ar70_2 (drV (true) (nk) (nv) (nc) (y)).length cr70_2) (by kernel_rfl)) ?_
            refine h_seg 2 (by kernel_rfl) ?_
            refine h_s no_fs ?_
            refine h_a (by kernel_rfl) (by kernel_rfl) (fun w97 X98 hM99 => ?_)
            refine wpF_callP hM99 (f := 52) (caps := #[]) (h := (by kernel_rfl : opAt _ _ _ _ _ = some (.call (.mk (.value (.func 52)) #[(.tmp 46), (.tmp 47), (.tmp 48)] #[22, 3, 9]), some 49))) (by kernel_rfl) (by kernel_rfl) (by kernel_rfl) (f52 _ _ hM99.inW Ar70_1 cr70_1 (drK (true) (nk) (nv) (nc) (y)) (r71.up le92) ((findN true nk y)) (y) (hy) (by omega) (by omega)) (fun v100 V101 w102 le103 hM104 hp105 => ?_)
            obtain ⟨Ar105_1, cr105_1, rfl, r106⟩ := hp105
            have l107 : ((drK (true) (nk) (nv) (nc) (y)).take ((findN true nk y)) ++ ([(y)] : List Str) ++ (drK (true) (nk) (nv) (nc) (y)).drop ((findN true nk y))).length ≤ 140737488355328 := r106.max
            refine wpF_end _ (by kernel_rfl) (then_n (h_d [(.blk b28 (.cells #[.bool (findB (true) (nk) (nv) (nc) (y)), .slice Ar70_1 (drK (true) (nk) (nv) (nc) (y)).length cr70_1, .slice Ar70_2 (drV (true) (nk) (nv) (nc) (y)).length cr70_2, .slice Ar70_3 (([] : List Int)).length cr70_3] 25), 9999)] (by kernel_rfl) [.blk b77 (.cells #[.bool (findB (true) (nk) (nv) (nc) (y)), .slice Ar70_1 (drK (true) (nk) (nv) (nc) (y)).length cr70_1, .slice Ar70_2 (drV (true) (nk) (nv) (nc) (y)).length cr70_2, .slice Ar70_3 (([] : List Int)).length cr70_3] 25), .blk b31 (.cells #[.bool (false), .slice none 0 0, .slice none 0 0, .slice none 0 0] 25), .blk b28 (.cells #[.bool (findB (true) (nk) (nv) (nc) (y)), .slice Ar70_1 (drK (true) (nk) (nv) (nc) (y)).length cr70_1, .slice Ar70_2 (drV (true) (nk) (nv) (nc) (y)).length cr70_2, .slice Ar70_3 (([] : List Int)).length cr70_3] 25)] hM104 (and_held 2 rfl no_held) le103 ?_))
            refine h_a (by kernel_rfl) (by kernel_rfl) (fun w108 X109 hM110 => ?_)
            refine wpF_callP hM110 (f := 52) (caps := #[]) (h := (by kernel_rfl : opAt _ _ _ _ _ = some (.call (.mk (.value (.func 52)) #[(.tmp 51), (.tmp 52), (.tmp 53)] #[22, 3, 9]), some 54))) (by kernel_rfl) (by kernel_rfl) (by kernel_rfl) (f52 _ _ hM110.inW Ar70_2 cr70_2 (drV (true) (nk) (nv) (nc) (y)) (r72.up (le92.trans le103)) ((findN true nk y)) (u) (hu) (by omega) (by omega)) (fun v111 V112 w113 le114 hM115 hp116 => ?_)
            obtain ⟨Ar116_1, cr116_1, rfl, r117⟩ := hp116
            have l118 : ((drV (true) (nk) (nv) (nc) (y)).take ((findN true nk y)) ++ ([(u)] : List Str) ++ (drV (true) (nk) (nv) (nc) (y)).drop ((findN true nk y))).length ≤ 140737488355328 := r117.max
            refine wpF_end _ (by kernel_rfl) (then_n (h_d [(.blk b28 (.cells #[.bool (findB (true) (nk) (nv) (nc) (y)), .slice Ar70_1 (drK (true) (nk) (nv) (nc) (y)).length cr70_1, .slice Ar70_2 (drV (true) (nk) (nv) (nc) (y)).length cr70_2, .slice Ar70_3 (([] : List Int)).length cr70_3] 25), 9999)] (by kernel_rfl) [.blk b77 (.cells #[.bool (findB (true) (nk) (nv) (nc) (y)), .slice Ar70_1 (drK (true) (nk) (nv) (nc) (y)).length cr70_1, .slice Ar70_2 (drV (true) (nk) (nv) (nc) (y)).length cr70_2, .slice Ar70_3 (([] : List Int)).length cr70_3] 25), .blk b31 (.cells #[.bool (false), .slice none 0 0, .slice none 0 0, .slice none 0 0] 25), .blk b28 (.cells #[.bool (findB (true) (nk) (nv) (nc) (y)), .slice Ar70_1 (drK (true) (nk) (nv) (nc) (y)).length cr70_1, .slice Ar70_2 (drV (true) (nk) (nv) (nc) (y)).length cr70_2, .slice Ar70_3 (([] : List Int)).length cr70_3] 25)] hM115 (and_held 2 rfl no_held) le114 ?_))
            refine h_seg 1 (by kernel_rfl) ?_
            refine h_a (by kernel_rfl) (by kernel_rfl) (fun w119 X120 hM121 => ?_)
            refine wpF_store hM121 1 rfl (h := (by kernel_rfl : opAt _ _ _ _ _ = some (.store 25 (.tmp 6) (.tmp 55), none))) (off := 0) (by kernel_rfl) #[.bool (true), .slice Ar105_1 ((drK (true) (nk) (nv) (nc) (y)).take ((findN true nk y)) ++ ([(y)] : List Str) ++ (drK (true) (nk) (nv) (nc) (y)).drop ((findN true nk y))).length cr105_1, .slice Ar116_1 ((drV (true) (nk) (nv) (nc) (y)).take ((findN true nk y)) ++ ([(u)] : List Str) ++ (drV (true) (nk) (nv) (nc) (y)).drop ((findN true nk y))).length cr116_1, .slice none 0 0] (by kernel_rfl) (by kernel_rfl) (by kernel_rfl) (by kernel_rfl) (fun w123 hM122 => ?_)
            have hM124 : Step V w [] V112 _ ([.blk b77 (.cells #[.bool (findB (true) (nk) (nv) (nc) (y)), .slice Ar70_1 (drK (true) (nk) (nv) (nc) (y)).length cr70_1, .slice Ar70_2 (drV (true) (nk) (nv) (nc) (y)).length cr70_2, .slice Ar70_3 (([] : List Int)).length cr70_3] 25), .blk b31 (.cells #[.bool (true), .slice Ar105_1 ((drK (true) (nk) (nv) (nc) (y)).take ((findN true nk y)) ++ ([(y)] : List Str) ++ (drK (true) (nk) (nv) (nc) (y)).drop ((findN true nk y))).length cr105_1, .slice Ar116_1 ((drV (true) (nk) (nv) (nc) (y)).take ((findN true nk y)) ++ ([(u)] : List Str) ++ (drV (true) (nk) (nv) (nc) (y)).drop ((findN true nk y))).length cr116_1, .slice none 0 0] 25), .blk b28 (.cells #[.bool (findB (true) (nk) (nv) (nc) (y)), .slice Ar70_1 (drK (true) (nk) (nv) (nc) (y)).length cr70_1, .slice Ar70_2 (drV (true) (nk) (nv) (nc) (y)).length cr70_2, .slice Ar70_3 (([] : List Int)).length cr70_3] 25)] ++ X120) := hM122
            refine wpF_end _ (by kernel_rfl) (then_n (h_d [(.blk b28 (.cells #[.bool (findB (true) (nk) (nv) (nc) (y)), .slice Ar70_1 (drK (true) (nk) (nv) (nc) (y)).length cr70_1, .slice Ar70_2 (drV (true) (nk) (nv) (nc) (y)).length cr70_2, .slice Ar70_3 (([] : List Int)).length cr70_3] 25), 9999)] (by kernel_rfl) [.blk b77 (.cells #[.bool (findB (true) (nk) (nv) (nc) (y)), .slice Ar70_1 (drK (true) (nk) (nv) (nc) (y)).length cr70_1, .slice Ar70_2 (drV (true) (nk) (nv) (nc) (y)).length cr70_2, .slice Ar70_3 (([] : List Int)).length cr70_3] 25), .blk b31 (.cells #[.bool (true), .slice Ar105_1 ((drK (true) (nk) (nv) (nc) (y)).take ((findN true nk y)) ++ ([(y)] : List Str) ++ (drK (true) (nk) (nv) (nc) (y)).drop ((findN true nk y))).length cr105_1, .slice Ar116_1 ((drV (true) (nk) (nv) (nc) (y)).take ((findN true nk y)) ++ ([(u)] : List Str) ++ (drV (true) (nk) (nv) (nc) (y)).drop ((findN true nk y))).length cr116_1, .slice none 0 0] 25), .blk b28 (.cells #[.bool (findB (true) (nk) (nv) (nc) (y)), .slice Ar70_1 (drK (true) (nk) (nv) (nc) (y)).length cr70_1, .slice Ar70_2 (drV (true) (nk) (nv) (nc) (y)).length cr70_2, .slice Ar70_3 (([] : List Int)).length cr70_3] 25)] hM124 (and_held 2 rfl no_held) (VT.le.refl _) ?_))
            refine h_seg 1 (by kernel_rfl) ?_
            refine h_n (fun w125 hM126 => ?_)
            refine  (then_n (hK95 _ _ ?_))
            refine wp_ret ?_
            refine retN [.agg #[.bool (true), .slice Ar105_1 ((drK (true) (nk) (nv) (nc) (y)).take ((findN true nk y)) ++ ([(y)] : List Str) ++ (drK (true) (nk) (nv) (nc) (y)).drop ((findN true nk y))).length cr105_1, .slice Ar116_1 ((drV (true) (nk) (nv) (nc) (y)).take ((findN true nk y)) ++ ([(u)] : List Str) ++ (drV (true) (nk) (nv) (nc) (y)).drop ((findN true nk y))).length cr116_1, .slice none 0 0], .int .i64 (0)] (.tuple #[.agg #[.bool (true), .slice Ar105_1 ((drK (true) (nk) (nv) (nc) (y)).take ((findN true nk y)) ++ ([(y)] : List Str) ++ (drK (true) (nk) (nv) (nc) (y)).drop ((findN true nk y))).length cr105_1, .slice Ar116_1 ((drV (true) (nk) (nv) (nc) (y)).take ((findN true nk y)) ++ ([(u)] : List Str) ++ (drV (true) (nk) (nv) (nc) (y)).drop ((findN true nk y))).length cr116_1, .slice none 0 0], .int .i64 (0)]) Try.results27 (.cell (by kernel_rfl) (by kernel_rfl) hM126 1 rfl (by kernel_rfl) (.tmp (by kernel_rfl) (by kernel_rfl) .nil)) (by kernel_rfl) (hRet _ _ ⟨_, _, rfl, hM126.clear, ?_⟩)
            -- end Tffft
            have hok : putOk true nk nv nc y u = true := by simp only [putOk, h42, h48, h49, h56, h84, Bool.and_self, Bool.not_true, Bool.not_false]
            have hpb := put_back (v := u) (by assumption : findB true nk nv nc y = true)
            refine ⟨Ar105_1, cr105_1, Ar116_1, cr116_1, none, 0, ?_, ?_, ?_, ?_⟩
            · first | (rw [hpb.1, hpb.2]; simp only [putK, putV, putE, hok, h42, h48, h49, h56, h84, cond_true, cond_false, List.length_set] <;> rfl) | (simp only [putK, putV, putE, hok, h42, h48, h49, h56, h84, cond_true, cond_false, List.length_set] <;> rfl)
            · first | exact (r106.up le114) | (exact Rd.eq (r106.up le114) (by first | (rw [hpb.1]; simp only [putK, hok, h42, h48, h49, h56, h84, cond_true]; done) | (rw [hpb.2]; simp only [putV, hok, h42, h48, h49, h56, h84, cond_true]; done) | (simp only [putK, putV, putE, hok, h42, h48, h49, h56, h84, cond_true, cond_false]; done)))
            · first | exact r117 | (exact Rd.eq r117 (by first | (rw [hpb.1]; simp only [putK, hok, h42, h48, h49, h56, h84, cond_true]; done) | (rw [hpb.2]; simp only [putV, hok, h42, h48, h49, h56, h84, cond_true]; done) | (simp only [putK, putV, putE, hok, h42, h48, h49, h56, h84, cond_true, cond_false]; done)))
            · first | exact (Rd.nil _ _) | (exact Rd.eq (Rd.nil _ _) (by first | (rw [hpb.1]; simp only [putK, hok, h42, h48, h49, h56, h84, cond_true]; done) | (rw [hpb.2]; simp only [putV, hok, h42, h48, h49, h56, h84, cond_true]; done) | (simp only [putK, putV, putE, hok, h42, h48, h49, h56, h84, cond_true, cond_false]; done)))
          · -- Tffff
            refine wp_skip (then_n (hK63 _ _ ?_))
            refine wp_seq_k (fun K127 hK127 => ?_)
            refine wp_reg ?_
            refine gF hM82 (.load 25 (.tmp 3)) (some 40) (by kernel_rfl) (Y_load 2 rfl (off := 0) (by kernel_rfl) (.agg #[.bool (true), .slice Ank (nk).length cnk, .slice Anv (nv).length cnv, .slice Anc (nc).length cnc]) (by kernel_rfl)) ?_
            refine wpF_seg 1 (by kernel_rfl) ?_
            refine wpF_callP hM82 (f := 25) (caps := #[]) (h := (by kernel_rfl : opAt _ _ _ _ _ = some (.call (.mk (.value (.func 25)) #[(.tmp 40), (.tmp 41)] #[25, 9]), some 42))) (by kernel_rfl) (by kernel_rfl) (by kernel_rfl) (f25 _ _ hM82.inW (true) Ank cnk (nk) (hnk.up hM82.le) Anv cnv (nv) (hnv.up hM82.le) Anc cnc (nc) (hnc.up hM82.le) (y) (hy)) (fun v128 V129 w130 le131 hM132 hp133 => ?_)
            obtain rfl := hp133
            refine wpF_seg 2 (by kernel_rfl) ?_
            refine wpF_slot 43 (.int .i64 (findI (true) (nk) (nv) (nc) (y))) (.int .i64 (((findN true nk y : Nat) : Int))) (by kernel_rfl) (by kernel_rfl) (by first | exact congrArg (Value.int .i64) hdf.2.2.1 | rw [findI_st (by assumption)]) ?_
            refine wpF_seg 3 (by kernel_rfl) ?_
            refine wpF_end _ (by kernel_rfl) (then_n (hK127 _ _ ?_))
            refine wp_seq_k (fun K134 hK134 => ?_)
            refine wp_base [(1, bs (y)), (2, bs (u)), (3, .pointer (some ⟨b28, 0, none⟩)), (6, .pointer (some ⟨b31, 0, none⟩)), (7, .int .i64 (0)), (10, .int .i64 (((findN true nk y : Nat) : Int)))] (by kernel_rfl) (fun g135 => ?_)
            refine wp_drawN hM132 [(.blk b28 (.cells #[.bool (true), .slice Ank (nk).length cnk, .slice Anv (nv).length cnv, .slice Anc (nc).length cnc] 25), 9999)] (and_held 2 rfl no_held) [] [0, 1, 2, 3, 5, 6, 7, 8] [.a 4, .a 9, .p 10, .a 11, .p 12] [.p 0, .p 1, .p 2, .p 3, .p 5, .p 6, .p 7, .p 8, .s, .a 4, .a 9, .p 10, .a 11, .p 12] rfl (by kernel_rfl) (by kernel_rfl) ?_
            refine h_seg 1 (by kernel_rfl) ?_
            refine gH (.load 22 (.tmp 45)) (some 46) (by kernel_rfl) (Y_load 0 (by kernel_rfl : (FOf _ _ _)[0]? = some (.blk b28 (.cells #[.bool (true), .slice Ank (nk).length cnk, .slice Anv (nv).length cnv, .slice Anc (nc).length cnc] 25))) (off := 1) (by kernel_rfl) (.slice Ank (nk).length cnk) (by kernel_rfl)) ?_
            refine h_seg 3 (by kernel_rfl) ?_
            refine gH (.load 22 (.tmp 50)) (some 51) (by kernel_rfl) (Y_load 0 (by kernel_rfl : (FOf _ _ _)[0]? = some (.blk b28 (.cells #[.bool (true), .slice Ank (nk).length cnk, .slice Anv (nv).length cnv, .slice Anc (nc).length cnc] 25))) (off := 2) (by kernel_rfl) (.slice Anv (nv).length cnv) (by kernel_rfl)) ?_
            refine h_seg 2 (by kernel_rfl) ?_
            refine h_s no_fs ?_
            refine h_a (by kernel_rfl) (by kernel_rfl) (fun w136 X137 hM138 => ?_)
            refine wpF_callP hM138 (f := 52) (caps := #[]) (h := (by kernel_rfl : opAt _ _ _ _ _ = some (.call (.mk (.value (.func 52)) #[(.tmp 46), (.tmp 47), (.tmp 48)] #[22, 3, 9]), some 49))) (by kernel_rfl) (by kernel_rfl) (by kernel_rfl) (f52 _ _ hM138.inW Ank cnk (nk) (hnk.up hM138.le) ((findN true nk y)) (y) (hy) (by omega) (by omega)) (fun v139 V140 w141 le142 hM143 hp144 => ?_)
            obtain ⟨Ar144_1, cr144_1, rfl, r145⟩ := hp144
            have l146 : ((nk).take ((findN true nk y)) ++ ([(y)] : List Str) ++ (nk).drop ((findN true nk y))).length ≤ 140737488355328 := r145.max
            refine wpF_end _ (by kernel_rfl) (then_n (h_d [(.blk b28 (.cells #[.bool (true), .slice Ank (nk).length cnk, .slice Anv (nv).length cnv, .slice Anc (nc).length cnc] 25), 9999)] (by kernel_rfl) [.blk b77 (.cells #[.bool (findB (true) (nk) (nv) (nc) (y)), .slice Ar70_1 (drK (true) (nk) (nv) (nc) (y)).length cr70_1, .slice Ar70_2 (drV (true) (nk) (nv) (nc) (y)).length cr70_2, .slice Ar70_3 (([] : List Int)).length cr70_3] 25), .blk b31 (.cells #[.bool (false), .slice none 0 0, .slice none 0 0, .slice none 0 0] 25), .blk b28 (.cells #[.bool (true), .slice Ank (nk).length cnk, .slice Anv (nv).length cnv, .slice Anc (nc).length cnc] 25)] hM143 (and_held 2 rfl no_held) le142 ?_))
            refine h_a (by kernel_rfl) (by kernel_rfl) (fun w147 X148 hM149 => ?_)
            refine wpF_callP hM149 (f := 52) (caps := #[]) (h := (by kernel_rfl : opAt _ _ _ _ _ = some (.call (.mk (.value (.func 52)) #[(.tmp 51), (.tmp 52), (.tmp 53)] #[22, 3, 9]), some 54))) (by kernel_rfl) (by kernel_rfl) (by kernel_rfl) (f52 _ _ hM149.inW Anv cnv (nv) (hnv.up hM149.le) ((findN true nk y)) (u) (hu) (by omega) (by omega)) (fun v150 V151 w152 le153 hM154 hp155 => ?_)
            obtain ⟨Ar155_1, cr155_1, rfl, r156⟩ := hp155
            have l157 : ((nv).take ((findN true nk y)) ++ ([(u)] : List Str) ++ (nv).drop ((findN true nk y))).length ≤ 140737488355328 := r156.max
            refine wpF_end _ (by kernel_rfl) (then_n (h_d [(.blk b28 (.cells #[.bool (true), .slice Ank (nk).length cnk, .slice Anv (nv).length cnv, .slice Anc (nc).length cnc] 25), 9999)] (by kernel_rfl) [.blk b77 (.cells #[.bool (findB (true) (nk) (nv) (nc) (y)), .slice Ar70_1 (drK (true) (nk) (nv) (nc) (y)).length cr70_1, .slice Ar70_2 (drV (true) (nk) (nv) (nc) (y)).length cr70_2, .slice Ar70_3 (([] : List Int)).length cr70_3] 25), .blk b31 (.cells #[.bool (false), .slice none 0 0, .slice none 0 0, .slice none 0 0] 25), .blk b28 (.cells #[.bool (true), .slice Ank (nk).length cnk, .slice Anv (nv).length cnv, .slice Anc (nc).length cnc] 25)] hM154 (and_held 2 rfl no_held) le153 ?_))
            refine h_seg 1 (by kernel_rfl) ?_
            refine h_a (by kernel_rfl) (by kernel_rfl) (fun w158 X159 hM160 => ?_)
            refine wpF_store hM160 1 rfl (h := (by kernel_rfl : opAt _ _ _ _ _ = some (.store 25 (.tmp 6) (.tmp 55), none))) (off := 0) (by kernel_rfl) #[.bool (true), .slice Ar144_1 ((nk).take ((findN true nk y)) ++ ([(y)] : List Str) ++ (nk).drop ((findN true nk y))).length cr144_1, .slice Ar155_1 ((nv).take ((findN true nk y)) ++ ([(u)] : List Str) ++ (nv).drop ((findN true nk y))).length cr155_1, .slice none 0 0] (by kernel_rfl) (by kernel_rfl) (by kernel_rfl) (by kernel_rfl) (fun w162 hM161 => ?_)
            have hM163 : Step V w [] V151 _ ([.blk b77 (.cells #[.bool (findB (true) (nk) (nv) (nc) (y)), .slice Ar70_1 (drK (true) (nk) (nv) (nc) (y)).length cr70_1, .slice Ar70_2 (drV (true) (nk) (nv) (nc) (y)).length cr70_2, .slice Ar70_3 (([] : List Int)).length cr70_3] 25), .blk b31 (.cells #[.bool (true), .slice Ar144_1 ((nk).take ((findN true nk y)) ++ ([(y)] : List Str) ++ (nk).drop ((findN true nk y))).length cr144_1, .slice Ar155_1 ((nv).take ((findN true nk y)) ++ ([(u)] : List Str) ++ (nv).drop ((findN true nk y))).length cr155_1, .slice none 0 0] 25), .blk b28 (.cells #[.bool (true), .slice Ank (nk).length cnk, .slice Anv (nv).length cnv, .slice Anc (nc).length cnc] 25)] ++ X159) := hM161
            refine wpF_end _ (by kernel_rfl) (then_n (h_d [(.blk b28 (.cells #[.bool (true), .slice Ank (nk).length cnk, .slice Anv (nv).length cnv, .slice Anc (nc).length cnc] 25), 9999)] (by kernel_rfl) [.blk b77 (.cells #[.bool (findB (true) (nk) (nv) (nc) (y)), .slice Ar70_1 (drK (true) (nk) (nv) (nc) (y)).length cr70_1, .slice Ar70_2 (drV (true) (nk) (nv) (nc) (y)).length cr70_2, .slice Ar70_3 (([] : List Int)).length cr70_3] 25), .blk b31 (.cells #[.bool (true), .slice Ar144_1 ((nk).take ((findN true nk y)) ++ ([(y)] : List Str) ++ (nk).drop ((findN true nk y))).length cr144_1, .slice Ar155_1 ((nv).take ((findN true nk y)) ++ ([(u)] : List Str) ++ (nv).drop ((findN true nk y))).length cr155_1, .slice none 0 0] 25), .blk b28 (.cells #[.bool (true), .slice Ank (nk).length cnk, .slice Anv (nv).length cnv, .slice Anc (nc).length cnc] 25)] hM163 (and_held 2 rfl no_held) (VT.le.refl _) ?_))
            refine h_seg 1 (by kernel_rfl) ?_
            refine h_n (fun w164 hM165 => ?_)
            refine  (then_n (hK134 _ _ ?_))
            refine wp_ret ?_
            refine retN [.agg #[.bool (true), .slice Ar144_1 ((nk).take ((findN true nk y)) ++ ([(y)] : List Str) ++ (nk).drop ((findN true nk y))).length cr144_1, .slice Ar155_1 ((nv).take ((findN true nk y)) ++ ([(u)] : List Str) ++ (nv).drop ((findN true nk y))).length cr155_1, .slice none 0 0], .int .i64 (0)] (.tuple #[.agg #[.bool (true), .slice Ar144_1 ((nk).take ((findN true nk y)) ++ ([(y)] : List Str) ++ (nk).drop ((findN true nk y))).length cr144_1, .slice Ar155_1 ((nv).take ((findN true nk y)) ++ ([(u)] : List Str) ++ (nv).drop ((findN true nk y))).length cr155_1, .slice none 0 0], .int .i64 (0)]) Try.results27 (.cell (by kernel_rfl) (by kernel_rfl) hM165 1 rfl (by kernel_rfl) (.tmp (by kernel_rfl) (by kernel_rfl) .nil)) (by kernel_rfl) (hRet _ _ ⟨_, _, rfl, hM165.clear, ?_⟩)
            -- end Tffff
            have hok : putOk true nk nv nc y u = true := by simp only [putOk, h42, h48, h49, h56, h84, Bool.and_self, Bool.not_true, Bool.not_false]
            refine ⟨Ar144_1, cr144_1, Ar155_1, cr155_1, none, 0, ?_, ?_, ?_, ?_⟩
            · first | (rw [hpb.1, hpb.2]; simp only [putK, putV, putE, hok, h42, h48, h49, h56, h84, cond_true, cond_false, List.length_set] <;> rfl) | (simp only [putK, putV, putE, hok, h42, h48, h49, h56, h84, cond_true, cond_false, List.length_set] <;> rfl)
            · first | exact (r145.up le153) | (exact Rd.eq (r145.up le153) (by first | (rw [hpb.1]; simp only [putK, hok, h42, h48, h49, h56, h84, cond_true]; done) | (rw [hpb.2]; simp only [putV, hok, h42, h48, h49, h56, h84, cond_true]; done) | (simp only [putK, putV, putE, hok, h42, h48, h49, h56, h84, cond_true, cond_false]; done)))
            · first | exact r156 | (exact Rd.eq r156 (by first | (rw [hpb.1]; simp only [putK, hok, h42, h48, h49, h56, h84, cond_true]; done) | (rw [hpb.2]; simp only [putV, hok, h42, h48, h49, h56, h84, cond_true]; done) | (simp only [putK, putV, putE, hok, h42, h48, h49, h56, h84, cond_true, cond_false]; done)))
            · first | exact (Rd.nil _ _) | (exact Rd.eq (Rd.nil _ _) (by first | (rw [hpb.1]; simp only [putK, hok, h42, h48, h49, h56, h84, cond_true]; done) | (rw [hpb.2]; simp only [putV, hok, h42, h48, h49, h56, h84, cond_true]; done) | (simp only [putK, putV, putE, hok, h42, h48, h49, h56, h84, cond_true, cond_false]; done)))

end Go.Vk
