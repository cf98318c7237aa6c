/- Contracts of the page's functions, part I: printed by wip/tools/p8.py. -/
import Derived.Test.YtpaljghjoajhfaaRF
import Derived.Test.YtpaljghjoajhfaaRG
set_option linter.unusedVariables false
set_option linter.unusedSimpArgs false
namespace Go.Vk
open Go.Proofs
set_option maxHeartbeats 4000000 in
set_option maxRecDepth 100000 in
theorem f25 (V : VT) (w : World) (hV : V.inW w) (nl : Bool) (Ank : Option Addr) (cnk : Nat) (nk : List Str) (hnk : Rd strK V Ank cnk nk) (Anv : Option Addr) (cnv : Nat) (nv : List Str) (hnv : Rd strK V Anv cnv nv) (Anc : Option Addr) (cnc : Nat) (nc : List Int) (hnc : Rd (intK .i64) V Anc cnc nc) (y : Str) (hy : y.length ≤ maxL) :
    Calls Try.prog 25 #[.agg #[.bool (nl), .slice Ank (nk).length cnk, .slice Anv (nv).length cnv, .slice Anc (nc).length cnc], bs (y)] w (RetP V w fun rv V' => rv = .tuple #[.int .i64 (findI nl nk nv nc y), .bool (findB nl nk nv nc y)]) := by
  have mxnk : nk.length ≤ 140737488355328 := hnk.max
  have mxnv : nv.length ≤ 140737488355328 := hnv.max
  have mxnc : nc.length ≤ 140737488355328 := hnc.max
  have mxy : y.length ≤ 140737488355328 := hy
  refine calls_env (n := 59) Try.func25 (c := _) rfl Try.ntmps25 (by kernel_rfl) (fun R hRet => ?_)
  have hM0 : Step V w [] V w [] := Step.refl (St.nilE hV)
  cases nl with
  | false =>
    refine wp_seq_k (fun K1 hK1 => ?_)
    refine wp_reg ?_
    refine wpF_box hM0 #[.bool (false), .slice Ank (nk).length cnk, .slice Anv (nv).length cnv, .slice Anc (nc).length cnc] (h := (by kernel_rfl : opAt _ _ _ _ _ = some (.box 25 (.tmp 0), some 2))) (by kernel_rfl) (fun b2 w3 hM4 => ?_)
    obtain ⟨V5, le6, hM7, hc8⟩ := hM4.settle 0 rfl
    have hM9 : Step V w [] V5 _ ([]) := hM7
    refine wpF_seg 2 (by kernel_rfl) ?_
    refine wpF_end _ (by kernel_rfl) (then_n (hK1 _ _ ?_))
    refine wp_seq_k (fun K10 hK10 => ?_)
    refine wp_seq_k (fun K11 hK11 => ?_)
    refine wp_reg ?_
    refine gF hM9 (.load 25 (.tmp 2)) (some 7) (by kernel_rfl) (Y_loadB #[.bool (false), .slice Ank (nk).length cnk, .slice Anv (nv).length cnv, .slice Anc (nc).length cnc] hc8 (off := 0) (by kernel_rfl) (.agg #[.bool (false), .slice Ank (nk).length cnk, .slice Anv (nv).length cnv, .slice Anc (nc).length cnc]) (by kernel_rfl)) ?_
    refine wpF_callP hM9 (f := 35) (caps := #[]) (h := (by kernel_rfl : opAt _ _ _ _ _ = some (.call (.mk (.value (.func 35)) #[(.tmp 7)] #[25]), some 8))) (by kernel_rfl) (by kernel_rfl) (by kernel_rfl) (f35 _ _ hM9.inW (false) Ank cnk (nk) (hnk.up hM9.le) Anv cnv (nv) (hnv.up hM9.le) Anc cnc (nc) (hnc.up hM9.le)) (fun v12 V13 w14 le15 hM16 hp17 => ?_)
    obtain rfl := hp17
    refine wpF_seg 1 (by kernel_rfl) ?_
    refine wpF_end _ (by kernel_rfl) (then_n (hK11 _ _ ?_))
    refine wp_if (!(stands (false) (nk) (nv) (nc))) (by kernel_rfl) (fun h18 => ?_) (fun h18 => ?_)
    · -- Ft
      have h19 : (stands (false) (nk) (nv) (nc)) = false := by simpa using h18
      refine wp_seq_k (fun K20 hK20 => ?_)
      refine wp_reg ?_
      refine wpF_seg 2 (by kernel_rfl) ?_
      refine wpF_end _ (by kernel_rfl) (then_n (hK20 _ _ ?_))
      refine wp_ret (then_r (?_))
      refine retN [.int .i64 (0), .bool (false)] (.tuple #[.int .i64 (0), .bool (false)]) Try.results25 (.tmp (by kernel_rfl) (by kernel_rfl) (.tmp (by kernel_rfl) (by kernel_rfl) .nil)) (by kernel_rfl) (hRet _ _ ⟨_, _, rfl, hM16.clear, ?_⟩)
      -- end Ft
      first | (simp only [findI, findB, h18, h19, cond_false, Bool.false_and]; done) | ((first | have e := find_t (vs := nv) (kids := nc) (y := y) (i := i) (by assumption) (by omega) (by assumption) (by first | exact .inl (by assumption) | exact .inr (by assumption)) | have e := find_f (vs := nv) (kids := nc) (y := y) (i := i) (by assumption) (by omega) (by assumption) (by first | exact .inl (by assumption) | exact .inr (tri (by assumption) (by assumption)))); delta findI findB; rw [e]; simp only [h18, h19, cond_true, cond_false, Bool.true_and, Bool.and_true, Bool.false_and, Bool.and_false])
    · -- Ff
      have h21 : (stands (false) (nk) (nv) (nc)) = true := by simpa using h18
      refine wp_skip (then_n (hK10 _ _ ?_))
      refine wp_seq_k (fun K22 hK22 => ?_)
      refine wp_reg ?_
      refine wpF_seg 1 (by kernel_rfl) ?_
      refine wpF_end _ (by kernel_rfl) (then_n (hK22 _ _ ?_))
      refine wp_seq_k (fun K23 hK23 => ?_)
      refine wp_block ?_
      refine wp_base [(1, bs (y)), (2, .pointer (some ⟨b2, 0, none⟩)), (4, .int .i64 (0)), (5, .bool (false)), (6, .int .i64 ((0 : Int)))] (by kernel_rfl) (fun g25 => ?_)
      refine wp_loopX (fun (x_ : Nat) a_ w_ => ∃ (g : Nat → Value) (V_ : VT), a_ = env 59 [(1, bs (y)), (2, .pointer (some ⟨b2, 0, none⟩)), (4, .int .i64 (0)), (5, .bool (false)), (6, .int .i64 ((x_ : Int)))] g ∧ Step V w [] V_ w_ [] ∧ VT.le V13 V_ ∧ (x_ ≤ nk.length) ∧ (∀ j, j < x_ → ¬ y < nk.getD j [])) (fun (x_ : Nat) => nk.length - x_) (0) ⟨g25, V13, rfl, hM16, VT.le.refl _, by omega, by (intro j hj; omega)⟩ ?_
      rintro i a_ w27 ⟨g26, Vl24, rfl, hM28, le29, hi30_0, hi30_1⟩ K30 hK30
      refine wp_seq_k (fun K31 hK31 => ?_)
      refine wp_seq_k (fun K32 hK32 => ?_)
      refine wp_reg ?_
      refine wpF_seg 2 (by kernel_rfl) ?_
      refine gF hM28 (.load 22 (.tmp 11)) (some 12) (by kernel_rfl) (Y_loadB #[.bool (false), .slice Ank (nk).length cnk, .slice Anv (nv).length cnv, .slice Anc (nc).length cnc] (fun i v hi => (le15.trans le29) _ _ _ (hc8 i v hi)) (off := 1) (by kernel_rfl) (.slice Ank (nk).length cnk) (by kernel_rfl)) ?_
      refine wpF_seg 3 (by kernel_rfl) ?_
      refine wpF_caseB 15 (decide (((i : Int)) < ((nk.length : Int)))) (by kernel_rfl) (by kernel_rfl) (fun h33 => ?_) (fun h33 => ?_)
      · -- FfLt
        have p34 : (((i : Int)) < ((nk.length : Int))) := of_decide_eq_true h33
        refine wpF_seg 1 (by kernel_rfl) ?_
        refine gF hM28 (.load 22 (.tmp 16)) (some 17) (by kernel_rfl) (Y_loadB #[.bool (false), .slice Ank (nk).length cnk, .slice Anv (nv).length cnv, .slice Anc (nc).length cnc] (fun i v hi => (le15.trans le29) _ _ _ (hc8 i v hi)) (off := 1) (by kernel_rfl) (.slice Ank (nk).length cnk) (by kernel_rfl)) ?_
        refine wpF_seg 1 (by kernel_rfl) ?_
        refine gF_index (A := Ank) (c := cnk) (hnk.up hM28.le) .i64 ((i : Int)) (h := (by kernel_rfl : opAt _ _ _ _ _ = some (.indexAddr 22 (.tmp 17) (.tmp 18), some 19))) (e := 9) (by kernel_rfl) (by kernel_rfl) (by kernel_rfl) (i) rfl (by omega) (fun b35 o36 at_b35 => ?_)
        have c37 : Vl24 b35 o36 = some (bs (nk.getD (i) [])) := (At.str at_b35).1
        have l38 : (nk.getD (i) []).length ≤ 140737488355328 := (At.str at_b35).2
        refine gF hM28 (.load 9 (.tmp 19)) (some 20) (by kernel_rfl) (Y_loadV c37 (by kernel_rfl) (by kernel_rfl)) ?_
        refine wpF_seg 1 (by kernel_rfl) ?_
        refine wpF_callP hM28 (f := 49) (caps := #[]) (h := (by kernel_rfl : opAt _ _ _ _ _ = some (.call (.mk (.value (.func 49)) #[(.tmp 20), (.tmp 21)] #[9, 9]), some 22))) (by kernel_rfl) (by kernel_rfl) (by kernel_rfl) (f49 _ _ hM28.inW ((nk.getD (i) [])) (l38) (y) (hy)) (fun v39 V40 w41 le42 hM43 hp44 => ?_)
        obtain rfl := hp44
        refine wpF_seg 1 (by kernel_rfl) ?_
        refine wpF_caseB 23 (decide (((nk.getD (i) [])) < (y))) (by kernel_rfl) (by kernel_rfl) (fun h45 => ?_) (fun h45 => ?_)
        · -- FfLtt
          have p46 : (((nk.getD (i) [])) < (y)) := of_decide_eq_true h45
          refine wpF_seg 14 (by kernel_rfl) ?_
          refine wpF_end _ (by kernel_rfl) (then_n (hK32 _ _ ?_))
          refine wp_ct (by kernel_rfl) ?_
          refine wp_skip (then_n (hK31 _ _ ?_))
          refine wp_block ?_
          refine wp_reg ?_
          refine wpF_seg 1 (by kernel_rfl) ?_
          refine gF hM43 (.binOp .add 3 (.tmp 38) (.const (.int .i64 1)) 3) (some 39) (by kernel_rfl) (Y_add .i64 ((i : Int)) (1) ((i : Int) + 1) (by kernel_rfl) (by kernel_rfl) (wrap64_ok _ (by omega))) ?_
          refine wpF_seg 1 (by kernel_rfl) ?_
          refine wpF_base [(1, bs (y)), (2, .pointer (some ⟨b2, 0, none⟩)), (4, .int .i64 (0)), (5, .bool (false)), (6, .int .i64 ((i + 1 : Int)))] (by kernel_rfl) (fun g47 => ?_)
          refine wpF_end _ (by kernel_rfl) (blk_n (then_n (hK30 _ _ (i + 1) (by omega) ?_)))
          refine ⟨g47, V40, rfl, hM43, (le29.trans le42), ?_, ?_⟩
          · -- FfLtt inv 0
            omega
          · -- FfLtt inv 1
            exact all_step (by assumption) (by first | assumption | exact not_gt (by assumption) | exact not_gt_eq (by assumption))
        · -- FfLtf
          have p48 : ¬ (((nk.getD (i) [])) < (y)) := of_decide_eq_false h45
          refine wpF_seg 1 (by kernel_rfl) ?_
          refine gF hM43 (.load 4 (.tmp 24)) (some 25) (by kernel_rfl) (Y_loadB #[.bool (false), .slice Ank (nk).length cnk, .slice Anv (nv).length cnv, .slice Anc (nc).length cnc] (fun i v hi => ((le15.trans le29).trans le42) _ _ _ (hc8 i v hi)) (off := 0) (by kernel_rfl) (.bool (false)) (by kernel_rfl)) ?_
          refine wpF_seg 3 (by kernel_rfl) ?_
          refine gF hM43 (.load 22 (.tmp 28)) (some 29) (by kernel_rfl) (Y_loadB #[.bool (false), .slice Ank (nk).length cnk, .slice Anv (nv).length cnv, .slice Anc (nc).length cnc] (fun i v hi => ((le15.trans le29).trans le42) _ _ _ (hc8 i v hi)) (off := 1) (by kernel_rfl) (.slice Ank (nk).length cnk) (by kernel_rfl)) ?_
          refine wpF_seg 1 (by kernel_rfl) ?_
          refine gF_index (A := Ank) (c := cnk) (hnk.up hM43.le) .i64 ((i : Int)) (h := (by kernel_rfl : opAt _ _ _ _ _ = some (.indexAddr 22 (.tmp 29) (.tmp 30), some 31))) (e := 9) (by kernel_rfl) (by kernel_rfl) (by kernel_rfl) (i) rfl (by omega) (fun b49 o50 at_b49 => ?_)
          have c51 : V40 b49 o50 = some (bs (nk.getD (i) [])) := (At.str at_b49).1
          have l52 : (nk.getD (i) []).length ≤ 140737488355328 := (At.str at_b49).2
          refine gF hM43 (.load 9 (.tmp 31)) (some 32) (by kernel_rfl) (Y_loadV c51 (by kernel_rfl) (by kernel_rfl)) ?_
          refine wpF_seg 5 (by kernel_rfl) ?_
          refine wpF_end _ (by kernel_rfl) (then_n (hK32 _ _ ?_))
          refine wp_if (decide (((nk.getD (i) [])) = (y))) (by kernel_rfl) (fun h53 => ?_) (fun h53 => ?_)
          · -- FfLtft
            have p54 : (((nk.getD (i) [])) = (y)) := of_decide_eq_true h53
            refine wp_skip (then_n (hK31 _ _ ?_))
            refine wp_block ?_
            refine wp_reg ?_
            refine wpF_seg 1 (by kernel_rfl) ?_
            refine gF hM43 (.binOp .add 3 (.tmp 38) (.const (.int .i64 1)) 3) (some 39) (by kernel_rfl) (Y_add .i64 ((i : Int)) (1) ((i : Int) + 1) (by kernel_rfl) (by kernel_rfl) (wrap64_ok _ (by omega))) ?_
            refine wpF_seg 1 (by kernel_rfl) ?_
            refine wpF_base [(1, bs (y)), (2, .pointer (some ⟨b2, 0, none⟩)), (4, .int .i64 (0)), (5, .bool (false)), (6, .int .i64 ((i + 1 : Int)))] (by kernel_rfl) (fun g55 => ?_)
            refine wpF_end _ (by kernel_rfl) (blk_n (then_n (hK30 _ _ (i + 1) (by omega) ?_)))
            refine ⟨g55, V40, rfl, hM43, (le29.trans le42), ?_, ?_⟩
            · -- FfLtft inv 0
              omega
            · -- FfLtft inv 1
              exact all_step (by assumption) (by first | assumption | exact not_gt (by assumption) | exact not_gt_eq (by assumption))
          · -- FfLtff
            have p56 : ¬ (((nk.getD (i) [])) = (y)) := of_decide_eq_false h53
            refine wp_exit (then_x (then_x (blk_hit (then_n (hK23 _ _ ?_)))))
            refine wp_seq_k (fun K57 hK57 => ?_)
            refine wp_base [(1, bs (y)), (2, .pointer (some ⟨b2, 0, none⟩)), (4, .int .i64 (0)), (5, .bool (false)), (6, .int .i64 ((i : Int)))] (by kernel_rfl) (fun g58 => ?_)
            refine wp_drawN hM43 [] no_held [] [0, 1, 2, 3, 4, 5, 6, 7, 8, 9, 10, 11, 12, 13, 14, 15, 16, 17, 18, 19, 20] [] [.p 0, .p 1, .p 2, .p 3, .p 4, .p 5, .p 6, .p 7, .p 8, .p 9, .p 10, .p 11, .p 12, .p 13, .p 14, .p 15, .p 16, .p 17, .p 18, .p 19, .p 20, .s] rfl (by kernel_rfl) (by kernel_rfl) ?_
            refine h_seg 2 (by kernel_rfl) ?_
            refine gH (.load 4 (.tmp 41)) (some 42) (by kernel_rfl) (Y_loadB #[.bool (false), .slice Ank (nk).length cnk, .slice Anv (nv).length cnv, .slice Anc (nc).length cnc] (fun i v hi => ((le15.trans le29).trans le42) _ _ _ (hc8 i v hi)) (off := 0) (by kernel_rfl) (.bool (false)) (by kernel_rfl)) ?_
            refine h_seg 18 (by kernel_rfl) ?_
            refine h_s no_fs ?_
            refine h_n (fun w59 hM60 => ?_)
            refine  (then_n (hK57 _ _ ?_))
            refine wp_ret ?_
            refine retN [.int .i64 ((i : Int)), .bool (false)] (.tuple #[.int .i64 ((i : Int)), .bool (false)]) Try.results25 (.tmp (by kernel_rfl) (by kernel_rfl) (.tmp (by kernel_rfl) (by kernel_rfl) .nil)) (by kernel_rfl) (hRet _ _ ⟨_, _, rfl, hM60.clear, ?_⟩)
            -- end FfLtff
            first | (simp only [findI, findB, h18, h21, h33, h45, h53, cond_false, Bool.false_and]; done) | ((first | have e := find_t (vs := nv) (kids := nc) (y := y) (i := i) (by assumption) (by omega) (by assumption) (by first | exact .inl (by assumption) | exact .inr (by assumption)) | have e := find_f (vs := nv) (kids := nc) (y := y) (i := i) (by assumption) (by omega) (by assumption) (by first | exact .inl (by assumption) | exact .inr (tri (by assumption) (by assumption)))); delta findI findB; rw [e]; simp only [h18, h21, h33, h45, h53, cond_true, cond_false, Bool.true_and, Bool.and_true, Bool.false_and, Bool.and_false])
      · -- FfLf
        have p61 : ¬ (((i : Int)) < ((nk.length : Int))) := of_decide_eq_false h33
        refine wpF_seg 22 (by kernel_rfl) ?_
        refine wpF_end _ (by kernel_rfl) (then_n (hK32 _ _ ?_))
        refine wp_cf (by kernel_rfl) ?_
        refine wp_exit (then_x (then_x (blk_hit (then_n (hK23 _ _ ?_)))))
        refine wp_seq_k (fun K62 hK62 => ?_)
        refine wp_base [(1, bs (y)), (2, .pointer (some ⟨b2, 0, none⟩)), (4, .int .i64 (0)), (5, .bool (false)), (6, .int .i64 ((i : Int)))] (by kernel_rfl) (fun g63 => ?_)
        refine wp_drawN hM28 [] no_held [] [0, 1, 2, 3, 4, 5, 6, 7, 8, 9, 10, 11, 12, 13, 14, 15, 16, 17, 18, 19, 20] [] [.p 0, .p 1, .p 2, .p 3, .p 4, .p 5, .p 6, .p 7, .p 8, .p 9, .p 10, .p 11, .p 12, .p 13, .p 14, .p 15, .p 16, .p 17, .p 18, .p 19, .p 20, .s] rfl (by kernel_rfl) (by kernel_rfl) ?_
        refine h_seg 2 (by kernel_rfl) ?_
        refine gH (.load 4 (.tmp 41)) (some 42) (by kernel_rfl) (Y_loadB #[.bool (false), .slice Ank (nk).length cnk, .slice Anv (nv).length cnv, .slice Anc (nc).length cnc] (fun i v hi => (le15.trans le29) _ _ _ (hc8 i v hi)) (off := 0) (by kernel_rfl) (.bool (false)) (by kernel_rfl)) ?_
        refine h_seg 18 (by kernel_rfl) ?_
        refine h_s no_fs ?_
        refine h_n (fun w64 hM65 => ?_)
        refine  (then_n (hK62 _ _ ?_))
        refine wp_ret ?_
        refine retN [.int .i64 ((i : Int)), .bool (false)] (.tuple #[.int .i64 ((i : Int)), .bool (false)]) Try.results25 (.tmp (by kernel_rfl) (by kernel_rfl) (.tmp (by kernel_rfl) (by kernel_rfl) .nil)) (by kernel_rfl) (hRet _ _ ⟨_, _, rfl, hM65.clear, ?_⟩)
        -- end FfLf
        first | (simp only [findI, findB, h18, h21, h33, cond_false, Bool.false_and]; done) | ((first | have e := find_t (vs := nv) (kids := nc) (y := y) (i := i) (by assumption) (by omega) (by assumption) (by first | exact .inl (by assumption) | exact .inr (by assumption)) | have e := find_f (vs := nv) (kids := nc) (y := y) (i := i) (by assumption) (by omega) (by assumption) (by first | exact .inl (by assumption) | exact .inr (tri (by assumption) (by assumption)))); delta findI findB; rw [e]; simp only [h18, h21, h33, cond_true, cond_false, Bool.true_and, Bool.and_true, Bool.false_and, Bool.and_false])
  | true =>
    refine wp_seq_k (fun K66 hK66 => ?_)
    refine wp_reg ?_
    refine wpF_box hM0 #[.bool (true), .slice Ank (nk).length cnk, .slice Anv (nv).length cnv, .slice Anc (nc).length cnc] (h := (by kernel_rfl : opAt _ _ _ _ _ = some (.box 25 (.tmp 0), some 2))) (by kernel_rfl) (fun b67 w68 hM69 => ?_)
    obtain ⟨V70, le71, hM72, hc73⟩ := hM69.settle 0 rfl
    have hM74 : Step V w [] V70 _ ([]) := hM72
    refine wpF_seg 2 (by kernel_rfl) ?_
    refine wpF_end _ (by kernel_rfl) (then_n (hK66 _ _ ?_))
    refine wp_seq_k (fun K75 hK75 => ?_)
    refine wp_seq_k (fun K76 hK76 => ?_)
    refine wp_reg ?_
    refine gF hM74 (.load 25 (.tmp 2)) (some 7) (by kernel_rfl) (Y_loadB #[.bool (true), .slice Ank (nk).length cnk, .slice Anv (nv).length cnv, .slice Anc (nc).length cnc] hc73 (off := 0) (by kernel_rfl) (.agg #[.bool (true), .slice Ank (nk).length cnk, .slice Anv (nv).length cnv, .slice Anc (nc).length cnc]) (by kernel_rfl)) ?_
    refine wpF_callP hM74 (f := 35) (caps := #[]) (h := (by kernel_rfl : opAt _ _ _ _ _ = some (.call (.mk (.value (.func 35)) #[(.tmp 7)] #[25]), some 8))) (by kernel_rfl) (by kernel_rfl) (by kernel_rfl) (f35 _ _ hM74.inW (true) Ank cnk (nk) (hnk.up hM74.le) Anv cnv (nv) (hnv.up hM74.le) Anc cnc (nc) (hnc.up hM74.le)) (fun v77 V78 w79 le80 hM81 hp82 => ?_)
    obtain rfl := hp82
    refine wpF_seg 1 (by kernel_rfl) ?_
    refine wpF_end _ (by kernel_rfl) (then_n (hK76 _ _ ?_))
    refine wp_if (!(stands (true) (nk) (nv) (nc))) (by kernel_rfl) (fun h83 => ?_) (fun h83 => ?_)
    · -- Tt
      have h84 : (stands (true) (nk) (nv) (nc)) = false := by simpa using h83
      refine wp_seq_k (fun K85 hK85 => ?_)
      refine wp_reg ?_
      refine wpF_seg 2 (by kernel_rfl) ?_
      refine wpF_end _ (by kernel_rfl) (then_n (hK85 _ _ ?_))
      refine wp_ret (then_r (?_))
      refine retN [.int .i64 (0), .bool (false)] (.tuple #[.int .i64 (0), .bool (false)]) Try.results25 (.tmp (by kernel_rfl) (by kernel_rfl) (.tmp (by kernel_rfl) (by kernel_rfl) .nil)) (by kernel_rfl) (hRet _ _ ⟨_, _, rfl, hM81.clear, ?_⟩)
      -- end Tt
      first | (simp only [findI, findB, h83, h84, cond_false, Bool.false_and]; done) | ((first | have e := find_t (vs := nv) (kids := nc) (y := y) (i := i) (by assumption) (by omega) (by assumption) (by first | exact .inl (by assumption) | exact .inr (by assumption)) | have e := find_f (vs := nv) (kids := nc) (y := y) (i := i) (by assumption) (by omega) (by assumption) (by first | exact .inl (by assumption) | exact .inr (tri (by assumption) (by assumption)))); delta findI findB; rw [e]; simp only [h83, h84, cond_true, cond_false, Bool.true_and, Bool.and_true, Bool.false_and, Bool.and_false])
    · -- Tf
      have h86 : (stands (true) (nk) (nv) (nc)) = true := by simpa using h83
      refine wp_skip (then_n (hK75 _ _ ?_))
      refine wp_seq_k (fun K87 hK87 => ?_)
      refine wp_reg ?_
      refine wpF_seg 1 (by kernel_rfl) ?_
      refine wpF_end _ (by kernel_rfl) (then_n (hK87 _ _ ?_))
      refine wp_seq_k (fun K88 hK88 => ?_)
      refine wp_block ?_
      refine wp_base [(1, bs (y)), (2, .pointer (some ⟨b67, 0, none⟩)), (4, .int .i64 (0)), (5, .bool (false)), (6, .int .i64 ((0 : Int)))] (by kernel_rfl) (fun g90 => ?_)
      refine wp_loopX (fun (x_ : Nat) a_ w_ => ∃ (g : Nat → Value) (V_ : VT), a_ = env 59 [(1, bs (y)), (2, .pointer (some ⟨b67, 0, none⟩)), (4, .int .i64 (0)), (5, .bool (false)), (6, .int .i64 ((x_ : Int)))] g ∧ Step V w [] V_ w_ [] ∧ VT.le V78 V_ ∧ (x_ ≤ nk.length) ∧ (∀ j, j < x_ → nk.getD j [] < y)) (fun (x_ : Nat) => nk.length - x_) (0) ⟨g90, V78, rfl, hM81, VT.le.refl _, by omega, by (intro j hj; omega)⟩ ?_
      rintro i a_ w92 ⟨g91, Vl89, rfl, hM93, le94, hi95_0, hi95_1⟩ K95 hK95
      refine wp_seq_k (fun K96 hK96 => ?_)
      refine wp_seq_k (fun K97 hK97 => ?_)
      refine wp_reg ?_
      refine wpF_seg 2 (by kernel_rfl) ?_
      refine gF hM93 (.load 22 (.tmp 11)) (some 12) (by kernel_rfl) (Y_loadB #[.bool (true), .slice Ank (nk).length cnk, .slice Anv (nv).length cnv, .slice Anc (nc).length cnc] (fun i v hi => (le80.trans le94) _ _ _ (hc73 i v hi)) (off := 1) (by kernel_rfl) (.slice Ank (nk).length cnk) (by kernel_rfl)) ?_
      refine wpF_seg 3 (by kernel_rfl) ?_
      refine wpF_caseB 15 (decide (((i : Int)) < ((nk.length : Int)))) (by kernel_rfl) (by kernel_rfl) (fun h98 => ?_) (fun h98 => ?_)
      · -- TfLt
        have p99 : (((i : Int)) < ((nk.length : Int))) := of_decide_eq_true h98
        refine wpF_seg 1 (by kernel_rfl) ?_
        refine gF hM93 (.load 22 (.tmp 16)) (some 17) (by kernel_rfl) (Y_loadB #[.bool (true), .slice Ank (nk).length cnk, .slice Anv (nv).length cnv, .slice Anc (nc).length cnc] (fun i v hi => (le80.trans le94) _ _ _ (hc73 i v hi)) (off := 1) (by kernel_rfl) (.slice Ank (nk).length cnk) (by kernel_rfl)) ?_
        refine wpF_seg 1 (by kernel_rfl) ?_
        refine gF_index (A := Ank) (c := cnk) (hnk.up hM93.le) .i64 ((i : Int)) (h := (by kernel_rfl : opAt _ _ _ _ _ = some (.indexAddr 22 (.tmp 17) (.tmp 18), some 19))) (e := 9) (by kernel_rfl) (by kernel_rfl) (by kernel_rfl) (i) rfl (by omega) (fun b100 o101 at_b100 => ?_)
        have c102 : Vl89 b100 o101 = some (bs (nk.getD (i) [])) := (At.str at_b100).1
        have l103 : (nk.getD (i) []).length ≤ 140737488355328 := (At.str at_b100).2
        refine gF hM93 (.load 9 (.tmp 19)) (some 20) (by kernel_rfl) (Y_loadV c102 (by kernel_rfl) (by kernel_rfl)) ?_
        refine wpF_seg 1 (by kernel_rfl) ?_
        refine wpF_callP hM93 (f := 49) (caps := #[]) (h := (by kernel_rfl : opAt _ _ _ _ _ = some (.call (.mk (.value (.func 49)) #[(.tmp 20), (.tmp 21)] #[9, 9]), some 22))) (by kernel_rfl) (by kernel_rfl) (by kernel_rfl) (f49 _ _ hM93.inW ((nk.getD (i) [])) (l103) (y) (hy)) (fun v104 V105 w106 le107 hM108 hp109 => ?_)
        obtain rfl := hp109
        refine wpF_seg 1 (by kernel_rfl) ?_
        refine wpF_caseB 23 (decide (((nk.getD (i) [])) < (y))) (by kernel_rfl) (by kernel_rfl) (fun h110 => ?_) (fun h110 => ?_)
        · -- TfLtt
          have p111 : (((nk.getD (i) [])) < (y)) := of_decide_eq_true h110
          refine wpF_seg 14 (by kernel_rfl) ?_
          refine wpF_end _ (by kernel_rfl) (then_n (hK97 _ _ ?_))
          refine wp_ct (by kernel_rfl) ?_
          refine wp_skip (then_n (hK96 _ _ ?_))
          refine wp_block ?_
          refine wp_reg ?_
          refine wpF_seg 1 (by kernel_rfl) ?_
          refine gF hM108 (.binOp .add 3 (.tmp 38) (.const (.int .i64 1)) 3) (some 39) (by kernel_rfl) (Y_add .i64 ((i : Int)) (1) ((i : Int) + 1) (by kernel_rfl) (by kernel_rfl) (wrap64_ok _ (by omega))) ?_
          refine wpF_seg 1 (by kernel_rfl) ?_
          refine wpF_base [(1, bs (y)), (2, .pointer (some ⟨b67, 0, none⟩)), (4, .int .i64 (0)), (5, .bool (false)), (6, .int .i64 ((i + 1 : Int)))] (by kernel_rfl) (fun g112 => ?_)
          refine wpF_end _ (by kernel_rfl) (blk_n (then_n (hK95 _ _ (i + 1) (by omega) ?_)))
          refine ⟨g112, V105, rfl, hM108, (le94.trans le107), ?_, ?_⟩
          · -- TfLtt inv 0
            omega
          · -- TfLtt inv 1
            exact all_step (by assumption) (by first | assumption | exact not_gt (by assumption) | exact not_gt_eq (by assumption))
        · -- TfLtf
          have p113 : ¬ (((nk.getD (i) [])) < (y)) := of_decide_eq_false h110
          refine wpF_seg 1 (by kernel_rfl) ?_
          refine gF hM108 (.load 4 (.tmp 24)) (some 25) (by kernel_rfl) (Y_loadB #[.bool (true), .slice Ank (nk).length cnk, .slice Anv (nv).length cnv, .slice Anc (nc).length cnc] (fun i v hi => ((le80.trans le94).trans le107) _ _ _ (hc73 i v hi)) (off := 0) (by kernel_rfl) (.bool (true)) (by kernel_rfl)) ?_
          refine wpF_seg 12 (by kernel_rfl) ?_
          refine wpF_end _ (by kernel_rfl) (then_n (hK97 _ _ ?_))
          refine wp_cf (by kernel_rfl) ?_
          refine wp_exit (then_x (then_x (blk_hit (then_n (hK88 _ _ ?_)))))
          refine wp_seq_k (fun K114 hK114 => ?_)
          refine wp_base [(1, bs (y)), (2, .pointer (some ⟨b67, 0, none⟩)), (4, .int .i64 (0)), (5, .bool (false)), (6, .int .i64 ((i : Int)))] (by kernel_rfl) (fun g115 => ?_)
          refine wp_drawN hM108 [] no_held [] [0, 1, 2, 3, 4, 5, 6, 7, 8, 9, 10, 11, 12, 13, 14, 15, 16, 17, 18, 19, 20] [] [.p 0, .p 1, .p 2, .p 3, .p 4, .p 5, .p 6, .p 7, .p 8, .p 9, .p 10, .p 11, .p 12, .p 13, .p 14, .p 15, .p 16, .p 17, .p 18, .p 19, .p 20, .s] rfl (by kernel_rfl) (by kernel_rfl) ?_
          refine h_seg 2 (by kernel_rfl) ?_
          refine gH (.load 4 (.tmp 41)) (some 42) (by kernel_rfl) (Y_loadB #[.bool (true), .slice Ank (nk).length cnk, .slice Anv (nv).length cnv, .slice Anc (nc).length cnc] (fun i v hi => ((le80.trans le94).trans le107) _ _ _ (hc73 i v hi)) (off := 0) (by kernel_rfl) (.bool (true)) (by kernel_rfl)) ?_
          refine h_seg 3 (by kernel_rfl) ?_
          refine gH (.load 22 (.tmp 45)) (some 46) (by kernel_rfl) (Y_loadB #[.bool (true), .slice Ank (nk).length cnk, .slice Anv (nv).length cnv, .slice Anc (nc).length cnc] (fun i v hi => ((le80.trans le94).trans le107) _ _ _ (hc73 i v hi)) (off := 1) (by kernel_rfl) (.slice Ank (nk).length cnk) (by kernel_rfl)) ?_
          refine h_seg 4 (by kernel_rfl) ?_
          refine h_slot 50 (.bool (decide (((i : Int)) < ((nk.length : Int))))) (.bool true) (by kernel_rfl) (by kernel_rfl) (by rw [h98]) ?_
          refine h_seg 1 (by kernel_rfl) ?_
          refine gH (.load 22 (.tmp 51)) (some 52) (by kernel_rfl) (Y_loadB #[.bool (true), .slice Ank (nk).length cnk, .slice Anv (nv).length cnv, .slice Anc (nc).length cnc] (fun i v hi => ((le80.trans le94).trans le107) _ _ _ (hc73 i v hi)) (off := 1) (by kernel_rfl) (.slice Ank (nk).length cnk) (by kernel_rfl)) ?_
          refine h_seg 1 (by kernel_rfl) ?_
          refine gH_index (A := Ank) (c := cnk) (hnk.up hM108.le) .i64 ((i : Int)) (h := (by kernel_rfl : opAt _ _ _ _ _ = some (.indexAddr 22 (.tmp 52) (.tmp 53), some 54))) (e := 9) (by kernel_rfl) (by kernel_rfl) (by kernel_rfl) (i) rfl (by omega) (fun b116 o117 at_b116 => ?_)
          have c118 : V105 b116 o117 = some (bs (nk.getD (i) [])) := (At.str at_b116).1
          have l119 : (nk.getD (i) []).length ≤ 140737488355328 := (At.str at_b116).2
          refine gH (.load 9 (.tmp 54)) (some 55) (by kernel_rfl) (Y_loadV c118 (by kernel_rfl) (by kernel_rfl)) ?_
          refine h_seg 5 (by kernel_rfl) ?_
          refine h_s no_fs ?_
          refine h_n (fun w120 hM121 => ?_)
          refine  (then_n (hK114 _ _ ?_))
          refine wp_ret ?_
          refine retN [.int .i64 ((i : Int)), .bool (decide (((nk.getD (i) [])) = (y)))] (.tuple #[.int .i64 ((i : Int)), .bool (decide (((nk.getD (i) [])) = (y)))]) Try.results25 (.tmp (by kernel_rfl) (by kernel_rfl) (.tmp (by kernel_rfl) (by kernel_rfl) .nil)) (by kernel_rfl) (hRet _ _ ⟨_, _, rfl, hM121.clear, ?_⟩)
          -- end TfLtf
          first | (simp only [findI, findB, h110, h83, h86, h98, cond_false, Bool.false_and]; done) | ((first | have e := find_t (vs := nv) (kids := nc) (y := y) (i := i) (by assumption) (by omega) (by assumption) (by first | exact .inl (by assumption) | exact .inr (by assumption)) | have e := find_f (vs := nv) (kids := nc) (y := y) (i := i) (by assumption) (by omega) (by assumption) (by first | exact .inl (by assumption) | exact .inr (tri (by assumption) (by assumption)))); delta findI findB; rw [e]; simp only [h110, h83, h86, h98, cond_true, cond_false, Bool.true_and, Bool.and_true, Bool.false_and, Bool.and_false])
      · -- TfLf
        have p122 : ¬ (((i : Int)) < ((nk.length : Int))) := of_decide_eq_false h98
        refine wpF_seg 22 (by kernel_rfl) ?_
        refine wpF_end _ (by kernel_rfl) (then_n (hK97 _ _ ?_))
        refine wp_cf (by kernel_rfl) ?_
        refine wp_exit (then_x (then_x (blk_hit (then_n (hK88 _ _ ?_)))))
        refine wp_seq_k (fun K123 hK123 => ?_)
        refine wp_base [(1, bs (y)), (2, .pointer (some ⟨b67, 0, none⟩)), (4, .int .i64 (0)), (5, .bool (false)), (6, .int .i64 ((i : Int)))] (by kernel_rfl) (fun g124 => ?_)
        refine wp_drawN hM93 [] no_held [] [0, 1, 2, 3, 4, 5, 6, 7, 8, 9, 10, 11, 12, 13, 14, 15, 16, 17, 18, 19, 20] [] [.p 0, .p 1, .p 2, .p 3, .p 4, .p 5, .p 6, .p 7, .p 8, .p 9, .p 10, .p 11, .p 12, .p 13, .p 14, .p 15, .p 16, .p 17, .p 18, .p 19, .p 20, .s] rfl (by kernel_rfl) (by kernel_rfl) ?_
        refine h_seg 2 (by kernel_rfl) ?_
        refine gH (.load 4 (.tmp 41)) (some 42) (by kernel_rfl) (Y_loadB #[.bool (true), .slice Ank (nk).length cnk, .slice Anv (nv).length cnv, .slice Anc (nc).length cnc] (fun i v hi => (le80.trans le94) _ _ _ (hc73 i v hi)) (off := 0) (by kernel_rfl) (.bool (true)) (by kernel_rfl)) ?_
        refine h_seg 3 (by kernel_rfl) ?_
        refine gH (.load 22 (.tmp 45)) (some 46) (by kernel_rfl) (Y_loadB #[.bool (true), .slice Ank (nk).length cnk, .slice Anv (nv).length cnv, .slice Anc (nc).length cnc] (fun i v hi => (le80.trans le94) _ _ _ (hc73 i v hi)) (off := 1) (by kernel_rfl) (.slice Ank (nk).length cnk) (by kernel_rfl)) ?_
        refine h_seg 4 (by kernel_rfl) ?_
        refine h_slot 50 (.bool (decide (((i : Int)) < ((nk.length : Int))))) (.bool false) (by kernel_rfl) (by kernel_rfl) (by rw [h98]) ?_
        refine h_seg 10 (by kernel_rfl) ?_
        refine h_s no_fs ?_
        refine h_n (fun w125 hM126 => ?_)
        refine  (then_n (hK123 _ _ ?_))
        refine wp_ret ?_
        refine retN [.int .i64 ((i : Int)), .bool (false)] (.tuple #[.int .i64 ((i : Int)), .bool (false)]) Try.results25 (.tmp (by kernel_rfl) (by kernel_rfl) (.tmp (by kernel_rfl) (by kernel_rfl) .nil)) (by kernel_rfl) (hRet _ _ ⟨_, _, rfl, hM126.clear, ?_⟩)
        -- end TfLf
        first | (simp only [findI, findB, h83, h86, h98, cond_false, Bool.false_and]; done) | ((first | have e := find_t (vs := nv) (kids := nc) (y := y) (i := i) (by assumption) (by omega) (by assumption) (by first | exact .inl (by assumption) | exact .inr (by assumption)) | have e := find_f (vs := nv) (kids := nc) (y := y) (i := i) (by assumption) (by omega) (by assumption) (by first | exact .inl (by assumption) | exact .inr (tri (by assumption) (by assumption)))); delta findI findB; rw [e]; simp only [h83, h86, h98, cond_true, cond_false, Bool.true_and, Bool.and_true, Bool.false_and, Bool.and_false])

end Go.Vk
