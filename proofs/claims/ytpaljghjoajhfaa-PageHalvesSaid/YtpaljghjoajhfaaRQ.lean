/- Contracts of the page's functions, part Q: printed by wip/tools/p8.py. -/
import Derived.Test.YtpaljghjoajhfaaRB
import Derived.Test.YtpaljghjoajhfaaRD
import Derived.Test.YtpaljghjoajhfaaRE
import Derived.Test.YtpaljghjoajhfaaRG
import Derived.Test.YtpaljghjoajhfaaRP
set_option linter.unusedVariables false
set_option linter.unusedSimpArgs false
namespace Go.Vk
open Go.Proofs
set_option maxHeartbeats 4000000 in
set_option maxRecDepth 100000 in
theorem f37 (V : VT) (w : World) (hV : V.inW w) (j : Nat) (nl : Bool) (Ank : Option Addr) (cnk : Nat) (nk : List Str) (hnk : Rd strK V Ank cnk nk) (Anv : Option Addr) (cnv : Nat) (nv : List Str) (hnv : Rd strK V Anv cnv nv) (Anc : Option Addr) (cnc : Nat) (nc : List Int) (hnc : Rd (intK .i64) V Anc cnc nc) (bn : Nat) (hbn : ∀ i_ v_, (#[.bool (nl), .slice Ank (nk).length cnk, .slice Anv (nv).length cnv, .slice Anc (nc).length cnc] : Array Value)[i_]? = some v_ → V bn i_ = some v_) (hf : Int) (bh : Nat) (hbh : ∀ i_ v_, (#[.int .i64 (hf)] : Array Value)[i_]? = some v_ → V bh i_ = some v_) (h1 : j + 2 ≤ nk.length) (hs : stands nl nk nv nc = true) (hk : nk.length ≤ 4096) (hv : nv.length ≤ 4096) (hc : nc.length ≤ 4097) :
    Calls Try.prog 37 #[.int .i64 ((j : Int)), .pointer (some ⟨bn, 0, none⟩), .pointer (some ⟨bh, 0, none⟩)] w (RetP V w fun rv V' => rv = .bool (spK nl nk nv hf j)) := by
  have mxnk : nk.length ≤ 140737488355328 := hnk.max
  have mxnv : nv.length ≤ 140737488355328 := hnv.max
  have mxnc : nc.length ≤ 140737488355328 := hnc.max
  refine calls_env (n := 12) Try.func37 (c := _) rfl Try.ntmps37 (by kernel_rfl) (fun R hRet => ?_)
  have hM0 : Step V w [] V w [] := Step.refl (St.nilE hV)
  refine wp_seq_k (fun K1 hK1 => ?_)
  refine wp_reg ?_
  refine wpF_seg 1 (by kernel_rfl) ?_
  refine wpF_end _ (by kernel_rfl) (then_n (hK1 _ _ ?_))
  refine wp_seq_k (fun K2 hK2 => ?_)
  refine wp_base [(0, .int .i64 ((j : Int))), (1, .pointer (some ⟨bn, 0, none⟩)), (2, .pointer (some ⟨bh, 0, none⟩)), (4, .bool (false))] (by kernel_rfl) (fun g3 => ?_)
  refine wp_drawN hM0 [] no_held [] [0, 1, 2, 5] [.a 3, .a 4, .p 6, .p 7] [.p 0, .p 1, .p 2, .p 5, .s, .a 3, .a 4, .p 6, .p 7] rfl (by kernel_rfl) (by kernel_rfl) ?_
  refine gH (.load 25 (.tmp 1)) (some 5) (by kernel_rfl) (Y_loadB #[.bool (nl), .slice Ank (nk).length cnk, .slice Anv (nv).length cnv, .slice Anc (nc).length cnc] hbn (off := 0) (by kernel_rfl) (.agg #[.bool (nl), .slice Ank (nk).length cnk, .slice Anv (nv).length cnv, .slice Anc (nc).length cnc]) (by kernel_rfl)) ?_
  refine h_seg 1 (by kernel_rfl) ?_
  refine gH (.binOp .add 3 (.const (.int .i64 1)) (.tmp 6) 3) (some 7) (by kernel_rfl) (Y_add .i64 (1) ((j : Int)) (1 + (j : Int)) (by kernel_rfl) (by kernel_rfl) (wrap64_ok _ (by omega))) ?_
  refine gH (.load 3 (.tmp 2)) (some 10) (by kernel_rfl) (Y_loadB #[.int .i64 (hf)] hbh (off := 0) (by kernel_rfl) (.int .i64 (hf)) (by kernel_rfl)) ?_
  refine h_s no_fs ?_
  refine h_a (by kernel_rfl) (by kernel_rfl) (fun w4 X5 hM6 => ?_)
  refine wpF_callP hM6 (f := 38) (caps := #[]) (h := (by kernel_rfl : opAt _ _ _ _ _ = some (.call (.mk (.value (.func 38)) #[(.tmp 5), (.const (.int .i64 0)), (.tmp 7)] #[25, 3, 3]), some 8))) (by kernel_rfl) (by kernel_rfl) (by kernel_rfl) (f38 _ _ hM6.inW (nl) Ank cnk (nk) hnk Anv cnv (nv) hnv Anc cnc (nc) hnc (0) (1 + j) (by omega) (by omega) (by intro h_; have := (stands_fit hs).1 h_; omega) (by intro h_; have := (stands_fit hs).2 h_; omega) (by omega) (by omega) (by omega)) (fun v7 V8 w9 le10 hM11 hp12 => ?_)
  obtain ⟨Ar12_1, cr12_1, Ar12_2, cr12_2, Ar12_3, cr12_3, rfl, r13, r14, r15⟩ := hp12
  have l16 : (((nk).take (1 + j)).drop (0)).length ≤ 140737488355328 := r13.max
  have l17 : (partV (nl) (nv) (0) (1 + j)).length ≤ 140737488355328 := r14.max
  have l18 : (partC (nl) (nc) (0) (1 + j)).length ≤ 140737488355328 := r15.max
  refine wpF_end _ (by kernel_rfl) (then_n (h_d [] (by kernel_rfl) [] hM11 no_held hM11.le ?_))
  refine h_a (by kernel_rfl) (by kernel_rfl) (fun w19 X20 hM21 => ?_)
  refine wpF_callP hM21 (f := 15) (caps := #[]) (h := (by kernel_rfl : opAt _ _ _ _ _ = some (.call (.mk (.value (.func 15)) #[(.tmp 8)] #[25]), some 9))) (by kernel_rfl) (by kernel_rfl) (by kernel_rfl) (f15 _ _ hM21.inW (nl) Ar12_1 cr12_1 (((nk).take (1 + j)).drop (0)) r13 Ar12_2 cr12_2 (partV (nl) (nv) (0) (1 + j)) r14 Ar12_3 cr12_3 (partC (nl) (nc) (0) (1 + j)) r15 (by first | omega | (simp only [List.length_append, List.length_cons, List.length_nil, List.length_take, List.length_drop]; omega) | (exact Nat.le_trans (partV_le _ _ _ _) (by omega))) (by first | omega | (simp only [List.length_append, List.length_cons, List.length_nil, List.length_take, List.length_drop]; omega) | (exact Nat.le_trans (partV_le _ _ _ _) (by omega)))) (fun v22 V23 w24 le25 hM26 hp27 => ?_)
  obtain rfl := hp27
  refine wpF_end _ (by kernel_rfl) (then_n (h_d [] (by kernel_rfl) [] hM26 no_held le25 ?_))
  refine h_seg 2 (by kernel_rfl) ?_
  refine h_n (fun w28 hM29 => ?_)
  refine  (then_n (hK2 _ _ ?_))
  refine wp_ret ?_
  refine retN [.bool (decide ((hf) ≤ (sizeM (nl) (((nk).take (1 + j)).drop (0)) (partV (nl) (nv) (0) (1 + j)))))] (.bool (decide ((hf) ≤ (sizeM (nl) (((nk).take (1 + j)).drop (0)) (partV (nl) (nv) (0) (1 + j)))))) Try.results37 (.tmp (by kernel_rfl) (by kernel_rfl) .nil) (by kernel_rfl) (hRet _ _ ⟨_, _, rfl, hM29.clear, ?_⟩)
  -- end 
  rfl

set_option maxHeartbeats 4000000 in
set_option maxRecDepth 100000 in
theorem f19 (V : VT) (w : World) (hV : V.inW w) (nl : Bool) (Ank : Option Addr) (cnk : Nat) (nk : List Str) (hnk : Rd strK V Ank cnk nk) (Anv : Option Addr) (cnv : Nat) (nv : List Str) (hnv : Rd strK V Anv cnv nv) (Anc : Option Addr) (cnc : Nat) (nc : List Int) (hnc : Rd (intK .i64) V Anc cnc nc) (hk : nk.length ≤ 4096) (hv : nv.length ≤ 4096) (hc : nc.length ≤ 4097) :
    Calls Try.prog 19 #[.agg #[.bool (nl), .slice Ank (nk).length cnk, .slice Anv (nv).length cnv, .slice Anc (nc).length cnc]] w (RetP V w fun rv V' => ∃ (A1 : Option Addr), ∃ (c1 : Nat), ∃ (A2 : Option Addr), ∃ (c2 : Nat), ∃ (A3 : Option Addr), ∃ (c3 : Nat), ∃ (A4 : Option Addr), ∃ (c4 : Nat), ∃ (A5 : Option Addr), ∃ (c5 : Nat), ∃ (A6 : Option Addr), ∃ (c6 : Nat), rv = .tuple #[.agg #[.bool (spL nl nk nv nc), .slice A1 (spAk nl nk nv nc).length c1, .slice A2 (spAv nl nk nv nc).length c2, .slice A3 (spAc nl nk nv nc).length c3], bs (spKey nl nk nv nc), .agg #[.bool (spL nl nk nv nc), .slice A4 (spBk nl nk nv nc).length c4, .slice A5 (spBv nl nk nv nc).length c5, .slice A6 (spBc nl nk nv nc).length c6], .bool (splitOk nl nk nv nc)] ∧ Rd strK V' A1 c1 (spAk nl nk nv nc) ∧ Rd strK V' A2 c2 (spAv nl nk nv nc) ∧ Rd (intK .i64) V' A3 c3 (spAc nl nk nv nc) ∧ Rd strK V' A4 c4 (spBk nl nk nv nc) ∧ Rd strK V' A5 c5 (spBv nl nk nv nc) ∧ Rd (intK .i64) V' A6 c6 (spBc nl nk nv nc)) := by
  have mxnk : nk.length ≤ 140737488355328 := hnk.max
  have mxnv : nv.length ≤ 140737488355328 := hnv.max
  have mxnc : nc.length ≤ 140737488355328 := hnc.max
  refine calls_env (n := 52) Try.func19 (c := _) rfl Try.ntmps19 (by kernel_rfl) (fun R hRet => ?_)
  have hM0 : Step V w [] V w [] := Step.refl (St.nilE hV)
  cases nl with
  | false =>
    refine wp_seq_k (fun K1 hK1 => ?_)
    refine wp_reg ?_
    refine wpF_box hM0 #[.bool (false), .slice Ank (nk).length cnk, .slice Anv (nv).length cnv, .slice Anc (nc).length cnc] (h := (by kernel_rfl : opAt _ _ _ _ _ = some (.box 25 (.tmp 0), some 1))) (by kernel_rfl) (fun b2 w3 hM4 => ?_)
    obtain ⟨V5, le6, hM7, hc8⟩ := hM4.settle 0 rfl
    have hM9 : Step V w [] V5 _ ([]) := hM7
    refine wpF_alloc hM9 #[.bool (false), .slice none 0 0, .slice none 0 0, .slice none 0 0] (h := (by kernel_rfl : opAt _ _ _ _ _ = some (.alloc 25, some 2))) (by kernel_rfl) (fun b10 w11 hM12 => ?_)
    refine wpF_seg 1 (by kernel_rfl) ?_
    refine wpF_alloc hM12 #[.bool (false), .slice none 0 0, .slice none 0 0, .slice none 0 0] (h := (by kernel_rfl : opAt _ _ _ _ _ = some (.alloc 25, some 4))) (by kernel_rfl) (fun b13 w14 hM15 => ?_)
    refine wpF_seg 1 (by kernel_rfl) ?_
    refine wpF_end _ (by kernel_rfl) (then_n (hK1 _ _ ?_))
    refine wp_seq_k (fun K16 hK16 => ?_)
    refine wp_reg ?_
    refine wpF_seg 1 (by kernel_rfl) ?_
    refine wpF_end _ (by kernel_rfl) (then_n (hK16 _ _ ?_))
    refine wp_seq_k (fun K17 hK17 => ?_)
    refine wp_seq_k (fun K18 hK18 => ?_)
    refine wp_reg ?_
    refine wpF_seg 1 (by kernel_rfl) ?_
    refine gF hM15 (.load 4 (.tmp 10)) (some 11) (by kernel_rfl) (Y_loadB #[.bool (false), .slice Ank (nk).length cnk, .slice Anv (nv).length cnv, .slice Anc (nc).length cnc] hc8 (off := 0) (by kernel_rfl) (.bool (false)) (by kernel_rfl)) ?_
    refine wpF_seg 1 (by kernel_rfl) ?_
    refine wpF_end _ (by kernel_rfl) (then_n (hK18 _ _ ?_))
    refine wp_ct (by kernel_rfl) ?_
    refine wp_reg ?_
    refine wpF_seg 1 (by kernel_rfl) ?_
    refine wpF_end _ (by kernel_rfl) (then_n (hK17 _ _ ?_))
    refine wp_seq_k (fun K19 hK19 => ?_)
    refine wp_reg ?_
    refine wpF_seg 1 (by kernel_rfl) ?_
    refine gF hM15 (.load 22 (.tmp 13)) (some 14) (by kernel_rfl) (Y_loadB #[.bool (false), .slice Ank (nk).length cnk, .slice Anv (nv).length cnv, .slice Anc (nc).length cnc] hc8 (off := 1) (by kernel_rfl) (.slice Ank (nk).length cnk) (by kernel_rfl)) ?_
    refine wpF_seg 1 (by kernel_rfl) ?_
    refine gF hM15 (.binOp .sub 3 (.tmp 15) (.const (.int .i64 1)) 3) (some 16) (by kernel_rfl) (Y_sub .i64 ((nk.length : Int)) (1) ((nk.length : Int) - 1) (by kernel_rfl) (by kernel_rfl) (wrap64_ok _ (by omega))) ?_
    refine wpF_seg 1 (by kernel_rfl) ?_
    refine gF hM15 (.binOp .sub 3 (.tmp 16) (.tmp 17) 3) (some 18) (by kernel_rfl) (Y_sub .i64 ((nk.length : Int) - 1) (1) (((nk.length : Int) - 1) - 1) (by kernel_rfl) (by kernel_rfl) (wrap64_ok _ (by omega))) ?_
    refine wpF_seg 1 (by kernel_rfl) ?_
    refine wpF_end _ (by kernel_rfl) (then_n (hK19 _ _ ?_))
    refine wp_seq_k (fun K20 hK20 => ?_)
    refine wp_seq_k (fun K21 hK21 => ?_)
    refine wp_reg ?_
    refine wpF_seg 3 (by kernel_rfl) ?_
    refine wpF_caseB 21 (decide ((((nk.length : Int) - 1) - 1) < (1))) (by kernel_rfl) (by kernel_rfl) (fun h22 => ?_) (fun h22 => ?_)
    · -- Ft
      have p23 : ((((nk.length : Int) - 1) - 1) < (1)) := of_decide_eq_true h22
      refine wpF_seg 4 (by kernel_rfl) ?_
      refine wpF_end _ (by kernel_rfl) (then_n (hK21 _ _ ?_))
      refine wp_ct (by kernel_rfl) ?_
      refine wp_seq_k (fun K24 hK24 => ?_)
      refine wp_reg ?_
      refine wpF_seg 2 (by kernel_rfl) ?_
      refine wpF_store hM15 1 rfl (h := (by kernel_rfl : opAt _ _ _ _ _ = some (.store 25 (.tmp 2) (.tmp 26), none))) (off := 0) (by kernel_rfl) #[.bool (false), .slice none 0 0, .slice none 0 0, .slice none 0 0] (by kernel_rfl) (by kernel_rfl) (by kernel_rfl) (by kernel_rfl) (fun w26 hM25 => ?_)
      have hM27 : Step V w [] V5 _ ([.blk b13 (.cells #[.bool (false), .slice none 0 0, .slice none 0 0, .slice none 0 0] 25), .blk b10 (.cells #[.bool (false), .slice none 0 0, .slice none 0 0, .slice none 0 0] 25)]) := hM25
      refine wpF_seg 1 (by kernel_rfl) ?_
      refine wpF_store hM27 0 rfl (h := (by kernel_rfl : opAt _ _ _ _ _ = some (.store 25 (.tmp 4) (.tmp 27), none))) (off := 0) (by kernel_rfl) #[.bool (false), .slice none 0 0, .slice none 0 0, .slice none 0 0] (by kernel_rfl) (by kernel_rfl) (by kernel_rfl) (by kernel_rfl) (fun w29 hM28 => ?_)
      have hM30 : Step V w [] V5 _ ([.blk b13 (.cells #[.bool (false), .slice none 0 0, .slice none 0 0, .slice none 0 0] 25), .blk b10 (.cells #[.bool (false), .slice none 0 0, .slice none 0 0, .slice none 0 0] 25)]) := hM28
      refine wpF_seg 1 (by kernel_rfl) ?_
      refine wpF_end _ (by kernel_rfl) (then_n (hK24 _ _ ?_))
      refine wp_ret (then_r (?_))
      refine retN [.agg #[.bool (false), .slice none 0 0, .slice none 0 0, .slice none 0 0], bs ([]), .agg #[.bool (false), .slice none 0 0, .slice none 0 0, .slice none 0 0], .bool (false)] (.tuple #[.agg #[.bool (false), .slice none 0 0, .slice none 0 0, .slice none 0 0], bs ([]), .agg #[.bool (false), .slice none 0 0, .slice none 0 0, .slice none 0 0], .bool (false)]) Try.results19 (.cell (by kernel_rfl) (by kernel_rfl) hM30 1 rfl (by kernel_rfl) (.tmp (by kernel_rfl) (by kernel_rfl) (.cell (by kernel_rfl) (by kernel_rfl) hM30 0 rfl (by kernel_rfl) (.tmp (by kernel_rfl) (by kernel_rfl) .nil)))) (by kernel_rfl) (hRet _ _ ⟨_, _, rfl, hM30.clear, ?_⟩)
      -- end Ft
      have hok : splitOk false nk nv nc = false := by simp only [splitOk, h22, Bool.and_false, Bool.false_and, Bool.not_true, Bool.not_false, cond_true, cond_false]
      obtain ⟨e1, e2, e3, e4, e5, e6, e7, e8⟩ := sp_no hok
      refine ⟨none, 0, none, 0, none, 0, none, 0, none, 0, none, 0, ?_, ?_, ?_, ?_, ?_, ?_, ?_⟩
      · simp only [e1, e2, e3, e4, e5, e6, e7, e8, hok] <;> rfl
      · first | exact (Rd.nil _ _) | (exact Rd.eq (Rd.nil _ _) (by first | exact e2.symm | exact e3.symm | exact e4.symm | exact e6.symm | exact e7.symm | exact e8.symm))
      · first | exact (Rd.nil _ _) | (exact Rd.eq (Rd.nil _ _) (by first | exact e2.symm | exact e3.symm | exact e4.symm | exact e6.symm | exact e7.symm | exact e8.symm))
      · first | exact (Rd.nil _ _) | (exact Rd.eq (Rd.nil _ _) (by first | exact e2.symm | exact e3.symm | exact e4.symm | exact e6.symm | exact e7.symm | exact e8.symm))
      · first | exact (Rd.nil _ _) | (exact Rd.eq (Rd.nil _ _) (by first | exact e2.symm | exact e3.symm | exact e4.symm | exact e6.symm | exact e7.symm | exact e8.symm))
      · first | exact (Rd.nil _ _) | (exact Rd.eq (Rd.nil _ _) (by first | exact e2.symm | exact e3.symm | exact e4.symm | exact e6.symm | exact e7.symm | exact e8.symm))
      · first | exact (Rd.nil _ _) | (exact Rd.eq (Rd.nil _ _) (by first | exact e2.symm | exact e3.symm | exact e4.symm | exact e6.symm | exact e7.symm | exact e8.symm))
    · -- Ff
      have p31 : ¬ ((((nk.length : Int) - 1) - 1) < (1)) := of_decide_eq_false h22
      refine gF hM15 (.load 25 (.tmp 1)) (some 22) (by kernel_rfl) (Y_loadB #[.bool (false), .slice Ank (nk).length cnk, .slice Anv (nv).length cnv, .slice Anc (nc).length cnc] hc8 (off := 0) (by kernel_rfl) (.agg #[.bool (false), .slice Ank (nk).length cnk, .slice Anv (nv).length cnv, .slice Anc (nc).length cnc]) (by kernel_rfl)) ?_
      refine wpF_callP hM15 (f := 34) (caps := #[]) (h := (by kernel_rfl : opAt _ _ _ _ _ = some (.call (.mk (.value (.func 34)) #[(.tmp 22)] #[25]), some 23))) (by kernel_rfl) (by kernel_rfl) (by kernel_rfl) (f34 _ _ hM15.inW (false) Ank cnk (nk) (hnk.up hM15.le) Anv cnv (nv) (hnv.up hM15.le) Anc cnc (nc) (hnc.up hM15.le)) (fun v32 V33 w34 le35 hM36 hp37 => ?_)
      obtain rfl := hp37
      refine wpF_seg 2 (by kernel_rfl) ?_
      refine wpF_end _ (by kernel_rfl) (then_n (hK21 _ _ ?_))
      refine wp_if (!(stands (false) (nk) (nv) (nc))) (by kernel_rfl) (fun h38 => ?_) (fun h38 => ?_)
      · -- Fft
        have h39 : (stands (false) (nk) (nv) (nc)) = false := by simpa using h38
        refine wp_seq_k (fun K40 hK40 => ?_)
        refine wp_reg ?_
        refine wpF_seg 2 (by kernel_rfl) ?_
        refine wpF_store hM36 1 rfl (h := (by kernel_rfl : opAt _ _ _ _ _ = some (.store 25 (.tmp 2) (.tmp 26), none))) (off := 0) (by kernel_rfl) #[.bool (false), .slice none 0 0, .slice none 0 0, .slice none 0 0] (by kernel_rfl) (by kernel_rfl) (by kernel_rfl) (by kernel_rfl) (fun w42 hM41 => ?_)
        have hM43 : Step V w [] V33 _ ([.blk b13 (.cells #[.bool (false), .slice none 0 0, .slice none 0 0, .slice none 0 0] 25), .blk b10 (.cells #[.bool (false), .slice none 0 0, .slice none 0 0, .slice none 0 0] 25)]) := hM41
        refine wpF_seg 1 (by kernel_rfl) ?_
        refine wpF_store hM43 0 rfl (h := (by kernel_rfl : opAt _ _ _ _ _ = some (.store 25 (.tmp 4) (.tmp 27), none))) (off := 0) (by kernel_rfl) #[.bool (false), .slice none 0 0, .slice none 0 0, .slice none 0 0] (by kernel_rfl) (by kernel_rfl) (by kernel_rfl) (by kernel_rfl) (fun w45 hM44 => ?_)
        have hM46 : Step V w [] V33 _ ([.blk b13 (.cells #[.bool (false), .slice none 0 0, .slice none 0 0, .slice none 0 0] 25), .blk b10 (.cells #[.bool (false), .slice none 0 0, .slice none 0 0, .slice none 0 0] 25)]) := hM44
        refine wpF_seg 1 (by kernel_rfl) ?_
        refine wpF_end _ (by kernel_rfl) (then_n (hK40 _ _ ?_))
        refine wp_ret (then_r (?_))
        refine retN [.agg #[.bool (false), .slice none 0 0, .slice none 0 0, .slice none 0 0], bs ([]), .agg #[.bool (false), .slice none 0 0, .slice none 0 0, .slice none 0 0], .bool (false)] (.tuple #[.agg #[.bool (false), .slice none 0 0, .slice none 0 0, .slice none 0 0], bs ([]), .agg #[.bool (false), .slice none 0 0, .slice none 0 0, .slice none 0 0], .bool (false)]) Try.results19 (.cell (by kernel_rfl) (by kernel_rfl) hM46 1 rfl (by kernel_rfl) (.tmp (by kernel_rfl) (by kernel_rfl) (.cell (by kernel_rfl) (by kernel_rfl) hM46 0 rfl (by kernel_rfl) (.tmp (by kernel_rfl) (by kernel_rfl) .nil)))) (by kernel_rfl) (hRet _ _ ⟨_, _, rfl, hM46.clear, ?_⟩)
        -- end Fft
        have hok : splitOk false nk nv nc = false := by simp only [splitOk, h22, h38, h39, Bool.and_false, Bool.false_and, Bool.not_true, Bool.not_false, cond_true, cond_false]
        obtain ⟨e1, e2, e3, e4, e5, e6, e7, e8⟩ := sp_no hok
        refine ⟨none, 0, none, 0, none, 0, none, 0, none, 0, none, 0, ?_, ?_, ?_, ?_, ?_, ?_, ?_⟩
        · simp only [e1, e2, e3, e4, e5, e6, e7, e8, hok] <;> rfl
        · first | exact (Rd.nil _ _) | (exact Rd.eq (Rd.nil _ _) (by first | exact e2.symm | exact e3.symm | exact e4.symm | exact e6.symm | exact e7.symm | exact e8.symm))
        · first | exact (Rd.nil _ _) | (exact Rd.eq (Rd.nil _ _) (by first | exact e2.symm | exact e3.symm | exact e4.symm | exact e6.symm | exact e7.symm | exact e8.symm))
        · first | exact (Rd.nil _ _) | (exact Rd.eq (Rd.nil _ _) (by first | exact e2.symm | exact e3.symm | exact e4.symm | exact e6.symm | exact e7.symm | exact e8.symm))
        · first | exact (Rd.nil _ _) | (exact Rd.eq (Rd.nil _ _) (by first | exact e2.symm | exact e3.symm | exact e4.symm | exact e6.symm | exact e7.symm | exact e8.symm))
        · first | exact (Rd.nil _ _) | (exact Rd.eq (Rd.nil _ _) (by first | exact e2.symm | exact e3.symm | exact e4.symm | exact e6.symm | exact e7.symm | exact e8.symm))
        · first | exact (Rd.nil _ _) | (exact Rd.eq (Rd.nil _ _) (by first | exact e2.symm | exact e3.symm | exact e4.symm | exact e6.symm | exact e7.symm | exact e8.symm))
      · -- Fff
        have h47 : (stands (false) (nk) (nv) (nc)) = true := by simpa using h38
        have hs : stands false nk nv nc = true := by assumption
        have hsz := sizeM_stands hs
        have hmN : mostN false nk = nk.length - 1 - (bif false then 0 else 1) := rfl
        simp only [cond_true, cond_false] at hmN
        refine wp_skip (then_n (hK20 _ _ ?_))
        refine wp_seq_k (fun K48 hK48 => ?_)
        refine wp_reg ?_
        refine gF hM36 (.load 25 (.tmp 1)) (some 28) (by kernel_rfl) (Y_loadB #[.bool (false), .slice Ank (nk).length cnk, .slice Anv (nv).length cnv, .slice Anc (nc).length cnc] (fun i v hi => le35 _ _ _ (hc8 i v hi)) (off := 0) (by kernel_rfl) (.agg #[.bool (false), .slice Ank (nk).length cnk, .slice Anv (nv).length cnv, .slice Anc (nc).length cnc]) (by kernel_rfl)) ?_
        refine wpF_callP hM36 (f := 15) (caps := #[]) (h := (by kernel_rfl : opAt _ _ _ _ _ = some (.call (.mk (.value (.func 15)) #[(.tmp 28)] #[25]), some 29))) (by kernel_rfl) (by kernel_rfl) (by kernel_rfl) (f15 _ _ hM36.inW (false) Ank cnk (nk) (hnk.up hM36.le) Anv cnv (nv) (hnv.up hM36.le) Anc cnc (nc) (hnc.up hM36.le) (by first | omega | (simp only [List.length_append, List.length_cons, List.length_nil, List.length_take, List.length_drop]; omega) | (exact Nat.le_trans (partV_le _ _ _ _) (by omega))) (by first | omega | (simp only [List.length_append, List.length_cons, List.length_nil, List.length_take, List.length_drop]; omega) | (exact Nat.le_trans (partV_le _ _ _ _) (by omega)))) (fun v49 V50 w51 le52 hM53 hp54 => ?_)
        obtain rfl := hp54
        refine gF hM53 (.binOp .quo 3 (.tmp 29) (.const (.int .i64 2)) 3) (some 30) (by kernel_rfl) (Y_quo .i64 (sizeM (false) (nk) (nv)) (2) ((sizeM (false) (nk) (nv)) / (2)) (by kernel_rfl) (by kernel_rfl) (by omega) (by rw [Int.tdiv_eq_ediv_of_nonneg (by omega)]; exact (wrap64_ok _ (by omega)))) ?_
        refine wpF_alloc hM53 #[.int .i64 (0)] (h := (by kernel_rfl : opAt _ _ _ _ _ = some (.alloc 3, some 8))) (by kernel_rfl) (fun b55 w56 hM57 => ?_)
        refine wpF_store hM57 0 rfl (h := (by kernel_rfl : opAt _ _ _ _ _ = some (.store 3 (.tmp 8) (.tmp 30), none))) (off := 0) (by kernel_rfl) #[.int .i64 ((sizeM (false) (nk) (nv)) / (2))] (by kernel_rfl) (by kernel_rfl) (by kernel_rfl) (by kernel_rfl) (fun w59 hM58 => ?_)
        have hM60 : Step V w [] V50 _ ([.blk b55 (.cells #[.int .i64 ((sizeM (false) (nk) (nv)) / (2))] 3), .blk b13 (.cells #[.bool (false), .slice none 0 0, .slice none 0 0, .slice none 0 0] 25), .blk b10 (.cells #[.bool (false), .slice none 0 0, .slice none 0 0, .slice none 0 0] 25)]) := hM58
        refine wpF_end _ (by kernel_rfl) (then_n (hK48 _ _ ?_))
        refine wp_seq_k (fun K61 hK61 => ?_)
        refine wp_reg ?_
        refine wpF_seg 1 (by kernel_rfl) ?_
        refine gF hM60 (.binOp .sub 3 (.tmp 31) (.const (.int .i64 1)) 3) (some 32) (by kernel_rfl) (Y_sub .i64 (((nk.length : Int) - 1) - 1) (1) (((mostN false nk - 1 : Nat) : Int)) (by kernel_rfl) (by kernel_rfl) (by simp only [mostN, cond_true, cond_false]; rw [wrap64_ok _ (by omega)]; omega)) ?_
        obtain ⟨V62, le63, hM64, hc65⟩ := hM60.settle 0 rfl
        have hM66 : Step V w [] V62 _ ([.blk b13 (.cells #[.bool (false), .slice none 0 0, .slice none 0 0, .slice none 0 0] 25), .blk b10 (.cells #[.bool (false), .slice none 0 0, .slice none 0 0, .slice none 0 0] 25)]) := hM64
        refine wpF_seg 1 (by kernel_rfl) ?_
        refine wpF_callP hM66 (f := 36) (caps := #[]) (h := (by kernel_rfl : opAt _ _ _ _ _ = some (.call (.mk (.value (.func 36)) #[(.tmp 32), (.tmp 33)] #[3, 58]), some 34))) (by kernel_rfl) (by kernel_rfl) (by kernel_rfl) (f36 _ _ hM66.inW ((mostN false nk - 1)) 37 #[.pointer (some ⟨b2, 0, none⟩), .pointer (some ⟨b55, 0, none⟩)] (by kernel_rfl) (fun (y_ : Nat) => spK (false) (nk) (nv) ((sizeM (false) (nk) (nv)) / (2)) y_) (fun V_ w_ l_ i_ j_ hj_ => f37 V_ w_ i_ j_ (false) Ank cnk (nk) ((hnk.up hM66.le).up l_) Anv cnv (nv) ((hnv.up hM66.le).up l_) Anc cnc (nc) ((hnc.up hM66.le).up l_) b2 (fun i_ v_ hi_ => l_ _ _ _ (((le35.trans le52).trans le63) _ _ _ (hc8 i_ v_ hi_))) ((sizeM (false) (nk) (nv)) / (2)) b55 (fun i_ v_ hi_ => l_ _ _ _ (hc65 i_ v_ hi_)) (by simp only [mostN, cond_true, cond_false] at *; omega) (by assumption) (by omega) (by omega) (by omega)) (by omega)) (fun v67 V68 w69 le70 hM71 hp72 => ?_)
        obtain ⟨nr72_1, rfl, r73, x74⟩ := hp72
        have q75 : nr72_1 = srch (fun (y_ : Nat) => spK (false) (nk) (nv) ((sizeM (false) (nk) (nv)) / (2)) y_) 0 ((mostN false nk - 1)) := r73
        have x74 : nr72_1 ≤ ((mostN false nk - 1)) := x74
        refine gF hM71 (.binOp .add 3 (.const (.int .i64 1)) (.tmp 34) 3) (some 35) (by kernel_rfl) (Y_add .i64 (1) ((nr72_1 : Int)) (1 + (nr72_1 : Int)) (by kernel_rfl) (by kernel_rfl) (wrap64_ok _ (by omega))) ?_
        refine wpF_seg 1 (by kernel_rfl) ?_
        refine wpF_end _ (by kernel_rfl) (then_n (hK61 _ _ ?_))
        refine wp_seq_k (fun K76 hK76 => ?_)
        refine wp_base [(1, .pointer (some ⟨b2, 0, none⟩)), (2, .pointer (some ⟨b10, 0, none⟩)), (3, bs ([])), (4, .pointer (some ⟨b13, 0, none⟩)), (5, .bool (false)), (6, .int .i64 (1)), (9, .int .i64 (1 + (nr72_1 : Int)))] (by kernel_rfl) (fun g77 => ?_)
        refine wp_drawN hM71 [] no_held [] [0, 1, 3, 4, 5, 6, 7, 8, 9, 10, 11, 12, 13, 14] [.a 2, .a 15, .a 16, .p 17, .a 18, .p 19] [.p 0, .p 1, .p 3, .p 4, .p 5, .p 6, .p 7, .p 8, .p 9, .p 10, .p 11, .p 12, .p 13, .p 14, .s, .a 2, .a 15, .a 16, .p 17, .a 18, .p 19] rfl (by kernel_rfl) (by kernel_rfl) ?_
        refine gH (.load 25 (.tmp 1)) (some 36) (by kernel_rfl) (Y_loadB #[.bool (false), .slice Ank (nk).length cnk, .slice Anv (nv).length cnv, .slice Anc (nc).length cnc] (fun i v hi => (((le35.trans le52).trans le63).trans le70) _ _ _ (hc8 i v hi)) (off := 0) (by kernel_rfl) (.agg #[.bool (false), .slice Ank (nk).length cnk, .slice Anv (nv).length cnv, .slice Anc (nc).length cnc]) (by kernel_rfl)) ?_
        refine h_seg 2 (by kernel_rfl) ?_
        refine gH (.load 22 (.tmp 39)) (some 40) (by kernel_rfl) (Y_loadB #[.bool (false), .slice Ank (nk).length cnk, .slice Anv (nv).length cnv, .slice Anc (nc).length cnc] (fun i v hi => (((le35.trans le52).trans le63).trans le70) _ _ _ (hc8 i v hi)) (off := 1) (by kernel_rfl) (.slice Ank (nk).length cnk) (by kernel_rfl)) ?_
        refine h_seg 1 (by kernel_rfl) ?_
        refine gH_index (A := Ank) (c := cnk) (hnk.up hM71.le) .i64 (1 + (nr72_1 : Int)) (h := (by kernel_rfl : opAt _ _ _ _ _ = some (.indexAddr 22 (.tmp 40) (.tmp 41), some 42))) (e := 9) (by kernel_rfl) (by kernel_rfl) (by kernel_rfl) (1 + nr72_1) (by omega) (by omega) (fun b78 o79 at_b78 => ?_)
        have c80 : V68 b78 o79 = some (bs (nk.getD (1 + nr72_1) [])) := (At.str at_b78).1
        have l81 : (nk.getD (1 + nr72_1) []).length ≤ 140737488355328 := (At.str at_b78).2
        refine gH (.load 9 (.tmp 42)) (some 43) (by kernel_rfl) (Y_loadV c80 (by kernel_rfl) (by kernel_rfl)) ?_
        refine gH (.load 25 (.tmp 1)) (some 44) (by kernel_rfl) (Y_loadB #[.bool (false), .slice Ank (nk).length cnk, .slice Anv (nv).length cnv, .slice Anc (nc).length cnc] (fun i v hi => (((le35.trans le52).trans le63).trans le70) _ _ _ (hc8 i v hi)) (off := 0) (by kernel_rfl) (.agg #[.bool (false), .slice Ank (nk).length cnk, .slice Anv (nv).length cnv, .slice Anc (nc).length cnc]) (by kernel_rfl)) ?_
        refine h_seg 2 (by kernel_rfl) ?_
        refine gH (.binOp .add 3 (.tmp 45) (.tmp 46) 3) (some 47) (by kernel_rfl) (Y_add .i64 (1 + (nr72_1 : Int)) (1) ((1 + (nr72_1 : Int)) + 1) (by kernel_rfl) (by kernel_rfl) (wrap64_ok _ (by omega))) ?_
        refine h_seg 1 (by kernel_rfl) ?_
        refine gH (.load 22 (.tmp 48)) (some 49) (by kernel_rfl) (Y_loadB #[.bool (false), .slice Ank (nk).length cnk, .slice Anv (nv).length cnv, .slice Anc (nc).length cnc] (fun i v hi => (((le35.trans le52).trans le63).trans le70) _ _ _ (hc8 i v hi)) (off := 1) (by kernel_rfl) (.slice Ank (nk).length cnk) (by kernel_rfl)) ?_
        refine h_seg 1 (by kernel_rfl) ?_
        refine h_s no_fs ?_
        refine h_a (by kernel_rfl) (by kernel_rfl) (fun w82 X83 hM84 => ?_)
        refine wpF_callP hM84 (f := 38) (caps := #[]) (h := (by kernel_rfl : opAt _ _ _ _ _ = some (.call (.mk (.value (.func 38)) #[(.tmp 36), (.const (.int .i64 0)), (.tmp 37)] #[25, 3, 3]), some 38))) (by kernel_rfl) (by kernel_rfl) (by kernel_rfl) (f38 _ _ hM84.inW (false) Ank cnk (nk) (hnk.up hM84.le) Anv cnv (nv) (hnv.up hM84.le) Anc cnc (nc) (hnc.up hM84.le) (0) (1 + nr72_1) (by omega) (by omega) (by intro h_; have := (stands_fit hs).1 h_; omega) (by intro h_; have := (stands_fit hs).2 h_; omega) (by omega) (by omega) (by omega)) (fun v85 V86 w87 le88 hM89 hp90 => ?_)
        obtain ⟨Ar90_1, cr90_1, Ar90_2, cr90_2, Ar90_3, cr90_3, rfl, r91, r92, r93⟩ := hp90
        have l94 : (((nk).take (1 + nr72_1)).drop (0)).length ≤ 140737488355328 := r91.max
        have l95 : (partV (false) (nv) (0) (1 + nr72_1)).length ≤ 140737488355328 := r92.max
        have l96 : (partC (false) (nc) (0) (1 + nr72_1)).length ≤ 140737488355328 := r93.max
        refine wpF_end _ (by kernel_rfl) (then_n (h_d [] (by kernel_rfl) [.blk b13 (.cells #[.bool (false), .slice none 0 0, .slice none 0 0, .slice none 0 0] 25), .blk b10 (.cells #[.bool (false), .slice none 0 0, .slice none 0 0, .slice none 0 0] 25)] hM89 no_held le88 ?_))
        refine h_a (by kernel_rfl) (by kernel_rfl) (fun w97 X98 hM99 => ?_)
        refine wpF_callP hM99 (f := 38) (caps := #[]) (h := (by kernel_rfl : opAt _ _ _ _ _ = some (.call (.mk (.value (.func 38)) #[(.tmp 44), (.tmp 47), (.tmp 50)] #[25, 3, 3]), some 51))) (by kernel_rfl) (by kernel_rfl) (by kernel_rfl) (f38 _ _ hM99.inW (false) Ank cnk (nk) (hnk.up hM99.le) Anv cnv (nv) (hnv.up hM99.le) Anc cnc (nc) (hnc.up hM99.le) ((1 + nr72_1) + 1) (nk.length) (by omega) (by omega) (by intro h_; have := (stands_fit hs).1 h_; omega) (by intro h_; have := (stands_fit hs).2 h_; omega) (by omega) (by omega) (by omega)) (fun v100 V101 w102 le103 hM104 hp105 => ?_)
        obtain ⟨Ar105_1, cr105_1, Ar105_2, cr105_2, Ar105_3, cr105_3, rfl, r106, r107, r108⟩ := hp105
        have l109 : (((nk).take (nk.length)).drop ((1 + nr72_1) + 1)).length ≤ 140737488355328 := r106.max
        have l110 : (partV (false) (nv) ((1 + nr72_1) + 1) (nk.length)).length ≤ 140737488355328 := r107.max
        have l111 : (partC (false) (nc) ((1 + nr72_1) + 1) (nk.length)).length ≤ 140737488355328 := r108.max
        refine wpF_end _ (by kernel_rfl) (then_n (h_d [] (by kernel_rfl) [.blk b13 (.cells #[.bool (false), .slice none 0 0, .slice none 0 0, .slice none 0 0] 25), .blk b10 (.cells #[.bool (false), .slice none 0 0, .slice none 0 0, .slice none 0 0] 25)] hM104 no_held le103 ?_))
        refine h_a (by kernel_rfl) (by kernel_rfl) (fun w112 X113 hM114 => ?_)
        refine wpF_store hM114 1 rfl (h := (by kernel_rfl : opAt _ _ _ _ _ = some (.store 25 (.tmp 2) (.tmp 38), none))) (off := 0) (by kernel_rfl) #[.bool (false), .slice Ar90_1 (((nk).take (1 + nr72_1)).drop (0)).length cr90_1, .slice Ar90_2 (partV (false) (nv) (0) (1 + nr72_1)).length cr90_2, .slice Ar90_3 (partC (false) (nc) (0) (1 + nr72_1)).length cr90_3] (by kernel_rfl) (by kernel_rfl) (by kernel_rfl) (by kernel_rfl) (fun w116 hM115 => ?_)
        have hM117 : Step V w [] V101 _ ([.blk b13 (.cells #[.bool (false), .slice none 0 0, .slice none 0 0, .slice none 0 0] 25), .blk b10 (.cells #[.bool (false), .slice Ar90_1 (((nk).take (1 + nr72_1)).drop (0)).length cr90_1, .slice Ar90_2 (partV (false) (nv) (0) (1 + nr72_1)).length cr90_2, .slice Ar90_3 (partC (false) (nc) (0) (1 + nr72_1)).length cr90_3] 25)] ++ X113) := hM115
        refine wpF_end _ (by kernel_rfl) (then_n (h_d [] (by kernel_rfl) [.blk b13 (.cells #[.bool (false), .slice none 0 0, .slice none 0 0, .slice none 0 0] 25), .blk b10 (.cells #[.bool (false), .slice Ar90_1 (((nk).take (1 + nr72_1)).drop (0)).length cr90_1, .slice Ar90_2 (partV (false) (nv) (0) (1 + nr72_1)).length cr90_2, .slice Ar90_3 (partC (false) (nc) (0) (1 + nr72_1)).length cr90_3] 25)] hM117 no_held (VT.le.refl _) ?_))
        refine h_seg 1 (by kernel_rfl) ?_
        refine h_a (by kernel_rfl) (by kernel_rfl) (fun w118 X119 hM120 => ?_)
        refine wpF_store hM120 0 rfl (h := (by kernel_rfl : opAt _ _ _ _ _ = some (.store 25 (.tmp 4) (.tmp 51), none))) (off := 0) (by kernel_rfl) #[.bool (false), .slice Ar105_1 (((nk).take (nk.length)).drop ((1 + nr72_1) + 1)).length cr105_1, .slice Ar105_2 (partV (false) (nv) ((1 + nr72_1) + 1) (nk.length)).length cr105_2, .slice Ar105_3 (partC (false) (nc) ((1 + nr72_1) + 1) (nk.length)).length cr105_3] (by kernel_rfl) (by kernel_rfl) (by kernel_rfl) (by kernel_rfl) (fun w122 hM121 => ?_)
        have hM123 : Step V w [] V101 _ ([.blk b13 (.cells #[.bool (false), .slice Ar105_1 (((nk).take (nk.length)).drop ((1 + nr72_1) + 1)).length cr105_1, .slice Ar105_2 (partV (false) (nv) ((1 + nr72_1) + 1) (nk.length)).length cr105_2, .slice Ar105_3 (partC (false) (nc) ((1 + nr72_1) + 1) (nk.length)).length cr105_3] 25), .blk b10 (.cells #[.bool (false), .slice Ar90_1 (((nk).take (1 + nr72_1)).drop (0)).length cr90_1, .slice Ar90_2 (partV (false) (nv) (0) (1 + nr72_1)).length cr90_2, .slice Ar90_3 (partC (false) (nc) (0) (1 + nr72_1)).length cr90_3] 25)] ++ X119) := hM121
        refine wpF_end _ (by kernel_rfl) (then_n (h_d [] (by kernel_rfl) [.blk b13 (.cells #[.bool (false), .slice Ar105_1 (((nk).take (nk.length)).drop ((1 + nr72_1) + 1)).length cr105_1, .slice Ar105_2 (partV (false) (nv) ((1 + nr72_1) + 1) (nk.length)).length cr105_2, .slice Ar105_3 (partC (false) (nc) ((1 + nr72_1) + 1) (nk.length)).length cr105_3] 25), .blk b10 (.cells #[.bool (false), .slice Ar90_1 (((nk).take (1 + nr72_1)).drop (0)).length cr90_1, .slice Ar90_2 (partV (false) (nv) (0) (1 + nr72_1)).length cr90_2, .slice Ar90_3 (partC (false) (nc) (0) (1 + nr72_1)).length cr90_3] 25)] hM123 no_held (VT.le.refl _) ?_))
        refine h_seg 1 (by kernel_rfl) ?_
        refine h_n (fun w124 hM125 => ?_)
        refine  (then_n (hK76 _ _ ?_))
        refine wp_ret ?_
        refine retN [.agg #[.bool (false), .slice Ar90_1 (((nk).take (1 + nr72_1)).drop (0)).length cr90_1, .slice Ar90_2 (partV (false) (nv) (0) (1 + nr72_1)).length cr90_2, .slice Ar90_3 (partC (false) (nc) (0) (1 + nr72_1)).length cr90_3], bs ((nk.getD (1 + nr72_1) [])), .agg #[.bool (false), .slice Ar105_1 (((nk).take (nk.length)).drop ((1 + nr72_1) + 1)).length cr105_1, .slice Ar105_2 (partV (false) (nv) ((1 + nr72_1) + 1) (nk.length)).length cr105_2, .slice Ar105_3 (partC (false) (nc) ((1 + nr72_1) + 1) (nk.length)).length cr105_3], .bool (true)] (.tuple #[.agg #[.bool (false), .slice Ar90_1 (((nk).take (1 + nr72_1)).drop (0)).length cr90_1, .slice Ar90_2 (partV (false) (nv) (0) (1 + nr72_1)).length cr90_2, .slice Ar90_3 (partC (false) (nc) (0) (1 + nr72_1)).length cr90_3], bs ((nk.getD (1 + nr72_1) [])), .agg #[.bool (false), .slice Ar105_1 (((nk).take (nk.length)).drop ((1 + nr72_1) + 1)).length cr105_1, .slice Ar105_2 (partV (false) (nv) ((1 + nr72_1) + 1) (nk.length)).length cr105_2, .slice Ar105_3 (partC (false) (nc) ((1 + nr72_1) + 1) (nk.length)).length cr105_3], .bool (true)]) Try.results19 (.cell (by kernel_rfl) (by kernel_rfl) hM125 1 rfl (by kernel_rfl) (.tmp (by kernel_rfl) (by kernel_rfl) (.cell (by kernel_rfl) (by kernel_rfl) hM125 0 rfl (by kernel_rfl) (.tmp (by kernel_rfl) (by kernel_rfl) .nil)))) (by kernel_rfl) (hRet _ _ ⟨_, _, rfl, hM125.clear, ?_⟩)
        -- end Fff
        subst_vars
        have hok : splitOk false nk nv nc = true := (by simp only [splitOk, h22, h38, h47, cond_true, cond_false, Bool.not_false, Bool.and_self])
        obtain ⟨e1, e2, e3, e4, e5, e6, e7, e8⟩ := sp_yes hok (k := 1 + srch (fun (y_ : Nat) => spK false nk nv (sizeM false nk nv / 2) y_) 0 (mostN false nk - 1)) rfl
        refine ⟨Ar90_1, cr90_1, Ar90_2, cr90_2, Ar90_3, cr90_3, Ar105_1, cr105_1, Ar105_2, cr105_2, Ar105_3, cr105_3, ?_, ?_, ?_, ?_, ?_, ?_, ?_⟩
        · simp only [e1, e2, e3, e4, e5, e6, e7, e8, hok] <;> rfl
        · first | exact (r91.up le103) | (exact Rd.eq (r91.up le103) (by first | exact e2.symm | exact e3.symm | exact e4.symm | exact e6.symm | exact e7.symm | exact e8.symm))
        · first | exact (r92.up le103) | (exact Rd.eq (r92.up le103) (by first | exact e2.symm | exact e3.symm | exact e4.symm | exact e6.symm | exact e7.symm | exact e8.symm))
        · first | exact (r93.up le103) | (exact Rd.eq (r93.up le103) (by first | exact e2.symm | exact e3.symm | exact e4.symm | exact e6.symm | exact e7.symm | exact e8.symm))
        · first | exact r106 | (exact Rd.eq r106 (by first | exact e2.symm | exact e3.symm | exact e4.symm | exact e6.symm | exact e7.symm | exact e8.symm))
        · first | exact r107 | (exact Rd.eq r107 (by first | exact e2.symm | exact e3.symm | exact e4.symm | exact e6.symm | exact e7.symm | exact e8.symm))
        · first | exact r108 | (exact Rd.eq r108 (by first | exact e2.symm | exact e3.symm | exact e4.symm | exact e6.symm | exact e7.symm | exact e8.symm))
  | true =>
    refine wp_seq_k (fun K126 hK126 => ?_)
    refine wp_reg ?_
    refine wpF_box hM0 #[.bool (true), .slice Ank (nk).length cnk, .slice Anv (nv).length cnv, .slice Anc (nc).length cnc] (h := (by kernel_rfl : opAt _ _ _ _ _ = some (.box 25 (.tmp 0), some 1))) (by kernel_rfl) (fun b127 w128 hM129 => ?_)
    obtain ⟨V130, le131, hM132, hc133⟩ := hM129.settle 0 rfl
    have hM134 : Step V w [] V130 _ ([]) := hM132
    refine wpF_alloc hM134 #[.bool (false), .slice none 0 0, .slice none 0 0, .slice none 0 0] (h := (by kernel_rfl : opAt _ _ _ _ _ = some (.alloc 25, some 2))) (by kernel_rfl) (fun b135 w136 hM137 => ?_)
    refine wpF_seg 1 (by kernel_rfl) ?_
    refine wpF_alloc hM137 #[.bool (false), .slice none 0 0, .slice none 0 0, .slice none 0 0] (h := (by kernel_rfl : opAt _ _ _ _ _ = some (.alloc 25, some 4))) (by kernel_rfl) (fun b138 w139 hM140 => ?_)
    refine wpF_seg 1 (by kernel_rfl) ?_
    refine wpF_end _ (by kernel_rfl) (then_n (hK126 _ _ ?_))
    refine wp_seq_k (fun K141 hK141 => ?_)
    refine wp_reg ?_
    refine wpF_seg 1 (by kernel_rfl) ?_
    refine wpF_end _ (by kernel_rfl) (then_n (hK141 _ _ ?_))
    refine wp_seq_k (fun K142 hK142 => ?_)
    refine wp_seq_k (fun K143 hK143 => ?_)
    refine wp_reg ?_
    refine wpF_seg 1 (by kernel_rfl) ?_
    refine gF hM140 (.load 4 (.tmp 10)) (some 11) (by kernel_rfl) (Y_loadB #[.bool (true), .slice Ank (nk).length cnk, .slice Anv (nv).length cnv, .slice Anc (nc).length cnc] hc133 (off := 0) (by kernel_rfl) (.bool (true)) (by kernel_rfl)) ?_
    refine wpF_seg 1 (by kernel_rfl) ?_
    refine wpF_end _ (by kernel_rfl) (then_n (hK143 _ _ ?_))
    refine wp_cf (by kernel_rfl) ?_
    refine wp_skip (then_n (hK142 _ _ ?_))
    refine wp_seq_k (fun K144 hK144 => ?_)
    refine wp_reg ?_
    refine wpF_seg 1 (by kernel_rfl) ?_
    refine gF hM140 (.load 22 (.tmp 13)) (some 14) (by kernel_rfl) (Y_loadB #[.bool (true), .slice Ank (nk).length cnk, .slice Anv (nv).length cnv, .slice Anc (nc).length cnc] hc133 (off := 1) (by kernel_rfl) (.slice Ank (nk).length cnk) (by kernel_rfl)) ?_
    refine wpF_seg 1 (by kernel_rfl) ?_
    refine gF hM140 (.binOp .sub 3 (.tmp 15) (.const (.int .i64 1)) 3) (some 16) (by kernel_rfl) (Y_sub .i64 ((nk.length : Int)) (1) ((nk.length : Int) - 1) (by kernel_rfl) (by kernel_rfl) (wrap64_ok _ (by omega))) ?_
    refine wpF_seg 1 (by kernel_rfl) ?_
    refine gF hM140 (.binOp .sub 3 (.tmp 16) (.tmp 17) 3) (some 18) (by kernel_rfl) (Y_sub .i64 ((nk.length : Int) - 1) (0) (((nk.length : Int) - 1) - 0) (by kernel_rfl) (by kernel_rfl) (wrap64_ok _ (by omega))) ?_
    refine wpF_seg 1 (by kernel_rfl) ?_
    refine wpF_end _ (by kernel_rfl) (then_n (hK144 _ _ ?_))
    refine wp_seq_k (fun K145 hK145 => ?_)
    refine wp_seq_k (fun K146 hK146 => ?_)
    refine wp_reg ?_
    refine wpF_seg 3 (by kernel_rfl) ?_
    refine wpF_caseB 21 (decide ((((nk.length : Int) - 1) - 0) < (1))) (by kernel_rfl) (by kernel_rfl) (fun h147 => ?_) (fun h147 => ?_)
    · -- Tt
      have p148 : ((((nk.length : Int) - 1) - 0) < (1)) := of_decide_eq_true h147
      refine wpF_seg 4 (by kernel_rfl) ?_
      refine wpF_end _ (by kernel_rfl) (then_n (hK146 _ _ ?_))
      refine wp_ct (by kernel_rfl) ?_
      refine wp_seq_k (fun K149 hK149 => ?_)
      refine wp_reg ?_
      refine wpF_seg 2 (by kernel_rfl) ?_
      refine wpF_store hM140 1 rfl (h := (by kernel_rfl : opAt _ _ _ _ _ = some (.store 25 (.tmp 2) (.tmp 26), none))) (off := 0) (by kernel_rfl) #[.bool (false), .slice none 0 0, .slice none 0 0, .slice none 0 0] (by kernel_rfl) (by kernel_rfl) (by kernel_rfl) (by kernel_rfl) (fun w151 hM150 => ?_)
      have hM152 : Step V w [] V130 _ ([.blk b138 (.cells #[.bool (false), .slice none 0 0, .slice none 0 0, .slice none 0 0] 25), .blk b135 (.cells #[.bool (false), .slice none 0 0, .slice none 0 0, .slice none 0 0] 25)]) := hM150
      refine wpF_seg 1 (by kernel_rfl) ?_
      refine wpF_store hM152 0 rfl (h := (by kernel_rfl : opAt _ _ _ _ _ = some (.store 25 (.tmp 4) (.tmp 27), none))) (off := 0) (by kernel_rfl) #[.bool (false), .slice none 0 0, .slice none 0 0, .slice none 0 0] (by kernel_rfl) (by kernel_rfl) (by kernel_rfl) (by kernel_rfl) (fun w154 hM153 => ?_)
      have hM155 : Step V w [] V130 _ ([.blk b138 (.cells #[.bool (false), .slice none 0 0, .slice none 0 0, .slice none 0 0] 25), .blk b135 (.cells #[.bool (false), .slice none 0 0, .slice none 0 0, .slice none 0 0] 25)]) := hM153
      refine wpF_seg 1 (by kernel_rfl) ?_
      refine wpF_end _ (by kernel_rfl) (then_n (hK149 _ _ ?_))
      refine wp_ret (then_r (?_))
      refine retN [.agg #[.bool (false), .slice none 0 0, .slice none 0 0, .slice none 0 0], bs ([]), .agg #[.bool (false), .slice none 0 0, .slice none 0 0, .slice none 0 0], .bool (false)] (.tuple #[.agg #[.bool (false), .slice none 0 0, .slice none 0 0, .slice none 0 0], bs ([]), .agg #[.bool (false), .slice none 0 0, .slice none 0 0, .slice none 0 0], .bool (false)]) Try.results19 (.cell (by kernel_rfl) (by kernel_rfl) hM155 1 rfl (by kernel_rfl) (.tmp (by kernel_rfl) (by kernel_rfl) (.cell (by kernel_rfl) (by kernel_rfl) hM155 0 rfl (by kernel_rfl) (.tmp (by kernel_rfl) (by kernel_rfl) .nil)))) (by kernel_rfl) (hRet _ _ ⟨_, _, rfl, hM155.clear, ?_⟩)
      -- end Tt
      have hok : splitOk true nk nv nc = false := by simp only [splitOk, h147, Bool.and_false, Bool.false_and, Bool.not_true, Bool.not_false, cond_true, cond_false]
      obtain ⟨e1, e2, e3, e4, e5, e6, e7, e8⟩ := sp_no hok
      refine ⟨none, 0, none, 0, none, 0, none, 0, none, 0, none, 0, ?_, ?_, ?_, ?_, ?_, ?_, ?_⟩
      · simp only [e1, e2, e3, e4, e5, e6, e7, e8, hok] <;> rfl
      · first | exact (Rd.nil _ _) | (exact Rd.eq (Rd.nil _ _) (by first | exact e2.symm | exact e3.symm | exact e4.symm | exact e6.symm | exact e7.symm | exact e8.symm))
      · first | exact (Rd.nil _ _) | (exact Rd.eq (Rd.nil _ _) (by first | exact e2.symm | exact e3.symm | exact e4.symm | exact e6.symm | exact e7.symm | exact e8.symm))
      · first | exact (Rd.nil _ _) | (exact Rd.eq (Rd.nil _ _) (by first | exact e2.symm | exact e3.symm | exact e4.symm | exact e6.symm | exact e7.symm | exact e8.symm))
      · first | exact (Rd.nil _ _) | (exact Rd.eq (Rd.nil _ _) (by first | exact e2.symm | exact e3.symm | exact e4.symm | exact e6.symm | exact e7.symm | exact e8.symm))
      · first | exact (Rd.nil _ _) | (exact Rd.eq (Rd.nil _ _) (by first | exact e2.symm | exact e3.symm | exact e4.symm | exact e6.symm | exact e7.symm | exact e8.symm))
      · first | exact (Rd.nil _ _) | (exact Rd.eq (Rd.nil _ _) (by first | exact e2.symm | exact e3.symm | exact e4.symm | exact e6.symm | exact e7.symm | exact e8.symm))
    · -- Tf
      have p156 : ¬ ((((nk.length : Int) - 1) - 0) < (1)) := of_decide_eq_false h147
      refine gF hM140 (.load 25 (.tmp 1)) (some 22) (by kernel_rfl) (Y_loadB #[.bool (true), .slice Ank (nk).length cnk, .slice Anv (nv).length cnv, .slice Anc (nc).length cnc] hc133 (off := 0) (by kernel_rfl) (.agg #[.bool (true), .slice Ank (nk).length cnk, .slice Anv (nv).length cnv, .slice Anc (nc).length cnc]) (by kernel_rfl)) ?_
      refine wpF_callP hM140 (f := 34) (caps := #[]) (h := (by kernel_rfl : opAt _ _ _ _ _ = some (.call (.mk (.value (.func 34)) #[(.tmp 22)] #[25]), some 23))) (by kernel_rfl) (by kernel_rfl) (by kernel_rfl) (f34 _ _ hM140.inW (true) Ank cnk (nk) (hnk.up hM140.le) Anv cnv (nv) (hnv.up hM140.le) Anc cnc (nc) (hnc.up hM140.le)) (fun v157 V158 w159 le160 hM161 hp162 => ?_)
      obtain rfl := hp162
      refine wpF_seg 2 (by kernel_rfl) ?_
      refine wpF_end _ (by kernel_rfl) (then_n (hK146 _ _ ?_))
      refine wp_if (!(stands (true) (nk) (nv) (nc))) (by kernel_rfl) (fun h163 => ?_) (fun h163 => ?_)
      · -- Tft
        have h164 : (stands (true) (nk) (nv) (nc)) = false := by simpa using h163
        refine wp_seq_k (fun K165 hK165 => ?_)
        refine wp_reg ?_
        refine wpF_seg 2 (by kernel_rfl) ?_
        refine wpF_store hM161 1 rfl (h := (by kernel_rfl : opAt _ _ _ _ _ = some (.store 25 (.tmp 2) (.tmp 26), none))) (off := 0) (by kernel_rfl) #[.bool (false), .slice none 0 0, .slice none 0 0, .slice none 0 0] (by kernel_rfl) (by kernel_rfl) (by kernel_rfl) (by kernel_rfl) (fun w167 hM166 => ?_)
        have hM168 : Step V w [] V158 _ ([.blk b138 (.cells #[.bool (false), .slice none 0 0, .slice none 0 0, .slice none 0 0] 25), .blk b135 (.cells #[.bool (false), .slice none 0 0, .slice none 0 0, .slice none 0 0] 25)]) := hM166
        refine wpF_seg 1 (by kernel_rfl) ?_
        refine wpF_store hM168 0 rfl (h := (by kernel_rfl : opAt _ _ _ _ _ = some (.store 25 (.tmp 4) (.tmp 27), none))) (off := 0) (by kernel_rfl) #[.bool (false), .slice none 0 0, .slice none 0 0, .slice none 0 0] (by kernel_rfl) (by kernel_rfl) (by kernel_rfl) (by kernel_rfl) (fun w170 hM169 => ?_)
        have hM171 : Step V w [] V158 _ ([.blk b138 (.cells #[.bool (false), .slice none 0 0, .slice none 0 0, .slice none 0 0] 25), .blk b135 (.cells #[.bool (false), .slice none 0 0, .slice none 0 0, .slice none 0 0] 25)]) := hM169
        refine wpF_seg 1 (by kernel_rfl) ?_
        refine wpF_end _ (by kernel_rfl) (then_n (hK165 _ _ ?_))
        refine wp_ret (then_r (?_))
        refine retN [.agg #[.bool (false), .slice none 0 0, .slice none 0 0, .slice none 0 0], bs ([]), .agg #[.bool (false), .slice none 0 0, .slice none 0 0, .slice none 0 0], .bool (false)] (.tuple #[.agg #[.bool (false), .slice none 0 0, .slice none 0 0, .slice none 0 0], bs ([]), .agg #[.bool (false), .slice none 0 0, .slice none 0 0, .slice none 0 0], .bool (false)]) Try.results19 (.cell (by kernel_rfl) (by kernel_rfl) hM171 1 rfl (by kernel_rfl) (.tmp (by kernel_rfl) (by kernel_rfl) (.cell (by kernel_rfl) (by kernel_rfl) hM171 0 rfl (by kernel_rfl) (.tmp (by kernel_rfl) (by kernel_rfl) .nil)))) (by kernel_rfl) (hRet _ _ ⟨_, _, rfl, hM171.clear, ?_⟩)
        -- end Tft
        have hok : splitOk true nk nv nc = false := by simp only [splitOk, h147, h163, h164, Bool.and_false, Bool.false_and, Bool.not_true, Bool.not_false, cond_true, cond_false]
        obtain ⟨e1, e2, e3, e4, e5, e6, e7, e8⟩ := sp_no hok
        refine ⟨none, 0, none, 0, none, 0, none, 0, none, 0, none, 0, ?_, ?_, ?_, ?_, ?_, ?_, ?_⟩
        · simp only [e1, e2, e3, e4, e5, e6, e7, e8, hok] <;> rfl
        · first | exact (Rd.nil _ _) | (exact Rd.eq (Rd.nil _ _) (by first | exact e2.symm | exact e3.symm | exact e4.symm | exact e6.symm | exact e7.symm | exact e8.symm))
        · first | exact (Rd.nil _ _) | (exact Rd.eq (Rd.nil _ _) (by first | exact e2.symm | exact e3.symm | exact e4.symm | exact e6.symm | exact e7.symm | exact e8.symm))
        · first | exact (Rd.nil _ _) | (exact Rd.eq (Rd.nil _ _) (by first | exact e2.symm | exact e3.symm | exact e4.symm | exact e6.symm | exact e7.symm | exact e8.symm))
        · first | exact (Rd.nil _ _) | (exact Rd.eq (Rd.nil _ _) (by first | exact e2.symm | exact e3.symm | exact e4.symm | exact e6.symm | exact e7.symm | exact e8.symm))
        · first | exact (Rd.nil _ _) | (exact Rd.eq (Rd.nil _ _) (by first | exact e2.symm | exact e3.symm | exact e4.symm | exact e6.symm | exact e7.symm | exact e8.symm))
        · first | exact (Rd.nil _ _) | (exact Rd.eq (Rd.nil _ _) (by first | exact e2.symm | exact e3.symm | exact e4.symm | exact e6.symm | exact e7.symm | exact e8.symm))
      · -- Tff
        have h172 : (stands (true) (nk) (nv) (nc)) = true := by simpa using h163
        have hs : stands true nk nv nc = true := by assumption
        have hsz := sizeM_stands hs
        have hmN : mostN true nk = nk.length - 1 - (bif true then 0 else 1) := rfl
        simp only [cond_true, cond_false] at hmN
        refine wp_skip (then_n (hK145 _ _ ?_))
        refine wp_seq_k (fun K173 hK173 => ?_)
        refine wp_reg ?_
        refine gF hM161 (.load 25 (.tmp 1)) (some 28) (by kernel_rfl) (Y_loadB #[.bool (true), .slice Ank (nk).length cnk, .slice Anv (nv).length cnv, .slice Anc (nc).length cnc] (fun i v hi => le160 _ _ _ (hc133 i v hi)) (off := 0) (by kernel_rfl) (.agg #[.bool (true), .slice Ank (nk).length cnk, .slice Anv (nv).length cnv, .slice Anc (nc).length cnc]) (by kernel_rfl)) ?_
        refine wpF_callP hM161 (f := 15) (caps := #[]) (h := (by kernel_rfl : opAt _ _ _ _ _ = some (.call (.mk (.value (.func 15)) #[(.tmp 28)] #[25]), some 29))) (by kernel_rfl) (by kernel_rfl) (by kernel_rfl) (f15 _ _ hM161.inW (true) Ank cnk (nk) (hnk.up hM161.le) Anv cnv (nv) (hnv.up hM161.le) Anc cnc (nc) (hnc.up hM161.le) (by first | omega | (simp only [List.length_append, List.length_cons, List.length_nil, List.length_take, List.length_drop]; omega) | (exact Nat.le_trans (partV_le _ _ _ _) (by omega))) (by first | omega | (simp only [List.length_append, List.length_cons, List.length_nil, List.length_take, List.length_drop]; omega) | (exact Nat.le_trans (partV_le _ _ _ _) (by omega)))) (fun v174 V175 w176 le177 hM178 hp179 => ?_)
        obtain rfl := hp179
        refine gF hM178 (.binOp .quo 3 (.tmp 29) (.const (.int .i64 2)) 3) (some 30) (by kernel_rfl) (Y_quo .i64 (sizeM (true) (nk) (nv)) (2) ((sizeM (true) (nk) (nv)) / (2)) (by kernel_rfl) (by kernel_rfl) (by omega) (by rw [Int.tdiv_eq_ediv_of_nonneg (by omega)]; exact (wrap64_ok _ (by omega)))) ?_
        refine wpF_alloc hM178 #[.int .i64 (0)] (h := (by kernel_rfl : opAt _ _ _ _ _ = some (.alloc 3, some 8))) (by kernel_rfl) (fun b180 w181 hM182 => ?_)
        refine wpF_store hM182 0 rfl (h := (by kernel_rfl : opAt _ _ _ _ _ = some (.store 3 (.tmp 8) (.tmp 30), none))) (off := 0) (by kernel_rfl) #[.int .i64 ((sizeM (true) (nk) (nv)) / (2))] (by kernel_rfl) (by kernel_rfl) (by kernel_rfl) (by kernel_rfl) (fun w184 hM183 => ?_)
        have hM185 : Step V w [] V175 _ ([.blk b180 (.cells #[.int .i64 ((sizeM (true) (nk) (nv)) / (2))] 3), .blk b138 (.cells #[.bool (false), .slice none 0 0, .slice none 0 0, .slice none 0 0] 25), .blk b135 (.cells #[.bool (false), .slice none 0 0, .slice none 0 0, .slice none 0 0] 25)]) := hM183
        refine wpF_end _ (by kernel_rfl) (then_n (hK173 _ _ ?_))
        refine wp_seq_k (fun K186 hK186 => ?_)
        refine wp_reg ?_
        refine wpF_seg 1 (by kernel_rfl) ?_
        refine gF hM185 (.binOp .sub 3 (.tmp 31) (.const (.int .i64 1)) 3) (some 32) (by kernel_rfl) (Y_sub .i64 (((nk.length : Int) - 1) - 0) (1) (((mostN true nk - 1 : Nat) : Int)) (by kernel_rfl) (by kernel_rfl) (by simp only [mostN, cond_true, cond_false]; rw [wrap64_ok _ (by omega)]; omega)) ?_
        obtain ⟨V187, le188, hM189, hc190⟩ := hM185.settle 0 rfl
        have hM191 : Step V w [] V187 _ ([.blk b138 (.cells #[.bool (false), .slice none 0 0, .slice none 0 0, .slice none 0 0] 25), .blk b135 (.cells #[.bool (false), .slice none 0 0, .slice none 0 0, .slice none 0 0] 25)]) := hM189
        refine wpF_seg 1 (by kernel_rfl) ?_
        refine wpF_callP hM191 (f := 36) (caps := #[]) (h := (by kernel_rfl : opAt _ _ _ _ _ = some (.call (.mk (.value (.func 36)) #[(.tmp 32), (.tmp 33)] #[3, 58]), some 34))) (by kernel_rfl) (by kernel_rfl) (by kernel_rfl) (f36 _ _ hM191.inW ((mostN true nk - 1)) 37 #[.pointer (some ⟨b127, 0, none⟩), .pointer (some ⟨b180, 0, none⟩)] (by kernel_rfl) (fun (y_ : Nat) => spK (true) (nk) (nv) ((sizeM (true) (nk) (nv)) / (2)) y_) (fun V_ w_ l_ i_ j_ hj_ => f37 V_ w_ i_ j_ (true) Ank cnk (nk) ((hnk.up hM191.le).up l_) Anv cnv (nv) ((hnv.up hM191.le).up l_) Anc cnc (nc) ((hnc.up hM191.le).up l_) b127 (fun i_ v_ hi_ => l_ _ _ _ (((le160.trans le177).trans le188) _ _ _ (hc133 i_ v_ hi_))) ((sizeM (true) (nk) (nv)) / (2)) b180 (fun i_ v_ hi_ => l_ _ _ _ (hc190 i_ v_ hi_)) (by simp only [mostN, cond_true, cond_false] at *; omega) (by assumption) (by omega) (by omega) (by omega)) (by omega)) (fun v192 V193 w194 le195 hM196 hp197 => ?_)
        obtain ⟨nr197_1, rfl, r198, x199⟩ := hp197
        have q200 : nr197_1 = srch (fun (y_ : Nat) => spK (true) (nk) (nv) ((sizeM (true) (nk) (nv)) / (2)) y_) 0 ((mostN true nk - 1)) := r198
        have x199 : nr197_1 ≤ ((mostN true nk - 1)) := x199
        refine gF hM196 (.binOp .add 3 (.const (.int .i64 1)) (.tmp 34) 3) (some 35) (by kernel_rfl) (Y_add .i64 (1) ((nr197_1 : Int)) (1 + (nr197_1 : Int)) (by kernel_rfl) (by kernel_rfl) (wrap64_ok _ (by omega))) ?_
        refine wpF_seg 1 (by kernel_rfl) ?_
        refine wpF_end _ (by kernel_rfl) (then_n (hK186 _ _ ?_))
        refine wp_seq_k (fun K201 hK201 => ?_)
        refine wp_base [(1, .pointer (some ⟨b127, 0, none⟩)), (2, .pointer (some ⟨b135, 0, none⟩)), (3, bs ([])), (4, .pointer (some ⟨b138, 0, none⟩)), (5, .bool (false)), (6, .int .i64 (0)), (9, .int .i64 (1 + (nr197_1 : Int)))] (by kernel_rfl) (fun g202 => ?_)
        refine wp_drawN hM196 [] no_held [] [0, 1, 3, 4, 5, 6, 7, 8, 9, 10, 11, 12, 13, 14] [.a 2, .a 15, .a 16, .p 17, .a 18, .p 19] [.p 0, .p 1, .p 3, .p 4, .p 5, .p 6, .p 7, .p 8, .p 9, .p 10, .p 11, .p 12, .p 13, .p 14, .s, .a 2, .a 15, .a 16, .p 17, .a 18, .p 19] rfl (by kernel_rfl) (by kernel_rfl) ?_
        refine gH (.load 25 (.tmp 1)) (some 36) (by kernel_rfl) (Y_loadB #[.bool (true), .slice Ank (nk).length cnk, .slice Anv (nv).length cnv, .slice Anc (nc).length cnc] (fun i v hi => (((le160.trans le177).trans le188).trans le195) _ _ _ (hc133 i v hi)) (off := 0) (by kernel_rfl) (.agg #[.bool (true), .slice Ank (nk).length cnk, .slice Anv (nv).length cnv, .slice Anc (nc).length cnc]) (by kernel_rfl)) ?_
        refine h_seg 2 (by kernel_rfl) ?_
        refine gH (.load 22 (.tmp 39)) (some 40) (by kernel_rfl) (Y_loadB #[.bool (true), .slice Ank (nk).length cnk, .slice Anv (nv).length cnv, .slice Anc (nc).length cnc] (fun i v hi => (((le160.trans le177).trans le188).trans le195) _ _ _ (hc133 i v hi)) (off := 1) (by kernel_rfl) (.slice Ank (nk).length cnk) (by kernel_rfl)) ?_
        refine h_seg 1 (by kernel_rfl) ?_
        refine gH_index (A := Ank) (c := cnk) (hnk.up hM196.le) .i64 (1 + (nr197_1 : Int)) (h := (by kernel_rfl : opAt _ _ _ _ _ = some (.indexAddr 22 (.tmp 40) (.tmp 41), some 42))) (e := 9) (by kernel_rfl) (by kernel_rfl) (by kernel_rfl) (1 + nr197_1) (by omega) (by omega) (fun b203 o204 at_b203 => ?_)
        have c205 : V193 b203 o204 = some (bs (nk.getD (1 + nr197_1) [])) := (At.str at_b203).1
        have l206 : (nk.getD (1 + nr197_1) []).length ≤ 140737488355328 := (At.str at_b203).2
        refine gH (.load 9 (.tmp 42)) (some 43) (by kernel_rfl) (Y_loadV c205 (by kernel_rfl) (by kernel_rfl)) ?_
        refine gH (.load 25 (.tmp 1)) (some 44) (by kernel_rfl) (Y_loadB #[.bool (true), .slice Ank (nk).length cnk, .slice Anv (nv).length cnv, .slice Anc (nc).length cnc] (fun i v hi => (((le160.trans le177).trans le188).trans le195) _ _ _ (hc133 i v hi)) (off := 0) (by kernel_rfl) (.agg #[.bool (true), .slice Ank (nk).length cnk, .slice Anv (nv).length cnv, .slice Anc (nc).length cnc]) (by kernel_rfl)) ?_
        refine h_seg 2 (by kernel_rfl) ?_
        refine gH (.binOp .add 3 (.tmp 45) (.tmp 46) 3) (some 47) (by kernel_rfl) (Y_add .i64 (1 + (nr197_1 : Int)) (0) ((1 + (nr197_1 : Int)) + 0) (by kernel_rfl) (by kernel_rfl) (wrap64_ok _ (by omega))) ?_
        refine h_seg 1 (by kernel_rfl) ?_
        refine gH (.load 22 (.tmp 48)) (some 49) (by kernel_rfl) (Y_loadB #[.bool (true), .slice Ank (nk).length cnk, .slice Anv (nv).length cnv, .slice Anc (nc).length cnc] (fun i v hi => (((le160.trans le177).trans le188).trans le195) _ _ _ (hc133 i v hi)) (off := 1) (by kernel_rfl) (.slice Ank (nk).length cnk) (by kernel_rfl)) ?_
        refine h_seg 1 (by kernel_rfl) ?_
        refine h_s no_fs ?_
        refine h_a (by kernel_rfl) (by kernel_rfl) (fun w207 X208 hM209 => ?_)
        refine wpF_callP hM209 (f := 38) (caps := #[]) (h := (by kernel_rfl : opAt _ _ _ _ _ = some (.call (.mk (.value (.func 38)) #[(.tmp 36), (.const (.int .i64 0)), (.tmp 37)] #[25, 3, 3]), some 38))) (by kernel_rfl) (by kernel_rfl) (by kernel_rfl) (f38 _ _ hM209.inW (true) Ank cnk (nk) (hnk.up hM209.le) Anv cnv (nv) (hnv.up hM209.le) Anc cnc (nc) (hnc.up hM209.le) (0) (1 + nr197_1) (by omega) (by omega) (by intro h_; have := (stands_fit hs).1 h_; omega) (by intro h_; have := (stands_fit hs).2 h_; omega) (by omega) (by omega) (by omega)) (fun v210 V211 w212 le213 hM214 hp215 => ?_)
        obtain ⟨Ar215_1, cr215_1, Ar215_2, cr215_2, Ar215_3, cr215_3, rfl, r216, r217, r218⟩ := hp215
        have l219 : (((nk).take (1 + nr197_1)).drop (0)).length ≤ 140737488355328 := r216.max
        have l220 : (partV (true) (nv) (0) (1 + nr197_1)).length ≤ 140737488355328 := r217.max
        have l221 : (partC (true) (nc) (0) (1 + nr197_1)).length ≤ 140737488355328 := r218.max
        refine wpF_end _ (by kernel_rfl) (then_n (h_d [] (by kernel_rfl) [.blk b138 (.cells #[.bool (false), .slice none 0 0, .slice none 0 0, .slice none 0 0] 25), .blk b135 (.cells #[.bool (false), .slice none 0 0, .slice none 0 0, .slice none 0 0] 25)] hM214 no_held le213 ?_))
        refine h_a (by kernel_rfl) (by kernel_rfl) (fun w222 X223 hM224 => ?_)
        refine wpF_callP hM224 (f := 38) (caps := #[]) (h := (by kernel_rfl : opAt _ _ _ _ _ = some (.call (.mk (.value (.func 38)) #[(.tmp 44), (.tmp 47), (.tmp 50)] #[25, 3, 3]), some 51))) (by kernel_rfl) (by kernel_rfl) (by kernel_rfl) (f38 _ _ hM224.inW (true) Ank cnk (nk) (hnk.up hM224.le) Anv cnv (nv) (hnv.up hM224.le) Anc cnc (nc) (hnc.up hM224.le) ((1 + nr197_1) + 0) (nk.length) (by omega) (by omega) (by intro h_; have := (stands_fit hs).1 h_; omega) (by intro h_; have := (stands_fit hs).2 h_; omega) (by omega) (by omega) (by omega)) (fun v225 V226 w227 le228 hM229 hp230 => ?_)
        obtain ⟨Ar230_1, cr230_1, Ar230_2, cr230_2, Ar230_3, cr230_3, rfl, r231, r232, r233⟩ := hp230
        have l234 : (((nk).take (nk.length)).drop ((1 + nr197_1) + 0)).length ≤ 140737488355328 := r231.max
        have l235 : (partV (true) (nv) ((1 + nr197_1) + 0) (nk.length)).length ≤ 140737488355328 := r232.max
        have l236 : (partC (true) (nc) ((1 + nr197_1) + 0) (nk.length)).length ≤ 140737488355328 := r233.max
        refine wpF_end _ (by kernel_rfl) (then_n (h_d [] (by kernel_rfl) [.blk b138 (.cells #[.bool (false), .slice none 0 0, .slice none 0 0, .slice none 0 0] 25), .blk b135 (.cells #[.bool (false), .slice none 0 0, .slice none 0 0, .slice none 0 0] 25)] hM229 no_held le228 ?_))
        refine h_a (by kernel_rfl) (by kernel_rfl) (fun w237 X238 hM239 => ?_)
        refine wpF_store hM239 1 rfl (h := (by kernel_rfl : opAt _ _ _ _ _ = some (.store 25 (.tmp 2) (.tmp 38), none))) (off := 0) (by kernel_rfl) #[.bool (true), .slice Ar215_1 (((nk).take (1 + nr197_1)).drop (0)).length cr215_1, .slice Ar215_2 (partV (true) (nv) (0) (1 + nr197_1)).length cr215_2, .slice Ar215_3 (partC (true) (nc) (0) (1 + nr197_1)).length cr215_3] (by kernel_rfl) (by kernel_rfl) (by kernel_rfl) (by kernel_rfl) (fun w241 hM240 => ?_)
        have hM242 : Step V w [] V226 _ ([.blk b138 (.cells #[.bool (false), .slice none 0 0, .slice none 0 0, .slice none 0 0] 25), .blk b135 (.cells #[.bool (true), .slice Ar215_1 (((nk).take (1 + nr197_1)).drop (0)).length cr215_1, .slice Ar215_2 (partV (true) (nv) (0) (1 + nr197_1)).length cr215_2, .slice Ar215_3 (partC (true) (nc) (0) (1 + nr197_1)).length cr215_3] 25)] ++ X238) := hM240
        refine wpF_end _ (by kernel_rfl) (then_n (h_d [] (by kernel_rfl) [.blk b138 (.cells #[.bool (false), .slice none 0 0, .slice none 0 0, .slice none 0 0] 25), .blk b135 (.cells #[.bool (true), .slice Ar215_1 (((nk).take (1 + nr197_1)).drop (0)).length cr215_1, .slice Ar215_2 (partV (true) (nv) (0) (1 + nr197_1)).length cr215_2, .slice Ar215_3 (partC (true) (nc) (0) (1 + nr197_1)).length cr215_3] 25)] hM242 no_held (VT.le.refl _) ?_))
        refine h_seg 1 (by kernel_rfl) ?_
        refine h_a (by kernel_rfl) (by kernel_rfl) (fun w243 X244 hM245 => ?_)
        refine wpF_store hM245 0 rfl (h := (by kernel_rfl : opAt _ _ _ _ _ = some (.store 25 (.tmp 4) (.tmp 51), none))) (off := 0) (by kernel_rfl) #[.bool (true), .slice Ar230_1 (((nk).take (nk.length)).drop ((1 + nr197_1) + 0)).length cr230_1, .slice Ar230_2 (partV (true) (nv) ((1 + nr197_1) + 0) (nk.length)).length cr230_2, .slice Ar230_3 (partC (true) (nc) ((1 + nr197_1) + 0) (nk.length)).length cr230_3] (by kernel_rfl) (by kernel_rfl) (by kernel_rfl) (by kernel_rfl) (fun w247 hM246 => ?_)
        have hM248 : Step V w [] V226 _ ([.blk b138 (.cells #[.bool (true), .slice Ar230_1 (((nk).take (nk.length)).drop ((1 + nr197_1) + 0)).length cr230_1, .slice Ar230_2 (partV (true) (nv) ((1 + nr197_1) + 0) (nk.length)).length cr230_2, .slice Ar230_3 (partC (true) (nc) ((1 + nr197_1) + 0) (nk.length)).length cr230_3] 25), .blk b135 (.cells #[.bool (true), .slice Ar215_1 (((nk).take (1 + nr197_1)).drop (0)).length cr215_1, .slice Ar215_2 (partV (true) (nv) (0) (1 + nr197_1)).length cr215_2, .slice Ar215_3 (partC (true) (nc) (0) (1 + nr197_1)).length cr215_3] 25)] ++ X244) := hM246
        refine wpF_end _ (by kernel_rfl) (then_n (h_d [] (by kernel_rfl) [.blk b138 (.cells #[.bool (true), .slice Ar230_1 (((nk).take (nk.length)).drop ((1 + nr197_1) + 0)).length cr230_1, .slice Ar230_2 (partV (true) (nv) ((1 + nr197_1) + 0) (nk.length)).length cr230_2, .slice Ar230_3 (partC (true) (nc) ((1 + nr197_1) + 0) (nk.length)).length cr230_3] 25), .blk b135 (.cells #[.bool (true), .slice Ar215_1 (((nk).take (1 + nr197_1)).drop (0)).length cr215_1, .slice Ar215_2 (partV (true) (nv) (0) (1 + nr197_1)).length cr215_2, .slice Ar215_3 (partC (true) (nc) (0) (1 + nr197_1)).length cr215_3] 25)] hM248 no_held (VT.le.refl _) ?_))
        refine h_seg 1 (by kernel_rfl) ?_
        refine h_n (fun w249 hM250 => ?_)
        refine  (then_n (hK201 _ _ ?_))
        refine wp_ret ?_
        refine retN [.agg #[.bool (true), .slice Ar215_1 (((nk).take (1 + nr197_1)).drop (0)).length cr215_1, .slice Ar215_2 (partV (true) (nv) (0) (1 + nr197_1)).length cr215_2, .slice Ar215_3 (partC (true) (nc) (0) (1 + nr197_1)).length cr215_3], bs ((nk.getD (1 + nr197_1) [])), .agg #[.bool (true), .slice Ar230_1 (((nk).take (nk.length)).drop ((1 + nr197_1) + 0)).length cr230_1, .slice Ar230_2 (partV (true) (nv) ((1 + nr197_1) + 0) (nk.length)).length cr230_2, .slice Ar230_3 (partC (true) (nc) ((1 + nr197_1) + 0) (nk.length)).length cr230_3], .bool (true)] (.tuple #[.agg #[.bool (true), .slice Ar215_1 (((nk).take (1 + nr197_1)).drop (0)).length cr215_1, .slice Ar215_2 (partV (true) (nv) (0) (1 + nr197_1)).length cr215_2, .slice Ar215_3 (partC (true) (nc) (0) (1 + nr197_1)).length cr215_3], bs ((nk.getD (1 + nr197_1) [])), .agg #[.bool (true), .slice Ar230_1 (((nk).take (nk.length)).drop ((1 + nr197_1) + 0)).length cr230_1, .slice Ar230_2 (partV (true) (nv) ((1 + nr197_1) + 0) (nk.length)).length cr230_2, .slice Ar230_3 (partC (true) (nc) ((1 + nr197_1) + 0) (nk.length)).length cr230_3], .bool (true)]) Try.results19 (.cell (by kernel_rfl) (by kernel_rfl) hM250 1 rfl (by kernel_rfl) (.tmp (by kernel_rfl) (by kernel_rfl) (.cell (by kernel_rfl) (by kernel_rfl) hM250 0 rfl (by kernel_rfl) (.tmp (by kernel_rfl) (by kernel_rfl) .nil)))) (by kernel_rfl) (hRet _ _ ⟨_, _, rfl, hM250.clear, ?_⟩)
        -- end Tff
        subst_vars
        have hok : splitOk true nk nv nc = true := (by simp only [splitOk, h147, h163, h172, cond_true, cond_false, Bool.not_false, Bool.and_self])
        obtain ⟨e1, e2, e3, e4, e5, e6, e7, e8⟩ := sp_yes hok (k := 1 + srch (fun (y_ : Nat) => spK true nk nv (sizeM true nk nv / 2) y_) 0 (mostN true nk - 1)) rfl
        refine ⟨Ar215_1, cr215_1, Ar215_2, cr215_2, Ar215_3, cr215_3, Ar230_1, cr230_1, Ar230_2, cr230_2, Ar230_3, cr230_3, ?_, ?_, ?_, ?_, ?_, ?_, ?_⟩
        · simp only [e1, e2, e3, e4, e5, e6, e7, e8, hok] <;> rfl
        · first | exact (r216.up le228) | (exact Rd.eq (r216.up le228) (by first | exact e2.symm | exact e3.symm | exact e4.symm | exact e6.symm | exact e7.symm | exact e8.symm))
        · first | exact (r217.up le228) | (exact Rd.eq (r217.up le228) (by first | exact e2.symm | exact e3.symm | exact e4.symm | exact e6.symm | exact e7.symm | exact e8.symm))
        · first | exact (r218.up le228) | (exact Rd.eq (r218.up le228) (by first | exact e2.symm | exact e3.symm | exact e4.symm | exact e6.symm | exact e7.symm | exact e8.symm))
        · first | exact r231 | (exact Rd.eq r231 (by first | exact e2.symm | exact e3.symm | exact e4.symm | exact e6.symm | exact e7.symm | exact e8.symm))
        · first | exact r232 | (exact Rd.eq r232 (by first | exact e2.symm | exact e3.symm | exact e4.symm | exact e6.symm | exact e7.symm | exact e8.symm))
        · first | exact r233 | (exact Rd.eq r233 (by first | exact e2.symm | exact e3.symm | exact e4.symm | exact e6.symm | exact e7.symm | exact e8.symm))

set_option maxHeartbeats 4000000 in
set_option maxRecDepth 100000 in
theorem f20 (V : VT) (w : World) (hV : V.inW w) (nl : Bool) (Ank : Option Addr) (cnk : Nat) (nk : List Str) (hnk : Rd strK V Ank cnk nk) (Anv : Option Addr) (cnv : Nat) (nv : List Str) (hnv : Rd strK V Anv cnv nv) (Anc : Option Addr) (cnc : Nat) (nc : List Int) (hnc : Rd (intK .i64) V Anc cnc nc) (hk : nk.length ≤ 4096) (hv : nv.length ≤ 4096) (hc : nc.length ≤ 4097) :
    Calls Try.prog 20 #[.agg #[.bool (nl), .slice Ank (nk).length cnk, .slice Anv (nv).length cnv, .slice Anc (nc).length cnc]] w (RetP V w fun rv V' => ∃ (A1 : Option Addr), ∃ (c1 : Nat), ∃ (A2 : Option Addr), ∃ (c2 : Nat), ∃ (A3 : Option Addr), ∃ (c3 : Nat), ∃ (A4 : Option Addr), ∃ (c4 : Nat), ∃ (A5 : Option Addr), ∃ (c5 : Nat), ∃ (A6 : Option Addr), ∃ (c6 : Nat), rv = .tuple #[.agg #[.bool (spL nl nk nv nc), .slice A1 (spAk nl nk nv nc).length c1, .slice A2 (spAv nl nk nv nc).length c2, .slice A3 (spAc nl nk nv nc).length c3], bs (spKey nl nk nv nc), .agg #[.bool (spL nl nk nv nc), .slice A4 (spBk nl nk nv nc).length c4, .slice A5 (spBv nl nk nv nc).length c5, .slice A6 (spBc nl nk nv nc).length c6], .bool (splitOk nl nk nv nc)] ∧ Rd strK V' A1 c1 (spAk nl nk nv nc) ∧ Rd strK V' A2 c2 (spAv nl nk nv nc) ∧ Rd (intK .i64) V' A3 c3 (spAc nl nk nv nc) ∧ Rd strK V' A4 c4 (spBk nl nk nv nc) ∧ Rd strK V' A5 c5 (spBv nl nk nv nc) ∧ Rd (intK .i64) V' A6 c6 (spBc nl nk nv nc)) := by
  have mxnk : nk.length ≤ 140737488355328 := hnk.max
  have mxnv : nv.length ≤ 140737488355328 := hnv.max
  have mxnc : nc.length ≤ 140737488355328 := hnc.max
  refine calls_env (n := 58) Try.func20 (c := _) rfl Try.ntmps20 (by kernel_rfl) (fun R hRet => ?_)
  have hM0 : Step V w [] V w [] := Step.refl (St.nilE hV)
  cases nl with
  | false =>
    refine wp_seq_k (fun K1 hK1 => ?_)
    refine wp_reg ?_
    refine wpF_box hM0 #[.bool (false), .slice Ank (nk).length cnk, .slice Anv (nv).length cnv, .slice Anc (nc).length cnc] (h := (by kernel_rfl : opAt _ _ _ _ _ = some (.box 25 (.tmp 0), some 1))) (by kernel_rfl) (fun b2 w3 hM4 => ?_)
    obtain ⟨V5, le6, hM7, hc8⟩ := hM4.settle 0 rfl
    have hM9 : Step V w [] V5 _ ([]) := hM7
    refine wpF_alloc hM9 #[.bool (false), .slice none 0 0, .slice none 0 0, .slice none 0 0] (h := (by kernel_rfl : opAt _ _ _ _ _ = some (.alloc 25, some 2))) (by kernel_rfl) (fun b10 w11 hM12 => ?_)
    refine wpF_seg 1 (by kernel_rfl) ?_
    refine wpF_alloc hM12 #[.bool (false), .slice none 0 0, .slice none 0 0, .slice none 0 0] (h := (by kernel_rfl : opAt _ _ _ _ _ = some (.alloc 25, some 4))) (by kernel_rfl) (fun b13 w14 hM15 => ?_)
    refine wpF_seg 1 (by kernel_rfl) ?_
    refine wpF_end _ (by kernel_rfl) (then_n (hK1 _ _ ?_))
    refine wp_seq_k (fun K16 hK16 => ?_)
    refine wp_reg ?_
    refine wpF_seg 1 (by kernel_rfl) ?_
    refine wpF_end _ (by kernel_rfl) (then_n (hK16 _ _ ?_))
    refine wp_seq_k (fun K17 hK17 => ?_)
    refine wp_seq_k (fun K18 hK18 => ?_)
    refine wp_reg ?_
    refine wpF_seg 1 (by kernel_rfl) ?_
    refine gF hM15 (.load 4 (.tmp 9)) (some 10) (by kernel_rfl) (Y_loadB #[.bool (false), .slice Ank (nk).length cnk, .slice Anv (nv).length cnv, .slice Anc (nc).length cnc] hc8 (off := 0) (by kernel_rfl) (.bool (false)) (by kernel_rfl)) ?_
    refine wpF_seg 1 (by kernel_rfl) ?_
    refine wpF_end _ (by kernel_rfl) (then_n (hK18 _ _ ?_))
    refine wp_ct (by kernel_rfl) ?_
    refine wp_reg ?_
    refine wpF_seg 1 (by kernel_rfl) ?_
    refine wpF_end _ (by kernel_rfl) (then_n (hK17 _ _ ?_))
    refine wp_seq_k (fun K19 hK19 => ?_)
    refine wp_reg ?_
    refine wpF_seg 1 (by kernel_rfl) ?_
    refine gF hM15 (.load 22 (.tmp 12)) (some 13) (by kernel_rfl) (Y_loadB #[.bool (false), .slice Ank (nk).length cnk, .slice Anv (nv).length cnv, .slice Anc (nc).length cnc] hc8 (off := 1) (by kernel_rfl) (.slice Ank (nk).length cnk) (by kernel_rfl)) ?_
    refine wpF_seg 1 (by kernel_rfl) ?_
    refine gF hM15 (.binOp .sub 3 (.tmp 14) (.const (.int .i64 1)) 3) (some 15) (by kernel_rfl) (Y_sub .i64 ((nk.length : Int)) (1) ((nk.length : Int) - 1) (by kernel_rfl) (by kernel_rfl) (wrap64_ok _ (by omega))) ?_
    refine wpF_seg 1 (by kernel_rfl) ?_
    refine gF hM15 (.binOp .sub 3 (.tmp 15) (.tmp 16) 3) (some 17) (by kernel_rfl) (Y_sub .i64 ((nk.length : Int) - 1) (1) (((nk.length : Int) - 1) - 1) (by kernel_rfl) (by kernel_rfl) (wrap64_ok _ (by omega))) ?_
    refine wpF_seg 1 (by kernel_rfl) ?_
    refine wpF_end _ (by kernel_rfl) (then_n (hK19 _ _ ?_))
    refine wp_seq_k (fun K20 hK20 => ?_)
    refine wp_seq_k (fun K21 hK21 => ?_)
    refine wp_reg ?_
    refine gF hM15 (.load 25 (.tmp 1)) (some 18) (by kernel_rfl) (Y_loadB #[.bool (false), .slice Ank (nk).length cnk, .slice Anv (nv).length cnv, .slice Anc (nc).length cnc] hc8 (off := 0) (by kernel_rfl) (.agg #[.bool (false), .slice Ank (nk).length cnk, .slice Anv (nv).length cnv, .slice Anc (nc).length cnc]) (by kernel_rfl)) ?_
    refine wpF_callP hM15 (f := 35) (caps := #[]) (h := (by kernel_rfl : opAt _ _ _ _ _ = some (.call (.mk (.value (.func 35)) #[(.tmp 18)] #[25]), some 19))) (by kernel_rfl) (by kernel_rfl) (by kernel_rfl) (f35 _ _ hM15.inW (false) Ank cnk (nk) (hnk.up hM15.le) Anv cnv (nv) (hnv.up hM15.le) Anc cnc (nc) (hnc.up hM15.le)) (fun v22 V23 w24 le25 hM26 hp27 => ?_)
    obtain rfl := hp27
    refine wpF_seg 2 (by kernel_rfl) ?_
    refine wpF_caseB 21 (!(stands (false) (nk) (nv) (nc))) (by kernel_rfl) (by kernel_rfl) (fun h28 => ?_) (fun h28 => ?_)
    · -- Ft
      have h29 : (stands (false) (nk) (nv) (nc)) = false := by simpa using h28
      refine wpF_seg 3 (by kernel_rfl) ?_
      refine wpF_end _ (by kernel_rfl) (then_n (hK21 _ _ ?_))
      refine wp_ct (by kernel_rfl) ?_
      refine wp_seq_k (fun K30 hK30 => ?_)
      refine wp_reg ?_
      refine wpF_seg 2 (by kernel_rfl) ?_
      refine wpF_store hM26 1 rfl (h := (by kernel_rfl : opAt _ _ _ _ _ = some (.store 25 (.tmp 2) (.tmp 25), none))) (off := 0) (by kernel_rfl) #[.bool (false), .slice none 0 0, .slice none 0 0, .slice none 0 0] (by kernel_rfl) (by kernel_rfl) (by kernel_rfl) (by kernel_rfl) (fun w32 hM31 => ?_)
      have hM33 : Step V w [] V23 _ ([.blk b13 (.cells #[.bool (false), .slice none 0 0, .slice none 0 0, .slice none 0 0] 25), .blk b10 (.cells #[.bool (false), .slice none 0 0, .slice none 0 0, .slice none 0 0] 25)]) := hM31
      refine wpF_seg 1 (by kernel_rfl) ?_
      refine wpF_store hM33 0 rfl (h := (by kernel_rfl : opAt _ _ _ _ _ = some (.store 25 (.tmp 4) (.tmp 26), none))) (off := 0) (by kernel_rfl) #[.bool (false), .slice none 0 0, .slice none 0 0, .slice none 0 0] (by kernel_rfl) (by kernel_rfl) (by kernel_rfl) (by kernel_rfl) (fun w35 hM34 => ?_)
      have hM36 : Step V w [] V23 _ ([.blk b13 (.cells #[.bool (false), .slice none 0 0, .slice none 0 0, .slice none 0 0] 25), .blk b10 (.cells #[.bool (false), .slice none 0 0, .slice none 0 0, .slice none 0 0] 25)]) := hM34
      refine wpF_seg 1 (by kernel_rfl) ?_
      refine wpF_end _ (by kernel_rfl) (then_n (hK30 _ _ ?_))
      refine wp_ret (then_r (?_))
      refine retN [.agg #[.bool (false), .slice none 0 0, .slice none 0 0, .slice none 0 0], bs ([]), .agg #[.bool (false), .slice none 0 0, .slice none 0 0, .slice none 0 0], .bool (false)] (.tuple #[.agg #[.bool (false), .slice none 0 0, .slice none 0 0, .slice none 0 0], bs ([]), .agg #[.bool (false), .slice none 0 0, .slice none 0 0, .slice none 0 0], .bool (false)]) Try.results20 (.cell (by kernel_rfl) (by kernel_rfl) hM36 1 rfl (by kernel_rfl) (.tmp (by kernel_rfl) (by kernel_rfl) (.cell (by kernel_rfl) (by kernel_rfl) hM36 0 rfl (by kernel_rfl) (.tmp (by kernel_rfl) (by kernel_rfl) .nil)))) (by kernel_rfl) (hRet _ _ ⟨_, _, rfl, hM36.clear, ?_⟩)
      -- end Ft
      have hok : splitOk false nk nv nc = false := by simp only [splitOk, h28, h29, Bool.and_false, Bool.false_and, Bool.not_true, Bool.not_false, cond_true, cond_false]
      obtain ⟨e1, e2, e3, e4, e5, e6, e7, e8⟩ := sp_no hok
      refine ⟨none, 0, none, 0, none, 0, none, 0, none, 0, none, 0, ?_, ?_, ?_, ?_, ?_, ?_, ?_⟩
      · simp only [e1, e2, e3, e4, e5, e6, e7, e8, hok] <;> rfl
      · first | exact (Rd.nil _ _) | (exact Rd.eq (Rd.nil _ _) (by first | exact e2.symm | exact e3.symm | exact e4.symm | exact e6.symm | exact e7.symm | exact e8.symm))
      · first | exact (Rd.nil _ _) | (exact Rd.eq (Rd.nil _ _) (by first | exact e2.symm | exact e3.symm | exact e4.symm | exact e6.symm | exact e7.symm | exact e8.symm))
      · first | exact (Rd.nil _ _) | (exact Rd.eq (Rd.nil _ _) (by first | exact e2.symm | exact e3.symm | exact e4.symm | exact e6.symm | exact e7.symm | exact e8.symm))
      · first | exact (Rd.nil _ _) | (exact Rd.eq (Rd.nil _ _) (by first | exact e2.symm | exact e3.symm | exact e4.symm | exact e6.symm | exact e7.symm | exact e8.symm))
      · first | exact (Rd.nil _ _) | (exact Rd.eq (Rd.nil _ _) (by first | exact e2.symm | exact e3.symm | exact e4.symm | exact e6.symm | exact e7.symm | exact e8.symm))
      · first | exact (Rd.nil _ _) | (exact Rd.eq (Rd.nil _ _) (by first | exact e2.symm | exact e3.symm | exact e4.symm | exact e6.symm | exact e7.symm | exact e8.symm))
    · -- Ff
      have h37 : (stands (false) (nk) (nv) (nc)) = true := by simpa using h28
      have hs : stands false nk nv nc = true := by assumption
      have hsz := sizeM_stands hs
      have hmN : mostN false nk = nk.length - 1 - (bif false then 0 else 1) := rfl
      simp only [cond_true, cond_false] at hmN
      refine wpF_seg 3 (by kernel_rfl) ?_
      refine wpF_end _ (by kernel_rfl) (then_n (hK21 _ _ ?_))
      refine wp_if (decide ((((nk.length : Int) - 1) - 1) < (1))) (by kernel_rfl) (fun h38 => ?_) (fun h38 => ?_)
      · -- Fft
        have p39 : ((((nk.length : Int) - 1) - 1) < (1)) := of_decide_eq_true h38
        refine wp_seq_k (fun K40 hK40 => ?_)
        refine wp_reg ?_
        refine wpF_seg 2 (by kernel_rfl) ?_
        refine wpF_store hM26 1 rfl (h := (by kernel_rfl : opAt _ _ _ _ _ = some (.store 25 (.tmp 2) (.tmp 25), none))) (off := 0) (by kernel_rfl) #[.bool (false), .slice none 0 0, .slice none 0 0, .slice none 0 0] (by kernel_rfl) (by kernel_rfl) (by kernel_rfl) (by kernel_rfl) (fun w42 hM41 => ?_)
        have hM43 : Step V w [] V23 _ ([.blk b13 (.cells #[.bool (false), .slice none 0 0, .slice none 0 0, .slice none 0 0] 25), .blk b10 (.cells #[.bool (false), .slice none 0 0, .slice none 0 0, .slice none 0 0] 25)]) := hM41
        refine wpF_seg 1 (by kernel_rfl) ?_
        refine wpF_store hM43 0 rfl (h := (by kernel_rfl : opAt _ _ _ _ _ = some (.store 25 (.tmp 4) (.tmp 26), none))) (off := 0) (by kernel_rfl) #[.bool (false), .slice none 0 0, .slice none 0 0, .slice none 0 0] (by kernel_rfl) (by kernel_rfl) (by kernel_rfl) (by kernel_rfl) (fun w45 hM44 => ?_)
        have hM46 : Step V w [] V23 _ ([.blk b13 (.cells #[.bool (false), .slice none 0 0, .slice none 0 0, .slice none 0 0] 25), .blk b10 (.cells #[.bool (false), .slice none 0 0, .slice none 0 0, .slice none 0 0] 25)]) := hM44
        refine wpF_seg 1 (by kernel_rfl) ?_
        refine wpF_end _ (by kernel_rfl) (then_n (hK40 _ _ ?_))
        refine wp_ret (then_r (?_))
        refine retN [.agg #[.bool (false), .slice none 0 0, .slice none 0 0, .slice none 0 0], bs ([]), .agg #[.bool (false), .slice none 0 0, .slice none 0 0, .slice none 0 0], .bool (false)] (.tuple #[.agg #[.bool (false), .slice none 0 0, .slice none 0 0, .slice none 0 0], bs ([]), .agg #[.bool (false), .slice none 0 0, .slice none 0 0, .slice none 0 0], .bool (false)]) Try.results20 (.cell (by kernel_rfl) (by kernel_rfl) hM46 1 rfl (by kernel_rfl) (.tmp (by kernel_rfl) (by kernel_rfl) (.cell (by kernel_rfl) (by kernel_rfl) hM46 0 rfl (by kernel_rfl) (.tmp (by kernel_rfl) (by kernel_rfl) .nil)))) (by kernel_rfl) (hRet _ _ ⟨_, _, rfl, hM46.clear, ?_⟩)
        -- end Fft
        have hok : splitOk false nk nv nc = false := by simp only [splitOk, h28, h37, h38, Bool.and_false, Bool.false_and, Bool.not_true, Bool.not_false, cond_true, cond_false]
        obtain ⟨e1, e2, e3, e4, e5, e6, e7, e8⟩ := sp_no hok
        refine ⟨none, 0, none, 0, none, 0, none, 0, none, 0, none, 0, ?_, ?_, ?_, ?_, ?_, ?_, ?_⟩
        · simp only [e1, e2, e3, e4, e5, e6, e7, e8, hok] <;> rfl
        · first | exact (Rd.nil _ _) | (exact Rd.eq (Rd.nil _ _) (by first | exact e2.symm | exact e3.symm | exact e4.symm | exact e6.symm | exact e7.symm | exact e8.symm))
        · first | exact (Rd.nil _ _) | (exact Rd.eq (Rd.nil _ _) (by first | exact e2.symm | exact e3.symm | exact e4.symm | exact e6.symm | exact e7.symm | exact e8.symm))
        · first | exact (Rd.nil _ _) | (exact Rd.eq (Rd.nil _ _) (by first | exact e2.symm | exact e3.symm | exact e4.symm | exact e6.symm | exact e7.symm | exact e8.symm))
        · first | exact (Rd.nil _ _) | (exact Rd.eq (Rd.nil _ _) (by first | exact e2.symm | exact e3.symm | exact e4.symm | exact e6.symm | exact e7.symm | exact e8.symm))
        · first | exact (Rd.nil _ _) | (exact Rd.eq (Rd.nil _ _) (by first | exact e2.symm | exact e3.symm | exact e4.symm | exact e6.symm | exact e7.symm | exact e8.symm))
        · first | exact (Rd.nil _ _) | (exact Rd.eq (Rd.nil _ _) (by first | exact e2.symm | exact e3.symm | exact e4.symm | exact e6.symm | exact e7.symm | exact e8.symm))
      · -- Fff
        have p47 : ¬ ((((nk.length : Int) - 1) - 1) < (1)) := of_decide_eq_false h38
        refine wp_skip (then_n (hK20 _ _ ?_))
        refine wp_seq_k (fun K48 hK48 => ?_)
        refine wp_reg ?_
        refine wpF_seg 1 (by kernel_rfl) ?_
        refine wpF_end _ (by kernel_rfl) (then_n (hK48 _ _ ?_))
        refine wp_seq_k (fun K49 hK49 => ?_)
        refine wp_block ?_
        refine wp_base [(1, .pointer (some ⟨b2, 0, none⟩)), (2, .pointer (some ⟨b10, 0, none⟩)), (3, bs ([])), (4, .pointer (some ⟨b13, 0, none⟩)), (5, .bool (false)), (6, .int .i64 (1)), (7, .int .i64 (((nk.length : Int) - 1) - 1)), (8, .int .i64 ((1 : Int)))] (by kernel_rfl) (fun g51 => ?_)
        refine wp_loopX (fun (x_ : Nat) a_ w_ => ∃ (g : Nat → Value) (V_ : VT), a_ = env 58 [(1, .pointer (some ⟨b2, 0, none⟩)), (2, .pointer (some ⟨b10, 0, none⟩)), (3, bs ([])), (4, .pointer (some ⟨b13, 0, none⟩)), (5, .bool (false)), (6, .int .i64 (1)), (7, .int .i64 (((nk.length : Int) - 1) - 1)), (8, .int .i64 ((x_ : Int)))] g ∧ Step V w [] V_ w_ [.blk b13 (.cells #[.bool (false), .slice none 0 0, .slice none 0 0, .slice none 0 0] 25), .blk b10 (.cells #[.bool (false), .slice none 0 0, .slice none 0 0, .slice none 0 0] 25)] ∧ VT.le V23 V_ ∧ (1 ≤ x_ ∧ x_ ≤ mostN false nk) ∧ (∀ j, j + 1 < x_ → spK false nk nv (sizeM false nk nv / 2) j = false)) (fun (x_ : Nat) => mostN false nk - x_) (1) ⟨g51, V23, rfl, hM26, VT.le.refl _, by omega, by (intro j hj; omega)⟩ ?_
        rintro k a_ w53 ⟨g52, Vl50, rfl, hM54, le55, hi56_0, hi56_1⟩ K56 hK56
        refine wp_seq_k (fun K57 hK57 => ?_)
        refine wp_seq_k (fun K58 hK58 => ?_)
        refine wp_base [(1, .pointer (some ⟨b2, 0, none⟩)), (2, .pointer (some ⟨b10, 0, none⟩)), (3, bs ([])), (4, .pointer (some ⟨b13, 0, none⟩)), (5, .bool (false)), (6, .int .i64 (1)), (7, .int .i64 (((nk.length : Int) - 1) - 1)), (8, .int .i64 ((k : Int)))] (by kernel_rfl) (fun g59 => ?_)
        refine wp_drawN hM54 [] no_held [] [0, 1, 2, 3, 4, 5, 8] [.a 6, .a 7, .a 9, .p 10, .p 11, .p 12] [.p 0, .p 1, .p 2, .p 3, .p 4, .p 5, .p 8, .s, .a 6, .a 7, .a 9, .p 10, .p 11, .p 12] rfl (by kernel_rfl) (by kernel_rfl) ?_
        refine h_seg 4 (by kernel_rfl) ?_
        refine h_caseB 30 (decide (((k : Int)) < (((nk.length : Int) - 1) - 1))) (by kernel_rfl) (by kernel_rfl) (fun h60 => ?_) (fun h60 => ?_)
        · -- FffLt
          have p61 : (((k : Int)) < (((nk.length : Int) - 1) - 1)) := of_decide_eq_true h60
          refine gH (.load 25 (.tmp 1)) (some 31) (by kernel_rfl) (Y_loadB #[.bool (false), .slice Ank (nk).length cnk, .slice Anv (nv).length cnv, .slice Anc (nc).length cnc] (fun i v hi => (le25.trans le55) _ _ _ (hc8 i v hi)) (off := 0) (by kernel_rfl) (.agg #[.bool (false), .slice Ank (nk).length cnk, .slice Anv (nv).length cnv, .slice Anc (nc).length cnc]) (by kernel_rfl)) ?_
          refine h_seg 1 (by kernel_rfl) ?_
          refine gH (.load 25 (.tmp 1)) (some 35) (by kernel_rfl) (Y_loadB #[.bool (false), .slice Ank (nk).length cnk, .slice Anv (nv).length cnv, .slice Anc (nc).length cnc] (fun i v hi => (le25.trans le55) _ _ _ (hc8 i v hi)) (off := 0) (by kernel_rfl) (.agg #[.bool (false), .slice Ank (nk).length cnk, .slice Anv (nv).length cnv, .slice Anc (nc).length cnc]) (by kernel_rfl)) ?_
          refine h_s no_fs ?_
          refine h_a (by kernel_rfl) (by kernel_rfl) (fun w62 X63 hM64 => ?_)
          refine wpF_callP hM64 (f := 39) (caps := #[]) (h := (by kernel_rfl : opAt _ _ _ _ _ = some (.call (.mk (.value (.func 39)) #[(.tmp 31), (.const (.int .i64 0)), (.tmp 32)] #[25, 3, 3]), some 33))) (by kernel_rfl) (by kernel_rfl) (by kernel_rfl) (f39 _ _ hM64.inW (false) Ank cnk (nk) (hnk.up hM64.le) Anv cnv (nv) (hnv.up hM64.le) Anc cnc (nc) (hnc.up hM64.le) (0) (k) (by omega) (by omega) (by intro h_; have := (stands_fit hs).1 h_; omega) (by intro h_; have := (stands_fit hs).2 h_; omega) (by omega) (by omega) (by omega)) (fun v65 V66 w67 le68 hM69 hp70 => ?_)
          obtain ⟨Ar70_1, cr70_1, Ar70_2, cr70_2, Ar70_3, cr70_3, rfl, r71, r72, r73⟩ := hp70
          have l74 : (((nk).take (k)).drop (0)).length ≤ 140737488355328 := r71.max
          have l75 : (partV (false) (nv) (0) (k)).length ≤ 140737488355328 := r72.max
          have l76 : (partC (false) (nc) (0) (k)).length ≤ 140737488355328 := r73.max
          refine wpF_end _ (by kernel_rfl) (then_n (h_d [] (by kernel_rfl) [.blk b13 (.cells #[.bool (false), .slice none 0 0, .slice none 0 0, .slice none 0 0] 25), .blk b10 (.cells #[.bool (false), .slice none 0 0, .slice none 0 0, .slice none 0 0] 25)] hM69 no_held le68 ?_))
          refine h_a (by kernel_rfl) (by kernel_rfl) (fun w77 X78 hM79 => ?_)
          refine wpF_callP hM79 (f := 16) (caps := #[]) (h := (by kernel_rfl : opAt _ _ _ _ _ = some (.call (.mk (.value (.func 16)) #[(.tmp 33)] #[25]), some 34))) (by kernel_rfl) (by kernel_rfl) (by kernel_rfl) (f16 _ _ hM79.inW (false) Ar70_1 cr70_1 (((nk).take (k)).drop (0)) r71 Ar70_2 cr70_2 (partV (false) (nv) (0) (k)) r72 Ar70_3 cr70_3 (partC (false) (nc) (0) (k)) r73 (by first | omega | (simp only [List.length_append, List.length_cons, List.length_nil, List.length_take, List.length_drop]; omega) | (exact Nat.le_trans (partV_le _ _ _ _) (by omega))) (by first | omega | (simp only [List.length_append, List.length_cons, List.length_nil, List.length_take, List.length_drop]; omega) | (exact Nat.le_trans (partV_le _ _ _ _) (by omega)))) (fun v80 V81 w82 le83 hM84 hp85 => ?_)
          obtain rfl := hp85
          refine wpF_end _ (by kernel_rfl) (then_n (h_d [] (by kernel_rfl) [.blk b13 (.cells #[.bool (false), .slice none 0 0, .slice none 0 0, .slice none 0 0] 25), .blk b10 (.cells #[.bool (false), .slice none 0 0, .slice none 0 0, .slice none 0 0] 25)] hM84 no_held le83 ?_))
          refine h_a (by kernel_rfl) (by kernel_rfl) (fun w86 X87 hM88 => ?_)
          refine wpF_callP hM88 (f := 16) (caps := #[]) (h := (by kernel_rfl : opAt _ _ _ _ _ = some (.call (.mk (.value (.func 16)) #[(.tmp 35)] #[25]), some 36))) (by kernel_rfl) (by kernel_rfl) (by kernel_rfl) (f16 _ _ hM88.inW (false) Ank cnk (nk) (hnk.up hM88.le) Anv cnv (nv) (hnv.up hM88.le) Anc cnc (nc) (hnc.up hM88.le) (by first | omega | (simp only [List.length_append, List.length_cons, List.length_nil, List.length_take, List.length_drop]; omega) | (exact Nat.le_trans (partV_le _ _ _ _) (by omega))) (by first | omega | (simp only [List.length_append, List.length_cons, List.length_nil, List.length_take, List.length_drop]; omega) | (exact Nat.le_trans (partV_le _ _ _ _) (by omega)))) (fun v89 V90 w91 le92 hM93 hp94 => ?_)
          obtain rfl := hp94
          refine wpF_end _ (by kernel_rfl) (then_n (h_d [] (by kernel_rfl) [.blk b13 (.cells #[.bool (false), .slice none 0 0, .slice none 0 0, .slice none 0 0] 25), .blk b10 (.cells #[.bool (false), .slice none 0 0, .slice none 0 0, .slice none 0 0] 25)] hM93 no_held le92 ?_))
          refine gH (.binOp .quo 3 (.tmp 36) (.const (.int .i64 2)) 3) (some 37) (by kernel_rfl) (Y_quo .i64 (sizeM (false) (nk) (nv)) (2) ((sizeM (false) (nk) (nv)) / (2)) (by kernel_rfl) (by kernel_rfl) (by omega) (by rw [Int.tdiv_eq_ediv_of_nonneg (by omega)]; exact (wrap64_ok _ (by omega)))) ?_
          refine h_seg 2 (by kernel_rfl) ?_
          refine h_n (fun w95 hM96 => ?_)
          refine  (then_n (hK58 _ _ ?_))
          refine wp_if (decide ((sizeM (false) (((nk).take (k)).drop (0)) (partV (false) (nv) (0) (k))) < ((sizeM (false) (nk) (nv)) / (2)))) (by kernel_rfl) (fun h97 => ?_) (fun h97 => ?_)
          · -- FffLtt
            have p98 : ((sizeM (false) (((nk).take (k)).drop (0)) (partV (false) (nv) (0) (k))) < ((sizeM (false) (nk) (nv)) / (2))) := of_decide_eq_true h97
            refine wp_skip (then_n (hK57 _ _ ?_))
            refine wp_block ?_
            refine wp_reg ?_
            refine wpF_seg 1 (by kernel_rfl) ?_
            refine gF hM96 (.binOp .add 3 (.tmp 40) (.const (.int .i64 1)) 3) (some 41) (by kernel_rfl) (Y_add .i64 ((k : Int)) (1) ((k : Int) + 1) (by kernel_rfl) (by kernel_rfl) (wrap64_ok _ (by omega))) ?_
            refine wpF_seg 1 (by kernel_rfl) ?_
            refine wpF_base [(1, .pointer (some ⟨b2, 0, none⟩)), (2, .pointer (some ⟨b10, 0, none⟩)), (3, bs ([])), (4, .pointer (some ⟨b13, 0, none⟩)), (5, .bool (false)), (6, .int .i64 (1)), (7, .int .i64 (((nk.length : Int) - 1) - 1)), (8, .int .i64 ((k + 1 : Int)))] (by kernel_rfl) (fun g99 => ?_)
            refine wpF_end _ (by kernel_rfl) (blk_n (then_n (hK56 _ _ (k + 1) (by omega) ?_)))
            refine ⟨g99, V90, rfl, hM96, (((le55.trans le68).trans le83).trans le92), ?_, ?_⟩
            · -- FffLtt inv 0
              omega
            · -- FffLtt inv 1
              exact spK_step (by assumption) (by assumption)
          · -- FffLtf
            have p100 : ¬ ((sizeM (false) (((nk).take (k)).drop (0)) (partV (false) (nv) (0) (k))) < ((sizeM (false) (nk) (nv)) / (2))) := of_decide_eq_false h97
            refine wp_exit (then_x (then_x (blk_hit (then_n (hK49 _ _ ?_)))))
            obtain rfl : k = splitK false nk nv := splitK_is hs (by omega) (by omega) (by assumption) (by first | exact .inl (by omega) | exact .inr (spK_end (by omega) (by assumption)))
            refine wp_seq_k (fun K101 hK101 => ?_)
            refine wp_base [(1, .pointer (some ⟨b2, 0, none⟩)), (2, .pointer (some ⟨b10, 0, none⟩)), (3, bs ([])), (4, .pointer (some ⟨b13, 0, none⟩)), (5, .bool (false)), (6, .int .i64 (1)), (8, .int .i64 (((splitK false nk nv) : Int)))] (by kernel_rfl) (fun g102 => ?_)
            refine wp_drawN hM96 [] no_held [] [0, 1, 3, 4, 5, 6, 7, 8, 9, 10, 11, 12, 13, 14] [.a 2, .a 15, .a 16, .p 17, .a 18, .p 19] [.p 0, .p 1, .p 3, .p 4, .p 5, .p 6, .p 7, .p 8, .p 9, .p 10, .p 11, .p 12, .p 13, .p 14, .s, .a 2, .a 15, .a 16, .p 17, .a 18, .p 19] rfl (by kernel_rfl) (by kernel_rfl) ?_
            refine gH (.load 25 (.tmp 1)) (some 42) (by kernel_rfl) (Y_loadB #[.bool (false), .slice Ank (nk).length cnk, .slice Anv (nv).length cnv, .slice Anc (nc).length cnc] (fun i v hi => ((((le25.trans le55).trans le68).trans le83).trans le92) _ _ _ (hc8 i v hi)) (off := 0) (by kernel_rfl) (.agg #[.bool (false), .slice Ank (nk).length cnk, .slice Anv (nv).length cnv, .slice Anc (nc).length cnc]) (by kernel_rfl)) ?_
            refine h_seg 2 (by kernel_rfl) ?_
            refine gH (.load 22 (.tmp 45)) (some 46) (by kernel_rfl) (Y_loadB #[.bool (false), .slice Ank (nk).length cnk, .slice Anv (nv).length cnv, .slice Anc (nc).length cnc] (fun i v hi => ((((le25.trans le55).trans le68).trans le83).trans le92) _ _ _ (hc8 i v hi)) (off := 1) (by kernel_rfl) (.slice Ank (nk).length cnk) (by kernel_rfl)) ?_
            refine h_seg 1 (by kernel_rfl) ?_
            refine gH_index (A := Ank) (c := cnk) (hnk.up hM96.le) .i64 (((splitK false nk nv) : Int)) (h := (by kernel_rfl : opAt _ _ _ _ _ = some (.indexAddr 22 (.tmp 46) (.tmp 47), some 48))) (e := 9) (by kernel_rfl) (by kernel_rfl) (by kernel_rfl) ((splitK false nk nv)) rfl (by omega) (fun b103 o104 at_b103 => ?_)
            have c105 : V90 b103 o104 = some (bs (nk.getD ((splitK false nk nv)) [])) := (At.str at_b103).1
            have l106 : (nk.getD ((splitK false nk nv)) []).length ≤ 140737488355328 := (At.str at_b103).2
            refine gH (.load 9 (.tmp 48)) (some 49) (by kernel_rfl) (Y_loadV c105 (by kernel_rfl) (by kernel_rfl)) ?_
            refine gH (.load 25 (.tmp 1)) (some 50) (by kernel_rfl) (Y_loadB #[.bool (false), .slice Ank (nk).length cnk, .slice Anv (nv).length cnv, .slice Anc (nc).length cnc] (fun i v hi => ((((le25.trans le55).trans le68).trans le83).trans le92) _ _ _ (hc8 i v hi)) (off := 0) (by kernel_rfl) (.agg #[.bool (false), .slice Ank (nk).length cnk, .slice Anv (nv).length cnv, .slice Anc (nc).length cnc]) (by kernel_rfl)) ?_
            refine h_seg 2 (by kernel_rfl) ?_
            refine gH (.binOp .add 3 (.tmp 51) (.tmp 52) 3) (some 53) (by kernel_rfl) (Y_add .i64 (((splitK false nk nv) : Int)) (1) (((splitK false nk nv) : Int) + 1) (by kernel_rfl) (by kernel_rfl) (wrap64_ok _ (by omega))) ?_
            refine h_seg 1 (by kernel_rfl) ?_
            refine gH (.load 22 (.tmp 54)) (some 55) (by kernel_rfl) (Y_loadB #[.bool (false), .slice Ank (nk).length cnk, .slice Anv (nv).length cnv, .slice Anc (nc).length cnc] (fun i v hi => ((((le25.trans le55).trans le68).trans le83).trans le92) _ _ _ (hc8 i v hi)) (off := 1) (by kernel_rfl) (.slice Ank (nk).length cnk) (by kernel_rfl)) ?_
            refine h_seg 1 (by kernel_rfl) ?_
            refine h_s no_fs ?_
            refine h_a (by kernel_rfl) (by kernel_rfl) (fun w107 X108 hM109 => ?_)
            refine wpF_callP hM109 (f := 39) (caps := #[]) (h := (by kernel_rfl : opAt _ _ _ _ _ = some (.call (.mk (.value (.func 39)) #[(.tmp 42), (.const (.int .i64 0)), (.tmp 43)] #[25, 3, 3]), some 44))) (by kernel_rfl) (by kernel_rfl) (by kernel_rfl) (f39 _ _ hM109.inW (false) Ank cnk (nk) (hnk.up hM109.le) Anv cnv (nv) (hnv.up hM109.le) Anc cnc (nc) (hnc.up hM109.le) (0) ((splitK false nk nv)) (by omega) (by omega) (by intro h_; have := (stands_fit hs).1 h_; omega) (by intro h_; have := (stands_fit hs).2 h_; omega) (by omega) (by omega) (by omega)) (fun v110 V111 w112 le113 hM114 hp115 => ?_)
            obtain ⟨Ar115_1, cr115_1, Ar115_2, cr115_2, Ar115_3, cr115_3, rfl, r116, r117, r118⟩ := hp115
            have l119 : (((nk).take ((splitK false nk nv))).drop (0)).length ≤ 140737488355328 := r116.max
            have l120 : (partV (false) (nv) (0) ((splitK false nk nv))).length ≤ 140737488355328 := r117.max
            have l121 : (partC (false) (nc) (0) ((splitK false nk nv))).length ≤ 140737488355328 := r118.max
            refine wpF_end _ (by kernel_rfl) (then_n (h_d [] (by kernel_rfl) [.blk b13 (.cells #[.bool (false), .slice none 0 0, .slice none 0 0, .slice none 0 0] 25), .blk b10 (.cells #[.bool (false), .slice none 0 0, .slice none 0 0, .slice none 0 0] 25)] hM114 no_held le113 ?_))
            refine h_a (by kernel_rfl) (by kernel_rfl) (fun w122 X123 hM124 => ?_)
            refine wpF_callP hM124 (f := 39) (caps := #[]) (h := (by kernel_rfl : opAt _ _ _ _ _ = some (.call (.mk (.value (.func 39)) #[(.tmp 50), (.tmp 53), (.tmp 56)] #[25, 3, 3]), some 57))) (by kernel_rfl) (by kernel_rfl) (by kernel_rfl) (f39 _ _ hM124.inW (false) Ank cnk (nk) (hnk.up hM124.le) Anv cnv (nv) (hnv.up hM124.le) Anc cnc (nc) (hnc.up hM124.le) ((splitK false nk nv) + 1) (nk.length) (by omega) (by omega) (by intro h_; have := (stands_fit hs).1 h_; omega) (by intro h_; have := (stands_fit hs).2 h_; omega) (by omega) (by omega) (by omega)) (fun v125 V126 w127 le128 hM129 hp130 => ?_)
            obtain ⟨Ar130_1, cr130_1, Ar130_2, cr130_2, Ar130_3, cr130_3, rfl, r131, r132, r133⟩ := hp130
            have l134 : (((nk).take (nk.length)).drop ((splitK false nk nv) + 1)).length ≤ 140737488355328 := r131.max
            have l135 : (partV (false) (nv) ((splitK false nk nv) + 1) (nk.length)).length ≤ 140737488355328 := r132.max
            have l136 : (partC (false) (nc) ((splitK false nk nv) + 1) (nk.length)).length ≤ 140737488355328 := r133.max
            refine wpF_end _ (by kernel_rfl) (then_n (h_d [] (by kernel_rfl) [.blk b13 (.cells #[.bool (false), .slice none 0 0, .slice none 0 0, .slice none 0 0] 25), .blk b10 (.cells #[.bool (false), .slice none 0 0, .slice none 0 0, .slice none 0 0] 25)] hM129 no_held le128 ?_))
            refine h_a (by kernel_rfl) (by kernel_rfl) (fun w137 X138 hM139 => ?_)
            refine wpF_store hM139 1 rfl (h := (by kernel_rfl : opAt _ _ _ _ _ = some (.store 25 (.tmp 2) (.tmp 44), none))) (off := 0) (by kernel_rfl) #[.bool (false), .slice Ar115_1 (((nk).take ((splitK false nk nv))).drop (0)).length cr115_1, .slice Ar115_2 (partV (false) (nv) (0) ((splitK false nk nv))).length cr115_2, .slice Ar115_3 (partC (false) (nc) (0) ((splitK false nk nv))).length cr115_3] (by kernel_rfl) (by kernel_rfl) (by kernel_rfl) (by kernel_rfl) (fun w141 hM140 => ?_)
            have hM142 : Step V w [] V126 _ ([.blk b13 (.cells #[.bool (false), .slice none 0 0, .slice none 0 0, .slice none 0 0] 25), .blk b10 (.cells #[.bool (false), .slice Ar115_1 (((nk).take ((splitK false nk nv))).drop (0)).length cr115_1, .slice Ar115_2 (partV (false) (nv) (0) ((splitK false nk nv))).length cr115_2, .slice Ar115_3 (partC (false) (nc) (0) ((splitK false nk nv))).length cr115_3] 25)] ++ X138) := hM140
            refine wpF_end _ (by kernel_rfl) (then_n (h_d [] (by kernel_rfl) [.blk b13 (.cells #[.bool (false), .slice none 0 0, .slice none 0 0, .slice none 0 0] 25), .blk b10 (.cells #[.bool (false), .slice Ar115_1 (((nk).take ((splitK false nk nv))).drop (0)).length cr115_1, .slice Ar115_2 (partV (false) (nv) (0) ((splitK false nk nv))).length cr115_2, .slice Ar115_3 (partC (false) (nc) (0) ((splitK false nk nv))).length cr115_3] 25)] hM142 no_held (VT.le.refl _) ?_))
            refine h_seg 1 (by kernel_rfl) ?_
            refine h_a (by kernel_rfl) (by kernel_rfl) (fun w143 X144 hM145 => ?_)
            refine wpF_store hM145 0 rfl (h := (by kernel_rfl : opAt _ _ _ _ _ = some (.store 25 (.tmp 4) (.tmp 57), none))) (off := 0) (by kernel_rfl) #[.bool (false), .slice Ar130_1 (((nk).take (nk.length)).drop ((splitK false nk nv) + 1)).length cr130_1, .slice Ar130_2 (partV (false) (nv) ((splitK false nk nv) + 1) (nk.length)).length cr130_2, .slice Ar130_3 (partC (false) (nc) ((splitK false nk nv) + 1) (nk.length)).length cr130_3] (by kernel_rfl) (by kernel_rfl) (by kernel_rfl) (by kernel_rfl) (fun w147 hM146 => ?_)
            have hM148 : Step V w [] V126 _ ([.blk b13 (.cells #[.bool (false), .slice Ar130_1 (((nk).take (nk.length)).drop ((splitK false nk nv) + 1)).length cr130_1, .slice Ar130_2 (partV (false) (nv) ((splitK false nk nv) + 1) (nk.length)).length cr130_2, .slice Ar130_3 (partC (false) (nc) ((splitK false nk nv) + 1) (nk.length)).length cr130_3] 25), .blk b10 (.cells #[.bool (false), .slice Ar115_1 (((nk).take ((splitK false nk nv))).drop (0)).length cr115_1, .slice Ar115_2 (partV (false) (nv) (0) ((splitK false nk nv))).length cr115_2, .slice Ar115_3 (partC (false) (nc) (0) ((splitK false nk nv))).length cr115_3] 25)] ++ X144) := hM146
            refine wpF_end _ (by kernel_rfl) (then_n (h_d [] (by kernel_rfl) [.blk b13 (.cells #[.bool (false), .slice Ar130_1 (((nk).take (nk.length)).drop ((splitK false nk nv) + 1)).length cr130_1, .slice Ar130_2 (partV (false) (nv) ((splitK false nk nv) + 1) (nk.length)).length cr130_2, .slice Ar130_3 (partC (false) (nc) ((splitK false nk nv) + 1) (nk.length)).length cr130_3] 25), .blk b10 (.cells #[.bool (false), .slice Ar115_1 (((nk).take ((splitK false nk nv))).drop (0)).length cr115_1, .slice Ar115_2 (partV (false) (nv) (0) ((splitK false nk nv))).length cr115_2, .slice Ar115_3 (partC (false) (nc) (0) ((splitK false nk nv))).length cr115_3] 25)] hM148 no_held (VT.le.refl _) ?_))
            refine h_seg 1 (by kernel_rfl) ?_
            refine h_n (fun w149 hM150 => ?_)
            refine  (then_n (hK101 _ _ ?_))
            refine wp_ret ?_
            refine retN [.agg #[.bool (false), .slice Ar115_1 (((nk).take ((splitK false nk nv))).drop (0)).length cr115_1, .slice Ar115_2 (partV (false) (nv) (0) ((splitK false nk nv))).length cr115_2, .slice Ar115_3 (partC (false) (nc) (0) ((splitK false nk nv))).length cr115_3], bs ((nk.getD ((splitK false nk nv)) [])), .agg #[.bool (false), .slice Ar130_1 (((nk).take (nk.length)).drop ((splitK false nk nv) + 1)).length cr130_1, .slice Ar130_2 (partV (false) (nv) ((splitK false nk nv) + 1) (nk.length)).length cr130_2, .slice Ar130_3 (partC (false) (nc) ((splitK false nk nv) + 1) (nk.length)).length cr130_3], .bool (true)] (.tuple #[.agg #[.bool (false), .slice Ar115_1 (((nk).take ((splitK false nk nv))).drop (0)).length cr115_1, .slice Ar115_2 (partV (false) (nv) (0) ((splitK false nk nv))).length cr115_2, .slice Ar115_3 (partC (false) (nc) (0) ((splitK false nk nv))).length cr115_3], bs ((nk.getD ((splitK false nk nv)) [])), .agg #[.bool (false), .slice Ar130_1 (((nk).take (nk.length)).drop ((splitK false nk nv) + 1)).length cr130_1, .slice Ar130_2 (partV (false) (nv) ((splitK false nk nv) + 1) (nk.length)).length cr130_2, .slice Ar130_3 (partC (false) (nc) ((splitK false nk nv) + 1) (nk.length)).length cr130_3], .bool (true)]) Try.results20 (.cell (by kernel_rfl) (by kernel_rfl) hM150 1 rfl (by kernel_rfl) (.tmp (by kernel_rfl) (by kernel_rfl) (.cell (by kernel_rfl) (by kernel_rfl) hM150 0 rfl (by kernel_rfl) (.tmp (by kernel_rfl) (by kernel_rfl) .nil)))) (by kernel_rfl) (hRet _ _ ⟨_, _, rfl, hM150.clear, ?_⟩)
            -- end FffLtf
            have hok : splitOk false nk nv nc = true := (by simp only [splitOk, h28, h37, h38, h60, h97, cond_true, cond_false, Bool.not_false, Bool.and_self])
            obtain ⟨e1, e2, e3, e4, e5, e6, e7, e8⟩ := sp_yes hok (k := splitK false nk nv) rfl
            refine ⟨Ar115_1, cr115_1, Ar115_2, cr115_2, Ar115_3, cr115_3, Ar130_1, cr130_1, Ar130_2, cr130_2, Ar130_3, cr130_3, ?_, ?_, ?_, ?_, ?_, ?_, ?_⟩
            · simp only [e1, e2, e3, e4, e5, e6, e7, e8, hok] <;> rfl
            · first | exact (r116.up le128) | (exact Rd.eq (r116.up le128) (by first | exact e2.symm | exact e3.symm | exact e4.symm | exact e6.symm | exact e7.symm | exact e8.symm))
            · first | exact (r117.up le128) | (exact Rd.eq (r117.up le128) (by first | exact e2.symm | exact e3.symm | exact e4.symm | exact e6.symm | exact e7.symm | exact e8.symm))
            · first | exact (r118.up le128) | (exact Rd.eq (r118.up le128) (by first | exact e2.symm | exact e3.symm | exact e4.symm | exact e6.symm | exact e7.symm | exact e8.symm))
            · first | exact r131 | (exact Rd.eq r131 (by first | exact e2.symm | exact e3.symm | exact e4.symm | exact e6.symm | exact e7.symm | exact e8.symm))
            · first | exact r132 | (exact Rd.eq r132 (by first | exact e2.symm | exact e3.symm | exact e4.symm | exact e6.symm | exact e7.symm | exact e8.symm))
            · first | exact r133 | (exact Rd.eq r133 (by first | exact e2.symm | exact e3.symm | exact e4.symm | exact e6.symm | exact e7.symm | exact e8.symm))
        · -- FffLf
          have p151 : ¬ (((k : Int)) < (((nk.length : Int) - 1) - 1)) := of_decide_eq_false h60
          refine h_seg 3 (by kernel_rfl) ?_
          refine h_s no_fs ?_
          refine h_a (by kernel_rfl) (by kernel_rfl) (fun w152 X153 hM154 => ?_)
          refine wpF_seg 1 (by kernel_rfl) ?_
          refine wpF_end _ (by kernel_rfl) (then_n (h_d [] (by kernel_rfl) [.blk b13 (.cells #[.bool (false), .slice none 0 0, .slice none 0 0, .slice none 0 0] 25), .blk b10 (.cells #[.bool (false), .slice none 0 0, .slice none 0 0, .slice none 0 0] 25)] hM154 no_held (VT.le.refl _) ?_))
          refine h_a (by kernel_rfl) (by kernel_rfl) (fun w155 X156 hM157 => ?_)
          refine wpF_seg 1 (by kernel_rfl) ?_
          refine wpF_end _ (by kernel_rfl) (then_n (h_d [] (by kernel_rfl) [.blk b13 (.cells #[.bool (false), .slice none 0 0, .slice none 0 0, .slice none 0 0] 25), .blk b10 (.cells #[.bool (false), .slice none 0 0, .slice none 0 0, .slice none 0 0] 25)] hM157 no_held (VT.le.refl _) ?_))
          refine h_a (by kernel_rfl) (by kernel_rfl) (fun w158 X159 hM160 => ?_)
          refine wpF_seg 1 (by kernel_rfl) ?_
          refine wpF_end _ (by kernel_rfl) (then_n (h_d [] (by kernel_rfl) [.blk b13 (.cells #[.bool (false), .slice none 0 0, .slice none 0 0, .slice none 0 0] 25), .blk b10 (.cells #[.bool (false), .slice none 0 0, .slice none 0 0, .slice none 0 0] 25)] hM160 no_held (VT.le.refl _) ?_))
          refine h_seg 3 (by kernel_rfl) ?_
          refine h_n (fun w161 hM162 => ?_)
          refine  (then_n (hK58 _ _ ?_))
          refine wp_cf (by kernel_rfl) ?_
          refine wp_exit (then_x (then_x (blk_hit (then_n (hK49 _ _ ?_)))))
          obtain rfl : k = splitK false nk nv := splitK_is hs (by omega) (by omega) (by assumption) (by first | exact .inl (by omega) | exact .inr (spK_end (by omega) (by assumption)))
          refine wp_seq_k (fun K163 hK163 => ?_)
          refine wp_base [(1, .pointer (some ⟨b2, 0, none⟩)), (2, .pointer (some ⟨b10, 0, none⟩)), (3, bs ([])), (4, .pointer (some ⟨b13, 0, none⟩)), (5, .bool (false)), (6, .int .i64 (1)), (8, .int .i64 (((splitK false nk nv) : Int)))] (by kernel_rfl) (fun g164 => ?_)
          refine wp_drawN hM162 [] no_held [] [0, 1, 3, 4, 5, 6, 7, 8, 9, 10, 11, 12, 13, 14] [.a 2, .a 15, .a 16, .p 17, .a 18, .p 19] [.p 0, .p 1, .p 3, .p 4, .p 5, .p 6, .p 7, .p 8, .p 9, .p 10, .p 11, .p 12, .p 13, .p 14, .s, .a 2, .a 15, .a 16, .p 17, .a 18, .p 19] rfl (by kernel_rfl) (by kernel_rfl) ?_
          refine gH (.load 25 (.tmp 1)) (some 42) (by kernel_rfl) (Y_loadB #[.bool (false), .slice Ank (nk).length cnk, .slice Anv (nv).length cnv, .slice Anc (nc).length cnc] (fun i v hi => (le25.trans le55) _ _ _ (hc8 i v hi)) (off := 0) (by kernel_rfl) (.agg #[.bool (false), .slice Ank (nk).length cnk, .slice Anv (nv).length cnv, .slice Anc (nc).length cnc]) (by kernel_rfl)) ?_
          refine h_seg 2 (by kernel_rfl) ?_
          refine gH (.load 22 (.tmp 45)) (some 46) (by kernel_rfl) (Y_loadB #[.bool (false), .slice Ank (nk).length cnk, .slice Anv (nv).length cnv, .slice Anc (nc).length cnc] (fun i v hi => (le25.trans le55) _ _ _ (hc8 i v hi)) (off := 1) (by kernel_rfl) (.slice Ank (nk).length cnk) (by kernel_rfl)) ?_
          refine h_seg 1 (by kernel_rfl) ?_
          refine gH_index (A := Ank) (c := cnk) (hnk.up hM162.le) .i64 (((splitK false nk nv) : Int)) (h := (by kernel_rfl : opAt _ _ _ _ _ = some (.indexAddr 22 (.tmp 46) (.tmp 47), some 48))) (e := 9) (by kernel_rfl) (by kernel_rfl) (by kernel_rfl) ((splitK false nk nv)) rfl (by omega) (fun b165 o166 at_b165 => ?_)
          have c167 : Vl50 b165 o166 = some (bs (nk.getD ((splitK false nk nv)) [])) := (At.str at_b165).1
          have l168 : (nk.getD ((splitK false nk nv)) []).length ≤ 140737488355328 := (At.str at_b165).2
          refine gH (.load 9 (.tmp 48)) (some 49) (by kernel_rfl) (Y_loadV c167 (by kernel_rfl) (by kernel_rfl)) ?_
          refine gH (.load 25 (.tmp 1)) (some 50) (by kernel_rfl) (Y_loadB #[.bool (false), .slice Ank (nk).length cnk, .slice Anv (nv).length cnv, .slice Anc (nc).length cnc] (fun i v hi => (le25.trans le55) _ _ _ (hc8 i v hi)) (off := 0) (by kernel_rfl) (.agg #[.bool (false), .slice Ank (nk).length cnk, .slice Anv (nv).length cnv, .slice Anc (nc).length cnc]) (by kernel_rfl)) ?_
          refine h_seg 2 (by kernel_rfl) ?_
          refine gH (.binOp .add 3 (.tmp 51) (.tmp 52) 3) (some 53) (by kernel_rfl) (Y_add .i64 (((splitK false nk nv) : Int)) (1) (((splitK false nk nv) : Int) + 1) (by kernel_rfl) (by kernel_rfl) (wrap64_ok _ (by omega))) ?_
          refine h_seg 1 (by kernel_rfl) ?_
          refine gH (.load 22 (.tmp 54)) (some 55) (by kernel_rfl) (Y_loadB #[.bool (false), .slice Ank (nk).length cnk, .slice Anv (nv).length cnv, .slice Anc (nc).length cnc] (fun i v hi => (le25.trans le55) _ _ _ (hc8 i v hi)) (off := 1) (by kernel_rfl) (.slice Ank (nk).length cnk) (by kernel_rfl)) ?_
          refine h_seg 1 (by kernel_rfl) ?_
          refine h_s no_fs ?_
          refine h_a (by kernel_rfl) (by kernel_rfl) (fun w169 X170 hM171 => ?_)
          refine wpF_callP hM171 (f := 39) (caps := #[]) (h := (by kernel_rfl : opAt _ _ _ _ _ = some (.call (.mk (.value (.func 39)) #[(.tmp 42), (.const (.int .i64 0)), (.tmp 43)] #[25, 3, 3]), some 44))) (by kernel_rfl) (by kernel_rfl) (by kernel_rfl) (f39 _ _ hM171.inW (false) Ank cnk (nk) (hnk.up hM171.le) Anv cnv (nv) (hnv.up hM171.le) Anc cnc (nc) (hnc.up hM171.le) (0) ((splitK false nk nv)) (by omega) (by omega) (by intro h_; have := (stands_fit hs).1 h_; omega) (by intro h_; have := (stands_fit hs).2 h_; omega) (by omega) (by omega) (by omega)) (fun v172 V173 w174 le175 hM176 hp177 => ?_)
          obtain ⟨Ar177_1, cr177_1, Ar177_2, cr177_2, Ar177_3, cr177_3, rfl, r178, r179, r180⟩ := hp177
          have l181 : (((nk).take ((splitK false nk nv))).drop (0)).length ≤ 140737488355328 := r178.max
          have l182 : (partV (false) (nv) (0) ((splitK false nk nv))).length ≤ 140737488355328 := r179.max
          have l183 : (partC (false) (nc) (0) ((splitK false nk nv))).length ≤ 140737488355328 := r180.max
          refine wpF_end _ (by kernel_rfl) (then_n (h_d [] (by kernel_rfl) [.blk b13 (.cells #[.bool (false), .slice none 0 0, .slice none 0 0, .slice none 0 0] 25), .blk b10 (.cells #[.bool (false), .slice none 0 0, .slice none 0 0, .slice none 0 0] 25)] hM176 no_held le175 ?_))
          refine h_a (by kernel_rfl) (by kernel_rfl) (fun w184 X185 hM186 => ?_)
          refine wpF_callP hM186 (f := 39) (caps := #[]) (h := (by kernel_rfl : opAt _ _ _ _ _ = some (.call (.mk (.value (.func 39)) #[(.tmp 50), (.tmp 53), (.tmp 56)] #[25, 3, 3]), some 57))) (by kernel_rfl) (by kernel_rfl) (by kernel_rfl) (f39 _ _ hM186.inW (false) Ank cnk (nk) (hnk.up hM186.le) Anv cnv (nv) (hnv.up hM186.le) Anc cnc (nc) (hnc.up hM186.le) ((splitK false nk nv) + 1) (nk.length) (by omega) (by omega) (by intro h_; have := (stands_fit hs).1 h_; omega) (by intro h_; have := (stands_fit hs).2 h_; omega) (by omega) (by omega) (by omega)) (fun v187 V188 w189 le190 hM191 hp192 => ?_)
          obtain ⟨Ar192_1, cr192_1, Ar192_2, cr192_2, Ar192_3, cr192_3, rfl, r193, r194, r195⟩ := hp192
          have l196 : (((nk).take (nk.length)).drop ((splitK false nk nv) + 1)).length ≤ 140737488355328 := r193.max
          have l197 : (partV (false) (nv) ((splitK false nk nv) + 1) (nk.length)).length ≤ 140737488355328 := r194.max
          have l198 : (partC (false) (nc) ((splitK false nk nv) + 1) (nk.length)).length ≤ 140737488355328 := r195.max
          refine wpF_end _ (by kernel_rfl) (then_n (h_d [] (by kernel_rfl) [.blk b13 (.cells #[.bool (false), .slice none 0 0, .slice none 0 0, .slice none 0 0] 25), .blk b10 (.cells #[.bool (false), .slice none 0 0, .slice none 0 0, .slice none 0 0] 25)] hM191 no_held le190 ?_))
          refine h_a (by kernel_rfl) (by kernel_rfl) (fun w199 X200 hM201 => ?_)
          refine wpF_store hM201 1 rfl (h := (by kernel_rfl : opAt _ _ _ _ _ = some (.store 25 (.tmp 2) (.tmp 44), none))) (off := 0) (by kernel_rfl) #[.bool (false), .slice Ar177_1 (((nk).take ((splitK false nk nv))).drop (0)).length cr177_1, .slice Ar177_2 (partV (false) (nv) (0) ((splitK false nk nv))).length cr177_2, .slice Ar177_3 (partC (false) (nc) (0) ((splitK false nk nv))).length cr177_3] (by kernel_rfl) (by kernel_rfl) (by kernel_rfl) (by kernel_rfl) (fun w203 hM202 => ?_)
          have hM204 : Step V w [] V188 _ ([.blk b13 (.cells #[.bool (false), .slice none 0 0, .slice none 0 0, .slice none 0 0] 25), .blk b10 (.cells #[.bool (false), .slice Ar177_1 (((nk).take ((splitK false nk nv))).drop (0)).length cr177_1, .slice Ar177_2 (partV (false) (nv) (0) ((splitK false nk nv))).length cr177_2, .slice Ar177_3 (partC (false) (nc) (0) ((splitK false nk nv))).length cr177_3] 25)] ++ X200) := hM202
          refine wpF_end _ (by kernel_rfl) (then_n (h_d [] (by kernel_rfl) [.blk b13 (.cells #[.bool (false), .slice none 0 0, .slice none 0 0, .slice none 0 0] 25), .blk b10 (.cells #[.bool (false), .slice Ar177_1 (((nk).take ((splitK false nk nv))).drop (0)).length cr177_1, .slice Ar177_2 (partV (false) (nv) (0) ((splitK false nk nv))).length cr177_2, .slice Ar177_3 (partC (false) (nc) (0) ((splitK false nk nv))).length cr177_3] 25)] hM204 no_held (VT.le.refl _) ?_))
          refine h_seg 1 (by kernel_rfl) ?_
          refine h_a (by kernel_rfl) (by kernel_rfl) (fun w205 X206 hM207 => ?_)
          refine wpF_store hM207 0 rfl (h := (by kernel_rfl : opAt _ _ _ _ _ = some (.store 25 (.tmp 4) (.tmp 57), none))) (off := 0) (by kernel_rfl) #[.bool (false), .slice Ar192_1 (((nk).take (nk.length)).drop ((splitK false nk nv) + 1)).length cr192_1, .slice Ar192_2 (partV (false) (nv) ((splitK false nk nv) + 1) (nk.length)).length cr192_2, .slice Ar192_3 (partC (false) (nc) ((splitK false nk nv) + 1) (nk.length)).length cr192_3] (by kernel_rfl) (by kernel_rfl) (by kernel_rfl) (by kernel_rfl) (fun w209 hM208 => ?_)
          have hM210 : Step V w [] V188 _ ([.blk b13 (.cells #[.bool (false), .slice Ar192_1 (((nk).take (nk.length)).drop ((splitK false nk nv) + 1)).length cr192_1, .slice Ar192_2 (partV (false) (nv) ((splitK false nk nv) + 1) (nk.length)).length cr192_2, .slice Ar192_3 (partC (false) (nc) ((splitK false nk nv) + 1) (nk.length)).length cr192_3] 25), .blk b10 (.cells #[.bool (false), .slice Ar177_1 (((nk).take ((splitK false nk nv))).drop (0)).length cr177_1, .slice Ar177_2 (partV (false) (nv) (0) ((splitK false nk nv))).length cr177_2, .slice Ar177_3 (partC (false) (nc) (0) ((splitK false nk nv))).length cr177_3] 25)] ++ X206) := hM208
          refine wpF_end _ (by kernel_rfl) (then_n (h_d [] (by kernel_rfl) [.blk b13 (.cells #[.bool (false), .slice Ar192_1 (((nk).take (nk.length)).drop ((splitK false nk nv) + 1)).length cr192_1, .slice Ar192_2 (partV (false) (nv) ((splitK false nk nv) + 1) (nk.length)).length cr192_2, .slice Ar192_3 (partC (false) (nc) ((splitK false nk nv) + 1) (nk.length)).length cr192_3] 25), .blk b10 (.cells #[.bool (false), .slice Ar177_1 (((nk).take ((splitK false nk nv))).drop (0)).length cr177_1, .slice Ar177_2 (partV (false) (nv) (0) ((splitK false nk nv))).length cr177_2, .slice Ar177_3 (partC (false) (nc) (0) ((splitK false nk nv))).length cr177_3] 25)] hM210 no_held (VT.le.refl _) ?_))
          refine h_seg 1 (by kernel_rfl) ?_
          refine h_n (fun w211 hM212 => ?_)
          refine  (then_n (hK163 _ _ ?_))
          refine wp_ret ?_
          refine retN [.agg #[.bool (false), .slice Ar177_1 (((nk).take ((splitK false nk nv))).drop (0)).length cr177_1, .slice Ar177_2 (partV (false) (nv) (0) ((splitK false nk nv))).length cr177_2, .slice Ar177_3 (partC (false) (nc) (0) ((splitK false nk nv))).length cr177_3], bs ((nk.getD ((splitK false nk nv)) [])), .agg #[.bool (false), .slice Ar192_1 (((nk).take (nk.length)).drop ((splitK false nk nv) + 1)).length cr192_1, .slice Ar192_2 (partV (false) (nv) ((splitK false nk nv) + 1) (nk.length)).length cr192_2, .slice Ar192_3 (partC (false) (nc) ((splitK false nk nv) + 1) (nk.length)).length cr192_3], .bool (true)] (.tuple #[.agg #[.bool (false), .slice Ar177_1 (((nk).take ((splitK false nk nv))).drop (0)).length cr177_1, .slice Ar177_2 (partV (false) (nv) (0) ((splitK false nk nv))).length cr177_2, .slice Ar177_3 (partC (false) (nc) (0) ((splitK false nk nv))).length cr177_3], bs ((nk.getD ((splitK false nk nv)) [])), .agg #[.bool (false), .slice Ar192_1 (((nk).take (nk.length)).drop ((splitK false nk nv) + 1)).length cr192_1, .slice Ar192_2 (partV (false) (nv) ((splitK false nk nv) + 1) (nk.length)).length cr192_2, .slice Ar192_3 (partC (false) (nc) ((splitK false nk nv) + 1) (nk.length)).length cr192_3], .bool (true)]) Try.results20 (.cell (by kernel_rfl) (by kernel_rfl) hM212 1 rfl (by kernel_rfl) (.tmp (by kernel_rfl) (by kernel_rfl) (.cell (by kernel_rfl) (by kernel_rfl) hM212 0 rfl (by kernel_rfl) (.tmp (by kernel_rfl) (by kernel_rfl) .nil)))) (by kernel_rfl) (hRet _ _ ⟨_, _, rfl, hM212.clear, ?_⟩)
          -- end FffLf
          have hok : splitOk false nk nv nc = true := (by simp only [splitOk, h28, h37, h38, h60, cond_true, cond_false, Bool.not_false, Bool.and_self])
          obtain ⟨e1, e2, e3, e4, e5, e6, e7, e8⟩ := sp_yes hok (k := splitK false nk nv) rfl
          refine ⟨Ar177_1, cr177_1, Ar177_2, cr177_2, Ar177_3, cr177_3, Ar192_1, cr192_1, Ar192_2, cr192_2, Ar192_3, cr192_3, ?_, ?_, ?_, ?_, ?_, ?_, ?_⟩
          · simp only [e1, e2, e3, e4, e5, e6, e7, e8, hok] <;> rfl
          · first | exact (r178.up le190) | (exact Rd.eq (r178.up le190) (by first | exact e2.symm | exact e3.symm | exact e4.symm | exact e6.symm | exact e7.symm | exact e8.symm))
          · first | exact (r179.up le190) | (exact Rd.eq (r179.up le190) (by first | exact e2.symm | exact e3.symm | exact e4.symm | exact e6.symm | exact e7.symm | exact e8.symm))
          · first | exact (r180.up le190) | (exact Rd.eq (r180.up le190) (by first | exact e2.symm | exact e3.symm | exact e4.symm | exact e6.symm | exact e7.symm | exact e8.symm))
          · first | exact r193 | (exact Rd.eq r193 (by first | exact e2.symm | exact e3.symm | exact e4.symm | exact e6.symm | exact e7.symm | exact e8.symm))
          · first | exact r194 | (exact Rd.eq r194 (by first | exact e2.symm | exact e3.symm | exact e4.symm | exact e6.symm | exact e7.symm | exact e8.symm))
          · first | exact r195 | (exact Rd.eq r195 (by first | exact e2.symm | exact e3.symm | exact e4.symm | exact e6.symm | exact e7.symm | exact e8.symm))
  | true =>
    refine wp_seq_k (fun K213 hK213 => ?_)
    refine wp_reg ?_
    refine wpF_box hM0 #[.bool (true), .slice Ank (nk).length cnk, .slice Anv (nv).length cnv, .slice Anc (nc).length cnc] (h := (by kernel_rfl : opAt _ _ _ _ _ = some (.box 25 (.tmp 0), some 1))) (by kernel_rfl) (fun b214 w215 hM216 => ?_)
    obtain ⟨V217, le218, hM219, hc220⟩ := hM216.settle 0 rfl
    have hM221 : Step V w [] V217 _ ([]) := hM219
    refine wpF_alloc hM221 #[.bool (false), .slice none 0 0, .slice none 0 0, .slice none 0 0] (h := (by kernel_rfl : opAt _ _ _ _ _ = some (.alloc 25, some 2))) (by kernel_rfl) (fun b222 w223 hM224 => ?_)
    refine wpF_seg 1 (by kernel_rfl) ?_
    refine wpF_alloc hM224 #[.bool (false), .slice none 0 0, .slice none 0 0, .slice none 0 0] (h := (by kernel_rfl : opAt _ _ _ _ _ = some (.alloc 25, some 4))) (by kernel_rfl) (fun b225 w226 hM227 => ?_)
    refine wpF_seg 1 (by kernel_rfl) ?_
    refine wpF_end _ (by kernel_rfl) (then_n (hK213 _ _ ?_))
    refine wp_seq_k (fun K228 hK228 => ?_)
    refine wp_reg ?_
    refine wpF_seg 1 (by kernel_rfl) ?_
    refine wpF_end _ (by kernel_rfl) (then_n (hK228 _ _ ?_))
    refine wp_seq_k (fun K229 hK229 => ?_)
    refine wp_seq_k (fun K230 hK230 => ?_)
    refine wp_reg ?_
    refine wpF_seg 1 (by kernel_rfl) ?_
    refine gF hM227 (.load 4 (.tmp 9)) (some 10) (by kernel_rfl) (Y_loadB #[.bool (true), .slice Ank (nk).length cnk, .slice Anv (nv).length cnv, .slice Anc (nc).length cnc] hc220 (off := 0) (by kernel_rfl) (.bool (true)) (by kernel_rfl)) ?_
    refine wpF_seg 1 (by kernel_rfl) ?_
    refine wpF_end _ (by kernel_rfl) (then_n (hK230 _ _ ?_))
    refine wp_cf (by kernel_rfl) ?_
    refine wp_skip (then_n (hK229 _ _ ?_))
    refine wp_seq_k (fun K231 hK231 => ?_)
    refine wp_reg ?_
    refine wpF_seg 1 (by kernel_rfl) ?_
    refine gF hM227 (.load 22 (.tmp 12)) (some 13) (by kernel_rfl) (Y_loadB #[.bool (true), .slice Ank (nk).length cnk, .slice Anv (nv).length cnv, .slice Anc (nc).length cnc] hc220 (off := 1) (by kernel_rfl) (.slice Ank (nk).length cnk) (by kernel_rfl)) ?_
    refine wpF_seg 1 (by kernel_rfl) ?_
    refine gF hM227 (.binOp .sub 3 (.tmp 14) (.const (.int .i64 1)) 3) (some 15) (by kernel_rfl) (Y_sub .i64 ((nk.length : Int)) (1) ((nk.length : Int) - 1) (by kernel_rfl) (by kernel_rfl) (wrap64_ok _ (by omega))) ?_
    refine wpF_seg 1 (by kernel_rfl) ?_
    refine gF hM227 (.binOp .sub 3 (.tmp 15) (.tmp 16) 3) (some 17) (by kernel_rfl) (Y_sub .i64 ((nk.length : Int) - 1) (0) (((nk.length : Int) - 1) - 0) (by kernel_rfl) (by kernel_rfl) (wrap64_ok _ (by omega))) ?_
    refine wpF_seg 1 (by kernel_rfl) ?_
    refine wpF_end _ (by kernel_rfl) (then_n (hK231 _ _ ?_))
    refine wp_seq_k (fun K232 hK232 => ?_)
    refine wp_seq_k (fun K233 hK233 => ?_)
    refine wp_reg ?_
    refine gF hM227 (.load 25 (.tmp 1)) (some 18) (by kernel_rfl) (Y_loadB #[.bool (true), .slice Ank (nk).length cnk, .slice Anv (nv).length cnv, .slice Anc (nc).length cnc] hc220 (off := 0) (by kernel_rfl) (.agg #[.bool (true), .slice Ank (nk).length cnk, .slice Anv (nv).length cnv, .slice Anc (nc).length cnc]) (by kernel_rfl)) ?_
    refine wpF_callP hM227 (f := 35) (caps := #[]) (h := (by kernel_rfl : opAt _ _ _ _ _ = some (.call (.mk (.value (.func 35)) #[(.tmp 18)] #[25]), some 19))) (by kernel_rfl) (by kernel_rfl) (by kernel_rfl) (f35 _ _ hM227.inW (true) Ank cnk (nk) (hnk.up hM227.le) Anv cnv (nv) (hnv.up hM227.le) Anc cnc (nc) (hnc.up hM227.le)) (fun v234 V235 w236 le237 hM238 hp239 => ?_)
    obtain rfl := hp239
    refine wpF_seg 2 (by kernel_rfl) ?_
    refine wpF_caseB 21 (!(stands (true) (nk) (nv) (nc))) (by kernel_rfl) (by kernel_rfl) (fun h240 => ?_) (fun h240 => ?_)
    · -- Tt
      have h241 : (stands (true) (nk) (nv) (nc)) = false := by simpa using h240
      refine wpF_seg 3 (by kernel_rfl) ?_
      refine wpF_end _ (by kernel_rfl) (then_n (hK233 _ _ ?_))
      refine wp_ct (by kernel_rfl) ?_
      refine wp_seq_k (fun K242 hK242 => ?_)
      refine wp_reg ?_
      refine wpF_seg 2 (by kernel_rfl) ?_
      refine wpF_store hM238 1 rfl (h := (by kernel_rfl : opAt _ _ _ _ _ = some (.store 25 (.tmp 2) (.tmp 25), none))) (off := 0) (by kernel_rfl) #[.bool (false), .slice none 0 0, .slice none 0 0, .slice none 0 0] (by kernel_rfl) (by kernel_rfl) (by kernel_rfl) (by kernel_rfl) (fun w244 hM243 => ?_)
      have hM245 : Step V w [] V235 _ ([.blk b225 (.cells #[.bool (false), .slice none 0 0, .slice none 0 0, .slice none 0 0] 25), .blk b222 (.cells #[.bool (false), .slice none 0 0, .slice none 0 0, .slice none 0 0] 25)]) := hM243
      refine wpF_seg 1 (by kernel_rfl) ?_
      refine wpF_store hM245 0 rfl (h := (by kernel_rfl : opAt _ _ _ _ _ = some (.store 25 (.tmp 4) (.tmp 26), none))) (off := 0) (by kernel_rfl) #[.bool (false), .slice none 0 0, .slice none 0 0, .slice none 0 0] (by kernel_rfl) (by kernel_rfl) (by kernel_rfl) (by kernel_rfl) (fun w247 hM246 => ?_)
      have hM248 : Step V w [] V235 _ ([.blk b225 (.cells #[.bool (false), .slice none 0 0, .slice none 0 0, .slice none 0 0] 25), .blk b222 (.cells #[.bool (false), .slice none 0 0, .slice none 0 0, .slice none 0 0] 25)]) := hM246
      refine wpF_seg 1 (by kernel_rfl) ?_
      refine wpF_end _ (by kernel_rfl) (then_n (hK242 _ _ ?_))
      refine wp_ret (then_r (?_))
      refine retN [.agg #[.bool (false), .slice none 0 0, .slice none 0 0, .slice none 0 0], bs ([]), .agg #[.bool (false), .slice none 0 0, .slice none 0 0, .slice none 0 0], .bool (false)] (.tuple #[.agg #[.bool (false), .slice none 0 0, .slice none 0 0, .slice none 0 0], bs ([]), .agg #[.bool (false), .slice none 0 0, .slice none 0 0, .slice none 0 0], .bool (false)]) Try.results20 (.cell (by kernel_rfl) (by kernel_rfl) hM248 1 rfl (by kernel_rfl) (.tmp (by kernel_rfl) (by kernel_rfl) (.cell (by kernel_rfl) (by kernel_rfl) hM248 0 rfl (by kernel_rfl) (.tmp (by kernel_rfl) (by kernel_rfl) .nil)))) (by kernel_rfl) (hRet _ _ ⟨_, _, rfl, hM248.clear, ?_⟩)
      -- end Tt
      have hok : splitOk true nk nv nc = false := by simp only [splitOk, h240, h241, Bool.and_false, Bool.false_and, Bool.not_true, Bool.not_false, cond_true, cond_false]
      obtain ⟨e1, e2, e3, e4, e5, e6, e7, e8⟩ := sp_no hok
      refine ⟨none, 0, none, 0, none, 0, none, 0, none, 0, none, 0, ?_, ?_, ?_, ?_, ?_, ?_, ?_⟩
      · simp only [e1, e2, e3, e4, e5, e6, e7, e8, hok] <;> rfl
      · first | exact (Rd.nil _ _) | (exact Rd.eq (Rd.nil _ _) (by first | exact e2.symm | exact e3.symm | exact e4.symm | exact e6.symm | exact e7.symm | exact e8.symm))
      · first | exact (Rd.nil _ _) | (exact Rd.eq (Rd.nil _ _) (by first | exact e2.symm | exact e3.symm | exact e4.symm | exact e6.symm | exact e7.symm | exact e8.symm))
      · first | exact (Rd.nil _ _) | (exact Rd.eq (Rd.nil _ _) (by first | exact e2.symm | exact e3.symm | exact e4.symm | exact e6.symm | exact e7.symm | exact e8.symm))
      · first | exact (Rd.nil _ _) | (exact Rd.eq (Rd.nil _ _) (by first | exact e2.symm | exact e3.symm | exact e4.symm | exact e6.symm | exact e7.symm | exact e8.symm))
      · first | exact (Rd.nil _ _) | (exact Rd.eq (Rd.nil _ _) (by first | exact e2.symm | exact e3.symm | exact e4.symm | exact e6.symm | exact e7.symm | exact e8.symm))
      · first | exact (Rd.nil _ _) | (exact Rd.eq (Rd.nil _ _) (by first | exact e2.symm | exact e3.symm | exact e4.symm | exact e6.symm | exact e7.symm | exact e8.symm))
    · -- Tf
      have h249 : (stands (true) (nk) (nv) (nc)) = true := by simpa using h240
      have hs : stands true nk nv nc = true := by assumption
      have hsz := sizeM_stands hs
      have hmN : mostN true nk = nk.length - 1 - (bif true then 0 else 1) := rfl
      simp only [cond_true, cond_false] at hmN
      refine wpF_seg 3 (by kernel_rfl) ?_
      refine wpF_end _ (by kernel_rfl) (then_n (hK233 _ _ ?_))
      refine wp_if (decide ((((nk.length : Int) - 1) - 0) < (1))) (by kernel_rfl) (fun h250 => ?_) (fun h250 => ?_)
      · -- Tft
        have p251 : ((((nk.length : Int) - 1) - 0) < (1)) := of_decide_eq_true h250
        refine wp_seq_k (fun K252 hK252 => ?_)
        refine wp_reg ?_
        refine wpF_seg 2 (by kernel_rfl) ?_
        refine wpF_store hM238 1 rfl (h := (by kernel_rfl : opAt _ _ _ _ _ = some (.store 25 (.tmp 2) (.tmp 25), none))) (off := 0) (by kernel_rfl) #[.bool (false), .slice none 0 0, .slice none 0 0, .slice none 0 0] (by kernel_rfl) (by kernel_rfl) (by kernel_rfl) (by kernel_rfl) (fun w254 hM253 => ?_)
        have hM255 : Step V w [] V235 _ ([.blk b225 (.cells #[.bool (false), .slice none 0 0, .slice none 0 0, .slice none 0 0] 25), .blk b222 (.cells #[.bool (false), .slice none 0 0, .slice none 0 0, .slice none 0 0] 25)]) := hM253
        refine wpF_seg 1 (by kernel_rfl) ?_
        refine wpF_store hM255 0 rfl (h := (by kernel_rfl : opAt _ _ _ _ _ = some (.store 25 (.tmp 4) (.tmp 26), none))) (off := 0) (by kernel_rfl) #[.bool (false), .slice none 0 0, .slice none 0 0, .slice none 0 0] (by kernel_rfl) (by kernel_rfl) (by kernel_rfl) (by kernel_rfl) (fun w257 hM256 => ?_)
        have hM258 : Step V w [] V235 _ ([.blk b225 (.cells #[.bool (false), .slice none 0 0, .slice none 0 0, .slice none 0 0] 25), .blk b222 (.cells #[.bool (false), .slice none 0 0, .slice none 0 0, .slice none 0 0] 25)]) := hM256
        refine wpF_seg 1 (by kernel_rfl) ?_
        refine wpF_end _ (by kernel_rfl) (then_n (hK252 _ _ ?_))
        refine wp_ret (then_r (?_))
        refine retN [.agg #[.bool (false), .slice none 0 0, .slice none 0 0, .slice none 0 0], bs ([]), .agg #[.bool (false), .slice none 0 0, .slice none 0 0, .slice none 0 0], .bool (false)] (.tuple #[.agg #[.bool (false), .slice none 0 0, .slice none 0 0, .slice none 0 0], bs ([]), .agg #[.bool (false), .slice none 0 0, .slice none 0 0, .slice none 0 0], .bool (false)]) Try.results20 (.cell (by kernel_rfl) (by kernel_rfl) hM258 1 rfl (by kernel_rfl) (.tmp (by kernel_rfl) (by kernel_rfl) (.cell (by kernel_rfl) (by kernel_rfl) hM258 0 rfl (by kernel_rfl) (.tmp (by kernel_rfl) (by kernel_rfl) .nil)))) (by kernel_rfl) (hRet _ _ ⟨_, _, rfl, hM258.clear, ?_⟩)
        -- end Tft
        have hok : splitOk true nk nv nc = false := by simp only [splitOk, h240, h249, h250, Bool.and_false, Bool.false_and, Bool.not_true, Bool.not_false, cond_true, cond_false]
        obtain ⟨e1, e2, e3, e4, e5, e6, e7, e8⟩ := sp_no hok
        refine ⟨none, 0, none, 0, none, 0, none, 0, none, 0, none, 0, ?_, ?_, ?_, ?_, ?_, ?_, ?_⟩
        · simp only [e1, e2, e3, e4, e5, e6, e7, e8, hok] <;> rfl
        · first | exact (Rd.nil _ _) | (exact Rd.eq (Rd.nil _ _) (by first | exact e2.symm | exact e3.symm | exact e4.symm | exact e6.symm | exact e7.symm | exact e8.symm))
        · first | exact (Rd.nil _ _) | (exact Rd.eq (Rd.nil _ _) (by first | exact e2.symm | exact e3.symm | exact e4.symm | exact e6.symm | exact e7.symm | exact e8.symm))
        · first | exact (Rd.nil _ _) | (exact Rd.eq (Rd.nil _ _) (by first | exact e2.symm | exact e3.symm | exact e4.symm | exact e6.symm | exact e7.symm | exact e8.symm))
        · first | exact (Rd.nil _ _) | (exact Rd.eq (Rd.nil _ _) (by first | exact e2.symm | exact e3.symm | exact e4.symm | exact e6.symm | exact e7.symm | exact e8.symm))
        · first | exact (Rd.nil _ _) | (exact Rd.eq (Rd.nil _ _) (by first | exact e2.symm | exact e3.symm | exact e4.symm | exact e6.symm | exact e7.symm | exact e8.symm))
        · first | exact (Rd.nil _ _) | (exact Rd.eq (Rd.nil _ _) (by first | exact e2.symm | exact e3.symm | exact e4.symm | exact e6.symm | exact e7.symm | exact e8.symm))
      · -- Tff
        have p259 : ¬ ((((nk.length : Int) - 1) - 0) < (1)) := of_decide_eq_false h250
        refine wp_skip (then_n (hK232 _ _ ?_))
        refine wp_seq_k (fun K260 hK260 => ?_)
        refine wp_reg ?_
        refine wpF_seg 1 (by kernel_rfl) ?_
        refine wpF_end _ (by kernel_rfl) (then_n (hK260 _ _ ?_))
        refine wp_seq_k (fun K261 hK261 => ?_)
        refine wp_block ?_
        refine wp_base [(1, .pointer (some ⟨b214, 0, none⟩)), (2, .pointer (some ⟨b222, 0, none⟩)), (3, bs ([])), (4, .pointer (some ⟨b225, 0, none⟩)), (5, .bool (false)), (6, .int .i64 (0)), (7, .int .i64 (((nk.length : Int) - 1) - 0)), (8, .int .i64 ((1 : Int)))] (by kernel_rfl) (fun g263 => ?_)
        refine wp_loopX (fun (x_ : Nat) a_ w_ => ∃ (g : Nat → Value) (V_ : VT), a_ = env 58 [(1, .pointer (some ⟨b214, 0, none⟩)), (2, .pointer (some ⟨b222, 0, none⟩)), (3, bs ([])), (4, .pointer (some ⟨b225, 0, none⟩)), (5, .bool (false)), (6, .int .i64 (0)), (7, .int .i64 (((nk.length : Int) - 1) - 0)), (8, .int .i64 ((x_ : Int)))] g ∧ Step V w [] V_ w_ [.blk b225 (.cells #[.bool (false), .slice none 0 0, .slice none 0 0, .slice none 0 0] 25), .blk b222 (.cells #[.bool (false), .slice none 0 0, .slice none 0 0, .slice none 0 0] 25)] ∧ VT.le V235 V_ ∧ (1 ≤ x_ ∧ x_ ≤ mostN true nk) ∧ (∀ j, j + 1 < x_ → spK true nk nv (sizeM true nk nv / 2) j = false)) (fun (x_ : Nat) => mostN true nk - x_) (1) ⟨g263, V235, rfl, hM238, VT.le.refl _, by omega, by (intro j hj; omega)⟩ ?_
        rintro k a_ w265 ⟨g264, Vl262, rfl, hM266, le267, hi268_0, hi268_1⟩ K268 hK268
        refine wp_seq_k (fun K269 hK269 => ?_)
        refine wp_seq_k (fun K270 hK270 => ?_)
        refine wp_base [(1, .pointer (some ⟨b214, 0, none⟩)), (2, .pointer (some ⟨b222, 0, none⟩)), (3, bs ([])), (4, .pointer (some ⟨b225, 0, none⟩)), (5, .bool (false)), (6, .int .i64 (0)), (7, .int .i64 (((nk.length : Int) - 1) - 0)), (8, .int .i64 ((k : Int)))] (by kernel_rfl) (fun g271 => ?_)
        refine wp_drawN hM266 [] no_held [] [0, 1, 2, 3, 4, 5, 8] [.a 6, .a 7, .a 9, .p 10, .p 11, .p 12] [.p 0, .p 1, .p 2, .p 3, .p 4, .p 5, .p 8, .s, .a 6, .a 7, .a 9, .p 10, .p 11, .p 12] rfl (by kernel_rfl) (by kernel_rfl) ?_
        refine h_seg 4 (by kernel_rfl) ?_
        refine h_caseB 30 (decide (((k : Int)) < (((nk.length : Int) - 1) - 0))) (by kernel_rfl) (by kernel_rfl) (fun h272 => ?_) (fun h272 => ?_)
        · -- TffLt
          have p273 : (((k : Int)) < (((nk.length : Int) - 1) - 0)) := of_decide_eq_true h272
          refine gH (.load 25 (.tmp 1)) (some 31) (by kernel_rfl) (Y_loadB #[.bool (true), .slice Ank (nk).length cnk, .slice Anv (nv).length cnv, .slice Anc (nc).length cnc] (fun i v hi => (le237.trans le267) _ _ _ (hc220 i v hi)) (off := 0) (by kernel_rfl) (.agg #[.bool (true), .slice Ank (nk).length cnk, .slice Anv (nv).length cnv, .slice Anc (nc).length cnc]) (by kernel_rfl)) ?_
          refine h_seg 1 (by kernel_rfl) ?_
          refine gH (.load 25 (.tmp 1)) (some 35) (by kernel_rfl) (Y_loadB #[.bool (true), .slice Ank (nk).length cnk, .slice Anv (nv).length cnv, .slice Anc (nc).length cnc] (fun i v hi => (le237.trans le267) _ _ _ (hc220 i v hi)) (off := 0) (by kernel_rfl) (.agg #[.bool (true), .slice Ank (nk).length cnk, .slice Anv (nv).length cnv, .slice Anc (nc).length cnc]) (by kernel_rfl)) ?_
          refine h_s no_fs ?_
          refine h_a (by kernel_rfl) (by kernel_rfl) (fun w274 X275 hM276 => ?_)
          refine wpF_callP hM276 (f := 39) (caps := #[]) (h := (by kernel_rfl : opAt _ _ _ _ _ = some (.call (.mk (.value (.func 39)) #[(.tmp 31), (.const (.int .i64 0)), (.tmp 32)] #[25, 3, 3]), some 33))) (by kernel_rfl) (by kernel_rfl) (by kernel_rfl) (f39 _ _ hM276.inW (true) Ank cnk (nk) (hnk.up hM276.le) Anv cnv (nv) (hnv.up hM276.le) Anc cnc (nc) (hnc.up hM276.le) (0) (k) (by omega) (by omega) (by intro h_; have := (stands_fit hs).1 h_; omega) (by intro h_; have := (stands_fit hs).2 h_; omega) (by omega) (by omega) (by omega)) (fun v277 V278 w279 le280 hM281 hp282 => ?_)
          obtain ⟨Ar282_1, cr282_1, Ar282_2, cr282_2, Ar282_3, cr282_3, rfl, r283, r284, r285⟩ := hp282
          have l286 : (((nk).take (k)).drop (0)).length ≤ 140737488355328 := r283.max
          have l287 : (partV (true) (nv) (0) (k)).length ≤ 140737488355328 := r284.max
          have l288 : (partC (true) (nc) (0) (k)).length ≤ 140737488355328 := r285.max
          refine wpF_end _ (by kernel_rfl) (then_n (h_d [] (by kernel_rfl) [.blk b225 (.cells #[.bool (false), .slice none 0 0, .slice none 0 0, .slice none 0 0] 25), .blk b222 (.cells #[.bool (false), .slice none 0 0, .slice none 0 0, .slice none 0 0] 25)] hM281 no_held le280 ?_))
          refine h_a (by kernel_rfl) (by kernel_rfl) (fun w289 X290 hM291 => ?_)
          refine wpF_callP hM291 (f := 16) (caps := #[]) (h := (by kernel_rfl : opAt _ _ _ _ _ = some (.call (.mk (.value (.func 16)) #[(.tmp 33)] #[25]), some 34))) (by kernel_rfl) (by kernel_rfl) (by kernel_rfl) (f16 _ _ hM291.inW (true) Ar282_1 cr282_1 (((nk).take (k)).drop (0)) r283 Ar282_2 cr282_2 (partV (true) (nv) (0) (k)) r284 Ar282_3 cr282_3 (partC (true) (nc) (0) (k)) r285 (by first | omega | (simp only [List.length_append, List.length_cons, List.length_nil, List.length_take, List.length_drop]; omega) | (exact Nat.le_trans (partV_le _ _ _ _) (by omega))) (by first | omega | (simp only [List.length_append, List.length_cons, List.length_nil, List.length_take, List.length_drop]; omega) | (exact Nat.le_trans (partV_le _ _ _ _) (by omega)))) (fun v292 V293 w294 le295 hM296 hp297 => ?_)
          obtain rfl := hp297
          refine wpF_end _ (by kernel_rfl) (then_n (h_d [] (by kernel_rfl) [.blk b225 (.cells #[.bool (false), .slice none 0 0, .slice none 0 0, .slice none 0 0] 25), .blk b222 (.cells #[.bool (false), .slice none 0 0, .slice none 0 0, .slice none 0 0] 25)] hM296 no_held le295 ?_))
          refine h_a (by kernel_rfl) (by kernel_rfl) (fun w298 X299 hM300 => ?_)
          refine wpF_callP hM300 (f := 16) (caps := #[]) (h := (by kernel_rfl : opAt _ _ _ _ _ = some (.call (.mk (.value (.func 16)) #[(.tmp 35)] #[25]), some 36))) (by kernel_rfl) (by kernel_rfl) (by kernel_rfl) (f16 _ _ hM300.inW (true) Ank cnk (nk) (hnk.up hM300.le) Anv cnv (nv) (hnv.up hM300.le) Anc cnc (nc) (hnc.up hM300.le) (by first | omega | (simp only [List.length_append, List.length_cons, List.length_nil, List.length_take, List.length_drop]; omega) | (exact Nat.le_trans (partV_le _ _ _ _) (by omega))) (by first | omega | (simp only [List.length_append, List.length_cons, List.length_nil, List.length_take, List.length_drop]; omega) | (exact Nat.le_trans (partV_le _ _ _ _) (by omega)))) (fun v301 V302 w303 le304 hM305 hp306 => ?_)
          obtain rfl := hp306
          refine wpF_end _ (by kernel_rfl) (then_n (h_d [] (by kernel_rfl) [.blk b225 (.cells #[.bool (false), .slice none 0 0, .slice none 0 0, .slice none 0 0] 25), .blk b222 (.cells #[.bool (false), .slice none 0 0, .slice none 0 0, .slice none 0 0] 25)] hM305 no_held le304 ?_))
          refine gH (.binOp .quo 3 (.tmp 36) (.const (.int .i64 2)) 3) (some 37) (by kernel_rfl) (Y_quo .i64 (sizeM (true) (nk) (nv)) (2) ((sizeM (true) (nk) (nv)) / (2)) (by kernel_rfl) (by kernel_rfl) (by omega) (by rw [Int.tdiv_eq_ediv_of_nonneg (by omega)]; exact (wrap64_ok _ (by omega)))) ?_
          refine h_seg 2 (by kernel_rfl) ?_
          refine h_n (fun w307 hM308 => ?_)
          refine  (then_n (hK270 _ _ ?_))
          refine wp_if (decide ((sizeM (true) (((nk).take (k)).drop (0)) (partV (true) (nv) (0) (k))) < ((sizeM (true) (nk) (nv)) / (2)))) (by kernel_rfl) (fun h309 => ?_) (fun h309 => ?_)
          · -- TffLtt
            have p310 : ((sizeM (true) (((nk).take (k)).drop (0)) (partV (true) (nv) (0) (k))) < ((sizeM (true) (nk) (nv)) / (2))) := of_decide_eq_true h309
            refine wp_skip (then_n (hK269 _ _ ?_))
            refine wp_block ?_
            refine wp_reg ?_
            refine wpF_seg 1 (by kernel_rfl) ?_
            refine gF hM308 (.binOp .add 3 (.tmp 40) (.const (.int .i64 1)) 3) (some 41) (by kernel_rfl) (Y_add .i64 ((k : Int)) (1) ((k : Int) + 1) (by kernel_rfl) (by kernel_rfl) (wrap64_ok _ (by omega))) ?_
            refine wpF_seg 1 (by kernel_rfl) ?_
            refine wpF_base [(1, .pointer (some ⟨b214, 0, none⟩)), (2, .pointer (some ⟨b222, 0, none⟩)), (3, bs ([])), (4, .pointer (some ⟨b225, 0, none⟩)), (5, .bool (false)), (6, .int .i64 (0)), (7, .int .i64 (((nk.length : Int) - 1) - 0)), (8, .int .i64 ((k + 1 : Int)))] (by kernel_rfl) (fun g311 => ?_)
            refine wpF_end _ (by kernel_rfl) (blk_n (then_n (hK268 _ _ (k + 1) (by omega) ?_)))
            refine ⟨g311, V302, rfl, hM308, (((le267.trans le280).trans le295).trans le304), ?_, ?_⟩
            · -- TffLtt inv 0
              omega
            · -- TffLtt inv 1
              exact spK_step (by assumption) (by assumption)
          · -- TffLtf
            have p312 : ¬ ((sizeM (true) (((nk).take (k)).drop (0)) (partV (true) (nv) (0) (k))) < ((sizeM (true) (nk) (nv)) / (2))) := of_decide_eq_false h309
            refine wp_exit (then_x (then_x (blk_hit (then_n (hK261 _ _ ?_)))))
            obtain rfl : k = splitK true nk nv := splitK_is hs (by omega) (by omega) (by assumption) (by first | exact .inl (by omega) | exact .inr (spK_end (by omega) (by assumption)))
            refine wp_seq_k (fun K313 hK313 => ?_)
            refine wp_base [(1, .pointer (some ⟨b214, 0, none⟩)), (2, .pointer (some ⟨b222, 0, none⟩)), (3, bs ([])), (4, .pointer (some ⟨b225, 0, none⟩)), (5, .bool (false)), (6, .int .i64 (0)), (8, .int .i64 (((splitK true nk nv) : Int)))] (by kernel_rfl) (fun g314 => ?_)
            refine wp_drawN hM308 [] no_held [] [0, 1, 3, 4, 5, 6, 7, 8, 9, 10, 11, 12, 13, 14] [.a 2, .a 15, .a 16, .p 17, .a 18, .p 19] [.p 0, .p 1, .p 3, .p 4, .p 5, .p 6, .p 7, .p 8, .p 9, .p 10, .p 11, .p 12, .p 13, .p 14, .s, .a 2, .a 15, .a 16, .p 17, .a 18, .p 19] rfl (by kernel_rfl) (by kernel_rfl) ?_
            refine gH (.load 25 (.tmp 1)) (some 42) (by kernel_rfl) (Y_loadB #[.bool (true), .slice Ank (nk).length cnk, .slice Anv (nv).length cnv, .slice Anc (nc).length cnc] (fun i v hi => ((((le237.trans le267).trans le280).trans le295).trans le304) _ _ _ (hc220 i v hi)) (off := 0) (by kernel_rfl) (.agg #[.bool (true), .slice Ank (nk).length cnk, .slice Anv (nv).length cnv, .slice Anc (nc).length cnc]) (by kernel_rfl)) ?_
            refine h_seg 2 (by kernel_rfl) ?_
            refine gH (.load 22 (.tmp 45)) (some 46) (by kernel_rfl) (Y_loadB #[.bool (true), .slice Ank (nk).length cnk, .slice Anv (nv).length cnv, .slice Anc (nc).length cnc] (fun i v hi => ((((le237.trans le267).trans le280).trans le295).trans le304) _ _ _ (hc220 i v hi)) (off := 1) (by kernel_rfl) (.slice Ank (nk).length cnk) (by kernel_rfl)) ?_
            refine h_seg 1 (by kernel_rfl) ?_
            refine gH_index (A := Ank) (c := cnk) (hnk.up hM308.le) .i64 (((splitK true nk nv) : Int)) (h := (by kernel_rfl : opAt _ _ _ _ _ = some (.indexAddr 22 (.tmp 46) (.tmp 47), some 48))) (e := 9) (by kernel_rfl) (by kernel_rfl) (by kernel_rfl) ((splitK true nk nv)) rfl (by omega) (fun b315 o316 at_b315 => ?_)
            have c317 : V302 b315 o316 = some (bs (nk.getD ((splitK true nk nv)) [])) := (At.str at_b315).1
            have l318 : (nk.getD ((splitK true nk nv)) []).length ≤ 140737488355328 := (At.str at_b315).2
            refine gH (.load 9 (.tmp 48)) (some 49) (by kernel_rfl) (Y_loadV c317 (by kernel_rfl) (by kernel_rfl)) ?_
            refine gH (.load 25 (.tmp 1)) (some 50) (by kernel_rfl) (Y_loadB #[.bool (true), .slice Ank (nk).length cnk, .slice Anv (nv).length cnv, .slice Anc (nc).length cnc] (fun i v hi => ((((le237.trans le267).trans le280).trans le295).trans le304) _ _ _ (hc220 i v hi)) (off := 0) (by kernel_rfl) (.agg #[.bool (true), .slice Ank (nk).length cnk, .slice Anv (nv).length cnv, .slice Anc (nc).length cnc]) (by kernel_rfl)) ?_
            refine h_seg 2 (by kernel_rfl) ?_
            refine gH (.binOp .add 3 (.tmp 51) (.tmp 52) 3) (some 53) (by kernel_rfl) (Y_add .i64 (((splitK true nk nv) : Int)) (0) (((splitK true nk nv) : Int) + 0) (by kernel_rfl) (by kernel_rfl) (wrap64_ok _ (by omega))) ?_
            refine h_seg 1 (by kernel_rfl) ?_
            refine gH (.load 22 (.tmp 54)) (some 55) (by kernel_rfl) (Y_loadB #[.bool (true), .slice Ank (nk).length cnk, .slice Anv (nv).length cnv, .slice Anc (nc).length cnc] (fun i v hi => ((((le237.trans le267).trans le280).trans le295).trans le304) _ _ _ (hc220 i v hi)) (off := 1) (by kernel_rfl) (.slice Ank (nk).length cnk) (by kernel_rfl)) ?_
            refine h_seg 1 (by kernel_rfl) ?_
            refine h_s no_fs ?_
            refine h_a (by kernel_rfl) (by kernel_rfl) (fun w319 X320 hM321 => ?_)
            refine wpF_callP hM321 (f := 39) (caps := #[]) (h := (by kernel_rfl : opAt _ _ _ _ _ = some (.call (.mk (.value (.func 39)) #[(.tmp 42), (.const (.int .i64 0)), (.tmp 43)] #[25, 3, 3]), some 44))) (by kernel_rfl) (by kernel_rfl) (by kernel_rfl) (f39 _ _ hM321.inW (true) Ank cnk (nk) (hnk.up hM321.le) Anv cnv (nv) (hnv.up hM321.le) Anc cnc (nc) (hnc.up hM321.le) (0) ((splitK true nk nv)) (by omega) (by omega) (by intro h_; have := (stands_fit hs).1 h_; omega) (by intro h_; have := (stands_fit hs).2 h_; omega) (by omega) (by omega) (by omega)) (fun v322 V323 w324 le325 hM326 hp327 => ?_)
            obtain ⟨Ar327_1, cr327_1, Ar327_2, cr327_2, Ar327_3, cr327_3, rfl, r328, r329, r330⟩ := hp327
            have l331 : (((nk).take ((splitK true nk nv))).drop (0)).length ≤ 140737488355328 := r328.max
            have l332 : (partV (true) (nv) (0) ((splitK true nk nv))).length ≤ 140737488355328 := r329.max
            have l333 : (partC (true) (nc) (0) ((splitK true nk nv))).length ≤ 140737488355328 := r330.max
            refine wpF_end _ (by kernel_rfl) (then_n (h_d [] (by kernel_rfl) [.blk b225 (.cells #[.bool (false), .slice none 0 0, .slice none 0 0, .slice none 0 0] 25), .blk b222 (.cells #[.bool (false), .slice none 0 0, .slice none 0 0, .slice none 0 0] 25)] hM326 no_held le325 ?_))
            refine h_a (by kernel_rfl) (by kernel_rfl) (fun w334 X335 hM336 => ?_)
            refine wpF_callP hM336 (f := 39) (caps := #[]) (h := (by kernel_rfl : opAt _ _ _ _ _ = some (.call (.mk (.value (.func 39)) #[(.tmp 50), (.tmp 53), (.tmp 56)] #[25, 3, 3]), some 57))) (by kernel_rfl) (by kernel_rfl) (by kernel_rfl) (f39 _ _ hM336.inW (true) Ank cnk (nk) (hnk.up hM336.le) Anv cnv (nv) (hnv.up hM336.le) Anc cnc (nc) (hnc.up hM336.le) ((splitK true nk nv) + 0) (nk.length) (by omega) (by omega) (by intro h_; have := (stands_fit hs).1 h_; omega) (by intro h_; have := (stands_fit hs).2 h_; omega) (by omega) (by omega) (by omega)) (fun v337 V338 w339 le340 hM341 hp342 => ?_)
            obtain ⟨Ar342_1, cr342_1, Ar342_2, cr342_2, Ar342_3, cr342_3, rfl, r343, r344, r345⟩ := hp342
            have l346 : (((nk).take (nk.length)).drop ((splitK true nk nv) + 0)).length ≤ 140737488355328 := r343.max
            have l347 : (partV (true) (nv) ((splitK true nk nv) + 0) (nk.length)).length ≤ 140737488355328 := r344.max
            have l348 : (partC (true) (nc) ((splitK true nk nv) + 0) (nk.length)).length ≤ 140737488355328 := r345.max
            refine wpF_end _ (by kernel_rfl) (then_n (h_d [] (by kernel_rfl) [.blk b225 (.cells #[.bool (false), .slice none 0 0, .slice none 0 0, .slice none 0 0] 25), .blk b222 (.cells #[.bool (false), .slice none 0 0, .slice none 0 0, .slice none 0 0] 25)] hM341 no_held le340 ?_))
            refine h_a (by kernel_rfl) (by kernel_rfl) (fun w349 X350 hM351 => ?_)
            refine wpF_store hM351 1 rfl (h := (by kernel_rfl : opAt _ _ _ _ _ = some (.store 25 (.tmp 2) (.tmp 44), none))) (off := 0) (by kernel_rfl) #[.bool (true), .slice Ar327_1 (((nk).take ((splitK true nk nv))).drop (0)).length cr327_1, .slice Ar327_2 (partV (true) (nv) (0) ((splitK true nk nv))).length cr327_2, .slice Ar327_3 (partC (true) (nc) (0) ((splitK true nk nv))).length cr327_3] (by kernel_rfl) (by kernel_rfl) (by kernel_rfl) (by kernel_rfl) (fun w353 hM352 => ?_)
            have hM354 : Step V w [] V338 _ ([.blk b225 (.cells #[.bool (false), .slice none 0 0, .slice none 0 0, .slice none 0 0] 25), .blk b222 (.cells #[.bool (true), .slice Ar327_1 (((nk).take ((splitK true nk nv))).drop (0)).length cr327_1, .slice Ar327_2 (partV (true) (nv) (0) ((splitK true nk nv))).length cr327_2, .slice Ar327_3 (partC (true) (nc) (0) ((splitK true nk nv))).length cr327_3] 25)] ++ X350) := hM352
            refine wpF_end _ (by kernel_rfl) (then_n (h_d [] (by kernel_rfl) [.blk b225 (.cells #[.bool (false), .slice none 0 0, .slice none 0 0, .slice none 0 0] 25), .blk b222 (.cells #[.bool (true), .slice Ar327_1 (((nk).take ((splitK true nk nv))).drop (0)).length cr327_1, .slice Ar327_2 (partV (true) (nv) (0) ((splitK true nk nv))).length cr327_2, .slice Ar327_3 (partC (true) (nc) (0) ((splitK true nk nv))).length cr327_3] 25)] hM354 no_held (VT.le.refl _) ?_))
            refine h_seg 1 (by kernel_rfl) ?_
            refine h_a (by kernel_rfl) (by kernel_rfl) (fun w355 X356 hM357 => ?_)
            refine wpF_store hM357 0 rfl (h := (by kernel_rfl : opAt _ _ _ _ _ = some (.store 25 (.tmp 4) (.tmp 57), none))) (off := 0) (by kernel_rfl) #[.bool (true), .slice Ar342_1 (((nk).take (nk.length)).drop ((splitK true nk nv) + 0)).length cr342_1, .slice Ar342_2 (partV (true) (nv) ((splitK true nk nv) + 0) (nk.length)).length cr342_2, .slice Ar342_3 (partC (true) (nc) ((splitK true nk nv) + 0) (nk.length)).length cr342_3] (by kernel_rfl) (by kernel_rfl) (by kernel_rfl) (by kernel_rfl) (fun w359 hM358 => ?_)
            have hM360 : Step V w [] V338 _ ([.blk b225 (.cells #[.bool (true), .slice Ar342_1 (((nk).take (nk.length)).drop ((splitK true nk nv) + 0)).length cr342_1, .slice Ar342_2 (partV (true) (nv) ((splitK true nk nv) + 0) (nk.length)).length cr342_2, .slice Ar342_3 (partC (true) (nc) ((splitK true nk nv) + 0) (nk.length)).length cr342_3] 25), .blk b222 (.cells #[.bool (true), .slice Ar327_1 (((nk).take ((splitK true nk nv))).drop (0)).length cr327_1, .slice Ar327_2 (partV (true) (nv) (0) ((splitK true nk nv))).length cr327_2, .slice Ar327_3 (partC (true) (nc) (0) ((splitK true nk nv))).length cr327_3] 25)] ++ X356) := hM358
            refine wpF_end _ (by kernel_rfl) (then_n (h_d [] (by kernel_rfl) [.blk b225 (.cells #[.bool (true), .slice Ar342_1 (((nk).take (nk.length)).drop ((splitK true nk nv) + 0)).length cr342_1, .slice Ar342_2 (partV (true) (nv) ((splitK true nk nv) + 0) (nk.length)).length cr342_2, .slice Ar342_3 (partC (true) (nc) ((splitK true nk nv) + 0) (nk.length)).length cr342_3] 25), .blk b222 (.cells #[.bool (true), .slice Ar327_1 (((nk).take ((splitK true nk nv))).drop (0)).length cr327_1, .slice Ar327_2 (partV (true) (nv) (0) ((splitK true nk nv))).length cr327_2, .slice Ar327_3 (partC (true) (nc) (0) ((splitK true nk nv))).length cr327_3] 25)] hM360 no_held (VT.le.refl _) ?_))
            refine h_seg 1 (by kernel_rfl) ?_
            refine h_n (fun w361 hM362 => ?_)
            refine  (then_n (hK313 _ _ ?_))
            refine wp_ret ?_
            refine retN [.agg #[.bool (true), .slice Ar327_1 (((nk).take ((splitK true nk nv))).drop (0)).length cr327_1, .slice Ar327_2 (partV (true) (nv) (0) ((splitK true nk nv))).length cr327_2, .slice Ar327_3 (partC (true) (nc) (0) ((splitK true nk nv))).length cr327_3], bs ((nk.getD ((splitK true nk nv)) [])), .agg #[.bool (true), .slice Ar342_1 (((nk).take (nk.length)).drop ((splitK true nk nv) + 0)).length cr342_1, .slice Ar342_2 (partV (true) (nv) ((splitK true nk nv) + 0) (nk.length)).length cr342_2, .slice Ar342_3 (partC (true) (nc) ((splitK true nk nv) + 0) (nk.length)).length cr342_3], .bool (true)] (.tuple #[.agg #[.bool (true), .slice Ar327_1 (((nk).take ((splitK true nk nv))).drop (0)).length cr327_1, .slice Ar327_2 (partV (true) (nv) (0) ((splitK true nk nv))).length cr327_2, .slice Ar327_3 (partC (true) (nc) (0) ((splitK true nk nv))).length cr327_3], bs ((nk.getD ((splitK true nk nv)) [])), .agg #[.bool (true), .slice Ar342_1 (((nk).take (nk.length)).drop ((splitK true nk nv) + 0)).length cr342_1, .slice Ar342_2 (partV (true) (nv) ((splitK true nk nv) + 0) (nk.length)).length cr342_2, .slice Ar342_3 (partC (true) (nc) ((splitK true nk nv) + 0) (nk.length)).length cr342_3], .bool (true)]) Try.results20 (.cell (by kernel_rfl) (by kernel_rfl) hM362 1 rfl (by kernel_rfl) (.tmp (by kernel_rfl) (by kernel_rfl) (.cell (by kernel_rfl) (by kernel_rfl) hM362 0 rfl (by kernel_rfl) (.tmp (by kernel_rfl) (by kernel_rfl) .nil)))) (by kernel_rfl) (hRet _ _ ⟨_, _, rfl, hM362.clear, ?_⟩)
            -- end TffLtf
            have hok : splitOk true nk nv nc = true := (by simp only [splitOk, h240, h249, h250, h272, h309, cond_true, cond_false, Bool.not_false, Bool.and_self])
            obtain ⟨e1, e2, e3, e4, e5, e6, e7, e8⟩ := sp_yes hok (k := splitK true nk nv) rfl
            refine ⟨Ar327_1, cr327_1, Ar327_2, cr327_2, Ar327_3, cr327_3, Ar342_1, cr342_1, Ar342_2, cr342_2, Ar342_3, cr342_3, ?_, ?_, ?_, ?_, ?_, ?_, ?_⟩
            · simp only [e1, e2, e3, e4, e5, e6, e7, e8, hok] <;> rfl
            · first | exact (r328.up le340) | (exact Rd.eq (r328.up le340) (by first | exact e2.symm | exact e3.symm | exact e4.symm | exact e6.symm | exact e7.symm | exact e8.symm))
            · first | exact (r329.up le340) | (exact Rd.eq (r329.up le340) (by first | exact e2.symm | exact e3.symm | exact e4.symm | exact e6.symm | exact e7.symm | exact e8.symm))
            · first | exact (r330.up le340) | (exact Rd.eq (r330.up le340) (by first | exact e2.symm | exact e3.symm | exact e4.symm | exact e6.symm | exact e7.symm | exact e8.symm))
            · first | exact r343 | (exact Rd.eq r343 (by first | exact e2.symm | exact e3.symm | exact e4.symm | exact e6.symm | exact e7.symm | exact e8.symm))
            · first | exact r344 | (exact Rd.eq r344 (by first | exact e2.symm | exact e3.symm | exact e4.symm | exact e6.symm | exact e7.symm | exact e8.symm))
            · first | exact r345 | (exact Rd.eq r345 (by first | exact e2.symm | exact e3.symm | exact e4.symm | exact e6.symm | exact e7.symm | exact e8.symm))
        · -- TffLf
          have p363 : ¬ (((k : Int)) < (((nk.length : Int) - 1) - 0)) := of_decide_eq_false h272
          refine h_seg 3 (by kernel_rfl) ?_
          refine h_s no_fs ?_
          refine h_a (by kernel_rfl) (by kernel_rfl) (fun w364 X365 hM366 => ?_)
          refine wpF_seg 1 (by kernel_rfl) ?_
          refine wpF_end _ (by kernel_rfl) (then_n (h_d [] (by kernel_rfl) [.blk b225 (.cells #[.bool (false), .slice none 0 0, .slice none 0 0, .slice none 0 0] 25), .blk b222 (.cells #[.bool (false), .slice none 0 0, .slice none 0 0, .slice none 0 0] 25)] hM366 no_held (VT.le.refl _) ?_))
          refine h_a (by kernel_rfl) (by kernel_rfl) (fun w367 X368 hM369 => ?_)
          refine wpF_seg 1 (by kernel_rfl) ?_
          refine wpF_end _ (by kernel_rfl) (then_n (h_d [] (by kernel_rfl) [.blk b225 (.cells #[.bool (false), .slice none 0 0, .slice none 0 0, .slice none 0 0] 25), .blk b222 (.cells #[.bool (false), .slice none 0 0, .slice none 0 0, .slice none 0 0] 25)] hM369 no_held (VT.le.refl _) ?_))
          refine h_a (by kernel_rfl) (by kernel_rfl) (fun w370 X371 hM372 => ?_)
          refine wpF_seg 1 (by kernel_rfl) ?_
          refine wpF_end _ (by kernel_rfl) (then_n (h_d [] (by kernel_rfl) [.blk b225 (.cells #[.bool (false), .slice none 0 0, .slice none 0 0, .slice none 0 0] 25), .blk b222 (.cells #[.bool (false), .slice none 0 0, .slice none 0 0, .slice none 0 0] 25)] hM372 no_held (VT.le.refl _) ?_))
          refine h_seg 3 (by kernel_rfl) ?_
          refine h_n (fun w373 hM374 => ?_)
          refine  (then_n (hK270 _ _ ?_))
          refine wp_cf (by kernel_rfl) ?_
          refine wp_exit (then_x (then_x (blk_hit (then_n (hK261 _ _ ?_)))))
          obtain rfl : k = splitK true nk nv := splitK_is hs (by omega) (by omega) (by assumption) (by first | exact .inl (by omega) | exact .inr (spK_end (by omega) (by assumption)))
          refine wp_seq_k (fun K375 hK375 => ?_)
          refine wp_base [(1, .pointer (some ⟨b214, 0, none⟩)), (2, .pointer (some ⟨b222, 0, none⟩)), (3, bs ([])), (4, .pointer (some ⟨b225, 0, none⟩)), (5, .bool (false)), (6, .int .i64 (0)), (8, .int .i64 (((splitK true nk nv) : Int)))] (by kernel_rfl) (fun g376 => ?_)
          refine wp_drawN hM374 [] no_held [] [0, 1, 3, 4, 5, 6, 7, 8, 9, 10, 11, 12, 13, 14] [.a 2, .a 15, .a 16, .p 17, .a 18, .p 19] [.p 0, .p 1, .p 3, .p 4, .p 5, .p 6, .p 7, .p 8, .p 9, .p 10, .p 11, .p 12, .p 13, .p 14, .s, .a 2, .a 15, .a 16, .p 17, .a 18, .p 19] rfl (by kernel_rfl) (by kernel_rfl) ?_
          refine gH (.load 25 (.tmp 1)) (some 42) (by kernel_rfl) (Y_loadB #[.bool (true), .slice Ank (nk).length cnk, .slice Anv (nv).length cnv, .slice Anc (nc).length cnc] (fun i v hi => (le237.trans le267) _ _ _ (hc220 i v hi)) (off := 0) (by kernel_rfl) (.agg #[.bool (true), .slice Ank (nk).length cnk, .slice Anv (nv).length cnv, .slice Anc (nc).length cnc]) (by kernel_rfl)) ?_
          refine h_seg 2 (by kernel_rfl) ?_
          refine gH (.load 22 (.tmp 45)) (some 46) (by kernel_rfl) (Y_loadB #[.bool (true), .slice Ank (nk).length cnk, .slice Anv (nv).length cnv, .slice Anc (nc).length cnc] (fun i v hi => (le237.trans le267) _ _ _ (hc220 i v hi)) (off := 1) (by kernel_rfl) (.slice Ank (nk).length cnk) (by kernel_rfl)) ?_
          refine h_seg 1 (by kernel_rfl) ?_
          refine gH_index (A := Ank) (c := cnk) (hnk.up hM374.le) .i64 (((splitK true nk nv) : Int)) (h := (by kernel_rfl : opAt _ _ _ _ _ = some (.indexAddr 22 (.tmp 46) (.tmp 47), some 48))) (e := 9) (by kernel_rfl) (by kernel_rfl) (by kernel_rfl) ((splitK true nk nv)) rfl (by omega) (fun b377 o378 at_b377 => ?_)
          have c379 : Vl262 b377 o378 = some (bs (nk.getD ((splitK true nk nv)) [])) := (At.str at_b377).1
          have l380 : (nk.getD ((splitK true nk nv)) []).length ≤ 140737488355328 := (At.str at_b377).2
          refine gH (.load 9 (.tmp 48)) (some 49) (by kernel_rfl) (Y_loadV c379 (by kernel_rfl) (by kernel_rfl)) ?_
          refine gH (.load 25 (.tmp 1)) (some 50) (by kernel_rfl) (Y_loadB #[.bool (true), .slice Ank (nk).length cnk, .slice Anv (nv).length cnv, .slice Anc (nc).length cnc] (fun i v hi => (le237.trans le267) _ _ _ (hc220 i v hi)) (off := 0) (by kernel_rfl) (.agg #[.bool (true), .slice Ank (nk).length cnk, .slice Anv (nv).length cnv, .slice Anc (nc).length cnc]) (by kernel_rfl)) ?_
          refine h_seg 2 (by kernel_rfl) ?_
          refine gH (.binOp .add 3 (.tmp 51) (.tmp 52) 3) (some 53) (by kernel_rfl) (Y_add .i64 (((splitK true nk nv) : Int)) (0) (((splitK true nk nv) : Int) + 0) (by kernel_rfl) (by kernel_rfl) (wrap64_ok _ (by omega))) ?_
          refine h_seg 1 (by kernel_rfl) ?_
          refine gH (.load 22 (.tmp 54)) (some 55) (by kernel_rfl) (Y_loadB #[.bool (true), .slice Ank (nk).length cnk, .slice Anv (nv).length cnv, .slice Anc (nc).length cnc] (fun i v hi => (le237.trans le267) _ _ _ (hc220 i v hi)) (off := 1) (by kernel_rfl) (.slice Ank (nk).length cnk) (by kernel_rfl)) ?_
          refine h_seg 1 (by kernel_rfl) ?_
          refine h_s no_fs ?_
          refine h_a (by kernel_rfl) (by kernel_rfl) (fun w381 X382 hM383 => ?_)
          refine wpF_callP hM383 (f := 39) (caps := #[]) (h := (by kernel_rfl : opAt _ _ _ _ _ = some (.call (.mk (.value (.func 39)) #[(.tmp 42), (.const (.int .i64 0)), (.tmp 43)] #[25, 3, 3]), some 44))) (by kernel_rfl) (by kernel_rfl) (by kernel_rfl) (f39 _ _ hM383.inW (true) Ank cnk (nk) (hnk.up hM383.le) Anv cnv (nv) (hnv.up hM383.le) Anc cnc (nc) (hnc.up hM383.le) (0) ((splitK true nk nv)) (by omega) (by omega) (by intro h_; have := (stands_fit hs).1 h_; omega) (by intro h_; have := (stands_fit hs).2 h_; omega) (by omega) (by omega) (by omega)) (fun v384 V385 w386 le387 hM388 hp389 => ?_)
          obtain ⟨Ar389_1, cr389_1, Ar389_2, cr389_2, Ar389_3, cr389_3, rfl, r390, r391, r392⟩ := hp389
          have l393 : (((nk).take ((splitK true nk nv))).drop (0)).length ≤ 140737488355328 := r390.max
          have l394 : (partV (true) (nv) (0) ((splitK true nk nv))).length ≤ 140737488355328 := r391.max
          have l395 : (partC (true) (nc) (0) ((splitK true nk nv))).length ≤ 140737488355328 := r392.max
          refine wpF_end _ (by kernel_rfl) (then_n (h_d [] (by kernel_rfl) [.blk b225 (.cells #[.bool (false), .slice none 0 0, .slice none 0 0, .slice none 0 0] 25), .blk b222 (.cells #[.bool (false), .slice none 0 0, .slice none 0 0, .slice none 0 0] 25)] hM388 no_held le387 ?_))
          refine h_a (by kernel_rfl) (by kernel_rfl) (fun w396 X397 hM398 => ?_)
          refine wpF_callP hM398 (f := 39) (caps := #[]) (h := (by kernel_rfl : opAt _ _ _ _ _ = some (.call (.mk (.value (.func 39)) #[(.tmp 50), (.tmp 53), (.tmp 56)] #[25, 3, 3]), some 57))) (by kernel_rfl) (by kernel_rfl) (by kernel_rfl) (f39 _ _ hM398.inW (true) Ank cnk (nk) (hnk.up hM398.le) Anv cnv (nv) (hnv.up hM398.le) Anc cnc (nc) (hnc.up hM398.le) ((splitK true nk nv) + 0) (nk.length) (by omega) (by omega) (by intro h_; have := (stands_fit hs).1 h_; omega) (by intro h_; have := (stands_fit hs).2 h_; omega) (by omega) (by omega) (by omega)) (fun v399 V400 w401 le402 hM403 hp404 => ?_)
          obtain ⟨Ar404_1, cr404_1, Ar404_2, cr404_2, Ar404_3, cr404_3, rfl, r405, r406, r407⟩ := hp404
          have l408 : (((nk).take (nk.length)).drop ((splitK true nk nv) + 0)).length ≤ 140737488355328 := r405.max
          have l409 : (partV (true) (nv) ((splitK true nk nv) + 0) (nk.length)).length ≤ 140737488355328 := r406.max
          have l410 : (partC (true) (nc) ((splitK true nk nv) + 0) (nk.length)).length ≤ 140737488355328 := r407.max
          refine wpF_end _ (by kernel_rfl) (then_n (h_d [] (by kernel_rfl) [.blk b225 (.cells #[.bool (false), .slice none 0 0, .slice none 0 0, .slice none 0 0] 25), .blk b222 (.cells #[.bool (false), .slice none 0 0, .slice none 0 0, .slice none 0 0] 25)] hM403 no_held le402 ?_))
          refine h_a (by kernel_rfl) (by kernel_rfl) (fun w411 X412 hM413 => ?_)
          refine wpF_store hM413 1 rfl (h := (by kernel_rfl : opAt _ _ _ _ _ = some (.store 25 (.tmp 2) (.tmp 44), none))) (off := 0) (by kernel_rfl) #[.bool (true), .slice Ar389_1 (((nk).take ((splitK true nk nv))).drop (0)).length cr389_1, .slice Ar389_2 (partV (true) (nv) (0) ((splitK true nk nv))).length cr389_2, .slice Ar389_3 (partC (true) (nc) (0) ((splitK true nk nv))).length cr389_3] (by kernel_rfl) (by kernel_rfl) (by kernel_rfl) (by kernel_rfl) (fun w415 hM414 => ?_)
          have hM416 : Step V w [] V400 _ ([.blk b225 (.cells #[.bool (false), .slice none 0 0, .slice none 0 0, .slice none 0 0] 25), .blk b222 (.cells #[.bool (true), .slice Ar389_1 (((nk).take ((splitK true nk nv))).drop (0)).length cr389_1, .slice Ar389_2 (partV (true) (nv) (0) ((splitK true nk nv))).length cr389_2, .slice Ar389_3 (partC (true) (nc) (0) ((splitK true nk nv))).length cr389_3] 25)] ++ X412) := hM414
          refine wpF_end _ (by kernel_rfl) (then_n (h_d [] (by kernel_rfl) [.blk b225 (.cells #[.bool (false), .slice none 0 0, .slice none 0 0, .slice none 0 0] 25), .blk b222 (.cells #[.bool (true), .slice Ar389_1 (((nk).take ((splitK true nk nv))).drop (0)).length cr389_1, .slice Ar389_2 (partV (true) (nv) (0) ((splitK true nk nv))).length cr389_2, .slice Ar389_3 (partC (true) (nc) (0) ((splitK true nk nv))).length cr389_3] 25)] hM416 no_held (VT.le.refl _) ?_))
          refine h_seg 1 (by kernel_rfl) ?_
          refine h_a (by kernel_rfl) (by kernel_rfl) (fun w417 X418 hM419 => ?_)
          refine wpF_store hM419 0 rfl (h := (by kernel_rfl : opAt _ _ _ _ _ = some (.store 25 (.tmp 4) (.tmp 57), none))) (off := 0) (by kernel_rfl) #[.bool (true), .slice Ar404_1 (((nk).take (nk.length)).drop ((splitK true nk nv) + 0)).length cr404_1, .slice Ar404_2 (partV (true) (nv) ((splitK true nk nv) + 0) (nk.length)).length cr404_2, .slice Ar404_3 (partC (true) (nc) ((splitK true nk nv) + 0) (nk.length)).length cr404_3] (by kernel_rfl) (by kernel_rfl) (by kernel_rfl) (by kernel_rfl) (fun w421 hM420 => ?_)
          have hM422 : Step V w [] V400 _ ([.blk b225 (.cells #[.bool (true), .slice Ar404_1 (((nk).take (nk.length)).drop ((splitK true nk nv) + 0)).length cr404_1, .slice Ar404_2 (partV (true) (nv) ((splitK true nk nv) + 0) (nk.length)).length cr404_2, .slice Ar404_3 (partC (true) (nc) ((splitK true nk nv) + 0) (nk.length)).length cr404_3] 25), .blk b222 (.cells #[.bool (true), .slice Ar389_1 (((nk).take ((splitK true nk nv))).drop (0)).length cr389_1, .slice Ar389_2 (partV (true) (nv) (0) ((splitK true nk nv))).length cr389_2, .slice Ar389_3 (partC (true) (nc) (0) ((splitK true nk nv))).length cr389_3] 25)] ++ X418) := hM420
          refine wpF_end _ (by kernel_rfl) (then_n (h_d [] (by kernel_rfl) [.blk b225 (.cells #[.bool (true), .slice Ar404_1 (((nk).take (nk.length)).drop ((splitK true nk nv) + 0)).length cr404_1, .slice Ar404_2 (partV (true) (nv) ((splitK true nk nv) + 0) (nk.length)).length cr404_2, .slice Ar404_3 (partC (true) (nc) ((splitK true nk nv) + 0) (nk.length)).length cr404_3] 25), .blk b222 (.cells #[.bool (true), .slice Ar389_1 (((nk).take ((splitK true nk nv))).drop (0)).length cr389_1, .slice Ar389_2 (partV (true) (nv) (0) ((splitK true nk nv))).length cr389_2, .slice Ar389_3 (partC (true) (nc) (0) ((splitK true nk nv))).length cr389_3] 25)] hM422 no_held (VT.le.refl _) ?_))
          refine h_seg 1 (by kernel_rfl) ?_
          refine h_n (fun w423 hM424 => ?_)
          refine  (then_n (hK375 _ _ ?_))
          refine wp_ret ?_
          refine retN [.agg #[.bool (true), .slice Ar389_1 (((nk).take ((splitK true nk nv))).drop (0)).length cr389_1, .slice Ar389_2 (partV (true) (nv) (0) ((splitK true nk nv))).length cr389_2, .slice Ar389_3 (partC (true) (nc) (0) ((splitK true nk nv))).length cr389_3], bs ((nk.getD ((splitK true nk nv)) [])), .agg #[.bool (true), .slice Ar404_1 (((nk).take (nk.length)).drop ((splitK true nk nv) + 0)).length cr404_1, .slice Ar404_2 (partV (true) (nv) ((splitK true nk nv) + 0) (nk.length)).length cr404_2, .slice Ar404_3 (partC (true) (nc) ((splitK true nk nv) + 0) (nk.length)).length cr404_3], .bool (true)] (.tuple #[.agg #[.bool (true), .slice Ar389_1 (((nk).take ((splitK true nk nv))).drop (0)).length cr389_1, .slice Ar389_2 (partV (true) (nv) (0) ((splitK true nk nv))).length cr389_2, .slice Ar389_3 (partC (true) (nc) (0) ((splitK true nk nv))).length cr389_3], bs ((nk.getD ((splitK true nk nv)) [])), .agg #[.bool (true), .slice Ar404_1 (((nk).take (nk.length)).drop ((splitK true nk nv) + 0)).length cr404_1, .slice Ar404_2 (partV (true) (nv) ((splitK true nk nv) + 0) (nk.length)).length cr404_2, .slice Ar404_3 (partC (true) (nc) ((splitK true nk nv) + 0) (nk.length)).length cr404_3], .bool (true)]) Try.results20 (.cell (by kernel_rfl) (by kernel_rfl) hM424 1 rfl (by kernel_rfl) (.tmp (by kernel_rfl) (by kernel_rfl) (.cell (by kernel_rfl) (by kernel_rfl) hM424 0 rfl (by kernel_rfl) (.tmp (by kernel_rfl) (by kernel_rfl) .nil)))) (by kernel_rfl) (hRet _ _ ⟨_, _, rfl, hM424.clear, ?_⟩)
          -- end TffLf
          have hok : splitOk true nk nv nc = true := (by simp only [splitOk, h240, h249, h250, h272, cond_true, cond_false, Bool.not_false, Bool.and_self])
          obtain ⟨e1, e2, e3, e4, e5, e6, e7, e8⟩ := sp_yes hok (k := splitK true nk nv) rfl
          refine ⟨Ar389_1, cr389_1, Ar389_2, cr389_2, Ar389_3, cr389_3, Ar404_1, cr404_1, Ar404_2, cr404_2, Ar404_3, cr404_3, ?_, ?_, ?_, ?_, ?_, ?_, ?_⟩
          · simp only [e1, e2, e3, e4, e5, e6, e7, e8, hok] <;> rfl
          · first | exact (r390.up le402) | (exact Rd.eq (r390.up le402) (by first | exact e2.symm | exact e3.symm | exact e4.symm | exact e6.symm | exact e7.symm | exact e8.symm))
          · first | exact (r391.up le402) | (exact Rd.eq (r391.up le402) (by first | exact e2.symm | exact e3.symm | exact e4.symm | exact e6.symm | exact e7.symm | exact e8.symm))
          · first | exact (r392.up le402) | (exact Rd.eq (r392.up le402) (by first | exact e2.symm | exact e3.symm | exact e4.symm | exact e6.symm | exact e7.symm | exact e8.symm))
          · first | exact r405 | (exact Rd.eq r405 (by first | exact e2.symm | exact e3.symm | exact e4.symm | exact e6.symm | exact e7.symm | exact e8.symm))
          · first | exact r406 | (exact Rd.eq r406 (by first | exact e2.symm | exact e3.symm | exact e4.symm | exact e6.symm | exact e7.symm | exact e8.symm))
          · first | exact r407 | (exact Rd.eq r407 (by first | exact e2.symm | exact e3.symm | exact e4.symm | exact e6.symm | exact e7.symm | exact e8.symm))

end Go.Vk
