/- Contracts of the page's functions, part P: printed by wip/tools/p8.py. -/
import Derived.Test.YtpaljghjoajhfaaRPlain
set_option linter.unusedVariables false
set_option linter.unusedSimpArgs false
namespace Go.Vk
open Go.Proofs
set_option maxHeartbeats 4000000 in
set_option maxRecDepth 100000 in
theorem f50 (V : VT) (w : World) (hV : V.inW w) (Al : Option Addr) (cl : Nat) (l : List Str) (hl : Rd strK V Al cl l) (h5 : l.length ≤ 100000) :
    Calls Try.prog 50 #[.slice Al (l).length cl] w (Ret V w [] fun rv V' E' => ∃ (A1 : Option Addr), ∃ (c1 : Nat), rv = .slice A1 (l).length c1 ∧ E' = [.row strK 9 A1 c1 (l)]) := by
  have mxl : l.length ≤ 140737488355328 := hl.max
  refine calls_env (n := 8) Try.func50 (c := _) rfl Try.ntmps50 (by kernel_rfl) (fun R hRet => ?_)
  have hM0 : Step V w [] V w [] := Step.refl (St.nilE hV)
  refine wp_seq_k (fun K1 hK1 => ?_)
  refine wp_reg ?_
  refine wpF_seg 1 (by kernel_rfl) ?_
  refine wpF_end _ (by kernel_rfl) (then_n (hK1 _ _ ?_))
  refine wp_seq_k (fun K2 hK2 => ?_)
  refine wp_seq_k (fun K3 hK3 => ?_)
  refine wp_reg ?_
  refine wpF_seg 1 (by kernel_rfl) ?_
  refine gF hM0 (.binOp .eql 22 (.tmp 3) (.const (.slice none 0 0)) 22) (some 4) (by kernel_rfl) (Y_eql (.slice Al (l).length cl) (.slice none 0 0) (Al.isNone) (by kernel_rfl) (by kernel_rfl) (by kernel_rfl)) ?_
  refine wpF_end _ (by kernel_rfl) (then_n (hK3 _ _ ?_))
  refine wp_if (Al.isNone) (by kernel_rfl) (fun h4 => ?_) (fun h4 => ?_)
  · -- t
    have e0 : l = [] := Rd.isNil hl (by assumption)
    refine wp_seq_k (fun K5 hK5 => ?_)
    refine wp_reg ?_
    refine wpF_seg 1 (by kernel_rfl) ?_
    refine wpF_end _ (by kernel_rfl) (then_n (hK5 _ _ ?_))
    refine wp_ret (then_r (?_))
    have hM6 := hM0.nilrow strK 9
    have hM7 : Step V w [] V _ ([.row strK 9 none 0 (([] : List Str))]) := hM6
    have hM8 := hM7.front 0 rfl
    have hM9 : Step V w [] V _ ([.row strK 9 none 0 (([] : List Str))]) := hM8
    refine retN [.slice none 0 0] (.slice none 0 0) Try.results50 (.tmp (by kernel_rfl) (by kernel_rfl) .nil) (by kernel_rfl) (hRet _ _ ⟨_, _, _, rfl, hM9, ?_⟩)
    -- end t
    refine ⟨none, 0, ?_, ?_⟩
    · first | rfl | (rw [e0]; rfl)
    · first | rfl | (rw [e0])
  · -- f
    refine wp_skip (then_n (hK2 _ _ ?_))
    refine wp_seq_k (fun K10 hK10 => ?_)
    refine wp_reg ?_
    refine wpF_litW strK hM0 #[] (h := (by kernel_rfl : opAt _ _ _ _ _ = some (.buildSlice 22 0 #[], some 5))) (e := 9) (by kernel_rfl) (([] : List Str)) Reps.nils rfl (by simp [maxL]) (fun A11 c12 w13 hM14 => ?_)
    refine wpF_seg 1 (by kernel_rfl) ?_
    refine wpF_append (by_ := 16) hM14 0 rfl (h := (by kernel_rfl : opAt _ _ _ _ _ = some (.call (.mk (.builtin .append) #[(.tmp 5), (.tmp 6)] #[22, 22]), some 7))) (by kernel_rfl) (by kernel_rfl) (by kernel_rfl) (by kernel_rfl) (by kernel_rfl) (by kernel_rfl) (by kernel_rfl) (Src.rd hl) (by first | omega | (simp only [List.length_append, List.length_cons, List.length_nil, List.length_take, List.length_drop]; omega)) (fun A15 c16 w17 hM18 => ?_)
    have hM19 : Step V w [] V _ ([.row strK 9 A15 c16 (l)]) := hM18
    refine wpF_seg 1 (by kernel_rfl) ?_
    refine wpF_end _ (by kernel_rfl) (then_n (hK10 _ _ ?_))
    refine wp_ret ?_
    have hM20 := hM19.front 0 rfl
    have hM21 : Step V w [] V _ ([.row strK 9 A15 c16 (l)]) := hM20
    refine retN [.slice A15 (l).length c16] (.slice A15 (l).length c16) Try.results50 (.tmp (by kernel_rfl) (by kernel_rfl) .nil) (by kernel_rfl) (hRet _ _ ⟨_, _, _, rfl, hM21, ?_⟩)
    -- end f
    refine ⟨A15, c16, ?_, ?_⟩
    · first | rfl | (rw [e0]; rfl)
    · first | rfl | (rw [e0])

set_option maxHeartbeats 4000000 in
set_option maxRecDepth 100000 in
theorem f62 (V : VT) (w : World) (hV : V.inW w) (Al : Option Addr) (cl : Nat) (l : List Int) (hl : Rd (intK .i64) V Al cl l) (h5 : l.length ≤ 100000) :
    Calls Try.prog 62 #[.slice Al (l).length cl] w (Ret V w [] fun rv V' E' => ∃ (A1 : Option Addr), ∃ (c1 : Nat), rv = .slice A1 (l).length c1 ∧ E' = [.row (intK .i64) 3 A1 c1 (l)]) := by
  have mxl : l.length ≤ 140737488355328 := hl.max
  refine calls_env (n := 8) Try.func62 (c := _) rfl Try.ntmps62 (by kernel_rfl) (fun R hRet => ?_)
  have hM0 : Step V w [] V w [] := Step.refl (St.nilE hV)
  refine wp_seq_k (fun K1 hK1 => ?_)
  refine wp_reg ?_
  refine wpF_seg 1 (by kernel_rfl) ?_
  refine wpF_end _ (by kernel_rfl) (then_n (hK1 _ _ ?_))
  refine wp_seq_k (fun K2 hK2 => ?_)
  refine wp_seq_k (fun K3 hK3 => ?_)
  refine wp_reg ?_
  refine wpF_seg 1 (by kernel_rfl) ?_
  refine gF hM0 (.binOp .eql 23 (.tmp 3) (.const (.slice none 0 0)) 23) (some 4) (by kernel_rfl) (Y_eql (.slice Al (l).length cl) (.slice none 0 0) (Al.isNone) (by kernel_rfl) (by kernel_rfl) (by kernel_rfl)) ?_
  refine wpF_end _ (by kernel_rfl) (then_n (hK3 _ _ ?_))
  refine wp_if (Al.isNone) (by kernel_rfl) (fun h4 => ?_) (fun h4 => ?_)
  · -- t
    have e0 : l = [] := Rd.isNil hl (by assumption)
    refine wp_seq_k (fun K5 hK5 => ?_)
    refine wp_reg ?_
    refine wpF_seg 1 (by kernel_rfl) ?_
    refine wpF_end _ (by kernel_rfl) (then_n (hK5 _ _ ?_))
    refine wp_ret (then_r (?_))
    have hM6 := hM0.nilrow (intK .i64) 3
    have hM7 : Step V w [] V _ ([.row (intK .i64) 3 none 0 (([] : List Int))]) := hM6
    have hM8 := hM7.front 0 rfl
    have hM9 : Step V w [] V _ ([.row (intK .i64) 3 none 0 (([] : List Int))]) := hM8
    refine retN [.slice none 0 0] (.slice none 0 0) Try.results62 (.tmp (by kernel_rfl) (by kernel_rfl) .nil) (by kernel_rfl) (hRet _ _ ⟨_, _, _, rfl, hM9, ?_⟩)
    -- end t
    refine ⟨none, 0, ?_, ?_⟩
    · first | rfl | (rw [e0]; rfl)
    · first | rfl | (rw [e0])
  · -- f
    refine wp_skip (then_n (hK2 _ _ ?_))
    refine wp_seq_k (fun K10 hK10 => ?_)
    refine wp_reg ?_
    refine wpF_litW (intK .i64) hM0 #[] (h := (by kernel_rfl : opAt _ _ _ _ _ = some (.buildSlice 23 0 #[], some 5))) (e := 3) (by kernel_rfl) (([] : List Int)) Reps.nils rfl (by simp [maxL]) (fun A11 c12 w13 hM14 => ?_)
    refine wpF_seg 1 (by kernel_rfl) ?_
    refine wpF_append (by_ := 8) hM14 0 rfl (h := (by kernel_rfl : opAt _ _ _ _ _ = some (.call (.mk (.builtin .append) #[(.tmp 5), (.tmp 6)] #[23, 23]), some 7))) (by kernel_rfl) (by kernel_rfl) (by kernel_rfl) (by kernel_rfl) (by kernel_rfl) (by kernel_rfl) (by kernel_rfl) (Src.rd hl) (by first | omega | (simp only [List.length_append, List.length_cons, List.length_nil, List.length_take, List.length_drop]; omega)) (fun A15 c16 w17 hM18 => ?_)
    have hM19 : Step V w [] V _ ([.row (intK .i64) 3 A15 c16 (l)]) := hM18
    refine wpF_seg 1 (by kernel_rfl) ?_
    refine wpF_end _ (by kernel_rfl) (then_n (hK10 _ _ ?_))
    refine wp_ret ?_
    have hM20 := hM19.front 0 rfl
    have hM21 : Step V w [] V _ ([.row (intK .i64) 3 A15 c16 (l)]) := hM20
    refine retN [.slice A15 (l).length c16] (.slice A15 (l).length c16) Try.results62 (.tmp (by kernel_rfl) (by kernel_rfl) .nil) (by kernel_rfl) (hRet _ _ ⟨_, _, _, rfl, hM21, ?_⟩)
    -- end f
    refine ⟨A15, c16, ?_, ?_⟩
    · first | rfl | (rw [e0]; rfl)
    · first | rfl | (rw [e0])

set_option maxHeartbeats 4000000 in
set_option maxRecDepth 100000 in
theorem f38 (V : VT) (w : World) (hV : V.inW w) (nl : Bool) (Ank : Option Addr) (cnk : Nat) (nk : List Str) (hnk : Rd strK V Ank cnk nk) (Anv : Option Addr) (cnv : Nat) (nv : List Str) (hnv : Rd strK V Anv cnv nv) (Anc : Option Addr) (cnc : Nat) (nc : List Int) (hnc : Rd (intK .i64) V Anc cnc nc) (a : Nat) (b : Nat) (ha : a ≤ b) (hb : b ≤ nk.length) (hv : nl = true → b ≤ nv.length) (hc : nl = false → b + 1 ≤ nc.length) (hk5 : nk.length ≤ 50000) (hv5 : nv.length ≤ 50000) (hc5 : nc.length ≤ 50000) :
    Calls Try.prog 38 #[.agg #[.bool (nl), .slice Ank (nk).length cnk, .slice Anv (nv).length cnv, .slice Anc (nc).length cnc], .int .i64 ((a : Int)), .int .i64 ((b : Int))] w (RetP V w fun rv V' => ∃ (A1 : Option Addr), ∃ (c1 : Nat), ∃ (A2 : Option Addr), ∃ (c2 : Nat), ∃ (A3 : Option Addr), ∃ (c3 : Nat), rv = .agg #[.bool (nl), .slice A1 ((nk.take b).drop a).length c1, .slice A2 (partV nl nv a b).length c2, .slice A3 (partC nl nc a b).length c3] ∧ Rd strK V' A1 c1 ((nk.take b).drop a) ∧ Rd strK V' A2 c2 (partV nl nv a b) ∧ Rd (intK .i64) V' A3 c3 (partC nl nc a b)) := by
  have mxnk : nk.length ≤ 140737488355328 := hnk.max
  have mxnv : nv.length ≤ 140737488355328 := hnv.max
  have mxnc : nc.length ≤ 140737488355328 := hnc.max
  refine calls_env (n := 35) Try.func38 (c := _) rfl Try.ntmps38 (by kernel_rfl) (fun R hRet => ?_)
  have hM0 : Step V w [] V w [] := Step.refl (St.nilE hV)
  cases nl with
  | false =>
    have hc := hc rfl
    refine wp_seq_k (fun K1 hK1 => ?_)
    refine wp_reg ?_
    refine wpF_box hM0 #[.bool (false), .slice Ank (nk).length cnk, .slice Anv (nv).length cnv, .slice Anc (nc).length cnc] (h := (by kernel_rfl : opAt _ _ _ _ _ = some (.box 25 (.tmp 0), some 3))) (by kernel_rfl) (fun b2 w3 hM4 => ?_)
    obtain ⟨V5, le6, hM7, hc8⟩ := hM4.settle 0 rfl
    have hM9 : Step V w [] V5 _ ([]) := hM7
    refine wpF_alloc hM9 #[.bool (false), .slice none 0 0, .slice none 0 0, .slice none 0 0] (h := (by kernel_rfl : opAt _ _ _ _ _ = some (.alloc 25, some 6))) (by kernel_rfl) (fun b10 w11 hM12 => ?_)
    refine wpF_end _ (by kernel_rfl) (then_n (hK1 _ _ ?_))
    refine wp_seq_k (fun K13 hK13 => ?_)
    refine wp_base [(1, .int .i64 ((a : Int))), (2, .int .i64 ((b : Int))), (3, .pointer (some ⟨b2, 0, none⟩)), (6, .pointer (some ⟨b10, 0, none⟩))] (by kernel_rfl) (fun g14 => ?_)
    refine wp_drawN hM12 [] no_held [⟨9, fun b_ => .pointer (some ⟨b_, 0, none⟩), #[.bool (false), .slice none 0 0, .slice none 0 0, .slice none 0 0], 25⟩] [0, 1, 2, 3, 4, 5, 6] [.a 7, .p 8, .f 9, .a 10] [.p 0, .p 1, .p 2, .p 3, .p 4, .p 5, .p 6, .s, .a 7, .p 8, .f 9, .a 10] rfl (by kernel_rfl) (by kernel_rfl) ?_
    refine h_seg 1 (by kernel_rfl) ?_
    refine gH (.load 4 (.tmp 8)) (some 9) (by kernel_rfl) (Y_loadB #[.bool (false), .slice Ank (nk).length cnk, .slice Anv (nv).length cnv, .slice Anc (nc).length cnc] hc8 (off := 0) (by kernel_rfl) (.bool (false)) (by kernel_rfl)) ?_
    refine h_seg 1 (by kernel_rfl) ?_
    refine gH (.load 22 (.tmp 10)) (some 11) (by kernel_rfl) (Y_loadB #[.bool (false), .slice Ank (nk).length cnk, .slice Anv (nv).length cnv, .slice Anc (nc).length cnc] hc8 (off := 1) (by kernel_rfl) (.slice Ank (nk).length cnk) (by kernel_rfl)) ?_
    refine h_seg 2 (by kernel_rfl) ?_
    refine gH_slice (A := Ank) (c := cnk) (hnk.up hM12.le) (h := (by kernel_rfl : opAt _ _ _ _ _ = some (.slice 22 (.tmp 11) (some (.tmp 12)) (some (.tmp 13)) none, some 14))) (e := 9) (by kernel_rfl) (by kernel_rfl) (a) (b) ⟨.i64, by kernel_rfl⟩ ⟨.i64, by kernel_rfl⟩ (by omega) (by omega) ((nk.take (b)).drop (a)) rfl (fun A15 c16 r17 => ?_)
    refine h_s (and_fs (fre_alloc (h := (by kernel_rfl : opAt _ _ _ _ _ = some (.alloc 25, some 7))) (by kernel_rfl)) no_fs) ?_
    refine h_a (by kernel_rfl) (by kernel_rfl) (fun w18 X19 hM20 => ?_)
    have hM28 : Step V w [] V5 _ ([.blk b10 (.cells #[.bool (false), .slice none 0 0, .slice none 0 0, .slice none 0 0] 25)] ++ X19) := hM20
    refine wpF_callE [] ([.blk b10 (.cells #[.bool (false), .slice none 0 0, .slice none 0 0, .slice none 0 0] 25)] ++ X19) hM28 (f := 50) (caps := #[]) (h := (by kernel_rfl : opAt _ _ _ _ _ = some (.call (.mk (.value (.func 50)) #[(.tmp 14)] #[22]), some 15))) (by kernel_rfl) (by kernel_rfl) (by kernel_rfl) (f50 _ _ hM28.inW A15 c16 ((nk.take (b)).drop (a)) r17 (by first | omega | (simp only [List.length_append, List.length_cons, List.length_nil, List.length_take, List.length_drop]; omega))) (fun v21 V22 w23 Eo24 le25 hM26 hp27 => ?_)
    obtain ⟨Ar28_1, cr28_1, rfl, rfl⟩ := hp27
    have hM29 : Step V w [] V22 _ ([.row strK 9 Ar28_1 cr28_1 (((nk.take (b)).drop (a))), .blk b10 (.cells #[.bool (false), .slice none 0 0, .slice none 0 0, .slice none 0 0] 25)] ++ X19) := hM26
    refine wpF_end _ (by kernel_rfl) (then_n (h_d [] (by kernel_rfl) [.row strK 9 Ar28_1 cr28_1 (((nk.take (b)).drop (a))), .blk b10 (.cells #[.bool (false), .slice none 0 0, .slice none 0 0, .slice none 0 0] 25)] hM29 no_held le25 ?_))
    refine h_seg 1 (by kernel_rfl) ?_
    refine h_f (d := 7) ⟨9, fun b_ => .pointer (some ⟨b_, 0, none⟩), #[.bool (false), .slice none 0 0, .slice none 0 0, .slice none 0 0], 25⟩ (by kernel_rfl) (by kernel_rfl) (by kernel_rfl) (fun b30 => ?_)
    refine h_a (by kernel_rfl) (by kernel_rfl) (fun w31 X32 hM33 => ?_)
    refine wpF_store hM33 0 rfl (h := (by kernel_rfl : opAt _ _ _ _ _ = some (.store 25 (.tmp 7) (.tmp 16), none))) (off := 0) (by kernel_rfl) #[.bool (false), .slice Ar28_1 (((nk.take (b)).drop (a))).length cr28_1, .slice none 0 0, .slice none 0 0] (by kernel_rfl) (by kernel_rfl) (by kernel_rfl) (by kernel_rfl) (fun w35 hM34 => ?_)
    have hM36 : Step V w [] V22 _ ([.blk b30 (.cells #[.bool (false), .slice Ar28_1 (((nk.take (b)).drop (a))).length cr28_1, .slice none 0 0, .slice none 0 0] 25), .row strK 9 Ar28_1 cr28_1 (((nk.take (b)).drop (a))), .blk b10 (.cells #[.bool (false), .slice none 0 0, .slice none 0 0, .slice none 0 0] 25)] ++ X32) := hM34
    refine wpF_end _ (by kernel_rfl) (then_n (h_d [] (by kernel_rfl) [.blk b30 (.cells #[.bool (false), .slice Ar28_1 (((nk.take (b)).drop (a))).length cr28_1, .slice none 0 0, .slice none 0 0] 25), .row strK 9 Ar28_1 cr28_1 (((nk.take (b)).drop (a))), .blk b10 (.cells #[.bool (false), .slice none 0 0, .slice none 0 0, .slice none 0 0] 25)] hM36 no_held (VT.le.refl _) ?_))
    refine h_n (fun w37 hM38 => ?_)
    refine  (then_n (hK13 _ _ ?_))
    refine wp_seq_k (fun K39 hK39 => ?_)
    refine wp_seq_k (fun K40 hK40 => ?_)
    refine wp_reg ?_
    refine wpF_seg 1 (by kernel_rfl) ?_
    refine gF hM38 (.load 4 (.tmp 17)) (some 18) (by kernel_rfl) (Y_loadB #[.bool (false), .slice Ank (nk).length cnk, .slice Anv (nv).length cnv, .slice Anc (nc).length cnc] (fun i v hi => le25 _ _ _ (hc8 i v hi)) (off := 0) (by kernel_rfl) (.bool (false)) (by kernel_rfl)) ?_
    refine wpF_end _ (by kernel_rfl) (then_n (hK40 _ _ ?_))
    refine wp_cf (by kernel_rfl) ?_
    refine wp_reg ?_
    refine wpF_seg 1 (by kernel_rfl) ?_
    refine gF hM38 (.load 23 (.tmp 26)) (some 27) (by kernel_rfl) (Y_loadB #[.bool (false), .slice Ank (nk).length cnk, .slice Anv (nv).length cnv, .slice Anc (nc).length cnc] (fun i v hi => le25 _ _ _ (hc8 i v hi)) (off := 3) (by kernel_rfl) (.slice Anc (nc).length cnc) (by kernel_rfl)) ?_
    refine wpF_seg 2 (by kernel_rfl) ?_
    refine gF hM38 (.binOp .add 3 (.tmp 29) (.const (.int .i64 1)) 3) (some 30) (by kernel_rfl) (Y_add .i64 ((b : Int)) (1) ((b : Int) + 1) (by kernel_rfl) (by kernel_rfl) (wrap64_ok _ (by omega))) ?_
    refine gF_slice (A := Anc) (c := cnc) (hnc.up hM38.le) (h := (by kernel_rfl : opAt _ _ _ _ _ = some (.slice 23 (.tmp 27) (some (.tmp 28)) (some (.tmp 30)) none, some 31))) (e := 3) (by kernel_rfl) (by kernel_rfl) (a) (b + 1) ⟨.i64, by kernel_rfl⟩ ⟨.i64, by rw [show ((b + 1 : Nat) : Int) = (b : Int) + 1 from by omega]; kernel_rfl⟩ (by omega) (by omega) ((nc.take (b + 1)).drop (a)) rfl (fun A41 c42 r43 => ?_)
    have hM51 : Step V w [] V22 _ ([.blk b30 (.cells #[.bool (false), .slice Ar28_1 (((nk.take (b)).drop (a))).length cr28_1, .slice none 0 0, .slice none 0 0] 25), .row strK 9 Ar28_1 cr28_1 (((nk.take (b)).drop (a))), .blk b10 (.cells #[.bool (false), .slice none 0 0, .slice none 0 0, .slice none 0 0] 25)]) := hM38
    refine wpF_callE [] ([.blk b30 (.cells #[.bool (false), .slice Ar28_1 (((nk.take (b)).drop (a))).length cr28_1, .slice none 0 0, .slice none 0 0] 25), .row strK 9 Ar28_1 cr28_1 (((nk.take (b)).drop (a))), .blk b10 (.cells #[.bool (false), .slice none 0 0, .slice none 0 0, .slice none 0 0] 25)]) hM51 (f := 62) (caps := #[]) (h := (by kernel_rfl : opAt _ _ _ _ _ = some (.call (.mk (.value (.func 62)) #[(.tmp 31)] #[23]), some 32))) (by kernel_rfl) (by kernel_rfl) (by kernel_rfl) (f62 _ _ hM51.inW A41 c42 ((nc.take (b + 1)).drop (a)) r43 (by first | omega | (simp only [List.length_append, List.length_cons, List.length_nil, List.length_take, List.length_drop]; omega))) (fun v44 V45 w46 Eo47 le48 hM49 hp50 => ?_)
    obtain ⟨Ar51_1, cr51_1, rfl, rfl⟩ := hp50
    have hM52 : Step V w [] V45 _ ([.row (intK .i64) 3 Ar51_1 cr51_1 (((nc.take (b + 1)).drop (a))), .blk b30 (.cells #[.bool (false), .slice Ar28_1 (((nk.take (b)).drop (a))).length cr28_1, .slice none 0 0, .slice none 0 0] 25), .row strK 9 Ar28_1 cr28_1 (((nk.take (b)).drop (a))), .blk b10 (.cells #[.bool (false), .slice none 0 0, .slice none 0 0, .slice none 0 0] 25)]) := hM49
    refine wpF_seg 1 (by kernel_rfl) ?_
    refine wpF_store hM52 1 rfl (h := (by kernel_rfl : opAt _ _ _ _ _ = some (.store 23 (.tmp 33) (.tmp 32), none))) (off := 3) (by kernel_rfl) #[.slice Ar51_1 (((nc.take (b + 1)).drop (a))).length cr51_1] (by kernel_rfl) (by kernel_rfl) (by kernel_rfl) (by kernel_rfl) (fun w54 hM53 => ?_)
    have hM55 : Step V w [] V45 _ ([.row (intK .i64) 3 Ar51_1 cr51_1 (((nc.take (b + 1)).drop (a))), .blk b30 (.cells #[.bool (false), .slice Ar28_1 (((nk.take (b)).drop (a))).length cr28_1, .slice none 0 0, .slice Ar51_1 (((nc.take (b + 1)).drop (a))).length cr51_1] 25), .row strK 9 Ar28_1 cr28_1 (((nk.take (b)).drop (a))), .blk b10 (.cells #[.bool (false), .slice none 0 0, .slice none 0 0, .slice none 0 0] 25)]) := hM53
    refine wpF_end _ (by kernel_rfl) (then_n (hK39 _ _ ?_))
    refine wp_seq_k (fun K56 hK56 => ?_)
    refine wp_reg ?_
    refine gF hM55 (.load 25 (.tmp 7)) (some 34) (by kernel_rfl) (Y_load 1 rfl (off := 0) (by kernel_rfl) (.agg #[.bool (false), .slice Ar28_1 (((nk.take (b)).drop (a))).length cr28_1, .slice none 0 0, .slice Ar51_1 (((nc.take (b + 1)).drop (a))).length cr51_1]) (by kernel_rfl)) ?_
    refine wpF_store hM55 3 rfl (h := (by kernel_rfl : opAt _ _ _ _ _ = some (.store 25 (.tmp 6) (.tmp 34), none))) (off := 0) (by kernel_rfl) #[.bool (false), .slice Ar28_1 (((nk.take (b)).drop (a))).length cr28_1, .slice none 0 0, .slice Ar51_1 (((nc.take (b + 1)).drop (a))).length cr51_1] (by kernel_rfl) (by kernel_rfl) (by kernel_rfl) (by kernel_rfl) (fun w58 hM57 => ?_)
    have hM59 : Step V w [] V45 _ ([.row (intK .i64) 3 Ar51_1 cr51_1 (((nc.take (b + 1)).drop (a))), .blk b30 (.cells #[.bool (false), .slice Ar28_1 (((nk.take (b)).drop (a))).length cr28_1, .slice none 0 0, .slice Ar51_1 (((nc.take (b + 1)).drop (a))).length cr51_1] 25), .row strK 9 Ar28_1 cr28_1 (((nk.take (b)).drop (a))), .blk b10 (.cells #[.bool (false), .slice Ar28_1 (((nk.take (b)).drop (a))).length cr28_1, .slice none 0 0, .slice Ar51_1 (((nc.take (b + 1)).drop (a))).length cr51_1] 25)]) := hM57
    refine wpF_end _ (by kernel_rfl) (then_n (hK56 _ _ ?_))
    refine wp_ret ?_
    obtain ⟨V60, le61, hM62, r63⟩ := hM59.settleRow 2 rfl
    have hM64 : Step V w [] V60 _ ([.row (intK .i64) 3 Ar51_1 cr51_1 (((nc.take (b + 1)).drop (a))), .blk b30 (.cells #[.bool (false), .slice Ar28_1 (((nk.take (b)).drop (a))).length cr28_1, .slice none 0 0, .slice Ar51_1 (((nc.take (b + 1)).drop (a))).length cr51_1] 25), .blk b10 (.cells #[.bool (false), .slice Ar28_1 (((nk.take (b)).drop (a))).length cr28_1, .slice none 0 0, .slice Ar51_1 (((nc.take (b + 1)).drop (a))).length cr51_1] 25)]) := hM62
    obtain ⟨V65, le66, hM67, r68⟩ := hM64.settleRow 0 rfl
    have hM69 : Step V w [] V65 _ ([.blk b30 (.cells #[.bool (false), .slice Ar28_1 (((nk.take (b)).drop (a))).length cr28_1, .slice none 0 0, .slice Ar51_1 (((nc.take (b + 1)).drop (a))).length cr51_1] 25), .blk b10 (.cells #[.bool (false), .slice Ar28_1 (((nk.take (b)).drop (a))).length cr28_1, .slice none 0 0, .slice Ar51_1 (((nc.take (b + 1)).drop (a))).length cr51_1] 25)]) := hM67
    refine retN [.agg #[.bool (false), .slice Ar28_1 (((nk.take (b)).drop (a))).length cr28_1, .slice none 0 0, .slice Ar51_1 (((nc.take (b + 1)).drop (a))).length cr51_1]] (.agg #[.bool (false), .slice Ar28_1 (((nk.take (b)).drop (a))).length cr28_1, .slice none 0 0, .slice Ar51_1 (((nc.take (b + 1)).drop (a))).length cr51_1]) Try.results38 (.cell (by kernel_rfl) (by kernel_rfl) hM69 1 rfl (by kernel_rfl) .nil) (by kernel_rfl) (hRet _ _ ⟨_, _, rfl, hM69.clear, ?_⟩)
    -- end F
    refine ⟨Ar28_1, cr28_1, none, 0, Ar51_1, cr51_1, ?_, ?_, ?_, ?_⟩
    · first | rfl | (simp only [partV, partC, cond_true, cond_false]; done) | (simp [partV, partC])
    · first | exact (r63.up le66) | (exact Rd.eq (r63.up le66) (by first | rfl | (simp [partV, partC])))
    · first | exact (Rd.nil _ _) | (exact Rd.eq (Rd.nil _ _) (by first | rfl | (simp [partV, partC])))
    · first | exact r68 | (exact Rd.eq r68 (by first | rfl | (simp [partV, partC])))
  | true =>
    have hv := hv rfl
    refine wp_seq_k (fun K70 hK70 => ?_)
    refine wp_reg ?_
    refine wpF_box hM0 #[.bool (true), .slice Ank (nk).length cnk, .slice Anv (nv).length cnv, .slice Anc (nc).length cnc] (h := (by kernel_rfl : opAt _ _ _ _ _ = some (.box 25 (.tmp 0), some 3))) (by kernel_rfl) (fun b71 w72 hM73 => ?_)
    obtain ⟨V74, le75, hM76, hc77⟩ := hM73.settle 0 rfl
    have hM78 : Step V w [] V74 _ ([]) := hM76
    refine wpF_alloc hM78 #[.bool (false), .slice none 0 0, .slice none 0 0, .slice none 0 0] (h := (by kernel_rfl : opAt _ _ _ _ _ = some (.alloc 25, some 6))) (by kernel_rfl) (fun b79 w80 hM81 => ?_)
    refine wpF_end _ (by kernel_rfl) (then_n (hK70 _ _ ?_))
    refine wp_seq_k (fun K82 hK82 => ?_)
    refine wp_base [(1, .int .i64 ((a : Int))), (2, .int .i64 ((b : Int))), (3, .pointer (some ⟨b71, 0, none⟩)), (6, .pointer (some ⟨b79, 0, none⟩))] (by kernel_rfl) (fun g83 => ?_)
    refine wp_drawN hM81 [] no_held [⟨9, fun b_ => .pointer (some ⟨b_, 0, none⟩), #[.bool (false), .slice none 0 0, .slice none 0 0, .slice none 0 0], 25⟩] [0, 1, 2, 3, 4, 5, 6] [.a 7, .p 8, .f 9, .a 10] [.p 0, .p 1, .p 2, .p 3, .p 4, .p 5, .p 6, .s, .a 7, .p 8, .f 9, .a 10] rfl (by kernel_rfl) (by kernel_rfl) ?_
    refine h_seg 1 (by kernel_rfl) ?_
    refine gH (.load 4 (.tmp 8)) (some 9) (by kernel_rfl) (Y_loadB #[.bool (true), .slice Ank (nk).length cnk, .slice Anv (nv).length cnv, .slice Anc (nc).length cnc] hc77 (off := 0) (by kernel_rfl) (.bool (true)) (by kernel_rfl)) ?_
    refine h_seg 1 (by kernel_rfl) ?_
    refine gH (.load 22 (.tmp 10)) (some 11) (by kernel_rfl) (Y_loadB #[.bool (true), .slice Ank (nk).length cnk, .slice Anv (nv).length cnv, .slice Anc (nc).length cnc] hc77 (off := 1) (by kernel_rfl) (.slice Ank (nk).length cnk) (by kernel_rfl)) ?_
    refine h_seg 2 (by kernel_rfl) ?_
    refine gH_slice (A := Ank) (c := cnk) (hnk.up hM81.le) (h := (by kernel_rfl : opAt _ _ _ _ _ = some (.slice 22 (.tmp 11) (some (.tmp 12)) (some (.tmp 13)) none, some 14))) (e := 9) (by kernel_rfl) (by kernel_rfl) (a) (b) ⟨.i64, by kernel_rfl⟩ ⟨.i64, by kernel_rfl⟩ (by omega) (by omega) ((nk.take (b)).drop (a)) rfl (fun A84 c85 r86 => ?_)
    refine h_s (and_fs (fre_alloc (h := (by kernel_rfl : opAt _ _ _ _ _ = some (.alloc 25, some 7))) (by kernel_rfl)) no_fs) ?_
    refine h_a (by kernel_rfl) (by kernel_rfl) (fun w87 X88 hM89 => ?_)
    have hM97 : Step V w [] V74 _ ([.blk b79 (.cells #[.bool (false), .slice none 0 0, .slice none 0 0, .slice none 0 0] 25)] ++ X88) := hM89
    refine wpF_callE [] ([.blk b79 (.cells #[.bool (false), .slice none 0 0, .slice none 0 0, .slice none 0 0] 25)] ++ X88) hM97 (f := 50) (caps := #[]) (h := (by kernel_rfl : opAt _ _ _ _ _ = some (.call (.mk (.value (.func 50)) #[(.tmp 14)] #[22]), some 15))) (by kernel_rfl) (by kernel_rfl) (by kernel_rfl) (f50 _ _ hM97.inW A84 c85 ((nk.take (b)).drop (a)) r86 (by first | omega | (simp only [List.length_append, List.length_cons, List.length_nil, List.length_take, List.length_drop]; omega))) (fun v90 V91 w92 Eo93 le94 hM95 hp96 => ?_)
    obtain ⟨Ar97_1, cr97_1, rfl, rfl⟩ := hp96
    have hM98 : Step V w [] V91 _ ([.row strK 9 Ar97_1 cr97_1 (((nk.take (b)).drop (a))), .blk b79 (.cells #[.bool (false), .slice none 0 0, .slice none 0 0, .slice none 0 0] 25)] ++ X88) := hM95
    refine wpF_end _ (by kernel_rfl) (then_n (h_d [] (by kernel_rfl) [.row strK 9 Ar97_1 cr97_1 (((nk.take (b)).drop (a))), .blk b79 (.cells #[.bool (false), .slice none 0 0, .slice none 0 0, .slice none 0 0] 25)] hM98 no_held le94 ?_))
    refine h_seg 1 (by kernel_rfl) ?_
    refine h_f (d := 7) ⟨9, fun b_ => .pointer (some ⟨b_, 0, none⟩), #[.bool (false), .slice none 0 0, .slice none 0 0, .slice none 0 0], 25⟩ (by kernel_rfl) (by kernel_rfl) (by kernel_rfl) (fun b99 => ?_)
    refine h_a (by kernel_rfl) (by kernel_rfl) (fun w100 X101 hM102 => ?_)
    refine wpF_store hM102 0 rfl (h := (by kernel_rfl : opAt _ _ _ _ _ = some (.store 25 (.tmp 7) (.tmp 16), none))) (off := 0) (by kernel_rfl) #[.bool (true), .slice Ar97_1 (((nk.take (b)).drop (a))).length cr97_1, .slice none 0 0, .slice none 0 0] (by kernel_rfl) (by kernel_rfl) (by kernel_rfl) (by kernel_rfl) (fun w104 hM103 => ?_)
    have hM105 : Step V w [] V91 _ ([.blk b99 (.cells #[.bool (true), .slice Ar97_1 (((nk.take (b)).drop (a))).length cr97_1, .slice none 0 0, .slice none 0 0] 25), .row strK 9 Ar97_1 cr97_1 (((nk.take (b)).drop (a))), .blk b79 (.cells #[.bool (false), .slice none 0 0, .slice none 0 0, .slice none 0 0] 25)] ++ X101) := hM103
    refine wpF_end _ (by kernel_rfl) (then_n (h_d [] (by kernel_rfl) [.blk b99 (.cells #[.bool (true), .slice Ar97_1 (((nk.take (b)).drop (a))).length cr97_1, .slice none 0 0, .slice none 0 0] 25), .row strK 9 Ar97_1 cr97_1 (((nk.take (b)).drop (a))), .blk b79 (.cells #[.bool (false), .slice none 0 0, .slice none 0 0, .slice none 0 0] 25)] hM105 no_held (VT.le.refl _) ?_))
    refine h_n (fun w106 hM107 => ?_)
    refine  (then_n (hK82 _ _ ?_))
    refine wp_seq_k (fun K108 hK108 => ?_)
    refine wp_seq_k (fun K109 hK109 => ?_)
    refine wp_reg ?_
    refine wpF_seg 1 (by kernel_rfl) ?_
    refine gF hM107 (.load 4 (.tmp 17)) (some 18) (by kernel_rfl) (Y_loadB #[.bool (true), .slice Ank (nk).length cnk, .slice Anv (nv).length cnv, .slice Anc (nc).length cnc] (fun i v hi => le94 _ _ _ (hc77 i v hi)) (off := 0) (by kernel_rfl) (.bool (true)) (by kernel_rfl)) ?_
    refine wpF_end _ (by kernel_rfl) (then_n (hK109 _ _ ?_))
    refine wp_ct (by kernel_rfl) ?_
    refine wp_reg ?_
    refine wpF_seg 1 (by kernel_rfl) ?_
    refine gF hM107 (.load 22 (.tmp 19)) (some 20) (by kernel_rfl) (Y_loadB #[.bool (true), .slice Ank (nk).length cnk, .slice Anv (nv).length cnv, .slice Anc (nc).length cnc] (fun i v hi => le94 _ _ _ (hc77 i v hi)) (off := 2) (by kernel_rfl) (.slice Anv (nv).length cnv) (by kernel_rfl)) ?_
    refine wpF_seg 2 (by kernel_rfl) ?_
    refine gF_slice (A := Anv) (c := cnv) (hnv.up hM107.le) (h := (by kernel_rfl : opAt _ _ _ _ _ = some (.slice 22 (.tmp 20) (some (.tmp 21)) (some (.tmp 22)) none, some 23))) (e := 9) (by kernel_rfl) (by kernel_rfl) (a) (b) ⟨.i64, by kernel_rfl⟩ ⟨.i64, by kernel_rfl⟩ (by omega) (by omega) ((nv.take (b)).drop (a)) rfl (fun A110 c111 r112 => ?_)
    have hM120 : Step V w [] V91 _ ([.blk b99 (.cells #[.bool (true), .slice Ar97_1 (((nk.take (b)).drop (a))).length cr97_1, .slice none 0 0, .slice none 0 0] 25), .row strK 9 Ar97_1 cr97_1 (((nk.take (b)).drop (a))), .blk b79 (.cells #[.bool (false), .slice none 0 0, .slice none 0 0, .slice none 0 0] 25)]) := hM107
    refine wpF_callE [] ([.blk b99 (.cells #[.bool (true), .slice Ar97_1 (((nk.take (b)).drop (a))).length cr97_1, .slice none 0 0, .slice none 0 0] 25), .row strK 9 Ar97_1 cr97_1 (((nk.take (b)).drop (a))), .blk b79 (.cells #[.bool (false), .slice none 0 0, .slice none 0 0, .slice none 0 0] 25)]) hM120 (f := 50) (caps := #[]) (h := (by kernel_rfl : opAt _ _ _ _ _ = some (.call (.mk (.value (.func 50)) #[(.tmp 23)] #[22]), some 24))) (by kernel_rfl) (by kernel_rfl) (by kernel_rfl) (f50 _ _ hM120.inW A110 c111 ((nv.take (b)).drop (a)) r112 (by first | omega | (simp only [List.length_append, List.length_cons, List.length_nil, List.length_take, List.length_drop]; omega))) (fun v113 V114 w115 Eo116 le117 hM118 hp119 => ?_)
    obtain ⟨Ar120_1, cr120_1, rfl, rfl⟩ := hp119
    have hM121 : Step V w [] V114 _ ([.row strK 9 Ar120_1 cr120_1 (((nv.take (b)).drop (a))), .blk b99 (.cells #[.bool (true), .slice Ar97_1 (((nk.take (b)).drop (a))).length cr97_1, .slice none 0 0, .slice none 0 0] 25), .row strK 9 Ar97_1 cr97_1 (((nk.take (b)).drop (a))), .blk b79 (.cells #[.bool (false), .slice none 0 0, .slice none 0 0, .slice none 0 0] 25)]) := hM118
    refine wpF_seg 1 (by kernel_rfl) ?_
    refine wpF_store hM121 1 rfl (h := (by kernel_rfl : opAt _ _ _ _ _ = some (.store 22 (.tmp 25) (.tmp 24), none))) (off := 2) (by kernel_rfl) #[.slice Ar120_1 (((nv.take (b)).drop (a))).length cr120_1] (by kernel_rfl) (by kernel_rfl) (by kernel_rfl) (by kernel_rfl) (fun w123 hM122 => ?_)
    have hM124 : Step V w [] V114 _ ([.row strK 9 Ar120_1 cr120_1 (((nv.take (b)).drop (a))), .blk b99 (.cells #[.bool (true), .slice Ar97_1 (((nk.take (b)).drop (a))).length cr97_1, .slice Ar120_1 (((nv.take (b)).drop (a))).length cr120_1, .slice none 0 0] 25), .row strK 9 Ar97_1 cr97_1 (((nk.take (b)).drop (a))), .blk b79 (.cells #[.bool (false), .slice none 0 0, .slice none 0 0, .slice none 0 0] 25)]) := hM122
    refine wpF_end _ (by kernel_rfl) (then_n (hK108 _ _ ?_))
    refine wp_seq_k (fun K125 hK125 => ?_)
    refine wp_reg ?_
    refine gF hM124 (.load 25 (.tmp 7)) (some 34) (by kernel_rfl) (Y_load 1 rfl (off := 0) (by kernel_rfl) (.agg #[.bool (true), .slice Ar97_1 (((nk.take (b)).drop (a))).length cr97_1, .slice Ar120_1 (((nv.take (b)).drop (a))).length cr120_1, .slice none 0 0]) (by kernel_rfl)) ?_
    refine wpF_store hM124 3 rfl (h := (by kernel_rfl : opAt _ _ _ _ _ = some (.store 25 (.tmp 6) (.tmp 34), none))) (off := 0) (by kernel_rfl) #[.bool (true), .slice Ar97_1 (((nk.take (b)).drop (a))).length cr97_1, .slice Ar120_1 (((nv.take (b)).drop (a))).length cr120_1, .slice none 0 0] (by kernel_rfl) (by kernel_rfl) (by kernel_rfl) (by kernel_rfl) (fun w127 hM126 => ?_)
    have hM128 : Step V w [] V114 _ ([.row strK 9 Ar120_1 cr120_1 (((nv.take (b)).drop (a))), .blk b99 (.cells #[.bool (true), .slice Ar97_1 (((nk.take (b)).drop (a))).length cr97_1, .slice Ar120_1 (((nv.take (b)).drop (a))).length cr120_1, .slice none 0 0] 25), .row strK 9 Ar97_1 cr97_1 (((nk.take (b)).drop (a))), .blk b79 (.cells #[.bool (true), .slice Ar97_1 (((nk.take (b)).drop (a))).length cr97_1, .slice Ar120_1 (((nv.take (b)).drop (a))).length cr120_1, .slice none 0 0] 25)]) := hM126
    refine wpF_end _ (by kernel_rfl) (then_n (hK125 _ _ ?_))
    refine wp_ret ?_
    obtain ⟨V129, le130, hM131, r132⟩ := hM128.settleRow 2 rfl
    have hM133 : Step V w [] V129 _ ([.row strK 9 Ar120_1 cr120_1 (((nv.take (b)).drop (a))), .blk b99 (.cells #[.bool (true), .slice Ar97_1 (((nk.take (b)).drop (a))).length cr97_1, .slice Ar120_1 (((nv.take (b)).drop (a))).length cr120_1, .slice none 0 0] 25), .blk b79 (.cells #[.bool (true), .slice Ar97_1 (((nk.take (b)).drop (a))).length cr97_1, .slice Ar120_1 (((nv.take (b)).drop (a))).length cr120_1, .slice none 0 0] 25)]) := hM131
    obtain ⟨V134, le135, hM136, r137⟩ := hM133.settleRow 0 rfl
    have hM138 : Step V w [] V134 _ ([.blk b99 (.cells #[.bool (true), .slice Ar97_1 (((nk.take (b)).drop (a))).length cr97_1, .slice Ar120_1 (((nv.take (b)).drop (a))).length cr120_1, .slice none 0 0] 25), .blk b79 (.cells #[.bool (true), .slice Ar97_1 (((nk.take (b)).drop (a))).length cr97_1, .slice Ar120_1 (((nv.take (b)).drop (a))).length cr120_1, .slice none 0 0] 25)]) := hM136
    refine retN [.agg #[.bool (true), .slice Ar97_1 (((nk.take (b)).drop (a))).length cr97_1, .slice Ar120_1 (((nv.take (b)).drop (a))).length cr120_1, .slice none 0 0]] (.agg #[.bool (true), .slice Ar97_1 (((nk.take (b)).drop (a))).length cr97_1, .slice Ar120_1 (((nv.take (b)).drop (a))).length cr120_1, .slice none 0 0]) Try.results38 (.cell (by kernel_rfl) (by kernel_rfl) hM138 1 rfl (by kernel_rfl) .nil) (by kernel_rfl) (hRet _ _ ⟨_, _, rfl, hM138.clear, ?_⟩)
    -- end T
    refine ⟨Ar97_1, cr97_1, Ar120_1, cr120_1, none, 0, ?_, ?_, ?_, ?_⟩
    · first | rfl | (simp only [partV, partC, cond_true, cond_false]; done) | (simp [partV, partC])
    · first | exact (r132.up le135) | (exact Rd.eq (r132.up le135) (by first | rfl | (simp [partV, partC])))
    · first | exact r137 | (exact Rd.eq r137 (by first | rfl | (simp [partV, partC])))
    · first | exact (Rd.nil _ _) | (exact Rd.eq (Rd.nil _ _) (by first | rfl | (simp [partV, partC])))

set_option maxHeartbeats 4000000 in
set_option maxRecDepth 100000 in
theorem f39 (V : VT) (w : World) (hV : V.inW w) (nl : Bool) (Ank : Option Addr) (cnk : Nat) (nk : List Str) (hnk : Rd strK V Ank cnk nk) (Anv : Option Addr) (cnv : Nat) (nv : List Str) (hnv : Rd strK V Anv cnv nv) (Anc : Option Addr) (cnc : Nat) (nc : List Int) (hnc : Rd (intK .i64) V Anc cnc nc) (a : Nat) (b : Nat) (ha : a ≤ b) (hb : b ≤ nk.length) (hv : nl = true → b ≤ nv.length) (hc : nl = false → b + 1 ≤ nc.length) (hk5 : nk.length ≤ 50000) (hv5 : nv.length ≤ 50000) (hc5 : nc.length ≤ 50000) :
    Calls Try.prog 39 #[.agg #[.bool (nl), .slice Ank (nk).length cnk, .slice Anv (nv).length cnv, .slice Anc (nc).length cnc], .int .i64 ((a : Int)), .int .i64 ((b : Int))] w (RetP V w fun rv V' => ∃ (A1 : Option Addr), ∃ (c1 : Nat), ∃ (A2 : Option Addr), ∃ (c2 : Nat), ∃ (A3 : Option Addr), ∃ (c3 : Nat), rv = .agg #[.bool (nl), .slice A1 ((nk.take b).drop a).length c1, .slice A2 (partV nl nv a b).length c2, .slice A3 (partC nl nc a b).length c3] ∧ Rd strK V' A1 c1 ((nk.take b).drop a) ∧ Rd strK V' A2 c2 (partV nl nv a b) ∧ Rd (intK .i64) V' A3 c3 (partC nl nc a b)) := by
  have mxnk : nk.length ≤ 140737488355328 := hnk.max
  have mxnv : nv.length ≤ 140737488355328 := hnv.max
  have mxnc : nc.length ≤ 140737488355328 := hnc.max
  refine calls_env (n := 38) Try.func39 (c := _) rfl Try.ntmps39 (by kernel_rfl) (fun R hRet => ?_)
  have hM0 : Step V w [] V w [] := Step.refl (St.nilE hV)
  cases nl with
  | false =>
    have hc := hc rfl
    refine wp_seq_k (fun K1 hK1 => ?_)
    refine wp_reg ?_
    refine wpF_box hM0 #[.bool (false), .slice Ank (nk).length cnk, .slice Anv (nv).length cnv, .slice Anc (nc).length cnc] (h := (by kernel_rfl : opAt _ _ _ _ _ = some (.box 25 (.tmp 0), some 3))) (by kernel_rfl) (fun b2 w3 hM4 => ?_)
    obtain ⟨V5, le6, hM7, hc8⟩ := hM4.settle 0 rfl
    have hM9 : Step V w [] V5 _ ([]) := hM7
    refine wpF_alloc hM9 #[.bool (false), .slice none 0 0, .slice none 0 0, .slice none 0 0] (h := (by kernel_rfl : opAt _ _ _ _ _ = some (.alloc 25, some 6))) (by kernel_rfl) (fun b10 w11 hM12 => ?_)
    refine wpF_end _ (by kernel_rfl) (then_n (hK1 _ _ ?_))
    refine wp_seq_k (fun K13 hK13 => ?_)
    refine wp_base [(1, .int .i64 ((a : Int))), (2, .int .i64 ((b : Int))), (3, .pointer (some ⟨b2, 0, none⟩)), (6, .pointer (some ⟨b10, 0, none⟩))] (by kernel_rfl) (fun g14 => ?_)
    refine wp_drawN hM12 [] no_held [⟨2, fun b_ => .slice (some ⟨b_, 0, none⟩) 0 0, #[], 9⟩, ⟨10, fun b_ => .pointer (some ⟨b_, 0, none⟩), #[.bool (false), .slice none 0 0, .slice none 0 0, .slice none 0 0], 25⟩] [0, 1, 3, 4, 5, 6, 7] [.f 2, .a 8, .p 9, .f 10, .a 11] [.p 0, .p 1, .p 3, .p 4, .p 5, .p 6, .p 7, .s, .f 2, .a 8, .p 9, .f 10, .a 11] rfl (by kernel_rfl) (by kernel_rfl) ?_
    refine h_seg 1 (by kernel_rfl) ?_
    refine gH (.load 4 (.tmp 8)) (some 9) (by kernel_rfl) (Y_loadB #[.bool (false), .slice Ank (nk).length cnk, .slice Anv (nv).length cnv, .slice Anc (nc).length cnc] hc8 (off := 0) (by kernel_rfl) (.bool (false)) (by kernel_rfl)) ?_
    refine h_seg 1 (by kernel_rfl) ?_
    refine gH (.load 22 (.tmp 11)) (some 12) (by kernel_rfl) (Y_loadB #[.bool (false), .slice Ank (nk).length cnk, .slice Anv (nv).length cnv, .slice Anc (nc).length cnc] hc8 (off := 1) (by kernel_rfl) (.slice Ank (nk).length cnk) (by kernel_rfl)) ?_
    refine h_seg 2 (by kernel_rfl) ?_
    refine gH_slice (A := Ank) (c := cnk) (hnk.up hM12.le) (h := (by kernel_rfl : opAt _ _ _ _ _ = some (.slice 22 (.tmp 12) (some (.tmp 13)) (some (.tmp 14)) none, some 15))) (e := 9) (by kernel_rfl) (by kernel_rfl) (a) (b) ⟨.i64, by kernel_rfl⟩ ⟨.i64, by kernel_rfl⟩ (by omega) (by omega) ((nk.take (b)).drop (a)) rfl (fun A15 c16 r17 => ?_)
    refine h_s (and_fs (fre_lit (h := (by kernel_rfl : opAt _ _ _ _ _ = some (.buildSlice 22 0 #[], some 10))) (by kernel_rfl)) (and_fs (fre_alloc (h := (by kernel_rfl : opAt _ _ _ _ _ = some (.alloc 25, some 7))) (by kernel_rfl)) no_fs)) ?_
    refine h_f (d := 10) ⟨2, fun b_ => .slice (some ⟨b_, 0, none⟩) 0 0, #[], 9⟩ (by kernel_rfl) (by kernel_rfl) (by kernel_rfl) (fun b18 => ?_)
    refine h_a (by kernel_rfl) (by kernel_rfl) (fun w19 X20 hM21 => ?_)
    have hM22 := hM21.blkrow 0 rfl (K := strK) (ys := ([] : List Str)) Reps.nils (by simp [maxL])
    have hM23 : Step V w [] V5 _ ([.row strK 9 (some ⟨b18, 0, none⟩) 0 (([] : List Str)), .blk b10 (.cells #[.bool (false), .slice none 0 0, .slice none 0 0, .slice none 0 0] 25)] ++ X20) := hM22
    refine wpF_append (by_ := 16) hM23 0 rfl (h := (by kernel_rfl : opAt _ _ _ _ _ = some (.call (.mk (.builtin .append) #[(.tmp 10), (.tmp 15)] #[22, 22]), some 16))) (by kernel_rfl) (by kernel_rfl) (by kernel_rfl) (by kernel_rfl) (by kernel_rfl) (by kernel_rfl) (by kernel_rfl) (Src.rd r17) (by first | omega | (simp only [List.length_append, List.length_cons, List.length_nil, List.length_take, List.length_drop]; omega)) (fun A24 c25 w26 hM27 => ?_)
    have hM28 : Step V w [] V5 _ ([.row strK 9 A24 c25 ((nk.take (b)).drop (a)), .blk b10 (.cells #[.bool (false), .slice none 0 0, .slice none 0 0, .slice none 0 0] 25)] ++ X20) := hM27
    refine wpF_end _ (by kernel_rfl) (then_n (h_d [] (by kernel_rfl) [.row strK 9 A24 c25 ((nk.take (b)).drop (a)), .blk b10 (.cells #[.bool (false), .slice none 0 0, .slice none 0 0, .slice none 0 0] 25)] hM28 no_held (VT.le.refl _) ?_))
    refine h_seg 1 (by kernel_rfl) ?_
    refine h_f (d := 7) ⟨10, fun b_ => .pointer (some ⟨b_, 0, none⟩), #[.bool (false), .slice none 0 0, .slice none 0 0, .slice none 0 0], 25⟩ (by kernel_rfl) (by kernel_rfl) (by kernel_rfl) (fun b29 => ?_)
    refine h_a (by kernel_rfl) (by kernel_rfl) (fun w30 X31 hM32 => ?_)
    refine wpF_store hM32 0 rfl (h := (by kernel_rfl : opAt _ _ _ _ _ = some (.store 25 (.tmp 7) (.tmp 17), none))) (off := 0) (by kernel_rfl) #[.bool (false), .slice A24 ((nk.take (b)).drop (a)).length c25, .slice none 0 0, .slice none 0 0] (by kernel_rfl) (by kernel_rfl) (by kernel_rfl) (by kernel_rfl) (fun w34 hM33 => ?_)
    have hM35 : Step V w [] V5 _ ([.blk b29 (.cells #[.bool (false), .slice A24 ((nk.take (b)).drop (a)).length c25, .slice none 0 0, .slice none 0 0] 25), .row strK 9 A24 c25 ((nk.take (b)).drop (a)), .blk b10 (.cells #[.bool (false), .slice none 0 0, .slice none 0 0, .slice none 0 0] 25)] ++ X31) := hM33
    refine wpF_end _ (by kernel_rfl) (then_n (h_d [] (by kernel_rfl) [.blk b29 (.cells #[.bool (false), .slice A24 ((nk.take (b)).drop (a)).length c25, .slice none 0 0, .slice none 0 0] 25), .row strK 9 A24 c25 ((nk.take (b)).drop (a)), .blk b10 (.cells #[.bool (false), .slice none 0 0, .slice none 0 0, .slice none 0 0] 25)] hM35 no_held (VT.le.refl _) ?_))
    refine h_n (fun w36 hM37 => ?_)
    refine  (then_n (hK13 _ _ ?_))
    refine wp_seq_k (fun K38 hK38 => ?_)
    refine wp_seq_k (fun K39 hK39 => ?_)
    refine wp_reg ?_
    refine wpF_seg 1 (by kernel_rfl) ?_
    refine gF hM37 (.load 4 (.tmp 18)) (some 19) (by kernel_rfl) (Y_loadB #[.bool (false), .slice Ank (nk).length cnk, .slice Anv (nv).length cnv, .slice Anc (nc).length cnc] hc8 (off := 0) (by kernel_rfl) (.bool (false)) (by kernel_rfl)) ?_
    refine wpF_end _ (by kernel_rfl) (then_n (hK39 _ _ ?_))
    refine wp_cf (by kernel_rfl) ?_
    refine wp_reg ?_
    refine wpF_litW (intK .i64) hM37 #[] (h := (by kernel_rfl : opAt _ _ _ _ _ = some (.buildSlice 23 0 #[], some 28))) (e := 3) (by kernel_rfl) (([] : List Int)) Reps.nils rfl (by simp [maxL]) (fun A40 c41 w42 hM43 => ?_)
    refine wpF_seg 1 (by kernel_rfl) ?_
    refine gF hM43 (.load 23 (.tmp 29)) (some 30) (by kernel_rfl) (Y_loadB #[.bool (false), .slice Ank (nk).length cnk, .slice Anv (nv).length cnv, .slice Anc (nc).length cnc] hc8 (off := 3) (by kernel_rfl) (.slice Anc (nc).length cnc) (by kernel_rfl)) ?_
    refine wpF_seg 2 (by kernel_rfl) ?_
    refine gF hM43 (.binOp .add 3 (.tmp 32) (.const (.int .i64 1)) 3) (some 33) (by kernel_rfl) (Y_add .i64 ((b : Int)) (1) ((b : Int) + 1) (by kernel_rfl) (by kernel_rfl) (wrap64_ok _ (by omega))) ?_
    refine gF_slice (A := Anc) (c := cnc) (hnc.up hM43.le) (h := (by kernel_rfl : opAt _ _ _ _ _ = some (.slice 23 (.tmp 30) (some (.tmp 31)) (some (.tmp 33)) none, some 34))) (e := 3) (by kernel_rfl) (by kernel_rfl) (a) (b + 1) ⟨.i64, by kernel_rfl⟩ ⟨.i64, by rw [show ((b + 1 : Nat) : Int) = (b : Int) + 1 from by omega]; kernel_rfl⟩ (by omega) (by omega) ((nc.take (b + 1)).drop (a)) rfl (fun A44 c45 r46 => ?_)
    refine wpF_append (by_ := 8) hM43 0 rfl (h := (by kernel_rfl : opAt _ _ _ _ _ = some (.call (.mk (.builtin .append) #[(.tmp 28), (.tmp 34)] #[23, 23]), some 35))) (by kernel_rfl) (by kernel_rfl) (by kernel_rfl) (by kernel_rfl) (by kernel_rfl) (by kernel_rfl) (by kernel_rfl) (Src.rd r46) (by first | omega | (simp only [List.length_append, List.length_cons, List.length_nil, List.length_take, List.length_drop]; omega)) (fun A47 c48 w49 hM50 => ?_)
    have hM51 : Step V w [] V5 _ ([.row (intK .i64) 3 A47 c48 ((nc.take (b + 1)).drop (a)), .blk b29 (.cells #[.bool (false), .slice A24 ((nk.take (b)).drop (a)).length c25, .slice none 0 0, .slice none 0 0] 25), .row strK 9 A24 c25 ((nk.take (b)).drop (a)), .blk b10 (.cells #[.bool (false), .slice none 0 0, .slice none 0 0, .slice none 0 0] 25)]) := hM50
    refine wpF_seg 1 (by kernel_rfl) ?_
    refine wpF_store hM51 1 rfl (h := (by kernel_rfl : opAt _ _ _ _ _ = some (.store 23 (.tmp 36) (.tmp 35), none))) (off := 3) (by kernel_rfl) #[.slice A47 ((nc.take (b + 1)).drop (a)).length c48] (by kernel_rfl) (by kernel_rfl) (by kernel_rfl) (by kernel_rfl) (fun w53 hM52 => ?_)
    have hM54 : Step V w [] V5 _ ([.row (intK .i64) 3 A47 c48 ((nc.take (b + 1)).drop (a)), .blk b29 (.cells #[.bool (false), .slice A24 ((nk.take (b)).drop (a)).length c25, .slice none 0 0, .slice A47 ((nc.take (b + 1)).drop (a)).length c48] 25), .row strK 9 A24 c25 ((nk.take (b)).drop (a)), .blk b10 (.cells #[.bool (false), .slice none 0 0, .slice none 0 0, .slice none 0 0] 25)]) := hM52
    refine wpF_end _ (by kernel_rfl) (then_n (hK38 _ _ ?_))
    refine wp_seq_k (fun K55 hK55 => ?_)
    refine wp_reg ?_
    refine gF hM54 (.load 25 (.tmp 7)) (some 37) (by kernel_rfl) (Y_load 1 rfl (off := 0) (by kernel_rfl) (.agg #[.bool (false), .slice A24 ((nk.take (b)).drop (a)).length c25, .slice none 0 0, .slice A47 ((nc.take (b + 1)).drop (a)).length c48]) (by kernel_rfl)) ?_
    refine wpF_store hM54 3 rfl (h := (by kernel_rfl : opAt _ _ _ _ _ = some (.store 25 (.tmp 6) (.tmp 37), none))) (off := 0) (by kernel_rfl) #[.bool (false), .slice A24 ((nk.take (b)).drop (a)).length c25, .slice none 0 0, .slice A47 ((nc.take (b + 1)).drop (a)).length c48] (by kernel_rfl) (by kernel_rfl) (by kernel_rfl) (by kernel_rfl) (fun w57 hM56 => ?_)
    have hM58 : Step V w [] V5 _ ([.row (intK .i64) 3 A47 c48 ((nc.take (b + 1)).drop (a)), .blk b29 (.cells #[.bool (false), .slice A24 ((nk.take (b)).drop (a)).length c25, .slice none 0 0, .slice A47 ((nc.take (b + 1)).drop (a)).length c48] 25), .row strK 9 A24 c25 ((nk.take (b)).drop (a)), .blk b10 (.cells #[.bool (false), .slice A24 ((nk.take (b)).drop (a)).length c25, .slice none 0 0, .slice A47 ((nc.take (b + 1)).drop (a)).length c48] 25)]) := hM56
    refine wpF_end _ (by kernel_rfl) (then_n (hK55 _ _ ?_))
    refine wp_ret ?_
    obtain ⟨V59, le60, hM61, r62⟩ := hM58.settleRow 2 rfl
    have hM63 : Step V w [] V59 _ ([.row (intK .i64) 3 A47 c48 ((nc.take (b + 1)).drop (a)), .blk b29 (.cells #[.bool (false), .slice A24 ((nk.take (b)).drop (a)).length c25, .slice none 0 0, .slice A47 ((nc.take (b + 1)).drop (a)).length c48] 25), .blk b10 (.cells #[.bool (false), .slice A24 ((nk.take (b)).drop (a)).length c25, .slice none 0 0, .slice A47 ((nc.take (b + 1)).drop (a)).length c48] 25)]) := hM61
    obtain ⟨V64, le65, hM66, r67⟩ := hM63.settleRow 0 rfl
    have hM68 : Step V w [] V64 _ ([.blk b29 (.cells #[.bool (false), .slice A24 ((nk.take (b)).drop (a)).length c25, .slice none 0 0, .slice A47 ((nc.take (b + 1)).drop (a)).length c48] 25), .blk b10 (.cells #[.bool (false), .slice A24 ((nk.take (b)).drop (a)).length c25, .slice none 0 0, .slice A47 ((nc.take (b + 1)).drop (a)).length c48] 25)]) := hM66
    refine retN [.agg #[.bool (false), .slice A24 ((nk.take (b)).drop (a)).length c25, .slice none 0 0, .slice A47 ((nc.take (b + 1)).drop (a)).length c48]] (.agg #[.bool (false), .slice A24 ((nk.take (b)).drop (a)).length c25, .slice none 0 0, .slice A47 ((nc.take (b + 1)).drop (a)).length c48]) Try.results39 (.cell (by kernel_rfl) (by kernel_rfl) hM68 1 rfl (by kernel_rfl) .nil) (by kernel_rfl) (hRet _ _ ⟨_, _, rfl, hM68.clear, ?_⟩)
    -- end F
    refine ⟨A24, c25, none, 0, A47, c48, ?_, ?_, ?_, ?_⟩
    · first | rfl | (simp only [partV, partC, cond_true, cond_false]; done) | (simp [partV, partC])
    · first | exact (r62.up le65) | (exact Rd.eq (r62.up le65) (by first | rfl | (simp [partV, partC])))
    · first | exact (Rd.nil _ _) | (exact Rd.eq (Rd.nil _ _) (by first | rfl | (simp [partV, partC])))
    · first | exact r67 | (exact Rd.eq r67 (by first | rfl | (simp [partV, partC])))
  | true =>
    have hv := hv rfl
    refine wp_seq_k (fun K69 hK69 => ?_)
    refine wp_reg ?_
    refine wpF_box hM0 #[.bool (true), .slice Ank (nk).length cnk, .slice Anv (nv).length cnv, .slice Anc (nc).length cnc] (h := (by kernel_rfl : opAt _ _ _ _ _ = some (.box 25 (.tmp 0), some 3))) (by kernel_rfl) (fun b70 w71 hM72 => ?_)
    obtain ⟨V73, le74, hM75, hc76⟩ := hM72.settle 0 rfl
    have hM77 : Step V w [] V73 _ ([]) := hM75
    refine wpF_alloc hM77 #[.bool (false), .slice none 0 0, .slice none 0 0, .slice none 0 0] (h := (by kernel_rfl : opAt _ _ _ _ _ = some (.alloc 25, some 6))) (by kernel_rfl) (fun b78 w79 hM80 => ?_)
    refine wpF_end _ (by kernel_rfl) (then_n (hK69 _ _ ?_))
    refine wp_seq_k (fun K81 hK81 => ?_)
    refine wp_base [(1, .int .i64 ((a : Int))), (2, .int .i64 ((b : Int))), (3, .pointer (some ⟨b70, 0, none⟩)), (6, .pointer (some ⟨b78, 0, none⟩))] (by kernel_rfl) (fun g82 => ?_)
    refine wp_drawN hM80 [] no_held [⟨2, fun b_ => .slice (some ⟨b_, 0, none⟩) 0 0, #[], 9⟩, ⟨10, fun b_ => .pointer (some ⟨b_, 0, none⟩), #[.bool (false), .slice none 0 0, .slice none 0 0, .slice none 0 0], 25⟩] [0, 1, 3, 4, 5, 6, 7] [.f 2, .a 8, .p 9, .f 10, .a 11] [.p 0, .p 1, .p 3, .p 4, .p 5, .p 6, .p 7, .s, .f 2, .a 8, .p 9, .f 10, .a 11] rfl (by kernel_rfl) (by kernel_rfl) ?_
    refine h_seg 1 (by kernel_rfl) ?_
    refine gH (.load 4 (.tmp 8)) (some 9) (by kernel_rfl) (Y_loadB #[.bool (true), .slice Ank (nk).length cnk, .slice Anv (nv).length cnv, .slice Anc (nc).length cnc] hc76 (off := 0) (by kernel_rfl) (.bool (true)) (by kernel_rfl)) ?_
    refine h_seg 1 (by kernel_rfl) ?_
    refine gH (.load 22 (.tmp 11)) (some 12) (by kernel_rfl) (Y_loadB #[.bool (true), .slice Ank (nk).length cnk, .slice Anv (nv).length cnv, .slice Anc (nc).length cnc] hc76 (off := 1) (by kernel_rfl) (.slice Ank (nk).length cnk) (by kernel_rfl)) ?_
    refine h_seg 2 (by kernel_rfl) ?_
    refine gH_slice (A := Ank) (c := cnk) (hnk.up hM80.le) (h := (by kernel_rfl : opAt _ _ _ _ _ = some (.slice 22 (.tmp 12) (some (.tmp 13)) (some (.tmp 14)) none, some 15))) (e := 9) (by kernel_rfl) (by kernel_rfl) (a) (b) ⟨.i64, by kernel_rfl⟩ ⟨.i64, by kernel_rfl⟩ (by omega) (by omega) ((nk.take (b)).drop (a)) rfl (fun A83 c84 r85 => ?_)
    refine h_s (and_fs (fre_lit (h := (by kernel_rfl : opAt _ _ _ _ _ = some (.buildSlice 22 0 #[], some 10))) (by kernel_rfl)) (and_fs (fre_alloc (h := (by kernel_rfl : opAt _ _ _ _ _ = some (.alloc 25, some 7))) (by kernel_rfl)) no_fs)) ?_
    refine h_f (d := 10) ⟨2, fun b_ => .slice (some ⟨b_, 0, none⟩) 0 0, #[], 9⟩ (by kernel_rfl) (by kernel_rfl) (by kernel_rfl) (fun b86 => ?_)
    refine h_a (by kernel_rfl) (by kernel_rfl) (fun w87 X88 hM89 => ?_)
    have hM90 := hM89.blkrow 0 rfl (K := strK) (ys := ([] : List Str)) Reps.nils (by simp [maxL])
    have hM91 : Step V w [] V73 _ ([.row strK 9 (some ⟨b86, 0, none⟩) 0 (([] : List Str)), .blk b78 (.cells #[.bool (false), .slice none 0 0, .slice none 0 0, .slice none 0 0] 25)] ++ X88) := hM90
    refine wpF_append (by_ := 16) hM91 0 rfl (h := (by kernel_rfl : opAt _ _ _ _ _ = some (.call (.mk (.builtin .append) #[(.tmp 10), (.tmp 15)] #[22, 22]), some 16))) (by kernel_rfl) (by kernel_rfl) (by kernel_rfl) (by kernel_rfl) (by kernel_rfl) (by kernel_rfl) (by kernel_rfl) (Src.rd r85) (by first | omega | (simp only [List.length_append, List.length_cons, List.length_nil, List.length_take, List.length_drop]; omega)) (fun A92 c93 w94 hM95 => ?_)
    have hM96 : Step V w [] V73 _ ([.row strK 9 A92 c93 ((nk.take (b)).drop (a)), .blk b78 (.cells #[.bool (false), .slice none 0 0, .slice none 0 0, .slice none 0 0] 25)] ++ X88) := hM95
    refine wpF_end _ (by kernel_rfl) (then_n (h_d [] (by kernel_rfl) [.row strK 9 A92 c93 ((nk.take (b)).drop (a)), .blk b78 (.cells #[.bool (false), .slice none 0 0, .slice none 0 0, .slice none 0 0] 25)] hM96 no_held (VT.le.refl _) ?_))
    refine h_seg 1 (by kernel_rfl) ?_
    refine h_f (d := 7) ⟨10, fun b_ => .pointer (some ⟨b_, 0, none⟩), #[.bool (false), .slice none 0 0, .slice none 0 0, .slice none 0 0], 25⟩ (by kernel_rfl) (by kernel_rfl) (by kernel_rfl) (fun b97 => ?_)
    refine h_a (by kernel_rfl) (by kernel_rfl) (fun w98 X99 hM100 => ?_)
    refine wpF_store hM100 0 rfl (h := (by kernel_rfl : opAt _ _ _ _ _ = some (.store 25 (.tmp 7) (.tmp 17), none))) (off := 0) (by kernel_rfl) #[.bool (true), .slice A92 ((nk.take (b)).drop (a)).length c93, .slice none 0 0, .slice none 0 0] (by kernel_rfl) (by kernel_rfl) (by kernel_rfl) (by kernel_rfl) (fun w102 hM101 => ?_)
    have hM103 : Step V w [] V73 _ ([.blk b97 (.cells #[.bool (true), .slice A92 ((nk.take (b)).drop (a)).length c93, .slice none 0 0, .slice none 0 0] 25), .row strK 9 A92 c93 ((nk.take (b)).drop (a)), .blk b78 (.cells #[.bool (false), .slice none 0 0, .slice none 0 0, .slice none 0 0] 25)] ++ X99) := hM101
    refine wpF_end _ (by kernel_rfl) (then_n (h_d [] (by kernel_rfl) [.blk b97 (.cells #[.bool (true), .slice A92 ((nk.take (b)).drop (a)).length c93, .slice none 0 0, .slice none 0 0] 25), .row strK 9 A92 c93 ((nk.take (b)).drop (a)), .blk b78 (.cells #[.bool (false), .slice none 0 0, .slice none 0 0, .slice none 0 0] 25)] hM103 no_held (VT.le.refl _) ?_))
    refine h_n (fun w104 hM105 => ?_)
    refine  (then_n (hK81 _ _ ?_))
    refine wp_seq_k (fun K106 hK106 => ?_)
    refine wp_seq_k (fun K107 hK107 => ?_)
    refine wp_reg ?_
    refine wpF_seg 1 (by kernel_rfl) ?_
    refine gF hM105 (.load 4 (.tmp 18)) (some 19) (by kernel_rfl) (Y_loadB #[.bool (true), .slice Ank (nk).length cnk, .slice Anv (nv).length cnv, .slice Anc (nc).length cnc] hc76 (off := 0) (by kernel_rfl) (.bool (true)) (by kernel_rfl)) ?_
    refine wpF_end _ (by kernel_rfl) (then_n (hK107 _ _ ?_))
    refine wp_ct (by kernel_rfl) ?_
    refine wp_reg ?_
    refine wpF_litW strK hM105 #[] (h := (by kernel_rfl : opAt _ _ _ _ _ = some (.buildSlice 22 0 #[], some 20))) (e := 9) (by kernel_rfl) (([] : List Str)) Reps.nils rfl (by simp [maxL]) (fun A108 c109 w110 hM111 => ?_)
    refine wpF_seg 1 (by kernel_rfl) ?_
    refine gF hM111 (.load 22 (.tmp 21)) (some 22) (by kernel_rfl) (Y_loadB #[.bool (true), .slice Ank (nk).length cnk, .slice Anv (nv).length cnv, .slice Anc (nc).length cnc] hc76 (off := 2) (by kernel_rfl) (.slice Anv (nv).length cnv) (by kernel_rfl)) ?_
    refine wpF_seg 2 (by kernel_rfl) ?_
    refine gF_slice (A := Anv) (c := cnv) (hnv.up hM111.le) (h := (by kernel_rfl : opAt _ _ _ _ _ = some (.slice 22 (.tmp 22) (some (.tmp 23)) (some (.tmp 24)) none, some 25))) (e := 9) (by kernel_rfl) (by kernel_rfl) (a) (b) ⟨.i64, by kernel_rfl⟩ ⟨.i64, by kernel_rfl⟩ (by omega) (by omega) ((nv.take (b)).drop (a)) rfl (fun A112 c113 r114 => ?_)
    refine wpF_append (by_ := 16) hM111 0 rfl (h := (by kernel_rfl : opAt _ _ _ _ _ = some (.call (.mk (.builtin .append) #[(.tmp 20), (.tmp 25)] #[22, 22]), some 26))) (by kernel_rfl) (by kernel_rfl) (by kernel_rfl) (by kernel_rfl) (by kernel_rfl) (by kernel_rfl) (by kernel_rfl) (Src.rd r114) (by first | omega | (simp only [List.length_append, List.length_cons, List.length_nil, List.length_take, List.length_drop]; omega)) (fun A115 c116 w117 hM118 => ?_)
    have hM119 : Step V w [] V73 _ ([.row strK 9 A115 c116 ((nv.take (b)).drop (a)), .blk b97 (.cells #[.bool (true), .slice A92 ((nk.take (b)).drop (a)).length c93, .slice none 0 0, .slice none 0 0] 25), .row strK 9 A92 c93 ((nk.take (b)).drop (a)), .blk b78 (.cells #[.bool (false), .slice none 0 0, .slice none 0 0, .slice none 0 0] 25)]) := hM118
    refine wpF_seg 1 (by kernel_rfl) ?_
    refine wpF_store hM119 1 rfl (h := (by kernel_rfl : opAt _ _ _ _ _ = some (.store 22 (.tmp 27) (.tmp 26), none))) (off := 2) (by kernel_rfl) #[.slice A115 ((nv.take (b)).drop (a)).length c116] (by kernel_rfl) (by kernel_rfl) (by kernel_rfl) (by kernel_rfl) (fun w121 hM120 => ?_)
    have hM122 : Step V w [] V73 _ ([.row strK 9 A115 c116 ((nv.take (b)).drop (a)), .blk b97 (.cells #[.bool (true), .slice A92 ((nk.take (b)).drop (a)).length c93, .slice A115 ((nv.take (b)).drop (a)).length c116, .slice none 0 0] 25), .row strK 9 A92 c93 ((nk.take (b)).drop (a)), .blk b78 (.cells #[.bool (false), .slice none 0 0, .slice none 0 0, .slice none 0 0] 25)]) := hM120
    refine wpF_end _ (by kernel_rfl) (then_n (hK106 _ _ ?_))
    refine wp_seq_k (fun K123 hK123 => ?_)
    refine wp_reg ?_
    refine gF hM122 (.load 25 (.tmp 7)) (some 37) (by kernel_rfl) (Y_load 1 rfl (off := 0) (by kernel_rfl) (.agg #[.bool (true), .slice A92 ((nk.take (b)).drop (a)).length c93, .slice A115 ((nv.take (b)).drop (a)).length c116, .slice none 0 0]) (by kernel_rfl)) ?_
    refine wpF_store hM122 3 rfl (h := (by kernel_rfl : opAt _ _ _ _ _ = some (.store 25 (.tmp 6) (.tmp 37), none))) (off := 0) (by kernel_rfl) #[.bool (true), .slice A92 ((nk.take (b)).drop (a)).length c93, .slice A115 ((nv.take (b)).drop (a)).length c116, .slice none 0 0] (by kernel_rfl) (by kernel_rfl) (by kernel_rfl) (by kernel_rfl) (fun w125 hM124 => ?_)
    have hM126 : Step V w [] V73 _ ([.row strK 9 A115 c116 ((nv.take (b)).drop (a)), .blk b97 (.cells #[.bool (true), .slice A92 ((nk.take (b)).drop (a)).length c93, .slice A115 ((nv.take (b)).drop (a)).length c116, .slice none 0 0] 25), .row strK 9 A92 c93 ((nk.take (b)).drop (a)), .blk b78 (.cells #[.bool (true), .slice A92 ((nk.take (b)).drop (a)).length c93, .slice A115 ((nv.take (b)).drop (a)).length c116, .slice none 0 0] 25)]) := hM124
    refine wpF_end _ (by kernel_rfl) (then_n (hK123 _ _ ?_))
    refine wp_ret ?_
    obtain ⟨V127, le128, hM129, r130⟩ := hM126.settleRow 2 rfl
    have hM131 : Step V w [] V127 _ ([.row strK 9 A115 c116 ((nv.take (b)).drop (a)), .blk b97 (.cells #[.bool (true), .slice A92 ((nk.take (b)).drop (a)).length c93, .slice A115 ((nv.take (b)).drop (a)).length c116, .slice none 0 0] 25), .blk b78 (.cells #[.bool (true), .slice A92 ((nk.take (b)).drop (a)).length c93, .slice A115 ((nv.take (b)).drop (a)).length c116, .slice none 0 0] 25)]) := hM129
    obtain ⟨V132, le133, hM134, r135⟩ := hM131.settleRow 0 rfl
    have hM136 : Step V w [] V132 _ ([.blk b97 (.cells #[.bool (true), .slice A92 ((nk.take (b)).drop (a)).length c93, .slice A115 ((nv.take (b)).drop (a)).length c116, .slice none 0 0] 25), .blk b78 (.cells #[.bool (true), .slice A92 ((nk.take (b)).drop (a)).length c93, .slice A115 ((nv.take (b)).drop (a)).length c116, .slice none 0 0] 25)]) := hM134
    refine retN [.agg #[.bool (true), .slice A92 ((nk.take (b)).drop (a)).length c93, .slice A115 ((nv.take (b)).drop (a)).length c116, .slice none 0 0]] (.agg #[.bool (true), .slice A92 ((nk.take (b)).drop (a)).length c93, .slice A115 ((nv.take (b)).drop (a)).length c116, .slice none 0 0]) Try.results39 (.cell (by kernel_rfl) (by kernel_rfl) hM136 1 rfl (by kernel_rfl) .nil) (by kernel_rfl) (hRet _ _ ⟨_, _, rfl, hM136.clear, ?_⟩)
    -- end T
    refine ⟨A92, c93, A115, c116, none, 0, ?_, ?_, ?_, ?_⟩
    · first | rfl | (simp only [partV, partC, cond_true, cond_false]; done) | (simp [partV, partC])
    · first | exact (r130.up le133) | (exact Rd.eq (r130.up le133) (by first | rfl | (simp [partV, partC])))
    · first | exact r135 | (exact Rd.eq r135 (by first | rfl | (simp [partV, partC])))
    · first | exact (Rd.nil _ _) | (exact Rd.eq (Rd.nil _ _) (by first | rfl | (simp [partV, partC])))

end Go.Vk
