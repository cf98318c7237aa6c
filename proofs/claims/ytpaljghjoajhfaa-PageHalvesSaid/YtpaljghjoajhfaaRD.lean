/- Contracts of the page's functions, part D: printed by wip/tools/p8.py. -/
import Derived.Test.YtpaljghjoajhfaaRB
set_option linter.unusedVariables false
set_option linter.unusedSimpArgs false
namespace Go.Vk
open Go.Proofs
set_option maxHeartbeats 4000000 in
set_option maxRecDepth 100000 in
theorem f36 (V : VT) (w : World) (hV : V.inW w) (n : Nat) (fidphi : FuncId) (capsphi : Array Value) (hfidphi : callable Try.prog fidphi = true) (phi : Nat → Bool) (hfphi : ∀ V_ w_, VT.le V V_ → V_.inW w_ → ∀ j_ : Nat, (j_ : Int) < n → Calls Try.prog fidphi (#[.int .i64 (j_ : Int)] ++ capsphi) w_ (RetP V_ w_ fun v_ _ => v_ = .bool (phi j_))) (h1 : n ≤ 140737488355328) :
    Calls Try.prog 36 #[.int .i64 ((n : Int)), .func (.func fidphi) #[] capsphi] w (RetP V w fun rv V' => ∃ (n1 : Nat), rv = .int .i64 ((n1 : Int)) ∧ n1 = srch phi 0 n ∧ n1 ≤ n) := by
  refine calls_env (n := 26) Try.func36 (c := _) rfl Try.ntmps36 (by kernel_rfl) (fun R hRet => ?_)
  have hM0 : Step V w [] V w [] := Step.refl (St.nilE hV)
  refine wp_seq_k (fun K1 hK1 => ?_)
  refine wp_reg ?_
  refine wpF_seg 1 (by kernel_rfl) ?_
  refine wpF_end _ (by kernel_rfl) (then_n (hK1 _ _ ?_))
  refine wp_seq_k (fun K2 hK2 => ?_)
  refine wp_reg ?_
  refine wpF_seg 3 (by kernel_rfl) ?_
  refine wpF_end _ (by kernel_rfl) (then_n (hK2 _ _ ?_))
  refine wp_seq_k (fun K3 hK3 => ?_)
  refine wp_block ?_
  refine wp_base [(1, .func (.func fidphi) #[] capsphi), (4, .int .i64 (0)), (5, .int .i64 (((0 : Nat) : Int))), (6, .int .i64 (((n : Nat) : Int)))] (by kernel_rfl) (fun g5 => ?_)
  refine wp_loopX (fun (x_ : Nat × Nat) a_ w_ => ∃ (g : Nat → Value) (V_ : VT), a_ = env 26 [(1, .func (.func fidphi) #[] capsphi), (4, .int .i64 (0)), (5, .int .i64 (((x_.1 : Nat) : Int))), (6, .int .i64 (((x_.2 : Nat) : Int)))] g ∧ Step V w [] V_ w_ [] ∧ VT.le V V_ ∧ (x_.1 ≤ x_.2 ∧ x_.2 ≤ n) ∧ (srch phi x_.1 x_.2 = srch phi 0 n)) (fun (x_ : Nat × Nat) => x_.2 - x_.1) ((0 : Nat), (n : Nat)) ⟨g5, V, rfl, hM0, VT.le.refl _, by omega, by rfl⟩ ?_
  rintro ⟨i, j⟩ a_ w7 ⟨g6, Vl4, rfl, hM8, le9, hi10_0, hi10_1⟩ K10 hK10
  refine wp_seq_k (fun K11 hK11 => ?_)
  refine wp_seq_k (fun K12 hK12 => ?_)
  refine wp_reg ?_
  refine wpF_seg 3 (by kernel_rfl) ?_
  refine wpF_end _ (by kernel_rfl) (then_n (hK12 _ _ ?_))
  refine wp_if (decide ((((i : Nat) : Int)) < (((j : Nat) : Int)))) (by kernel_rfl) (fun h13 => ?_) (fun h13 => ?_)
  · -- Lt
    have p14 : ((((i : Nat) : Int)) < (((j : Nat) : Int))) := of_decide_eq_true h13
    refine wp_skip (then_n (hK11 _ _ ?_))
    refine wp_block ?_
    refine wp_seq_k (fun K15 hK15 => ?_)
    refine wp_reg ?_
    refine wpF_seg 2 (by kernel_rfl) ?_
    refine gF hM8 (.binOp .add 3 (.tmp 12) (.tmp 13) 3) (some 14) (by kernel_rfl) (Y_add .i64 (((i : Nat) : Int)) (((j : Nat) : Int)) (((i : Nat) : Int) + ((j : Nat) : Int)) (by kernel_rfl) (by kernel_rfl) (wrap64_ok _ (by omega))) ?_
    refine gF hM8 (.convert 3 83 (.tmp 14)) (some 15) (by kernel_rfl) (Y_conv .i64 .i64 .u64 (((i : Nat) : Int) + ((j : Nat) : Int)) (((i : Nat) : Int) + ((j : Nat) : Int)) (by kernel_rfl) (by kernel_rfl) (by kernel_rfl) (wrapu64_ok _ (by omega))) ?_
    refine gF hM8 (.binOp .shr 83 (.tmp 15) (.const (.int .u64 1)) 83) (some 16) (by kernel_rfl) (Y_shr .u64 .u64 (((i : Nat) : Int) + ((j : Nat) : Int)) (1) ((((i : Nat) : Int) + ((j : Nat) : Int)) / 2) (by kernel_rfl) (by kernel_rfl) (by omega) (by rw [Int.fdiv_eq_ediv_of_nonneg _ (by decide)]; rfl)) ?_
    refine gF hM8 (.convert 83 3 (.tmp 16)) (some 17) (by kernel_rfl) (Y_conv .u64 .u64 .i64 ((((i : Nat) : Int) + ((j : Nat) : Int)) / 2) ((((i : Nat) : Int) + ((j : Nat) : Int)) / 2) (by kernel_rfl) (by kernel_rfl) (by kernel_rfl) (wrap64_ok _ (by omega))) ?_
    refine wpF_seg 1 (by kernel_rfl) ?_
    refine wpF_end _ (by kernel_rfl) (then_n (hK15 _ _ ?_))
    refine wp_seq_k (fun K16 hK16 => ?_)
    refine wp_reg ?_
    refine wpF_seg 2 (by kernel_rfl) ?_
    refine wpF_callP hM8 (f := fidphi) (caps := capsphi) (h := (by kernel_rfl : opAt _ _ _ _ _ = some (.call (.mk (.value (.tmp 18)) #[(.tmp 19)] #[3]), some 20))) (by kernel_rfl) hfidphi (by kernel_rfl) (hfphi _ _ hM8.le hM8.inW (((i : Nat) + (j : Nat)) / 2) (by omega)) (fun v17 V18 w19 le20 hM21 hp22 => ?_)
    obtain rfl := hp22
    refine wpF_seg 1 (by kernel_rfl) ?_
    refine wpF_end _ (by kernel_rfl) (then_n (hK16 _ _ ?_))
    refine wp_if (!(phi ((((i : Nat) + (j : Nat)) / 2)))) (by kernel_rfl) (fun h23 => ?_) (fun h23 => ?_)
    · -- Ltt
      have h24 : (phi ((((i : Nat) + (j : Nat)) / 2))) = false := by simpa using h23
      refine wp_reg ?_
      refine wpF_seg 1 (by kernel_rfl) ?_
      refine gF hM21 (.binOp .add 3 (.tmp 22) (.const (.int .i64 1)) 3) (some 23) (by kernel_rfl) (Y_add .i64 ((((i : Nat) : Int) + ((j : Nat) : Int)) / 2) (1) (((((i : Nat) : Int) + ((j : Nat) : Int)) / 2) + 1) (by kernel_rfl) (by kernel_rfl) (wrap64_ok _ (by omega))) ?_
      refine wpF_seg 1 (by kernel_rfl) ?_
      refine wpF_base [(1, .func (.func fidphi) #[] capsphi), (4, .int .i64 (0)), (5, .int .i64 ((((i + j) / 2 + 1 : Nat) : Int))), (6, .int .i64 (((j : Nat) : Int)))] (by kernel_rfl) (fun g25 => ?_)
      refine wpF_end _ (by kernel_rfl) (blk_n (then_n (hK10 _ _ ((i + j) / 2 + 1, j) (by omega) ?_)))
      refine ⟨g25, V18, rfl, hM21, hM21.le, ?_, ?_⟩
      · -- Ltt inv 0
        omega
      · -- Ltt inv 1
        rw [← (by assumption : srch phi i j = srch phi 0 n)]; exact srch_f (by omega) (by assumption)
    · -- Ltf
      have h26 : (phi ((((i : Nat) + (j : Nat)) / 2))) = true := by simpa using h23
      refine wp_reg ?_
      refine wpF_seg 2 (by kernel_rfl) ?_
      refine wpF_base [(1, .func (.func fidphi) #[] capsphi), (4, .int .i64 (0)), (5, .int .i64 (((i : Nat) : Int))), (6, .int .i64 ((((i + j) / 2 : Nat) : Int)))] (by kernel_rfl) (fun g27 => ?_)
      refine wpF_end _ (by kernel_rfl) (blk_n (then_n (hK10 _ _ (i, (i + j) / 2) (by omega) ?_)))
      refine ⟨g27, V18, rfl, hM21, hM21.le, ?_, ?_⟩
      · -- Ltf inv 0
        omega
      · -- Ltf inv 1
        rw [← (by assumption : srch phi i j = srch phi 0 n)]; exact srch_t (by omega) (by assumption)
  · -- Lf
    have p28 : ¬ ((((i : Nat) : Int)) < (((j : Nat) : Int))) := of_decide_eq_false h13
    refine wp_exit (then_x (then_x (blk_hit (then_n (hK3 _ _ ?_)))))
    refine wp_seq_k (fun K29 hK29 => ?_)
    refine wp_reg ?_
    refine wpF_seg 2 (by kernel_rfl) ?_
    refine wpF_end _ (by kernel_rfl) (then_n (hK29 _ _ ?_))
    refine wp_ret ?_
    refine retN [.int .i64 (((i : Nat) : Int))] (.int .i64 (((i : Nat) : Int))) Try.results36 (.tmp (by kernel_rfl) (by kernel_rfl) .nil) (by kernel_rfl) (hRet _ _ ⟨_, _, rfl, hM8.clear, ?_⟩)
    -- end Lf
    refine ⟨(i), ?_, ?_, ?_⟩
    · rfl
    · rw [← (by assumption : srch phi i j = srch phi 0 n), srch_end (by omega)]
    · first | assumption | omega

set_option maxHeartbeats 4000000 in
set_option maxRecDepth 100000 in
theorem f40 (V : VT) (w : World) (hV : V.inW w) (j : Nat) (nl : Bool) (Ank : Option Addr) (cnk : Nat) (nk : List Str) (hnk : Rd strK V Ank cnk nk) (Anv : Option Addr) (cnv : Nat) (nv : List Str) (hnv : Rd strK V Anv cnv nv) (Anc : Option Addr) (cnc : Nat) (nc : List Int) (hnc : Rd (intK .i64) V Anc cnc nc) (bn : Nat) (hbn : ∀ i_ v_, (#[.bool (nl), .slice Ank (nk).length cnk, .slice Anv (nv).length cnv, .slice Anc (nc).length cnc] : Array Value)[i_]? = some v_ → V bn i_ = some v_) (y : Str) (hy : y.length ≤ maxL) (blky : Nat) (hblky : ∀ i_ v_, (#[bs (y)] : Array Value)[i_]? = some v_ → V blky i_ = some v_) (h1 : j < nk.length) :
    Calls Try.prog 40 #[.int .i64 ((j : Int)), .pointer (some ⟨bn, 0, none⟩), .pointer (some ⟨blky, 0, none⟩)] w (RetP V w fun rv V' => rv = .bool (decide (y < nk.getD j []))) := by
  have mxnk : nk.length ≤ 140737488355328 := hnk.max
  have mxnv : nv.length ≤ 140737488355328 := hnv.max
  have mxnc : nc.length ≤ 140737488355328 := hnc.max
  have mxy : y.length ≤ 140737488355328 := hy
  refine calls_env (n := 12) Try.func40 (c := _) rfl Try.ntmps40 (by kernel_rfl) (fun R hRet => ?_)
  have hM0 : Step V w [] V w [] := Step.refl (St.nilE hV)
  refine wp_seq_k (fun K1 hK1 => ?_)
  refine wp_reg ?_
  refine wpF_seg 1 (by kernel_rfl) ?_
  refine wpF_end _ (by kernel_rfl) (then_n (hK1 _ _ ?_))
  refine wp_seq_k (fun K2 hK2 => ?_)
  refine wp_base [(0, .int .i64 ((j : Int))), (1, .pointer (some ⟨bn, 0, none⟩)), (2, .pointer (some ⟨blky, 0, none⟩)), (4, .bool (false))] (by kernel_rfl) (fun g3 => ?_)
  refine wp_drawN hM0 [] no_held [] [0, 1, 2, 3, 4, 5, 6, 7] [] [.p 0, .p 1, .p 2, .p 3, .p 4, .p 5, .p 6, .p 7, .s] rfl (by kernel_rfl) (by kernel_rfl) ?_
  refine h_seg 1 (by kernel_rfl) ?_
  refine gH (.load 22 (.tmp 5)) (some 6) (by kernel_rfl) (Y_loadB #[.bool (nl), .slice Ank (nk).length cnk, .slice Anv (nv).length cnv, .slice Anc (nc).length cnc] hbn (off := 1) (by kernel_rfl) (.slice Ank (nk).length cnk) (by kernel_rfl)) ?_
  refine h_seg 1 (by kernel_rfl) ?_
  refine gH_index (A := Ank) (c := cnk) hnk .i64 ((j : Int)) (h := (by kernel_rfl : opAt _ _ _ _ _ = some (.indexAddr 22 (.tmp 6) (.tmp 7), some 8))) (e := 9) (by kernel_rfl) (by kernel_rfl) (by kernel_rfl) (j) rfl (by omega) (fun b4 o5 at_b4 => ?_)
  have c6 : V b4 o5 = some (bs (nk.getD (j) [])) := (At.str at_b4).1
  have l7 : (nk.getD (j) []).length ≤ 140737488355328 := (At.str at_b4).2
  refine gH (.load 9 (.tmp 8)) (some 9) (by kernel_rfl) (Y_loadV c6 (by kernel_rfl) (by kernel_rfl)) ?_
  refine gH (.load 9 (.tmp 2)) (some 10) (by kernel_rfl) (Y_loadB #[bs (y)] hblky (off := 0) (by kernel_rfl) (bs (y)) (by kernel_rfl)) ?_
  refine h_seg 2 (by kernel_rfl) ?_
  refine h_s no_fs ?_
  refine h_n (fun w8 hM9 => ?_)
  refine  (then_n (hK2 _ _ ?_))
  refine wp_ret ?_
  refine retN [.bool (decide ((y) < ((nk.getD (j) []))))] (.bool (decide ((y) < ((nk.getD (j) []))))) Try.results40 (.tmp (by kernel_rfl) (by kernel_rfl) .nil) (by kernel_rfl) (hRet _ _ ⟨_, _, rfl, hM9.clear, ?_⟩)
  -- end 
  rfl

set_option maxHeartbeats 4000000 in
set_option maxRecDepth 100000 in
theorem f41 (V : VT) (w : World) (hV : V.inW w) (j : Nat) (nl : Bool) (Ank : Option Addr) (cnk : Nat) (nk : List Str) (hnk : Rd strK V Ank cnk nk) (Anv : Option Addr) (cnv : Nat) (nv : List Str) (hnv : Rd strK V Anv cnv nv) (Anc : Option Addr) (cnc : Nat) (nc : List Int) (hnc : Rd (intK .i64) V Anc cnc nc) (bn : Nat) (hbn : ∀ i_ v_, (#[.bool (nl), .slice Ank (nk).length cnk, .slice Anv (nv).length cnv, .slice Anc (nc).length cnc] : Array Value)[i_]? = some v_ → V bn i_ = some v_) (y : Str) (hy : y.length ≤ maxL) (blky : Nat) (hblky : ∀ i_ v_, (#[bs (y)] : Array Value)[i_]? = some v_ → V blky i_ = some v_) (h1 : j < nk.length) :
    Calls Try.prog 41 #[.int .i64 ((j : Int)), .pointer (some ⟨bn, 0, none⟩), .pointer (some ⟨blky, 0, none⟩)] w (RetP V w fun rv V' => rv = .bool (!(decide (nk.getD j [] < y)))) := by
  have mxnk : nk.length ≤ 140737488355328 := hnk.max
  have mxnv : nv.length ≤ 140737488355328 := hnv.max
  have mxnc : nc.length ≤ 140737488355328 := hnc.max
  have mxy : y.length ≤ 140737488355328 := hy
  refine calls_env (n := 12) Try.func41 (c := _) rfl Try.ntmps41 (by kernel_rfl) (fun R hRet => ?_)
  have hM0 : Step V w [] V w [] := Step.refl (St.nilE hV)
  refine wp_seq_k (fun K1 hK1 => ?_)
  refine wp_reg ?_
  refine wpF_seg 1 (by kernel_rfl) ?_
  refine wpF_end _ (by kernel_rfl) (then_n (hK1 _ _ ?_))
  refine wp_seq_k (fun K2 hK2 => ?_)
  refine wp_base [(0, .int .i64 ((j : Int))), (1, .pointer (some ⟨bn, 0, none⟩)), (2, .pointer (some ⟨blky, 0, none⟩)), (4, .bool (false))] (by kernel_rfl) (fun g3 => ?_)
  refine wp_drawN hM0 [] no_held [] [0, 1, 2, 3, 4, 5, 6, 7] [] [.p 0, .p 1, .p 2, .p 3, .p 4, .p 5, .p 6, .p 7, .s] rfl (by kernel_rfl) (by kernel_rfl) ?_
  refine h_seg 1 (by kernel_rfl) ?_
  refine gH (.load 22 (.tmp 5)) (some 6) (by kernel_rfl) (Y_loadB #[.bool (nl), .slice Ank (nk).length cnk, .slice Anv (nv).length cnv, .slice Anc (nc).length cnc] hbn (off := 1) (by kernel_rfl) (.slice Ank (nk).length cnk) (by kernel_rfl)) ?_
  refine h_seg 1 (by kernel_rfl) ?_
  refine gH_index (A := Ank) (c := cnk) hnk .i64 ((j : Int)) (h := (by kernel_rfl : opAt _ _ _ _ _ = some (.indexAddr 22 (.tmp 6) (.tmp 7), some 8))) (e := 9) (by kernel_rfl) (by kernel_rfl) (by kernel_rfl) (j) rfl (by omega) (fun b4 o5 at_b4 => ?_)
  have c6 : V b4 o5 = some (bs (nk.getD (j) [])) := (At.str at_b4).1
  have l7 : (nk.getD (j) []).length ≤ 140737488355328 := (At.str at_b4).2
  refine gH (.load 9 (.tmp 8)) (some 9) (by kernel_rfl) (Y_loadV c6 (by kernel_rfl) (by kernel_rfl)) ?_
  refine gH (.load 9 (.tmp 2)) (some 10) (by kernel_rfl) (Y_loadB #[bs (y)] hblky (off := 0) (by kernel_rfl) (bs (y)) (by kernel_rfl)) ?_
  refine h_seg 2 (by kernel_rfl) ?_
  refine h_s no_fs ?_
  refine h_n (fun w8 hM9 => ?_)
  refine  (then_n (hK2 _ _ ?_))
  refine wp_ret ?_
  refine retN [.bool (!(decide (((nk.getD (j) [])) < (y))))] (.bool (!(decide (((nk.getD (j) [])) < (y))))) Try.results41 (.tmp (by kernel_rfl) (by kernel_rfl) .nil) (by kernel_rfl) (hRet _ _ ⟨_, _, rfl, hM9.clear, ?_⟩)
  -- end 
  rfl

set_option maxHeartbeats 4000000 in
set_option maxRecDepth 100000 in
theorem f22 (V : VT) (w : World) (hV : V.inW w) (nl : Bool) (Ank : Option Addr) (cnk : Nat) (nk : List Str) (hnk : Rd strK V Ank cnk nk) (Anv : Option Addr) (cnv : Nat) (nv : List Str) (hnv : Rd strK V Anv cnv nv) (Anc : Option Addr) (cnc : Nat) (nc : List Int) (hnc : Rd (intK .i64) V Anc cnc nc) (y : Str) (hy : y.length ≤ maxL) :
    Calls Try.prog 22 #[.agg #[.bool (nl), .slice Ank (nk).length cnk, .slice Anv (nv).length cnv, .slice Anc (nc).length cnc], bs (y)] w (RetP V w fun rv V' => rv = .tuple #[.int .i64 (findI nl nk nv nc y), .bool (findB nl nk nv nc y)]) := by
  have mxnk : nk.length ≤ 140737488355328 := hnk.max
  have mxnv : nv.length ≤ 140737488355328 := hnv.max
  have mxnc : nc.length ≤ 140737488355328 := hnc.max
  have mxy : y.length ≤ 140737488355328 := hy
  refine calls_env (n := 38) Try.func22 (c := _) rfl Try.ntmps22 (by kernel_rfl) (fun R hRet => ?_)
  have hM0 : Step V w [] V w [] := Step.refl (St.nilE hV)
  cases nl with
  | false =>
    refine wp_seq_k (fun K1 hK1 => ?_)
    refine wp_reg ?_
    refine wpF_box hM0 #[.bool (false), .slice Ank (nk).length cnk, .slice Anv (nv).length cnv, .slice Anc (nc).length cnc] (h := (by kernel_rfl : opAt _ _ _ _ _ = some (.box 25 (.tmp 0), some 2))) (by kernel_rfl) (fun b2 w3 hM4 => ?_)
    obtain ⟨V5, le6, hM7, hc8⟩ := hM4.settle 0 rfl
    have hM9 : Step V w [] V5 _ ([]) := hM7
    refine wpF_box hM9 #[bs (y)] (h := (by kernel_rfl : opAt _ _ _ _ _ = some (.box 9 (.tmp 1), some 3))) (by kernel_rfl) (fun b10 w11 hM12 => ?_)
    obtain ⟨V13, le14, hM15, hc16⟩ := hM12.settle 0 rfl
    have hM17 : Step V w [] V13 _ ([]) := hM15
    refine wpF_seg 2 (by kernel_rfl) ?_
    refine wpF_end _ (by kernel_rfl) (then_n (hK1 _ _ ?_))
    refine wp_seq_k (fun K18 hK18 => ?_)
    refine wp_seq_k (fun K19 hK19 => ?_)
    refine wp_reg ?_
    refine gF hM17 (.load 25 (.tmp 2)) (some 7) (by kernel_rfl) (Y_loadB #[.bool (false), .slice Ank (nk).length cnk, .slice Anv (nv).length cnv, .slice Anc (nc).length cnc] (fun i v hi => le14 _ _ _ (hc8 i v hi)) (off := 0) (by kernel_rfl) (.agg #[.bool (false), .slice Ank (nk).length cnk, .slice Anv (nv).length cnv, .slice Anc (nc).length cnc]) (by kernel_rfl)) ?_
    refine wpF_callP hM17 (f := 34) (caps := #[]) (h := (by kernel_rfl : opAt _ _ _ _ _ = some (.call (.mk (.value (.func 34)) #[(.tmp 7)] #[25]), some 8))) (by kernel_rfl) (by kernel_rfl) (by kernel_rfl) (f34 _ _ hM17.inW (false) Ank cnk (nk) (hnk.up hM17.le) Anv cnv (nv) (hnv.up hM17.le) Anc cnc (nc) (hnc.up hM17.le)) (fun v20 V21 w22 le23 hM24 hp25 => ?_)
    obtain rfl := hp25
    refine wpF_seg 1 (by kernel_rfl) ?_
    refine wpF_end _ (by kernel_rfl) (then_n (hK19 _ _ ?_))
    refine wp_if (!(stands (false) (nk) (nv) (nc))) (by kernel_rfl) (fun h26 => ?_) (fun h26 => ?_)
    · -- Ft
      have h27 : (stands (false) (nk) (nv) (nc)) = false := by simpa using h26
      refine wp_seq_k (fun K28 hK28 => ?_)
      refine wp_reg ?_
      refine wpF_seg 2 (by kernel_rfl) ?_
      refine wpF_end _ (by kernel_rfl) (then_n (hK28 _ _ ?_))
      refine wp_ret (then_r (?_))
      refine retN [.int .i64 (0), .bool (false)] (.tuple #[.int .i64 (0), .bool (false)]) Try.results22 (.tmp (by kernel_rfl) (by kernel_rfl) (.tmp (by kernel_rfl) (by kernel_rfl) .nil)) (by kernel_rfl) (hRet _ _ ⟨_, _, rfl, hM24.clear, ?_⟩)
      -- end Ft
      subst_vars; delta findI findB findN; simp only [h26, h27, cond_true, cond_false, Bool.true_and, Bool.and_true, Bool.false_and, Bool.and_false]
    · -- Ff
      have h29 : (stands (false) (nk) (nv) (nc)) = true := by simpa using h26
      refine wp_skip (then_n (hK18 _ _ ?_))
      refine wp_seq_k (fun K30 hK30 => ?_)
      refine wp_seq_k (fun K31 hK31 => ?_)
      refine wp_reg ?_
      refine wpF_seg 1 (by kernel_rfl) ?_
      refine gF hM24 (.load 4 (.tmp 10)) (some 11) (by kernel_rfl) (Y_loadB #[.bool (false), .slice Ank (nk).length cnk, .slice Anv (nv).length cnv, .slice Anc (nc).length cnc] (fun i v hi => (le14.trans le23) _ _ _ (hc8 i v hi)) (off := 0) (by kernel_rfl) (.bool (false)) (by kernel_rfl)) ?_
      refine wpF_seg 1 (by kernel_rfl) ?_
      refine wpF_end _ (by kernel_rfl) (then_n (hK31 _ _ ?_))
      refine wp_ct (by kernel_rfl) ?_
      refine wp_seq_k (fun K32 hK32 => ?_)
      refine wp_reg ?_
      refine wpF_seg 1 (by kernel_rfl) ?_
      refine gF hM24 (.load 22 (.tmp 13)) (some 14) (by kernel_rfl) (Y_loadB #[.bool (false), .slice Ank (nk).length cnk, .slice Anv (nv).length cnv, .slice Anc (nc).length cnc] (fun i v hi => (le14.trans le23) _ _ _ (hc8 i v hi)) (off := 1) (by kernel_rfl) (.slice Ank (nk).length cnk) (by kernel_rfl)) ?_
      refine wpF_seg 2 (by kernel_rfl) ?_
      refine wpF_callP hM24 (f := 36) (caps := #[]) (h := (by kernel_rfl : opAt _ _ _ _ _ = some (.call (.mk (.value (.func 36)) #[(.tmp 15), (.tmp 16)] #[3, 58]), some 17))) (by kernel_rfl) (by kernel_rfl) (by kernel_rfl) (f36 _ _ hM24.inW (nk.length) 40 #[.pointer (some ⟨b2, 0, none⟩), .pointer (some ⟨b10, 0, none⟩)] (by kernel_rfl) (fun (y_ : Nat) => decide ((y) < (nk).getD y_ [])) (fun V_ w_ l_ i_ j_ hj_ => f40 V_ w_ i_ j_ (false) Ank cnk (nk) ((hnk.up hM24.le).up l_) Anv cnv (nv) ((hnv.up hM24.le).up l_) Anc cnc (nc) ((hnc.up hM24.le).up l_) b2 (fun i_ v_ hi_ => l_ _ _ _ ((le14.trans le23) _ _ _ (hc8 i_ v_ hi_))) (y) (hy) b10 (fun i_ v_ hi_ => l_ _ _ _ (le23 _ _ _ (hc16 i_ v_ hi_))) (by omega)) (by omega)) (fun v33 V34 w35 le36 hM37 hp38 => ?_)
      obtain ⟨nr38_1, rfl, r39, x40⟩ := hp38
      have q41 : nr38_1 = srch (fun (y_ : Nat) => decide ((y) < (nk).getD y_ [])) 0 (nk.length) := r39
      have x40 : nr38_1 ≤ (nk.length) := x40
      refine wpF_seg 2 (by kernel_rfl) ?_
      refine wpF_end _ (by kernel_rfl) (then_n (hK32 _ _ ?_))
      refine wp_ret (then_r (?_))
      refine retN [.int .i64 ((nr38_1 : Int)), .bool (false)] (.tuple #[.int .i64 ((nr38_1 : Int)), .bool (false)]) Try.results22 (.tmp (by kernel_rfl) (by kernel_rfl) (.tmp (by kernel_rfl) (by kernel_rfl) .nil)) (by kernel_rfl) (hRet _ _ ⟨_, _, rfl, hM37.clear, ?_⟩)
      -- end Ff
      subst_vars; delta findI findB findN; simp only [h26, h29, cond_true, cond_false, Bool.true_and, Bool.and_true, Bool.false_and, Bool.and_false]
  | true =>
    refine wp_seq_k (fun K42 hK42 => ?_)
    refine wp_reg ?_
    refine wpF_box hM0 #[.bool (true), .slice Ank (nk).length cnk, .slice Anv (nv).length cnv, .slice Anc (nc).length cnc] (h := (by kernel_rfl : opAt _ _ _ _ _ = some (.box 25 (.tmp 0), some 2))) (by kernel_rfl) (fun b43 w44 hM45 => ?_)
    obtain ⟨V46, le47, hM48, hc49⟩ := hM45.settle 0 rfl
    have hM50 : Step V w [] V46 _ ([]) := hM48
    refine wpF_box hM50 #[bs (y)] (h := (by kernel_rfl : opAt _ _ _ _ _ = some (.box 9 (.tmp 1), some 3))) (by kernel_rfl) (fun b51 w52 hM53 => ?_)
    obtain ⟨V54, le55, hM56, hc57⟩ := hM53.settle 0 rfl
    have hM58 : Step V w [] V54 _ ([]) := hM56
    refine wpF_seg 2 (by kernel_rfl) ?_
    refine wpF_end _ (by kernel_rfl) (then_n (hK42 _ _ ?_))
    refine wp_seq_k (fun K59 hK59 => ?_)
    refine wp_seq_k (fun K60 hK60 => ?_)
    refine wp_reg ?_
    refine gF hM58 (.load 25 (.tmp 2)) (some 7) (by kernel_rfl) (Y_loadB #[.bool (true), .slice Ank (nk).length cnk, .slice Anv (nv).length cnv, .slice Anc (nc).length cnc] (fun i v hi => le55 _ _ _ (hc49 i v hi)) (off := 0) (by kernel_rfl) (.agg #[.bool (true), .slice Ank (nk).length cnk, .slice Anv (nv).length cnv, .slice Anc (nc).length cnc]) (by kernel_rfl)) ?_
    refine wpF_callP hM58 (f := 34) (caps := #[]) (h := (by kernel_rfl : opAt _ _ _ _ _ = some (.call (.mk (.value (.func 34)) #[(.tmp 7)] #[25]), some 8))) (by kernel_rfl) (by kernel_rfl) (by kernel_rfl) (f34 _ _ hM58.inW (true) Ank cnk (nk) (hnk.up hM58.le) Anv cnv (nv) (hnv.up hM58.le) Anc cnc (nc) (hnc.up hM58.le)) (fun v61 V62 w63 le64 hM65 hp66 => ?_)
    obtain rfl := hp66
    refine wpF_seg 1 (by kernel_rfl) ?_
    refine wpF_end _ (by kernel_rfl) (then_n (hK60 _ _ ?_))
    refine wp_if (!(stands (true) (nk) (nv) (nc))) (by kernel_rfl) (fun h67 => ?_) (fun h67 => ?_)
    · -- Tt
      have h68 : (stands (true) (nk) (nv) (nc)) = false := by simpa using h67
      refine wp_seq_k (fun K69 hK69 => ?_)
      refine wp_reg ?_
      refine wpF_seg 2 (by kernel_rfl) ?_
      refine wpF_end _ (by kernel_rfl) (then_n (hK69 _ _ ?_))
      refine wp_ret (then_r (?_))
      refine retN [.int .i64 (0), .bool (false)] (.tuple #[.int .i64 (0), .bool (false)]) Try.results22 (.tmp (by kernel_rfl) (by kernel_rfl) (.tmp (by kernel_rfl) (by kernel_rfl) .nil)) (by kernel_rfl) (hRet _ _ ⟨_, _, rfl, hM65.clear, ?_⟩)
      -- end Tt
      subst_vars; delta findI findB findN; simp only [h67, h68, cond_true, cond_false, Bool.true_and, Bool.and_true, Bool.false_and, Bool.and_false]
    · -- Tf
      have h70 : (stands (true) (nk) (nv) (nc)) = true := by simpa using h67
      refine wp_skip (then_n (hK59 _ _ ?_))
      refine wp_seq_k (fun K71 hK71 => ?_)
      refine wp_seq_k (fun K72 hK72 => ?_)
      refine wp_reg ?_
      refine wpF_seg 1 (by kernel_rfl) ?_
      refine gF hM65 (.load 4 (.tmp 10)) (some 11) (by kernel_rfl) (Y_loadB #[.bool (true), .slice Ank (nk).length cnk, .slice Anv (nv).length cnv, .slice Anc (nc).length cnc] (fun i v hi => (le55.trans le64) _ _ _ (hc49 i v hi)) (off := 0) (by kernel_rfl) (.bool (true)) (by kernel_rfl)) ?_
      refine wpF_seg 1 (by kernel_rfl) ?_
      refine wpF_end _ (by kernel_rfl) (then_n (hK72 _ _ ?_))
      refine wp_cf (by kernel_rfl) ?_
      refine wp_skip (then_n (hK71 _ _ ?_))
      refine wp_seq_k (fun K73 hK73 => ?_)
      refine wp_reg ?_
      refine wpF_seg 1 (by kernel_rfl) ?_
      refine gF hM65 (.load 22 (.tmp 18)) (some 19) (by kernel_rfl) (Y_loadB #[.bool (true), .slice Ank (nk).length cnk, .slice Anv (nv).length cnv, .slice Anc (nc).length cnc] (fun i v hi => (le55.trans le64) _ _ _ (hc49 i v hi)) (off := 1) (by kernel_rfl) (.slice Ank (nk).length cnk) (by kernel_rfl)) ?_
      refine wpF_seg 2 (by kernel_rfl) ?_
      refine wpF_callP hM65 (f := 36) (caps := #[]) (h := (by kernel_rfl : opAt _ _ _ _ _ = some (.call (.mk (.value (.func 36)) #[(.tmp 20), (.tmp 21)] #[3, 58]), some 22))) (by kernel_rfl) (by kernel_rfl) (by kernel_rfl) (f36 _ _ hM65.inW (nk.length) 41 #[.pointer (some ⟨b43, 0, none⟩), .pointer (some ⟨b51, 0, none⟩)] (by kernel_rfl) (fun (y_ : Nat) => !decide ((nk).getD y_ [] < (y))) (fun V_ w_ l_ i_ j_ hj_ => f41 V_ w_ i_ j_ (true) Ank cnk (nk) ((hnk.up hM65.le).up l_) Anv cnv (nv) ((hnv.up hM65.le).up l_) Anc cnc (nc) ((hnc.up hM65.le).up l_) b43 (fun i_ v_ hi_ => l_ _ _ _ ((le55.trans le64) _ _ _ (hc49 i_ v_ hi_))) (y) (hy) b51 (fun i_ v_ hi_ => l_ _ _ _ (le64 _ _ _ (hc57 i_ v_ hi_))) (by omega)) (by omega)) (fun v74 V75 w76 le77 hM78 hp79 => ?_)
      obtain ⟨nr79_1, rfl, r80, x81⟩ := hp79
      have q82 : nr79_1 = srch (fun (y_ : Nat) => !decide ((nk).getD y_ [] < (y))) 0 (nk.length) := r80
      have x81 : nr79_1 ≤ (nk.length) := x81
      refine wpF_seg 1 (by kernel_rfl) ?_
      refine wpF_end _ (by kernel_rfl) (then_n (hK73 _ _ ?_))
      refine wp_seq_k (fun K83 hK83 => ?_)
      refine wp_base [(2, .pointer (some ⟨b43, 0, none⟩)), (3, .pointer (some ⟨b51, 0, none⟩)), (4, .int .i64 (0)), (5, .bool (false)), (6, .int .i64 ((nr79_1 : Int))), (9, .bool (!(stands (true) (nk) (nv) (nc))))] (by kernel_rfl) (fun g84 => ?_)
      refine wp_drawN hM78 [] no_held [] [0, 1, 2, 3, 4, 5, 6, 7, 8, 9, 10, 11, 12, 13, 14, 15, 16] [] [.p 0, .p 1, .p 2, .p 3, .p 4, .p 5, .p 6, .p 7, .p 8, .p 9, .p 10, .p 11, .p 12, .p 13, .p 14, .p 15, .p 16, .s] rfl (by kernel_rfl) (by kernel_rfl) ?_
      refine h_seg 3 (by kernel_rfl) ?_
      refine gH (.load 22 (.tmp 25)) (some 26) (by kernel_rfl) (Y_loadB #[.bool (true), .slice Ank (nk).length cnk, .slice Anv (nv).length cnv, .slice Anc (nc).length cnc] (fun i v hi => ((le55.trans le64).trans le77) _ _ _ (hc49 i v hi)) (off := 1) (by kernel_rfl) (.slice Ank (nk).length cnk) (by kernel_rfl)) ?_
      refine h_seg 3 (by kernel_rfl) ?_
      refine h_caseB 29 (decide (((nr79_1 : Int)) < ((nk.length : Int)))) (by kernel_rfl) (by kernel_rfl) (fun h85 => ?_) (fun h85 => ?_)
      · -- Tft
        have p86 : (((nr79_1 : Int)) < ((nk.length : Int))) := of_decide_eq_true h85
        refine h_seg 1 (by kernel_rfl) ?_
        refine gH (.load 22 (.tmp 30)) (some 31) (by kernel_rfl) (Y_loadB #[.bool (true), .slice Ank (nk).length cnk, .slice Anv (nv).length cnv, .slice Anc (nc).length cnc] (fun i v hi => ((le55.trans le64).trans le77) _ _ _ (hc49 i v hi)) (off := 1) (by kernel_rfl) (.slice Ank (nk).length cnk) (by kernel_rfl)) ?_
        refine h_seg 1 (by kernel_rfl) ?_
        refine gH_index (A := Ank) (c := cnk) (hnk.up hM78.le) .i64 ((nr79_1 : Int)) (h := (by kernel_rfl : opAt _ _ _ _ _ = some (.indexAddr 22 (.tmp 31) (.tmp 32), some 33))) (e := 9) (by kernel_rfl) (by kernel_rfl) (by kernel_rfl) (nr79_1) rfl (by omega) (fun b87 o88 at_b87 => ?_)
        have c89 : V75 b87 o88 = some (bs (nk.getD (nr79_1) [])) := (At.str at_b87).1
        have l90 : (nk.getD (nr79_1) []).length ≤ 140737488355328 := (At.str at_b87).2
        refine gH (.load 9 (.tmp 33)) (some 34) (by kernel_rfl) (Y_loadV c89 (by kernel_rfl) (by kernel_rfl)) ?_
        refine gH (.load 9 (.tmp 3)) (some 35) (by kernel_rfl) (Y_loadB #[bs (y)] (fun i v hi => (le64.trans le77) _ _ _ (hc57 i v hi)) (off := 0) (by kernel_rfl) (bs (y)) (by kernel_rfl)) ?_
        refine h_seg 4 (by kernel_rfl) ?_
        refine h_s no_fs ?_
        refine h_n (fun w91 hM92 => ?_)
        refine  (then_n (hK83 _ _ ?_))
        refine wp_ret ?_
        refine retN [.int .i64 ((nr79_1 : Int)), .bool (decide (((nk.getD (nr79_1) [])) = (y)))] (.tuple #[.int .i64 ((nr79_1 : Int)), .bool (decide (((nk.getD (nr79_1) [])) = (y)))]) Try.results22 (.tmp (by kernel_rfl) (by kernel_rfl) (.tmp (by kernel_rfl) (by kernel_rfl) .nil)) (by kernel_rfl) (hRet _ _ ⟨_, _, rfl, hM92.clear, ?_⟩)
        -- end Tft
        subst_vars; delta findI findB findN; simp only [h67, h70, h85, cond_true, cond_false, Bool.true_and, Bool.and_true, Bool.false_and, Bool.and_false]
      · -- Tff
        have p93 : ¬ (((nr79_1 : Int)) < ((nk.length : Int))) := of_decide_eq_false h85
        refine h_seg 10 (by kernel_rfl) ?_
        refine h_s no_fs ?_
        refine h_n (fun w94 hM95 => ?_)
        refine  (then_n (hK83 _ _ ?_))
        refine wp_ret ?_
        refine retN [.int .i64 ((nr79_1 : Int)), .bool (false)] (.tuple #[.int .i64 ((nr79_1 : Int)), .bool (false)]) Try.results22 (.tmp (by kernel_rfl) (by kernel_rfl) (.tmp (by kernel_rfl) (by kernel_rfl) .nil)) (by kernel_rfl) (hRet _ _ ⟨_, _, rfl, hM95.clear, ?_⟩)
        -- end Tff
        subst_vars; delta findI findB findN; simp only [h67, h70, h85, cond_true, cond_false, Bool.true_and, Bool.and_true, Bool.false_and, Bool.and_false]

end Go.Vk
