/- Contracts of the page's functions, part D: printed by wip/tools/p8.py. -/
import Derived.Test.YtpaljghjoajhfaaPC
set_option linter.unusedVariables false
set_option linter.unusedSimpArgs false
namespace Go.Vk
open Go.Proofs
set_option maxRecDepth 100000 in
theorem f36 (V : VT) (w : World) (hV : V.inW w) (n : Nat) (fidphi : FuncId) (capsphi : Array Value) (hfidphi : callable Try.prog fidphi = true) (phi : Nat → Bool) (hfphi : ∀ V_ w_, VT.le V V_ → V_.inW w_ → ∀ j_ : Nat, (j_ : Int) < n → Calls Try.prog fidphi (#[.int .i64 (j_ : Int)] ++ capsphi) w_ (RetP V_ w_ fun v_ _ => v_ = .bool (phi j_))) (h1 : n ≤ 140737488355328) :
    Calls Try.prog 36 #[.int .i64 ((n : Int)), .func (.func fidphi) #[] capsphi] w (RetP V w fun rv V' => ∃ (n1 : Nat), rv = .int .i64 ((n1 : Int)) ∧ n1 = srch phi 0 n ∧ n1 ≤ n) := by
  refine calls_env (n := 26) Try.func36 (c := _) rfl Try.ntmps36 (by kernel_rfl) (fun R hRet => ?_)
  have hM0 : Step V w [] V w [] := Step.refl (St.nilE hV)
  refine wp_seq_k (fun K1 hK1 => ?_)
  refine wp_reg ?_
  refine wpF_seg 1 (by kernel_rfl) ?_
  refine wpF_end _ (by kernel_rfl) (then_n (hK1 _ _ ?_))
  refine wp_seq_k (fun K2 hK2 => ?_)
  refine wp_reg ?_
  refine wpF_seg 3 (by kernel_rfl) ?_
  refine wpF_end _ (by kernel_rfl) (then_n (hK2 _ _ ?_))
  refine wp_seq_k (fun K3 hK3 => ?_)
  refine wp_block ?_
  refine wp_base [(1, .func (.func fidphi) #[] capsphi), (4, .int .i64 (0)), (5, .int .i64 (((0 : Nat) : Int))), (6, .int .i64 (((n : Nat) : Int)))] (by kernel_rfl) (fun g5 => ?_)
  refine wp_loopX (fun (x_ : Nat × Nat) a_ w_ => ∃ (g : Nat → Value) (V_ : VT), a_ = env 26 [(1, .func (.func fidphi) #[] capsphi), (4, .int .i64 (0)), (5, .int .i64 (((x_.1 : Nat) : Int))), (6, .int .i64 (((x_.2 : Nat) : Int)))] g ∧ Step V w [] V_ w_ [] ∧ VT.le V V_ ∧ (x_.1 ≤ x_.2 ∧ x_.2 ≤ n) ∧ (srch phi x_.1 x_.2 = srch phi 0 n)) (fun (x_ : Nat × Nat) => x_.2 - x_.1) ((0 : Nat), (n : Nat)) ⟨g5, V, rfl, hM0, VT.le.refl _, by omega, by rfl⟩ ?_
  rintro ⟨i, j⟩ a_ w7 ⟨g6, Vl4, rfl, hM8, le9, hi10_0, hi10_1⟩ K10 hK10
  refine wp_seq_k (fun K11 hK11 => ?_)
  refine wp_seq_k (fun K12 hK12 => ?_)
  refine wp_reg ?_
  refine wpF_seg 3 (by kernel_rfl) ?_
  refine wpF_end _ (by kernel_rfl) (then_n (hK12 _ _ ?_))
  refine wp_if (decide ((((i : Nat) : Int)) < (((j : Nat) : Int)))) (by kernel_rfl) (fun h13 => ?_) (fun h13 => ?_)
  · -- Lt
    have p14 : ((((i : Nat) : Int)) < (((j : Nat) : Int))) := of_decide_eq_true h13
    refine wp_skip (then_n (hK11 _ _ ?_))
    refine wp_block ?_
    refine wp_seq_k (fun K15 hK15 => ?_)
    refine wp_reg ?_
    refine wpF_seg 2 (by kernel_rfl) ?_
    refine wpF_add .i64 (((i : Nat) : Int)) (((j : Nat) : Int)) (((i : Nat) : Int) + ((j : Nat) : Int)) (h := (by kernel_rfl : opAt _ _ _ _ _ = some (Go.Op.binOp Go.BinOp.add 3 (Go.Operand.tmp 12) (Go.Operand.tmp 13) 3, some 14))) (by kernel_rfl) (by kernel_rfl) (wrap64_ok _ (by omega)) ?_
    refine wpF_conv .i64 .i64 .u64 (((i : Nat) : Int) + ((j : Nat) : Int)) (((i : Nat) : Int) + ((j : Nat) : Int)) (h := (by kernel_rfl : opAt _ _ _ _ _ = some (Go.Op.convert 3 83 (Go.Operand.tmp 14), some 15))) (by kernel_rfl) (by kernel_rfl) (by kernel_rfl) (wrapu64_ok _ (by omega)) ?_
    refine wpF_shr .u64 .u64 (((i : Nat) : Int) + ((j : Nat) : Int)) (1) ((((i : Nat) : Int) + ((j : Nat) : Int)) / 2) (h := (by kernel_rfl : opAt _ _ _ _ _ = some (Go.Op.binOp Go.BinOp.shr 83 (Go.Operand.tmp 15) (Go.Operand.const (Go.Value.int Go.IntKind.u64 1)) 83, some 16))) (by kernel_rfl) (by kernel_rfl) (by omega) (by rw [Int.fdiv_eq_ediv_of_nonneg _ (by decide)]; rfl) ?_
    refine wpF_conv .u64 .u64 .i64 ((((i : Nat) : Int) + ((j : Nat) : Int)) / 2) ((((i : Nat) : Int) + ((j : Nat) : Int)) / 2) (h := (by kernel_rfl : opAt _ _ _ _ _ = some (Go.Op.convert 83 3 (Go.Operand.tmp 16), some 17))) (by kernel_rfl) (by kernel_rfl) (by kernel_rfl) (wrap64_ok _ (by omega)) ?_
    refine wpF_seg 1 (by kernel_rfl) ?_
    refine wpF_end _ (by kernel_rfl) (then_n (hK15 _ _ ?_))
    refine wp_seq_k (fun K16 hK16 => ?_)
    refine wp_reg ?_
    refine wpF_seg 2 (by kernel_rfl) ?_
    refine wpF_callP hM8 (f := fidphi) (caps := capsphi) (h := (by kernel_rfl : opAt _ _ _ _ _ = some (Go.Op.call (Go.Call.mk (Go.Callee.value (Go.Operand.tmp 18)) #[(Go.Operand.tmp 19)] #[3]), some 20))) (by kernel_rfl) hfidphi (by kernel_rfl) (hfphi _ _ hM8.le hM8.inW (((i : Nat) + (j : Nat)) / 2) (by omega)) (fun v17 V18 w19 le20 hM21 hp22 => ?_)
    obtain rfl := hp22
    refine wpF_seg 1 (by kernel_rfl) ?_
    refine wpF_end _ (by kernel_rfl) (then_n (hK16 _ _ ?_))
    refine wp_if (!(phi ((((i : Nat) + (j : Nat)) / 2)))) (by kernel_rfl) (fun h23 => ?_) (fun h23 => ?_)
    · -- Ltt
      have h24 : (phi ((((i : Nat) + (j : Nat)) / 2))) = false := by simpa using h23
      refine wp_reg ?_
      refine wpF_seg 1 (by kernel_rfl) ?_
      refine wpF_add .i64 ((((i : Nat) : Int) + ((j : Nat) : Int)) / 2) (1) (((((i : Nat) : Int) + ((j : Nat) : Int)) / 2) + 1) (h := (by kernel_rfl : opAt _ _ _ _ _ = some (Go.Op.binOp Go.BinOp.add 3 (Go.Operand.tmp 22) (Go.Operand.const (Go.Value.int Go.IntKind.i64 1)) 3, some 23))) (by kernel_rfl) (by kernel_rfl) (wrap64_ok _ (by omega)) ?_
      refine wpF_seg 1 (by kernel_rfl) ?_
      refine wpF_base [(1, .func (.func fidphi) #[] capsphi), (4, .int .i64 (0)), (5, .int .i64 ((((i + j) / 2 + 1 : Nat) : Int))), (6, .int .i64 (((j : Nat) : Int)))] (by kernel_rfl) (fun g25 => ?_)
      refine wpF_end _ (by kernel_rfl) (blk_n (then_n (hK10 _ _ ((i + j) / 2 + 1, j) (by omega) ?_)))
      refine ⟨g25, V18, rfl, hM21, hM21.le, ?_, ?_⟩
      · -- Ltt inv 0
        omega
      · -- Ltt inv 1
        rw [← (by assumption : srch phi i j = srch phi 0 n)]; exact srch_f (by omega) (by assumption)
    · -- Ltf
      have h26 : (phi ((((i : Nat) + (j : Nat)) / 2))) = true := by simpa using h23
      refine wp_reg ?_
      refine wpF_seg 2 (by kernel_rfl) ?_
      refine wpF_base [(1, .func (.func fidphi) #[] capsphi), (4, .int .i64 (0)), (5, .int .i64 (((i : Nat) : Int))), (6, .int .i64 ((((i + j) / 2 : Nat) : Int)))] (by kernel_rfl) (fun g27 => ?_)
      refine wpF_end _ (by kernel_rfl) (blk_n (then_n (hK10 _ _ (i, (i + j) / 2) (by omega) ?_)))
      refine ⟨g27, V18, rfl, hM21, hM21.le, ?_, ?_⟩
      · -- Ltf inv 0
        omega
      · -- Ltf inv 1
        rw [← (by assumption : srch phi i j = srch phi 0 n)]; exact srch_t (by omega) (by assumption)
  · -- Lf
    have p28 : ¬ ((((i : Nat) : Int)) < (((j : Nat) : Int))) := of_decide_eq_false h13
    refine wp_exit (then_x (then_x (blk_hit (then_n (hK3 _ _ ?_)))))
    refine wp_seq_k (fun K29 hK29 => ?_)
    refine wp_reg ?_
    refine wpF_seg 2 (by kernel_rfl) ?_
    refine wpF_end _ (by kernel_rfl) (then_n (hK29 _ _ ?_))
    refine wp_ret ?_
    refine retN [.int .i64 (((i : Nat) : Int))] (.int .i64 (((i : Nat) : Int))) Try.results36 (.tmp (by kernel_rfl) (by kernel_rfl) .nil) (by kernel_rfl) (hRet _ _ ⟨_, _, rfl, hM8.clear, ?_⟩)
    -- end Lf
    refine ⟨(i), ?_, ?_, ?_⟩
    · rfl
    · rw [← (by assumption : srch phi i j = srch phi 0 n), srch_end (by omega)]
    · first | assumption | omega

set_option maxRecDepth 100000 in
theorem f40 (V : VT) (w : World) (hV : V.inW w) (j : Nat) (nl : Bool) (Ank : Option Addr) (cnk : Nat) (nk : List Str) (hnk : Rd strK V Ank cnk nk) (Anv : Option Addr) (cnv : Nat) (nv : List Str) (hnv : Rd strK V Anv cnv nv) (Anc : Option Addr) (cnc : Nat) (nc : List Int) (hnc : Rd (intK .i64) V Anc cnc nc) (bn : Nat) (hbn : ∀ i_ v_, (#[.bool (nl), .slice Ank (nk).length cnk, .slice Anv (nv).length cnv, .slice Anc (nc).length cnc] : Array Value)[i_]? = some v_ → V bn i_ = some v_) (y : Str) (hy : y.length ≤ maxL) (blky : Nat) (hblky : ∀ i_ v_, (#[bs (y)] : Array Value)[i_]? = some v_ → V blky i_ = some v_) (h1 : j < nk.length) :
    Calls Try.prog 40 #[.int .i64 ((j : Int)), .pointer (some ⟨bn, 0, none⟩), .pointer (some ⟨blky, 0, none⟩)] w (RetP V w fun rv V' => rv = .bool (decide (y < nk.getD j []))) := by
  have mxnk : nk.length ≤ 140737488355328 := hnk.max
  have mxnv : nv.length ≤ 140737488355328 := hnv.max
  have mxnc : nc.length ≤ 140737488355328 := hnc.max
  have mxy : y.length ≤ 140737488355328 := hy
  refine calls_env (n := 12) Try.func40 (c := _) rfl Try.ntmps40 (by kernel_rfl) (fun R hRet => ?_)
  have hM0 : Step V w [] V w [] := Step.refl (St.nilE hV)
  refine wp_seq_k (fun K1 hK1 => ?_)
  refine wp_reg ?_
  refine wpF_seg 1 (by kernel_rfl) ?_
  refine wpF_end _ (by kernel_rfl) (then_n (hK1 _ _ ?_))
  refine wp_seq_k (fun K2 hK2 => ?_)
  refine wp_base [(0, .int .i64 ((j : Int))), (1, .pointer (some ⟨bn, 0, none⟩)), (2, .pointer (some ⟨blky, 0, none⟩))] (by kernel_rfl) (fun g0_7 => ?_)
  obtain ⟨G7, hGm7, hG7_0, hG7_1, hG7_2, hG7_3, hG7_4, hG7_5, hG7_6, hG7_7⟩ : ∃ G : Nat → Value → VT → Prop, (∀ j v V V', VT.le V V' → G j v V → G j v V') ∧ (∀ v_ V_, G 0 v_ V_ ↔ (v_ = .pointer (some ⟨bn, 1, none⟩))) ∧ (∀ v_ V_, G 1 v_ V_ ↔ (v_ = .slice Ank (nk).length cnk)) ∧ (∀ v_ V_, G 2 v_ V_ ↔ (v_ = .int .i64 ((j : Int)))) ∧ (∀ v_ V_, G 3 v_ V_ ↔ (∃ b3 : Nat, ∃ o4 : Nat, v_ = .pointer (some ⟨b3, o4, none⟩) ∧ (At strK V_ b3 o4 ((nk.getD (j) []))) ∧ ((nk.getD (j) []).length ≤ 140737488355328))) ∧ (∀ v_ V_, G 4 v_ V_ ↔ (v_ = bs ((nk.getD (j) [])) ∧ ((nk.getD (j) []).length ≤ 140737488355328))) ∧ (∀ v_ V_, G 5 v_ V_ ↔ (v_ = bs (y))) ∧ (∀ v_ V_, G 6 v_ V_ ↔ (v_ = .bool (decide ((y) < ((nk.getD (j) [])))) ∧ ((nk.getD (j) []).length ≤ 140737488355328))) ∧ (∀ v_ V_, G 7 v_ V_ ↔ (v_ = .bool (decide ((y) < ((nk.getD (j) [])))) ∧ ((nk.getD (j) []).length ≤ 140737488355328))) :=
      ⟨mG [mV (.pointer (some ⟨bn, 1, none⟩)), mV (.slice Ank (nk).length cnk), mV (.int .i64 ((j : Int))), mE fun b3 : Nat => mE fun o4 : Nat => mN (mV (.pointer (some ⟨b3, o4, none⟩))) (mN (mA strK b3 o4 ((nk.getD (j) []))) (mP ((nk.getD (j) []).length ≤ 140737488355328))), mN (mV (bs ((nk.getD (j) [])))) (mP ((nk.getD (j) []).length ≤ 140737488355328)), mV (bs (y)), mN (mV (.bool (decide ((y) < ((nk.getD (j) [])))))) (mP ((nk.getD (j) []).length ≤ 140737488355328)), mN (mV (.bool (decide ((y) < ((nk.getD (j) [])))))) (mP ((nk.getD (j) []).length ≤ 140737488355328))], mG_up _, fun _ _ => Iff.rfl, fun _ _ => Iff.rfl, fun _ _ => Iff.rfl, fun _ _ => Iff.rfl, fun _ _ => Iff.rfl, fun _ _ => Iff.rfl, fun _ _ => Iff.rfl, fun _ _ => Iff.rfl⟩
  refine wp_drawG (L0 := [(0, .int .i64 ((j : Int))), (1, .pointer (some ⟨bn, 0, none⟩)), (2, .pointer (some ⟨blky, 0, none⟩))]) 8 (by kernel_rfl) (by kernel_rfl) (by kernel_rfl) (by kernel_rfl) (by kernel_rfl) G7 hGm7 [] pre_nil (by kernel_rfl) [] (by kernel_rfl) (fun (S : Nat → Bool) (g : Nat → Value) => ([] : List Ent)) (fun _ _ _ _ _ => rfl) hM0 ?_ ?_
  · -- the operations
    refine all_snoc (.inr ⟨by decide, fun S7_7 g7_7 V7_7 w7_7 F7_7 cx7_7 hM7_7 => ?_⟩) ?_
    · -- op 7
      obtain ⟨hv6_V7_7, l6⟩ : g7_7 11 = .bool (decide ((y) < ((nk.getD (j) [])))) ∧ ((nk.getD (j) []).length ≤ 140737488355328) := (hG7_6 _ _).1 (cx7_7.fact 6 11 (by decide) (cx7_7.dep 6 (by kernel_rfl)) (by kernel_rfl))
      refine wpF_see 11 (.bool (decide ((y) < ((nk.getD (j) []))))) (Eq.trans (by kernel_rfl) hv6_V7_7) ?_
      refine wpF_seg 1 (by kernel_rfl) ?_
      refine wpF_end _ (by kernel_rfl) (then_n ?_)
      exact one_in (some 4) (by kernel_rfl) (.bool (decide ((y) < ((nk.getD (j) []))))) _ [(11, .bool (decide ((y) < ((nk.getD (j) [])))))] (seen_cons (Eq.trans (by kernel_rfl) hv6_V7_7) seen_nil) (by kernel_rfl) (VT.le.refl _) hM7_7 ((hG7_7 _ _).2 ⟨rfl, l6⟩)
    refine all_snoc (.inr ⟨by decide, fun S7_6 g7_6 V7_6 w7_6 F7_6 cx7_6 hM7_6 => ?_⟩) ?_
    · -- op 6
      obtain ⟨hv4_V7_6, l6⟩ : g7_6 9 = bs ((nk.getD (j) [])) ∧ ((nk.getD (j) []).length ≤ 140737488355328) := (hG7_4 _ _).1 (cx7_6.fact 4 9 (by decide) (cx7_6.dep 4 (by kernel_rfl)) (by kernel_rfl))
      obtain hv5_V7_6 : g7_6 10 = bs (y) := (hG7_5 _ _).1 (cx7_6.fact 5 10 (by decide) (cx7_6.dep 5 (by kernel_rfl)) (by kernel_rfl))
      refine wpF_see 9 (bs ((nk.getD (j) []))) (Eq.trans (by kernel_rfl) hv4_V7_6) ?_
      refine wpF_see 10 (bs (y)) (Eq.trans (by kernel_rfl) hv5_V7_6) ?_
      refine wpF_seg 1 (by kernel_rfl) ?_
      refine wpF_end _ (by kernel_rfl) (then_n ?_)
      exact one_in (some 11) (by kernel_rfl) (.bool (decide ((y) < ((nk.getD (j) []))))) _ [(10, bs (y)), (9, bs ((nk.getD (j) [])))] (seen_cons (Eq.trans (by kernel_rfl) hv5_V7_6) (seen_cons (Eq.trans (by kernel_rfl) hv4_V7_6) seen_nil)) (by kernel_rfl) (VT.le.refl _) hM7_6 ((hG7_6 _ _).2 ⟨rfl, l6⟩)
    refine all_snoc (.inr ⟨by decide, fun S7_5 g7_5 V7_5 w7_5 F7_5 cx7_5 hM7_5 => ?_⟩) ?_
    · -- op 5
      refine wpF_loadB hM7_5 #[bs (y)] (fun i v hi => hM7_5.le _ _ _ (hblky i v hi)) (h := (by kernel_rfl : opAt _ _ _ _ _ = some (Go.Op.load 9 (Go.Operand.tmp 2), some 10))) (off := 0) (by kernel_rfl) (bs (y)) (by kernel_rfl) ?_
      refine wpF_end _ (by kernel_rfl) (then_n ?_)
      exact one_in (some 10) (by kernel_rfl) (bs (y)) _ [] seen_nil (by kernel_rfl) (VT.le.refl _) hM7_5 ((hG7_5 _ _).2 rfl)
    refine all_snoc (.inr ⟨by decide, fun S7_4 g7_4 V7_4 w7_4 F7_4 cx7_4 hM7_4 => ?_⟩) ?_
    · -- op 4
      obtain ⟨b3, o4, hv3_V7_4, at_b3, l6⟩ : ∃ b3 : Nat, ∃ o4 : Nat, g7_4 8 = .pointer (some ⟨b3, o4, none⟩) ∧ (At strK V7_4 b3 o4 ((nk.getD (j) []))) ∧ ((nk.getD (j) []).length ≤ 140737488355328) := (hG7_3 _ _).1 (cx7_4.fact 3 8 (by decide) (cx7_4.dep 3 (by kernel_rfl)) (by kernel_rfl))
      have c904061 : V7_4 b3 o4 = some (bs (nk.getD (j) [])) := (At.str at_b3).1
      have l904062 : (nk.getD (j) []).length ≤ 140737488355328 := (At.str at_b3).2
      refine wpF_see 8 (.pointer (some ⟨b3, o4, none⟩)) (Eq.trans (by kernel_rfl) hv3_V7_4) ?_
      refine wpF_loadV hM7_4 c904061 (h := (by kernel_rfl : opAt _ _ _ _ _ = some (Go.Op.load 9 (Go.Operand.tmp 8), some 9))) (by kernel_rfl) (by kernel_rfl) ?_
      refine wpF_end _ (by kernel_rfl) (then_n ?_)
      exact one_in (some 9) (by kernel_rfl) (bs ((nk.getD (j) []))) _ [(8, .pointer (some ⟨b3, o4, none⟩))] (seen_cons (Eq.trans (by kernel_rfl) hv3_V7_4) seen_nil) (by kernel_rfl) (VT.le.refl _) hM7_4 ((hG7_4 _ _).2 ⟨rfl, l6⟩)
    refine all_snoc (.inr ⟨by decide, fun S7_3 g7_3 V7_3 w7_3 F7_3 cx7_3 hM7_3 => ?_⟩) ?_
    · -- op 3
      obtain hv1_V7_3 : g7_3 6 = .slice Ank (nk).length cnk := (hG7_1 _ _).1 (cx7_3.fact 1 6 (by decide) (cx7_3.dep 1 (by kernel_rfl)) (by kernel_rfl))
      obtain hv2_V7_3 : g7_3 7 = .int .i64 ((j : Int)) := (hG7_2 _ _).1 (cx7_3.fact 2 7 (by decide) (cx7_3.dep 2 (by kernel_rfl)) (by kernel_rfl))
      refine wpF_see 6 (.slice Ank (nk).length cnk) (Eq.trans (by kernel_rfl) hv1_V7_3) ?_
      refine wpF_see 7 (.int .i64 ((j : Int))) (Eq.trans (by kernel_rfl) hv2_V7_3) ?_
      refine wpF_index (A := Ank) (c := cnk) (hnk.up hM7_3.le) .i64 ((j : Int)) (h := (by kernel_rfl : opAt _ _ _ _ _ = some (Go.Op.indexAddr 22 (Go.Operand.tmp 6) (Go.Operand.tmp 7), some 8))) (e := 9) (by kernel_rfl) (by kernel_rfl) (by kernel_rfl) (j) rfl (by omega) (fun b3 o4 at_b3 => ?_)
      have c5 : V7_3 b3 o4 = some (bs (nk.getD (j) [])) := (At.str at_b3).1
      have l6 : (nk.getD (j) []).length ≤ 140737488355328 := (At.str at_b3).2
      refine wpF_end _ (by kernel_rfl) (then_n ?_)
      exact one_in (some 8) (by kernel_rfl) (.pointer (some ⟨b3, o4, none⟩)) _ [(7, .int .i64 ((j : Int))), (6, .slice Ank (nk).length cnk)] (seen_cons (Eq.trans (by kernel_rfl) hv2_V7_3) (seen_cons (Eq.trans (by kernel_rfl) hv1_V7_3) seen_nil)) (by kernel_rfl) (VT.le.refl _) hM7_3 ((hG7_3 _ _).2 ⟨b3, o4, rfl, at_b3, l6⟩)
    refine all_snoc (.inr ⟨by decide, fun S7_2 g7_2 V7_2 w7_2 F7_2 cx7_2 hM7_2 => ?_⟩) ?_
    · -- op 2
      refine wpF_seg 1 (by kernel_rfl) ?_
      refine wpF_end _ (by kernel_rfl) (then_n ?_)
      exact one_in (some 7) (by kernel_rfl) (.int .i64 ((j : Int))) _ [] seen_nil (by kernel_rfl) (VT.le.refl _) hM7_2 ((hG7_2 _ _).2 rfl)
    refine all_snoc (.inr ⟨by decide, fun S7_1 g7_1 V7_1 w7_1 F7_1 cx7_1 hM7_1 => ?_⟩) ?_
    · -- op 1
      obtain hv0_V7_1 : g7_1 5 = .pointer (some ⟨bn, 1, none⟩) := (hG7_0 _ _).1 (cx7_1.fact 0 5 (by decide) (cx7_1.dep 0 (by kernel_rfl)) (by kernel_rfl))
      refine wpF_see 5 (.pointer (some ⟨bn, 1, none⟩)) (Eq.trans (by kernel_rfl) hv0_V7_1) ?_
      refine wpF_loadB hM7_1 #[.bool (nl), .slice Ank (nk).length cnk, .slice Anv (nv).length cnv, .slice Anc (nc).length cnc] (fun i v hi => hM7_1.le _ _ _ (hbn i v hi)) (h := (by kernel_rfl : opAt _ _ _ _ _ = some (Go.Op.load 22 (Go.Operand.tmp 5), some 6))) (off := 1) (by kernel_rfl) (.slice Ank (nk).length cnk) (by kernel_rfl) ?_
      refine wpF_end _ (by kernel_rfl) (then_n ?_)
      exact one_in (some 6) (by kernel_rfl) (.slice Ank (nk).length cnk) _ [(5, .pointer (some ⟨bn, 1, none⟩))] (seen_cons (Eq.trans (by kernel_rfl) hv0_V7_1) seen_nil) (by kernel_rfl) (VT.le.refl _) hM7_1 ((hG7_1 _ _).2 rfl)
    refine all_snoc (.inr ⟨by decide, fun S7_0 g7_0 V7_0 w7_0 F7_0 cx7_0 hM7_0 => ?_⟩) ?_
    · -- op 0
      refine wpF_seg 1 (by kernel_rfl) ?_
      refine wpF_end _ (by kernel_rfl) (then_n ?_)
      exact one_in (some 5) (by kernel_rfl) (.pointer (some ⟨bn, 1, none⟩)) _ [] seen_nil (by kernel_rfl) (VT.le.refl _) hM7_0 ((hG7_0 _ _).2 rfl)
    exact all_none
  · -- behind it
    intro ge7 Ve7 we7 hMe7 hle7 hf7
    refine wpF_stop (P := Try.prog) (ops := #[]) (i := 0) _ rfl ?_
    obtain ⟨hv7_Ve7, l6⟩ : ge7 4 = .bool (decide ((y) < ((nk.getD (j) [])))) ∧ ((nk.getD (j) []).length ≤ 140737488355328) := (hG7_7 _ _).1 (hf7 7 4 (by decide) (by kernel_rfl))
    obtain hv0_Ve7 : ge7 5 = .pointer (some ⟨bn, 1, none⟩) := (hG7_0 _ _).1 (hf7 0 5 (by decide) (by kernel_rfl))
    obtain hv1_Ve7 : ge7 6 = .slice Ank (nk).length cnk := (hG7_1 _ _).1 (hf7 1 6 (by decide) (by kernel_rfl))
    obtain hv2_Ve7 : ge7 7 = .int .i64 ((j : Int)) := (hG7_2 _ _).1 (hf7 2 7 (by decide) (by kernel_rfl))
    obtain ⟨b3, o4, hv3_Ve7, at_b3, l6⟩ : ∃ b3 : Nat, ∃ o4 : Nat, ge7 8 = .pointer (some ⟨b3, o4, none⟩) ∧ (At strK Ve7 b3 o4 ((nk.getD (j) []))) ∧ ((nk.getD (j) []).length ≤ 140737488355328) := (hG7_3 _ _).1 (hf7 3 8 (by decide) (by kernel_rfl))
    have c9 : Ve7 b3 o4 = some (bs (nk.getD (j) [])) := (At.str at_b3).1
    have l10 : (nk.getD (j) []).length ≤ 140737488355328 := (At.str at_b3).2
    obtain ⟨hv4_Ve7, l6⟩ : ge7 9 = bs ((nk.getD (j) [])) ∧ ((nk.getD (j) []).length ≤ 140737488355328) := (hG7_4 _ _).1 (hf7 4 9 (by decide) (by kernel_rfl))
    obtain hv5_Ve7 : ge7 10 = bs (y) := (hG7_5 _ _).1 (hf7 5 10 (by decide) (by kernel_rfl))
    obtain ⟨hv6_Ve7, l6⟩ : ge7 11 = .bool (decide ((y) < ((nk.getD (j) [])))) ∧ ((nk.getD (j) []).length ≤ 140737488355328) := (hG7_6 _ _).1 (hf7 6 11 (by decide) (by kernel_rfl))
    refine wpF_see 4 (.bool (decide ((y) < ((nk.getD (j) []))))) (Eq.trans (by kernel_rfl) hv7_Ve7) ?_
    refine wpF_see 5 (.pointer (some ⟨bn, 1, none⟩)) (Eq.trans (by kernel_rfl) hv0_Ve7) ?_
    refine wpF_see 6 (.slice Ank (nk).length cnk) (Eq.trans (by kernel_rfl) hv1_Ve7) ?_
    refine wpF_see 7 (.int .i64 ((j : Int))) (Eq.trans (by kernel_rfl) hv2_Ve7) ?_
    refine wpF_see 8 (.pointer (some ⟨b3, o4, none⟩)) (Eq.trans (by kernel_rfl) hv3_Ve7) ?_
    refine wpF_see 9 (bs ((nk.getD (j) []))) (Eq.trans (by kernel_rfl) hv4_Ve7) ?_
    refine wpF_see 10 (bs (y)) (Eq.trans (by kernel_rfl) hv5_Ve7) ?_
    refine wpF_see 11 (.bool (decide ((y) < ((nk.getD (j) []))))) (Eq.trans (by kernel_rfl) hv6_Ve7) ?_
    refine wpF_end _ (by kernel_rfl) (then_n (hK2 _ _ ?_))
    refine wp_ret ?_
    refine retN [.bool (decide ((y) < ((nk.getD (j) []))))] (.bool (decide ((y) < ((nk.getD (j) []))))) Try.results40 (.tmp (by kernel_rfl) (by kernel_rfl) .nil) (by kernel_rfl) (hRet _ _ ⟨_, _, rfl, hMe7.clear, ?_⟩)
    -- end 
    rfl

set_option maxRecDepth 100000 in
theorem f41 (V : VT) (w : World) (hV : V.inW w) (j : Nat) (nl : Bool) (Ank : Option Addr) (cnk : Nat) (nk : List Str) (hnk : Rd strK V Ank cnk nk) (Anv : Option Addr) (cnv : Nat) (nv : List Str) (hnv : Rd strK V Anv cnv nv) (Anc : Option Addr) (cnc : Nat) (nc : List Int) (hnc : Rd (intK .i64) V Anc cnc nc) (bn : Nat) (hbn : ∀ i_ v_, (#[.bool (nl), .slice Ank (nk).length cnk, .slice Anv (nv).length cnv, .slice Anc (nc).length cnc] : Array Value)[i_]? = some v_ → V bn i_ = some v_) (y : Str) (hy : y.length ≤ maxL) (blky : Nat) (hblky : ∀ i_ v_, (#[bs (y)] : Array Value)[i_]? = some v_ → V blky i_ = some v_) (h1 : j < nk.length) :
    Calls Try.prog 41 #[.int .i64 ((j : Int)), .pointer (some ⟨bn, 0, none⟩), .pointer (some ⟨blky, 0, none⟩)] w (RetP V w fun rv V' => rv = .bool (!(decide (nk.getD j [] < y)))) := by
  have mxnk : nk.length ≤ 140737488355328 := hnk.max
  have mxnv : nv.length ≤ 140737488355328 := hnv.max
  have mxnc : nc.length ≤ 140737488355328 := hnc.max
  have mxy : y.length ≤ 140737488355328 := hy
  refine calls_env (n := 12) Try.func41 (c := _) rfl Try.ntmps41 (by kernel_rfl) (fun R hRet => ?_)
  have hM0 : Step V w [] V w [] := Step.refl (St.nilE hV)
  refine wp_seq_k (fun K1 hK1 => ?_)
  refine wp_reg ?_
  refine wpF_seg 1 (by kernel_rfl) ?_
  refine wpF_end _ (by kernel_rfl) (then_n (hK1 _ _ ?_))
  refine wp_seq_k (fun K2 hK2 => ?_)
  refine wp_base [(0, .int .i64 ((j : Int))), (1, .pointer (some ⟨bn, 0, none⟩)), (2, .pointer (some ⟨blky, 0, none⟩))] (by kernel_rfl) (fun g0_7 => ?_)
  obtain ⟨G7, hGm7, hG7_0, hG7_1, hG7_2, hG7_3, hG7_4, hG7_5, hG7_6, hG7_7⟩ : ∃ G : Nat → Value → VT → Prop, (∀ j v V V', VT.le V V' → G j v V → G j v V') ∧ (∀ v_ V_, G 0 v_ V_ ↔ (v_ = .pointer (some ⟨bn, 1, none⟩))) ∧ (∀ v_ V_, G 1 v_ V_ ↔ (v_ = .slice Ank (nk).length cnk)) ∧ (∀ v_ V_, G 2 v_ V_ ↔ (v_ = .int .i64 ((j : Int)))) ∧ (∀ v_ V_, G 3 v_ V_ ↔ (∃ b3 : Nat, ∃ o4 : Nat, v_ = .pointer (some ⟨b3, o4, none⟩) ∧ (At strK V_ b3 o4 ((nk.getD (j) []))) ∧ ((nk.getD (j) []).length ≤ 140737488355328))) ∧ (∀ v_ V_, G 4 v_ V_ ↔ (v_ = bs ((nk.getD (j) [])) ∧ ((nk.getD (j) []).length ≤ 140737488355328))) ∧ (∀ v_ V_, G 5 v_ V_ ↔ (v_ = bs (y))) ∧ (∀ v_ V_, G 6 v_ V_ ↔ (v_ = .bool (!(decide (((nk.getD (j) [])) < (y)))) ∧ ((nk.getD (j) []).length ≤ 140737488355328))) ∧ (∀ v_ V_, G 7 v_ V_ ↔ (v_ = .bool (!(decide (((nk.getD (j) [])) < (y)))) ∧ ((nk.getD (j) []).length ≤ 140737488355328))) :=
      ⟨mG [mV (.pointer (some ⟨bn, 1, none⟩)), mV (.slice Ank (nk).length cnk), mV (.int .i64 ((j : Int))), mE fun b3 : Nat => mE fun o4 : Nat => mN (mV (.pointer (some ⟨b3, o4, none⟩))) (mN (mA strK b3 o4 ((nk.getD (j) []))) (mP ((nk.getD (j) []).length ≤ 140737488355328))), mN (mV (bs ((nk.getD (j) [])))) (mP ((nk.getD (j) []).length ≤ 140737488355328)), mV (bs (y)), mN (mV (.bool (!(decide (((nk.getD (j) [])) < (y)))))) (mP ((nk.getD (j) []).length ≤ 140737488355328)), mN (mV (.bool (!(decide (((nk.getD (j) [])) < (y)))))) (mP ((nk.getD (j) []).length ≤ 140737488355328))], mG_up _, fun _ _ => Iff.rfl, fun _ _ => Iff.rfl, fun _ _ => Iff.rfl, fun _ _ => Iff.rfl, fun _ _ => Iff.rfl, fun _ _ => Iff.rfl, fun _ _ => Iff.rfl, fun _ _ => Iff.rfl⟩
  refine wp_drawG (L0 := [(0, .int .i64 ((j : Int))), (1, .pointer (some ⟨bn, 0, none⟩)), (2, .pointer (some ⟨blky, 0, none⟩))]) 8 (by kernel_rfl) (by kernel_rfl) (by kernel_rfl) (by kernel_rfl) (by kernel_rfl) G7 hGm7 [] pre_nil (by kernel_rfl) [] (by kernel_rfl) (fun (S : Nat → Bool) (g : Nat → Value) => ([] : List Ent)) (fun _ _ _ _ _ => rfl) hM0 ?_ ?_
  · -- the operations
    refine all_snoc (.inr ⟨by decide, fun S7_7 g7_7 V7_7 w7_7 F7_7 cx7_7 hM7_7 => ?_⟩) ?_
    · -- op 7
      obtain ⟨hv6_V7_7, l6⟩ : g7_7 11 = .bool (!(decide (((nk.getD (j) [])) < (y)))) ∧ ((nk.getD (j) []).length ≤ 140737488355328) := (hG7_6 _ _).1 (cx7_7.fact 6 11 (by decide) (cx7_7.dep 6 (by kernel_rfl)) (by kernel_rfl))
      refine wpF_see 11 (.bool (!(decide (((nk.getD (j) [])) < (y))))) (Eq.trans (by kernel_rfl) hv6_V7_7) ?_
      refine wpF_seg 1 (by kernel_rfl) ?_
      refine wpF_end _ (by kernel_rfl) (then_n ?_)
      exact one_in (some 4) (by kernel_rfl) (.bool (!(decide (((nk.getD (j) [])) < (y))))) _ [(11, .bool (!(decide (((nk.getD (j) [])) < (y)))))] (seen_cons (Eq.trans (by kernel_rfl) hv6_V7_7) seen_nil) (by kernel_rfl) (VT.le.refl _) hM7_7 ((hG7_7 _ _).2 ⟨rfl, l6⟩)
    refine all_snoc (.inr ⟨by decide, fun S7_6 g7_6 V7_6 w7_6 F7_6 cx7_6 hM7_6 => ?_⟩) ?_
    · -- op 6
      obtain ⟨hv4_V7_6, l6⟩ : g7_6 9 = bs ((nk.getD (j) [])) ∧ ((nk.getD (j) []).length ≤ 140737488355328) := (hG7_4 _ _).1 (cx7_6.fact 4 9 (by decide) (cx7_6.dep 4 (by kernel_rfl)) (by kernel_rfl))
      obtain hv5_V7_6 : g7_6 10 = bs (y) := (hG7_5 _ _).1 (cx7_6.fact 5 10 (by decide) (cx7_6.dep 5 (by kernel_rfl)) (by kernel_rfl))
      refine wpF_see 9 (bs ((nk.getD (j) []))) (Eq.trans (by kernel_rfl) hv4_V7_6) ?_
      refine wpF_see 10 (bs (y)) (Eq.trans (by kernel_rfl) hv5_V7_6) ?_
      refine wpF_seg 1 (by kernel_rfl) ?_
      refine wpF_end _ (by kernel_rfl) (then_n ?_)
      exact one_in (some 11) (by kernel_rfl) (.bool (!(decide (((nk.getD (j) [])) < (y))))) _ [(10, bs (y)), (9, bs ((nk.getD (j) [])))] (seen_cons (Eq.trans (by kernel_rfl) hv5_V7_6) (seen_cons (Eq.trans (by kernel_rfl) hv4_V7_6) seen_nil)) (by kernel_rfl) (VT.le.refl _) hM7_6 ((hG7_6 _ _).2 ⟨rfl, l6⟩)
    refine all_snoc (.inr ⟨by decide, fun S7_5 g7_5 V7_5 w7_5 F7_5 cx7_5 hM7_5 => ?_⟩) ?_
    · -- op 5
      refine wpF_loadB hM7_5 #[bs (y)] (fun i v hi => hM7_5.le _ _ _ (hblky i v hi)) (h := (by kernel_rfl : opAt _ _ _ _ _ = some (Go.Op.load 9 (Go.Operand.tmp 2), some 10))) (off := 0) (by kernel_rfl) (bs (y)) (by kernel_rfl) ?_
      refine wpF_end _ (by kernel_rfl) (then_n ?_)
      exact one_in (some 10) (by kernel_rfl) (bs (y)) _ [] seen_nil (by kernel_rfl) (VT.le.refl _) hM7_5 ((hG7_5 _ _).2 rfl)
    refine all_snoc (.inr ⟨by decide, fun S7_4 g7_4 V7_4 w7_4 F7_4 cx7_4 hM7_4 => ?_⟩) ?_
    · -- op 4
      obtain ⟨b3, o4, hv3_V7_4, at_b3, l6⟩ : ∃ b3 : Nat, ∃ o4 : Nat, g7_4 8 = .pointer (some ⟨b3, o4, none⟩) ∧ (At strK V7_4 b3 o4 ((nk.getD (j) []))) ∧ ((nk.getD (j) []).length ≤ 140737488355328) := (hG7_3 _ _).1 (cx7_4.fact 3 8 (by decide) (cx7_4.dep 3 (by kernel_rfl)) (by kernel_rfl))
      have c904061 : V7_4 b3 o4 = some (bs (nk.getD (j) [])) := (At.str at_b3).1
      have l904062 : (nk.getD (j) []).length ≤ 140737488355328 := (At.str at_b3).2
      refine wpF_see 8 (.pointer (some ⟨b3, o4, none⟩)) (Eq.trans (by kernel_rfl) hv3_V7_4) ?_
      refine wpF_loadV hM7_4 c904061 (h := (by kernel_rfl : opAt _ _ _ _ _ = some (Go.Op.load 9 (Go.Operand.tmp 8), some 9))) (by kernel_rfl) (by kernel_rfl) ?_
      refine wpF_end _ (by kernel_rfl) (then_n ?_)
      exact one_in (some 9) (by kernel_rfl) (bs ((nk.getD (j) []))) _ [(8, .pointer (some ⟨b3, o4, none⟩))] (seen_cons (Eq.trans (by kernel_rfl) hv3_V7_4) seen_nil) (by kernel_rfl) (VT.le.refl _) hM7_4 ((hG7_4 _ _).2 ⟨rfl, l6⟩)
    refine all_snoc (.inr ⟨by decide, fun S7_3 g7_3 V7_3 w7_3 F7_3 cx7_3 hM7_3 => ?_⟩) ?_
    · -- op 3
      obtain hv1_V7_3 : g7_3 6 = .slice Ank (nk).length cnk := (hG7_1 _ _).1 (cx7_3.fact 1 6 (by decide) (cx7_3.dep 1 (by kernel_rfl)) (by kernel_rfl))
      obtain hv2_V7_3 : g7_3 7 = .int .i64 ((j : Int)) := (hG7_2 _ _).1 (cx7_3.fact 2 7 (by decide) (cx7_3.dep 2 (by kernel_rfl)) (by kernel_rfl))
      refine wpF_see 6 (.slice Ank (nk).length cnk) (Eq.trans (by kernel_rfl) hv1_V7_3) ?_
      refine wpF_see 7 (.int .i64 ((j : Int))) (Eq.trans (by kernel_rfl) hv2_V7_3) ?_
      refine wpF_index (A := Ank) (c := cnk) (hnk.up hM7_3.le) .i64 ((j : Int)) (h := (by kernel_rfl : opAt _ _ _ _ _ = some (Go.Op.indexAddr 22 (Go.Operand.tmp 6) (Go.Operand.tmp 7), some 8))) (e := 9) (by kernel_rfl) (by kernel_rfl) (by kernel_rfl) (j) rfl (by omega) (fun b3 o4 at_b3 => ?_)
      have c5 : V7_3 b3 o4 = some (bs (nk.getD (j) [])) := (At.str at_b3).1
      have l6 : (nk.getD (j) []).length ≤ 140737488355328 := (At.str at_b3).2
      refine wpF_end _ (by kernel_rfl) (then_n ?_)
      exact one_in (some 8) (by kernel_rfl) (.pointer (some ⟨b3, o4, none⟩)) _ [(7, .int .i64 ((j : Int))), (6, .slice Ank (nk).length cnk)] (seen_cons (Eq.trans (by kernel_rfl) hv2_V7_3) (seen_cons (Eq.trans (by kernel_rfl) hv1_V7_3) seen_nil)) (by kernel_rfl) (VT.le.refl _) hM7_3 ((hG7_3 _ _).2 ⟨b3, o4, rfl, at_b3, l6⟩)
    refine all_snoc (.inr ⟨by decide, fun S7_2 g7_2 V7_2 w7_2 F7_2 cx7_2 hM7_2 => ?_⟩) ?_
    · -- op 2
      refine wpF_seg 1 (by kernel_rfl) ?_
      refine wpF_end _ (by kernel_rfl) (then_n ?_)
      exact one_in (some 7) (by kernel_rfl) (.int .i64 ((j : Int))) _ [] seen_nil (by kernel_rfl) (VT.le.refl _) hM7_2 ((hG7_2 _ _).2 rfl)
    refine all_snoc (.inr ⟨by decide, fun S7_1 g7_1 V7_1 w7_1 F7_1 cx7_1 hM7_1 => ?_⟩) ?_
    · -- op 1
      obtain hv0_V7_1 : g7_1 5 = .pointer (some ⟨bn, 1, none⟩) := (hG7_0 _ _).1 (cx7_1.fact 0 5 (by decide) (cx7_1.dep 0 (by kernel_rfl)) (by kernel_rfl))
      refine wpF_see 5 (.pointer (some ⟨bn, 1, none⟩)) (Eq.trans (by kernel_rfl) hv0_V7_1) ?_
      refine wpF_loadB hM7_1 #[.bool (nl), .slice Ank (nk).length cnk, .slice Anv (nv).length cnv, .slice Anc (nc).length cnc] (fun i v hi => hM7_1.le _ _ _ (hbn i v hi)) (h := (by kernel_rfl : opAt _ _ _ _ _ = some (Go.Op.load 22 (Go.Operand.tmp 5), some 6))) (off := 1) (by kernel_rfl) (.slice Ank (nk).length cnk) (by kernel_rfl) ?_
      refine wpF_end _ (by kernel_rfl) (then_n ?_)
      exact one_in (some 6) (by kernel_rfl) (.slice Ank (nk).length cnk) _ [(5, .pointer (some ⟨bn, 1, none⟩))] (seen_cons (Eq.trans (by kernel_rfl) hv0_V7_1) seen_nil) (by kernel_rfl) (VT.le.refl _) hM7_1 ((hG7_1 _ _).2 rfl)
    refine all_snoc (.inr ⟨by decide, fun S7_0 g7_0 V7_0 w7_0 F7_0 cx7_0 hM7_0 => ?_⟩) ?_
    · -- op 0
      refine wpF_seg 1 (by kernel_rfl) ?_
      refine wpF_end _ (by kernel_rfl) (then_n ?_)
      exact one_in (some 5) (by kernel_rfl) (.pointer (some ⟨bn, 1, none⟩)) _ [] seen_nil (by kernel_rfl) (VT.le.refl _) hM7_0 ((hG7_0 _ _).2 rfl)
    exact all_none
  · -- behind it
    intro ge7 Ve7 we7 hMe7 hle7 hf7
    refine wpF_stop (P := Try.prog) (ops := #[]) (i := 0) _ rfl ?_
    obtain ⟨hv7_Ve7, l6⟩ : ge7 4 = .bool (!(decide (((nk.getD (j) [])) < (y)))) ∧ ((nk.getD (j) []).length ≤ 140737488355328) := (hG7_7 _ _).1 (hf7 7 4 (by decide) (by kernel_rfl))
    obtain hv0_Ve7 : ge7 5 = .pointer (some ⟨bn, 1, none⟩) := (hG7_0 _ _).1 (hf7 0 5 (by decide) (by kernel_rfl))
    obtain hv1_Ve7 : ge7 6 = .slice Ank (nk).length cnk := (hG7_1 _ _).1 (hf7 1 6 (by decide) (by kernel_rfl))
    obtain hv2_Ve7 : ge7 7 = .int .i64 ((j : Int)) := (hG7_2 _ _).1 (hf7 2 7 (by decide) (by kernel_rfl))
    obtain ⟨b3, o4, hv3_Ve7, at_b3, l6⟩ : ∃ b3 : Nat, ∃ o4 : Nat, ge7 8 = .pointer (some ⟨b3, o4, none⟩) ∧ (At strK Ve7 b3 o4 ((nk.getD (j) []))) ∧ ((nk.getD (j) []).length ≤ 140737488355328) := (hG7_3 _ _).1 (hf7 3 8 (by decide) (by kernel_rfl))
    have c9 : Ve7 b3 o4 = some (bs (nk.getD (j) [])) := (At.str at_b3).1
    have l10 : (nk.getD (j) []).length ≤ 140737488355328 := (At.str at_b3).2
    obtain ⟨hv4_Ve7, l6⟩ : ge7 9 = bs ((nk.getD (j) [])) ∧ ((nk.getD (j) []).length ≤ 140737488355328) := (hG7_4 _ _).1 (hf7 4 9 (by decide) (by kernel_rfl))
    obtain hv5_Ve7 : ge7 10 = bs (y) := (hG7_5 _ _).1 (hf7 5 10 (by decide) (by kernel_rfl))
    obtain ⟨hv6_Ve7, l6⟩ : ge7 11 = .bool (!(decide (((nk.getD (j) [])) < (y)))) ∧ ((nk.getD (j) []).length ≤ 140737488355328) := (hG7_6 _ _).1 (hf7 6 11 (by decide) (by kernel_rfl))
    refine wpF_see 4 (.bool (!(decide (((nk.getD (j) [])) < (y))))) (Eq.trans (by kernel_rfl) hv7_Ve7) ?_
    refine wpF_see 5 (.pointer (some ⟨bn, 1, none⟩)) (Eq.trans (by kernel_rfl) hv0_Ve7) ?_
    refine wpF_see 6 (.slice Ank (nk).length cnk) (Eq.trans (by kernel_rfl) hv1_Ve7) ?_
    refine wpF_see 7 (.int .i64 ((j : Int))) (Eq.trans (by kernel_rfl) hv2_Ve7) ?_
    refine wpF_see 8 (.pointer (some ⟨b3, o4, none⟩)) (Eq.trans (by kernel_rfl) hv3_Ve7) ?_
    refine wpF_see 9 (bs ((nk.getD (j) []))) (Eq.trans (by kernel_rfl) hv4_Ve7) ?_
    refine wpF_see 10 (bs (y)) (Eq.trans (by kernel_rfl) hv5_Ve7) ?_
    refine wpF_see 11 (.bool (!(decide (((nk.getD (j) [])) < (y))))) (Eq.trans (by kernel_rfl) hv6_Ve7) ?_
    refine wpF_end _ (by kernel_rfl) (then_n (hK2 _ _ ?_))
    refine wp_ret ?_
    refine retN [.bool (!(decide (((nk.getD (j) [])) < (y))))] (.bool (!(decide (((nk.getD (j) [])) < (y))))) Try.results41 (.tmp (by kernel_rfl) (by kernel_rfl) .nil) (by kernel_rfl) (hRet _ _ ⟨_, _, rfl, hMe7.clear, ?_⟩)
    -- end 
    rfl

set_option maxRecDepth 100000 in
theorem f22 (V : VT) (w : World) (hV : V.inW w) (nl : Bool) (Ank : Option Addr) (cnk : Nat) (nk : List Str) (hnk : Rd strK V Ank cnk nk) (Anv : Option Addr) (cnv : Nat) (nv : List Str) (hnv : Rd strK V Anv cnv nv) (Anc : Option Addr) (cnc : Nat) (nc : List Int) (hnc : Rd (intK .i64) V Anc cnc nc) (y : Str) (hy : y.length ≤ maxL) :
    Calls Try.prog 22 #[.agg #[.bool (nl), .slice Ank (nk).length cnk, .slice Anv (nv).length cnv, .slice Anc (nc).length cnc], bs (y)] w (RetP V w fun rv V' => rv = .tuple #[.int .i64 (findI nl nk nv nc y), .bool (findB nl nk nv nc y)]) := by
  have mxnk : nk.length ≤ 140737488355328 := hnk.max
  have mxnv : nv.length ≤ 140737488355328 := hnv.max
  have mxnc : nc.length ≤ 140737488355328 := hnc.max
  have mxy : y.length ≤ 140737488355328 := hy
  refine calls_env (n := 38) Try.func22 (c := _) rfl Try.ntmps22 (by kernel_rfl) (fun R hRet => ?_)
  have hM0 : Step V w [] V w [] := Step.refl (St.nilE hV)
  cases nl with
  | false =>
    refine wp_seq_k (fun K1 hK1 => ?_)
    refine wp_reg ?_
    refine wpF_box hM0 #[.bool (false), .slice Ank (nk).length cnk, .slice Anv (nv).length cnv, .slice Anc (nc).length cnc] (h := (by kernel_rfl : opAt _ _ _ _ _ = some (Go.Op.box 25 (Go.Operand.tmp 0), some 2))) (by kernel_rfl) (fun b2 w3 hM4 => ?_)
    obtain ⟨V5, le6, hM7, hc8⟩ := hM4.settle 0 rfl
    have hM9 : Step V w [] V5 _ [] := hM7
    refine wpF_box hM9 #[bs (y)] (h := (by kernel_rfl : opAt _ _ _ _ _ = some (Go.Op.box 9 (Go.Operand.tmp 1), some 3))) (by kernel_rfl) (fun b10 w11 hM12 => ?_)
    obtain ⟨V13, le14, hM15, hc16⟩ := hM12.settle 0 rfl
    have hM17 : Step V w [] V13 _ [] := hM15
    refine wpF_seg 2 (by kernel_rfl) ?_
    refine wpF_end _ (by kernel_rfl) (then_n (hK1 _ _ ?_))
    refine wp_seq_k (fun K18 hK18 => ?_)
    refine wp_seq_k (fun K19 hK19 => ?_)
    refine wp_reg ?_
    refine wpF_loadB hM17 #[.bool (false), .slice Ank (nk).length cnk, .slice Anv (nv).length cnv, .slice Anc (nc).length cnc] (fun i v hi => le14 _ _ _ (hc8 i v hi)) (h := (by kernel_rfl : opAt _ _ _ _ _ = some (Go.Op.load 25 (Go.Operand.tmp 2), some 7))) (off := 0) (by kernel_rfl) (.agg #[.bool (false), .slice Ank (nk).length cnk, .slice Anv (nv).length cnv, .slice Anc (nc).length cnc]) (by kernel_rfl) ?_
    refine wpF_callP hM17 (f := 34) (caps := #[]) (h := (by kernel_rfl : opAt _ _ _ _ _ = some (Go.Op.call (Go.Call.mk (Go.Callee.value (Go.Operand.func 34)) #[(Go.Operand.tmp 7)] #[25]), some 8))) (by kernel_rfl) (by kernel_rfl) (by kernel_rfl) (f34 _ _ hM17.inW (false) Ank cnk (nk) (hnk.up hM17.le) Anv cnv (nv) (hnv.up hM17.le) Anc cnc (nc) (hnc.up hM17.le)) (fun v20 V21 w22 le23 hM24 hp25 => ?_)
    obtain rfl := hp25
    refine wpF_seg 1 (by kernel_rfl) ?_
    refine wpF_end _ (by kernel_rfl) (then_n (hK19 _ _ ?_))
    refine wp_if (!(stands (false) (nk) (nv) (nc))) (by kernel_rfl) (fun h26 => ?_) (fun h26 => ?_)
    · -- Ft
      have h27 : (stands (false) (nk) (nv) (nc)) = false := by simpa using h26
      refine wp_seq_k (fun K28 hK28 => ?_)
      refine wp_reg ?_
      refine wpF_seg 2 (by kernel_rfl) ?_
      refine wpF_end _ (by kernel_rfl) (then_n (hK28 _ _ ?_))
      refine wp_ret (then_r (?_))
      refine retN [.int .i64 (0), .bool (false)] (.tuple #[.int .i64 (0), .bool (false)]) Try.results22 (.tmp (by kernel_rfl) (by kernel_rfl) (.tmp (by kernel_rfl) (by kernel_rfl) .nil)) (by kernel_rfl) (hRet _ _ ⟨_, _, rfl, hM24.clear, ?_⟩)
      -- end Ft
      subst_vars; delta findI findB findN; simp only [h26, h27, cond_true, cond_false, Bool.true_and, Bool.and_true, Bool.false_and, Bool.and_false]
    · -- Ff
      have h29 : (stands (false) (nk) (nv) (nc)) = true := by simpa using h26
      refine wp_skip (then_n (hK18 _ _ ?_))
      refine wp_seq_k (fun K30 hK30 => ?_)
      refine wp_seq_k (fun K31 hK31 => ?_)
      refine wp_reg ?_
      refine wpF_seg 1 (by kernel_rfl) ?_
      refine wpF_loadB hM24 #[.bool (false), .slice Ank (nk).length cnk, .slice Anv (nv).length cnv, .slice Anc (nc).length cnc] (fun i v hi => (le14.trans le23) _ _ _ (hc8 i v hi)) (h := (by kernel_rfl : opAt _ _ _ _ _ = some (Go.Op.load 4 (Go.Operand.tmp 10), some 11))) (off := 0) (by kernel_rfl) (.bool (false)) (by kernel_rfl) ?_
      refine wpF_seg 1 (by kernel_rfl) ?_
      refine wpF_end _ (by kernel_rfl) (then_n (hK31 _ _ ?_))
      refine wp_ct (by kernel_rfl) ?_
      refine wp_seq_k (fun K32 hK32 => ?_)
      refine wp_reg ?_
      refine wpF_seg 1 (by kernel_rfl) ?_
      refine wpF_loadB hM24 #[.bool (false), .slice Ank (nk).length cnk, .slice Anv (nv).length cnv, .slice Anc (nc).length cnc] (fun i v hi => (le14.trans le23) _ _ _ (hc8 i v hi)) (h := (by kernel_rfl : opAt _ _ _ _ _ = some (Go.Op.load 22 (Go.Operand.tmp 13), some 14))) (off := 1) (by kernel_rfl) (.slice Ank (nk).length cnk) (by kernel_rfl) ?_
      refine wpF_seg 2 (by kernel_rfl) ?_
      refine wpF_callP hM24 (f := 36) (caps := #[]) (h := (by kernel_rfl : opAt _ _ _ _ _ = some (Go.Op.call (Go.Call.mk (Go.Callee.value (Go.Operand.func 36)) #[(Go.Operand.tmp 15), (Go.Operand.tmp 16)] #[3, 58]), some 17))) (by kernel_rfl) (by kernel_rfl) (by kernel_rfl) (f36 _ _ hM24.inW (nk.length) 40 #[.pointer (some ⟨b2, 0, none⟩), .pointer (some ⟨b10, 0, none⟩)] (by kernel_rfl) (fun (y_ : Nat) => decide ((y) < (nk).getD y_ [])) (fun V_ w_ l_ i_ j_ hj_ => f40 V_ w_ i_ j_ (false) Ank cnk (nk) ((hnk.up hM24.le).up l_) Anv cnv (nv) ((hnv.up hM24.le).up l_) Anc cnc (nc) ((hnc.up hM24.le).up l_) b2 (fun i_ v_ hi_ => l_ _ _ _ ((le14.trans le23) _ _ _ (hc8 i_ v_ hi_))) (y) (hy) b10 (fun i_ v_ hi_ => l_ _ _ _ (le23 _ _ _ (hc16 i_ v_ hi_))) (by omega)) (by omega)) (fun v33 V34 w35 le36 hM37 hp38 => ?_)
      obtain ⟨nr38_1, rfl, r39, x40⟩ := hp38
      have q41 : nr38_1 = srch (fun (y_ : Nat) => decide ((y) < (nk).getD y_ [])) 0 (nk.length) := r39
      have x40 : nr38_1 ≤ (nk.length) := x40
      refine wpF_seg 2 (by kernel_rfl) ?_
      refine wpF_end _ (by kernel_rfl) (then_n (hK32 _ _ ?_))
      refine wp_ret (then_r (?_))
      refine retN [.int .i64 ((nr38_1 : Int)), .bool (false)] (.tuple #[.int .i64 ((nr38_1 : Int)), .bool (false)]) Try.results22 (.tmp (by kernel_rfl) (by kernel_rfl) (.tmp (by kernel_rfl) (by kernel_rfl) .nil)) (by kernel_rfl) (hRet _ _ ⟨_, _, rfl, hM37.clear, ?_⟩)
      -- end Ff
      subst_vars; delta findI findB findN; simp only [h26, h29, cond_true, cond_false, Bool.true_and, Bool.and_true, Bool.false_and, Bool.and_false]
  | true =>
    refine wp_seq_k (fun K42 hK42 => ?_)
    refine wp_reg ?_
    refine wpF_box hM0 #[.bool (true), .slice Ank (nk).length cnk, .slice Anv (nv).length cnv, .slice Anc (nc).length cnc] (h := (by kernel_rfl : opAt _ _ _ _ _ = some (Go.Op.box 25 (Go.Operand.tmp 0), some 2))) (by kernel_rfl) (fun b43 w44 hM45 => ?_)
    obtain ⟨V46, le47, hM48, hc49⟩ := hM45.settle 0 rfl
    have hM50 : Step V w [] V46 _ [] := hM48
    refine wpF_box hM50 #[bs (y)] (h := (by kernel_rfl : opAt _ _ _ _ _ = some (Go.Op.box 9 (Go.Operand.tmp 1), some 3))) (by kernel_rfl) (fun b51 w52 hM53 => ?_)
    obtain ⟨V54, le55, hM56, hc57⟩ := hM53.settle 0 rfl
    have hM58 : Step V w [] V54 _ [] := hM56
    refine wpF_seg 2 (by kernel_rfl) ?_
    refine wpF_end _ (by kernel_rfl) (then_n (hK42 _ _ ?_))
    refine wp_seq_k (fun K59 hK59 => ?_)
    refine wp_seq_k (fun K60 hK60 => ?_)
    refine wp_reg ?_
    refine wpF_loadB hM58 #[.bool (true), .slice Ank (nk).length cnk, .slice Anv (nv).length cnv, .slice Anc (nc).length cnc] (fun i v hi => le55 _ _ _ (hc49 i v hi)) (h := (by kernel_rfl : opAt _ _ _ _ _ = some (Go.Op.load 25 (Go.Operand.tmp 2), some 7))) (off := 0) (by kernel_rfl) (.agg #[.bool (true), .slice Ank (nk).length cnk, .slice Anv (nv).length cnv, .slice Anc (nc).length cnc]) (by kernel_rfl) ?_
    refine wpF_callP hM58 (f := 34) (caps := #[]) (h := (by kernel_rfl : opAt _ _ _ _ _ = some (Go.Op.call (Go.Call.mk (Go.Callee.value (Go.Operand.func 34)) #[(Go.Operand.tmp 7)] #[25]), some 8))) (by kernel_rfl) (by kernel_rfl) (by kernel_rfl) (f34 _ _ hM58.inW (true) Ank cnk (nk) (hnk.up hM58.le) Anv cnv (nv) (hnv.up hM58.le) Anc cnc (nc) (hnc.up hM58.le)) (fun v61 V62 w63 le64 hM65 hp66 => ?_)
    obtain rfl := hp66
    refine wpF_seg 1 (by kernel_rfl) ?_
    refine wpF_end _ (by kernel_rfl) (then_n (hK60 _ _ ?_))
    refine wp_if (!(stands (true) (nk) (nv) (nc))) (by kernel_rfl) (fun h67 => ?_) (fun h67 => ?_)
    · -- Tt
      have h68 : (stands (true) (nk) (nv) (nc)) = false := by simpa using h67
      refine wp_seq_k (fun K69 hK69 => ?_)
      refine wp_reg ?_
      refine wpF_seg 2 (by kernel_rfl) ?_
      refine wpF_end _ (by kernel_rfl) (then_n (hK69 _ _ ?_))
      refine wp_ret (then_r (?_))
      refine retN [.int .i64 (0), .bool (false)] (.tuple #[.int .i64 (0), .bool (false)]) Try.results22 (.tmp (by kernel_rfl) (by kernel_rfl) (.tmp (by kernel_rfl) (by kernel_rfl) .nil)) (by kernel_rfl) (hRet _ _ ⟨_, _, rfl, hM65.clear, ?_⟩)
      -- end Tt
      subst_vars; delta findI findB findN; simp only [h67, h68, cond_true, cond_false, Bool.true_and, Bool.and_true, Bool.false_and, Bool.and_false]
    · -- Tf
      have h70 : (stands (true) (nk) (nv) (nc)) = true := by simpa using h67
      refine wp_skip (then_n (hK59 _ _ ?_))
      refine wp_seq_k (fun K71 hK71 => ?_)
      refine wp_seq_k (fun K72 hK72 => ?_)
      refine wp_reg ?_
      refine wpF_seg 1 (by kernel_rfl) ?_
      refine wpF_loadB hM65 #[.bool (true), .slice Ank (nk).length cnk, .slice Anv (nv).length cnv, .slice Anc (nc).length cnc] (fun i v hi => (le55.trans le64) _ _ _ (hc49 i v hi)) (h := (by kernel_rfl : opAt _ _ _ _ _ = some (Go.Op.load 4 (Go.Operand.tmp 10), some 11))) (off := 0) (by kernel_rfl) (.bool (true)) (by kernel_rfl) ?_
      refine wpF_seg 1 (by kernel_rfl) ?_
      refine wpF_end _ (by kernel_rfl) (then_n (hK72 _ _ ?_))
      refine wp_cf (by kernel_rfl) ?_
      refine wp_skip (then_n (hK71 _ _ ?_))
      refine wp_seq_k (fun K73 hK73 => ?_)
      refine wp_reg ?_
      refine wpF_seg 1 (by kernel_rfl) ?_
      refine wpF_loadB hM65 #[.bool (true), .slice Ank (nk).length cnk, .slice Anv (nv).length cnv, .slice Anc (nc).length cnc] (fun i v hi => (le55.trans le64) _ _ _ (hc49 i v hi)) (h := (by kernel_rfl : opAt _ _ _ _ _ = some (Go.Op.load 22 (Go.Operand.tmp 18), some 19))) (off := 1) (by kernel_rfl) (.slice Ank (nk).length cnk) (by kernel_rfl) ?_
      refine wpF_seg 2 (by kernel_rfl) ?_
      refine wpF_callP hM65 (f := 36) (caps := #[]) (h := (by kernel_rfl : opAt _ _ _ _ _ = some (Go.Op.call (Go.Call.mk (Go.Callee.value (Go.Operand.func 36)) #[(Go.Operand.tmp 20), (Go.Operand.tmp 21)] #[3, 58]), some 22))) (by kernel_rfl) (by kernel_rfl) (by kernel_rfl) (f36 _ _ hM65.inW (nk.length) 41 #[.pointer (some ⟨b43, 0, none⟩), .pointer (some ⟨b51, 0, none⟩)] (by kernel_rfl) (fun (y_ : Nat) => !decide ((nk).getD y_ [] < (y))) (fun V_ w_ l_ i_ j_ hj_ => f41 V_ w_ i_ j_ (true) Ank cnk (nk) ((hnk.up hM65.le).up l_) Anv cnv (nv) ((hnv.up hM65.le).up l_) Anc cnc (nc) ((hnc.up hM65.le).up l_) b43 (fun i_ v_ hi_ => l_ _ _ _ ((le55.trans le64) _ _ _ (hc49 i_ v_ hi_))) (y) (hy) b51 (fun i_ v_ hi_ => l_ _ _ _ (le64 _ _ _ (hc57 i_ v_ hi_))) (by omega)) (by omega)) (fun v74 V75 w76 le77 hM78 hp79 => ?_)
      obtain ⟨nr79_1, rfl, r80, x81⟩ := hp79
      have q82 : nr79_1 = srch (fun (y_ : Nat) => !decide ((nk).getD y_ [] < (y))) 0 (nk.length) := r80
      have x81 : nr79_1 ≤ (nk.length) := x81
      refine wpF_seg 1 (by kernel_rfl) ?_
      refine wpF_end _ (by kernel_rfl) (then_n (hK73 _ _ ?_))
      refine wp_seq_k (fun K83 hK83 => ?_)
      refine caseB (decide (((nr79_1 : Int)) < ((nk.length : Int)))) (fun h84 => ?_) (fun h84 => ?_)
      · -- Tft
        have p85 : (((nr79_1 : Int)) < ((nk.length : Int))) := of_decide_eq_true h84
        refine wp_base [(2, .pointer (some ⟨b43, 0, none⟩)), (3, .pointer (some ⟨b51, 0, none⟩)), (6, .int .i64 ((nr79_1 : Int)))] (by kernel_rfl) (fun g0_90 => ?_)
        obtain ⟨G90, hGm90, hG90_0, hG90_1, hG90_2, hG90_3, hG90_4, hG90_5, hG90_6, hG90_7, hG90_8, hG90_9, hG90_10, hG90_11, hG90_12, hG90_13, hG90_14, hG90_15, hG90_16⟩ : ∃ G : Nat → Value → VT → Prop, (∀ j v V V', VT.le V V' → G j v V → G j v V') ∧ (∀ v_ V_, G 0 v_ V_ ↔ (v_ = .int .i64 ((nr79_1 : Int)))) ∧ (∀ v_ V_, G 1 v_ V_ ↔ (v_ = .int .i64 ((nr79_1 : Int)))) ∧ (∀ v_ V_, G 2 v_ V_ ↔ (v_ = .pointer (some ⟨b43, 1, none⟩))) ∧ (∀ v_ V_, G 3 v_ V_ ↔ (v_ = .slice Ank (nk).length cnk)) ∧ (∀ v_ V_, G 4 v_ V_ ↔ (v_ = .int .i64 ((nk.length : Int)))) ∧ (∀ v_ V_, G 5 v_ V_ ↔ (v_ = .bool (true))) ∧ (∀ v_ V_, G 6 v_ V_ ↔ (v_ = .bool (true))) ∧ (∀ v_ V_, G 7 v_ V_ ↔ (v_ = .pointer (some ⟨b43, 1, none⟩))) ∧ (∀ v_ V_, G 8 v_ V_ ↔ (v_ = .slice Ank (nk).length cnk)) ∧ (∀ v_ V_, G 9 v_ V_ ↔ (v_ = .int .i64 ((nr79_1 : Int)))) ∧ (∀ v_ V_, G 10 v_ V_ ↔ (∃ b86 : Nat, ∃ o87 : Nat, v_ = .pointer (some ⟨b86, o87, none⟩) ∧ (At strK V_ b86 o87 ((nk.getD (nr79_1) []))) ∧ ((nk.getD (nr79_1) []).length ≤ 140737488355328))) ∧ (∀ v_ V_, G 11 v_ V_ ↔ (v_ = bs ((nk.getD (nr79_1) [])) ∧ ((nk.getD (nr79_1) []).length ≤ 140737488355328))) ∧ (∀ v_ V_, G 12 v_ V_ ↔ (v_ = bs (y))) ∧ (∀ v_ V_, G 13 v_ V_ ↔ (v_ = .bool (decide (((nk.getD (nr79_1) [])) = (y))) ∧ ((nk.getD (nr79_1) []).length ≤ 140737488355328))) ∧ (∀ v_ V_, G 14 v_ V_ ↔ (v_ = .bool (decide (((nk.getD (nr79_1) [])) = (y))) ∧ ((nk.getD (nr79_1) []).length ≤ 140737488355328))) ∧ (∀ v_ V_, G 15 v_ V_ ↔ (v_ = .int .i64 ((nr79_1 : Int)))) ∧ (∀ v_ V_, G 16 v_ V_ ↔ (v_ = .bool (decide (((nk.getD (nr79_1) [])) = (y))) ∧ ((nk.getD (nr79_1) []).length ≤ 140737488355328))) :=
            ⟨mG [mV (.int .i64 ((nr79_1 : Int))), mV (.int .i64 ((nr79_1 : Int))), mV (.pointer (some ⟨b43, 1, none⟩)), mV (.slice Ank (nk).length cnk), mV (.int .i64 ((nk.length : Int))), mV (.bool (true)), mV (.bool (true)), mV (.pointer (some ⟨b43, 1, none⟩)), mV (.slice Ank (nk).length cnk), mV (.int .i64 ((nr79_1 : Int))), mE fun b86 : Nat => mE fun o87 : Nat => mN (mV (.pointer (some ⟨b86, o87, none⟩))) (mN (mA strK b86 o87 ((nk.getD (nr79_1) []))) (mP ((nk.getD (nr79_1) []).length ≤ 140737488355328))), mN (mV (bs ((nk.getD (nr79_1) [])))) (mP ((nk.getD (nr79_1) []).length ≤ 140737488355328)), mV (bs (y)), mN (mV (.bool (decide (((nk.getD (nr79_1) [])) = (y))))) (mP ((nk.getD (nr79_1) []).length ≤ 140737488355328)), mN (mV (.bool (decide (((nk.getD (nr79_1) [])) = (y))))) (mP ((nk.getD (nr79_1) []).length ≤ 140737488355328)), mV (.int .i64 ((nr79_1 : Int))), mN (mV (.bool (decide (((nk.getD (nr79_1) [])) = (y))))) (mP ((nk.getD (nr79_1) []).length ≤ 140737488355328))], mG_up _, fun _ _ => Iff.rfl, fun _ _ => Iff.rfl, fun _ _ => Iff.rfl, fun _ _ => Iff.rfl, fun _ _ => Iff.rfl, fun _ _ => Iff.rfl, fun _ _ => Iff.rfl, fun _ _ => Iff.rfl, fun _ _ => Iff.rfl, fun _ _ => Iff.rfl, fun _ _ => Iff.rfl, fun _ _ => Iff.rfl, fun _ _ => Iff.rfl, fun _ _ => Iff.rfl, fun _ _ => Iff.rfl, fun _ _ => Iff.rfl, fun _ _ => Iff.rfl⟩
        refine wp_drawG (L0 := [(2, .pointer (some ⟨b43, 0, none⟩)), (3, .pointer (some ⟨b51, 0, none⟩)), (6, .int .i64 ((nr79_1 : Int)))]) 17 (by kernel_rfl) (by kernel_rfl) (by kernel_rfl) (by kernel_rfl) (by kernel_rfl) G90 hGm90 [] pre_nil (by kernel_rfl) [] (by kernel_rfl) (fun (S : Nat → Bool) (g : Nat → Value) => ([] : List Ent)) (fun _ _ _ _ _ => rfl) hM78 ?_ ?_
        · -- the operations
          refine all_snoc (.inr ⟨by decide, fun S90_16 g90_16 V90_16 w90_16 F90_16 cx90_16 hM90_16 => ?_⟩) ?_
          · -- op 16
            obtain ⟨hv14_V90_16, l89⟩ : g90_16 37 = .bool (decide (((nk.getD (nr79_1) [])) = (y))) ∧ ((nk.getD (nr79_1) []).length ≤ 140737488355328) := (hG90_14 _ _).1 (cx90_16.fact 14 37 (by decide) (cx90_16.dep 14 (by kernel_rfl)) (by kernel_rfl))
            refine wpF_see 37 (.bool (decide (((nk.getD (nr79_1) [])) = (y)))) (Eq.trans (by kernel_rfl) hv14_V90_16) ?_
            refine wpF_seg 1 (by kernel_rfl) ?_
            refine wpF_end _ (by kernel_rfl) (then_n ?_)
            exact one_in (some 5) (by kernel_rfl) (.bool (decide (((nk.getD (nr79_1) [])) = (y)))) _ [(37, .bool (decide (((nk.getD (nr79_1) [])) = (y))))] (seen_cons (Eq.trans (by kernel_rfl) hv14_V90_16) seen_nil) (by kernel_rfl) (VT.le.refl _) hM90_16 ((hG90_16 _ _).2 ⟨rfl, l89⟩)
          refine all_snoc (.inr ⟨by decide, fun S90_15 g90_15 V90_15 w90_15 F90_15 cx90_15 hM90_15 => ?_⟩) ?_
          · -- op 15
            obtain hv0_V90_15 : g90_15 23 = .int .i64 ((nr79_1 : Int)) := (hG90_0 _ _).1 (cx90_15.fact 0 23 (by decide) (cx90_15.dep 0 (by kernel_rfl)) (by kernel_rfl))
            refine wpF_see 23 (.int .i64 ((nr79_1 : Int))) (Eq.trans (by kernel_rfl) hv0_V90_15) ?_
            refine wpF_seg 1 (by kernel_rfl) ?_
            refine wpF_end _ (by kernel_rfl) (then_n ?_)
            exact one_in (some 4) (by kernel_rfl) (.int .i64 ((nr79_1 : Int))) _ [(23, .int .i64 ((nr79_1 : Int)))] (seen_cons (Eq.trans (by kernel_rfl) hv0_V90_15) seen_nil) (by kernel_rfl) (VT.le.refl _) hM90_15 ((hG90_15 _ _).2 rfl)
          refine all_snoc (.inr ⟨by decide, fun S90_14 g90_14 V90_14 w90_14 F90_14 cx90_14 hM90_14 => ?_⟩) ?_
          · -- op 14
            obtain hv6_V90_14 : g90_14 29 = .bool (true) := (hG90_6 _ _).1 (cx90_14.fact 6 29 (by decide) (cx90_14.dep 6 (by kernel_rfl)) (by kernel_rfl))
            obtain ⟨hv13_V90_14, l89⟩ : g90_14 36 = .bool (decide (((nk.getD (nr79_1) [])) = (y))) ∧ ((nk.getD (nr79_1) []).length ≤ 140737488355328) := (hG90_13 _ _).1 (cx90_14.fact 13 36 (by decide) (cx90_14.dep 13 (by kernel_rfl)) (by kernel_rfl))
            refine wpF_see 29 (.bool (true)) (Eq.trans (by kernel_rfl) hv6_V90_14) ?_
            refine wpF_see 36 (.bool (decide (((nk.getD (nr79_1) [])) = (y)))) (Eq.trans (by kernel_rfl) hv13_V90_14) ?_
            refine wpF_seg 1 (by kernel_rfl) ?_
            refine wpF_end _ (by kernel_rfl) (then_n ?_)
            exact one_in (some 37) (by kernel_rfl) (.bool (decide (((nk.getD (nr79_1) [])) = (y)))) _ [(36, .bool (decide (((nk.getD (nr79_1) [])) = (y)))), (29, .bool (true))] (seen_cons (Eq.trans (by kernel_rfl) hv13_V90_14) (seen_cons (Eq.trans (by kernel_rfl) hv6_V90_14) seen_nil)) (by kernel_rfl) (VT.le.refl _) hM90_14 ((hG90_14 _ _).2 ⟨rfl, l89⟩)
          refine all_snoc (.inr ⟨by decide, fun S90_13 g90_13 V90_13 w90_13 F90_13 cx90_13 hM90_13 => ?_⟩) ?_
          · -- op 13
            obtain hv6_V90_13 : g90_13 29 = .bool (true) := (hG90_6 _ _).1 (cx90_13.fact 6 29 (by decide) (cx90_13.dep 6 (by kernel_rfl)) (by kernel_rfl))
            obtain ⟨hv11_V90_13, l89⟩ : g90_13 34 = bs ((nk.getD (nr79_1) [])) ∧ ((nk.getD (nr79_1) []).length ≤ 140737488355328) := (hG90_11 _ _).1 (cx90_13.fact 11 34 (by decide) (cx90_13.dep 11 (by kernel_rfl)) (by kernel_rfl))
            obtain hv12_V90_13 : g90_13 35 = bs (y) := (hG90_12 _ _).1 (cx90_13.fact 12 35 (by decide) (cx90_13.dep 12 (by kernel_rfl)) (by kernel_rfl))
            refine wpF_see 29 (.bool (true)) (Eq.trans (by kernel_rfl) hv6_V90_13) ?_
            refine wpF_see 34 (bs ((nk.getD (nr79_1) []))) (Eq.trans (by kernel_rfl) hv11_V90_13) ?_
            refine wpF_see 35 (bs (y)) (Eq.trans (by kernel_rfl) hv12_V90_13) ?_
            refine wpF_seg 1 (by kernel_rfl) ?_
            refine wpF_end _ (by kernel_rfl) (then_n ?_)
            exact one_in (some 36) (by kernel_rfl) (.bool (decide (((nk.getD (nr79_1) [])) = (y)))) _ [(35, bs (y)), (34, bs ((nk.getD (nr79_1) []))), (29, .bool (true))] (seen_cons (Eq.trans (by kernel_rfl) hv12_V90_13) (seen_cons (Eq.trans (by kernel_rfl) hv11_V90_13) (seen_cons (Eq.trans (by kernel_rfl) hv6_V90_13) seen_nil))) (by kernel_rfl) (VT.le.refl _) hM90_13 ((hG90_13 _ _).2 ⟨rfl, l89⟩)
          refine all_snoc (.inr ⟨by decide, fun S90_12 g90_12 V90_12 w90_12 F90_12 cx90_12 hM90_12 => ?_⟩) ?_
          · -- op 12
            obtain hv6_V90_12 : g90_12 29 = .bool (true) := (hG90_6 _ _).1 (cx90_12.fact 6 29 (by decide) (cx90_12.dep 6 (by kernel_rfl)) (by kernel_rfl))
            refine wpF_see 29 (.bool (true)) (Eq.trans (by kernel_rfl) hv6_V90_12) ?_
            refine wpF_loadB hM90_12 #[bs (y)] (fun i v hi => ((le64.trans le77).trans cx90_12.le) _ _ _ (hc57 i v hi)) (h := (by kernel_rfl : opAt _ _ _ _ _ = some (Go.Op.load 9 (Go.Operand.tmp 3), some 35))) (off := 0) (by kernel_rfl) (bs (y)) (by kernel_rfl) ?_
            refine wpF_end _ (by kernel_rfl) (then_n ?_)
            exact one_in (some 35) (by kernel_rfl) (bs (y)) _ [(29, .bool (true))] (seen_cons (Eq.trans (by kernel_rfl) hv6_V90_12) seen_nil) (by kernel_rfl) (VT.le.refl _) hM90_12 ((hG90_12 _ _).2 rfl)
          refine all_snoc (.inr ⟨by decide, fun S90_11 g90_11 V90_11 w90_11 F90_11 cx90_11 hM90_11 => ?_⟩) ?_
          · -- op 11
            obtain hv6_V90_11 : g90_11 29 = .bool (true) := (hG90_6 _ _).1 (cx90_11.fact 6 29 (by decide) (cx90_11.dep 6 (by kernel_rfl)) (by kernel_rfl))
            obtain ⟨b86, o87, hv10_V90_11, at_b86, l89⟩ : ∃ b86 : Nat, ∃ o87 : Nat, g90_11 33 = .pointer (some ⟨b86, o87, none⟩) ∧ (At strK V90_11 b86 o87 ((nk.getD (nr79_1) []))) ∧ ((nk.getD (nr79_1) []).length ≤ 140737488355328) := (hG90_10 _ _).1 (cx90_11.fact 10 33 (by decide) (cx90_11.dep 10 (by kernel_rfl)) (by kernel_rfl))
            have c911201 : V90_11 b86 o87 = some (bs (nk.getD (nr79_1) [])) := (At.str at_b86).1
            have l911202 : (nk.getD (nr79_1) []).length ≤ 140737488355328 := (At.str at_b86).2
            refine wpF_see 29 (.bool (true)) (Eq.trans (by kernel_rfl) hv6_V90_11) ?_
            refine wpF_see 33 (.pointer (some ⟨b86, o87, none⟩)) (Eq.trans (by kernel_rfl) hv10_V90_11) ?_
            refine wpF_loadV hM90_11 c911201 (h := (by kernel_rfl : opAt _ _ _ _ _ = some (Go.Op.load 9 (Go.Operand.tmp 33), some 34))) (by kernel_rfl) (by kernel_rfl) ?_
            refine wpF_end _ (by kernel_rfl) (then_n ?_)
            exact one_in (some 34) (by kernel_rfl) (bs ((nk.getD (nr79_1) []))) _ [(33, .pointer (some ⟨b86, o87, none⟩)), (29, .bool (true))] (seen_cons (Eq.trans (by kernel_rfl) hv10_V90_11) (seen_cons (Eq.trans (by kernel_rfl) hv6_V90_11) seen_nil)) (by kernel_rfl) (VT.le.refl _) hM90_11 ((hG90_11 _ _).2 ⟨rfl, l89⟩)
          refine all_snoc (.inr ⟨by decide, fun S90_10 g90_10 V90_10 w90_10 F90_10 cx90_10 hM90_10 => ?_⟩) ?_
          · -- op 10
            obtain hv6_V90_10 : g90_10 29 = .bool (true) := (hG90_6 _ _).1 (cx90_10.fact 6 29 (by decide) (cx90_10.dep 6 (by kernel_rfl)) (by kernel_rfl))
            obtain hv8_V90_10 : g90_10 31 = .slice Ank (nk).length cnk := (hG90_8 _ _).1 (cx90_10.fact 8 31 (by decide) (cx90_10.dep 8 (by kernel_rfl)) (by kernel_rfl))
            obtain hv9_V90_10 : g90_10 32 = .int .i64 ((nr79_1 : Int)) := (hG90_9 _ _).1 (cx90_10.fact 9 32 (by decide) (cx90_10.dep 9 (by kernel_rfl)) (by kernel_rfl))
            refine wpF_see 29 (.bool (true)) (Eq.trans (by kernel_rfl) hv6_V90_10) ?_
            refine wpF_see 31 (.slice Ank (nk).length cnk) (Eq.trans (by kernel_rfl) hv8_V90_10) ?_
            refine wpF_see 32 (.int .i64 ((nr79_1 : Int))) (Eq.trans (by kernel_rfl) hv9_V90_10) ?_
            refine wpF_index (A := Ank) (c := cnk) (hnk.up hM90_10.le) .i64 ((nr79_1 : Int)) (h := (by kernel_rfl : opAt _ _ _ _ _ = some (Go.Op.indexAddr 22 (Go.Operand.tmp 31) (Go.Operand.tmp 32), some 33))) (e := 9) (by kernel_rfl) (by kernel_rfl) (by kernel_rfl) (nr79_1) rfl (by omega) (fun b86 o87 at_b86 => ?_)
            have c88 : V90_10 b86 o87 = some (bs (nk.getD (nr79_1) [])) := (At.str at_b86).1
            have l89 : (nk.getD (nr79_1) []).length ≤ 140737488355328 := (At.str at_b86).2
            refine wpF_end _ (by kernel_rfl) (then_n ?_)
            exact one_in (some 33) (by kernel_rfl) (.pointer (some ⟨b86, o87, none⟩)) _ [(32, .int .i64 ((nr79_1 : Int))), (31, .slice Ank (nk).length cnk), (29, .bool (true))] (seen_cons (Eq.trans (by kernel_rfl) hv9_V90_10) (seen_cons (Eq.trans (by kernel_rfl) hv8_V90_10) (seen_cons (Eq.trans (by kernel_rfl) hv6_V90_10) seen_nil))) (by kernel_rfl) (VT.le.refl _) hM90_10 ((hG90_10 _ _).2 ⟨b86, o87, rfl, at_b86, l89⟩)
          refine all_snoc (.inr ⟨by decide, fun S90_9 g90_9 V90_9 w90_9 F90_9 cx90_9 hM90_9 => ?_⟩) ?_
          · -- op 9
            obtain hv6_V90_9 : g90_9 29 = .bool (true) := (hG90_6 _ _).1 (cx90_9.fact 6 29 (by decide) (cx90_9.dep 6 (by kernel_rfl)) (by kernel_rfl))
            refine wpF_see 29 (.bool (true)) (Eq.trans (by kernel_rfl) hv6_V90_9) ?_
            refine wpF_seg 1 (by kernel_rfl) ?_
            refine wpF_end _ (by kernel_rfl) (then_n ?_)
            exact one_in (some 32) (by kernel_rfl) (.int .i64 ((nr79_1 : Int))) _ [(29, .bool (true))] (seen_cons (Eq.trans (by kernel_rfl) hv6_V90_9) seen_nil) (by kernel_rfl) (VT.le.refl _) hM90_9 ((hG90_9 _ _).2 rfl)
          refine all_snoc (.inr ⟨by decide, fun S90_8 g90_8 V90_8 w90_8 F90_8 cx90_8 hM90_8 => ?_⟩) ?_
          · -- op 8
            obtain hv6_V90_8 : g90_8 29 = .bool (true) := (hG90_6 _ _).1 (cx90_8.fact 6 29 (by decide) (cx90_8.dep 6 (by kernel_rfl)) (by kernel_rfl))
            obtain hv7_V90_8 : g90_8 30 = .pointer (some ⟨b43, 1, none⟩) := (hG90_7 _ _).1 (cx90_8.fact 7 30 (by decide) (cx90_8.dep 7 (by kernel_rfl)) (by kernel_rfl))
            refine wpF_see 29 (.bool (true)) (Eq.trans (by kernel_rfl) hv6_V90_8) ?_
            refine wpF_see 30 (.pointer (some ⟨b43, 1, none⟩)) (Eq.trans (by kernel_rfl) hv7_V90_8) ?_
            refine wpF_loadB hM90_8 #[.bool (true), .slice Ank (nk).length cnk, .slice Anv (nv).length cnv, .slice Anc (nc).length cnc] (fun i v hi => (((le55.trans le64).trans le77).trans cx90_8.le) _ _ _ (hc49 i v hi)) (h := (by kernel_rfl : opAt _ _ _ _ _ = some (Go.Op.load 22 (Go.Operand.tmp 30), some 31))) (off := 1) (by kernel_rfl) (.slice Ank (nk).length cnk) (by kernel_rfl) ?_
            refine wpF_end _ (by kernel_rfl) (then_n ?_)
            exact one_in (some 31) (by kernel_rfl) (.slice Ank (nk).length cnk) _ [(30, .pointer (some ⟨b43, 1, none⟩)), (29, .bool (true))] (seen_cons (Eq.trans (by kernel_rfl) hv7_V90_8) (seen_cons (Eq.trans (by kernel_rfl) hv6_V90_8) seen_nil)) (by kernel_rfl) (VT.le.refl _) hM90_8 ((hG90_8 _ _).2 rfl)
          refine all_snoc (.inr ⟨by decide, fun S90_7 g90_7 V90_7 w90_7 F90_7 cx90_7 hM90_7 => ?_⟩) ?_
          · -- op 7
            obtain hv6_V90_7 : g90_7 29 = .bool (true) := (hG90_6 _ _).1 (cx90_7.fact 6 29 (by decide) (cx90_7.dep 6 (by kernel_rfl)) (by kernel_rfl))
            refine wpF_see 29 (.bool (true)) (Eq.trans (by kernel_rfl) hv6_V90_7) ?_
            refine wpF_seg 1 (by kernel_rfl) ?_
            refine wpF_end _ (by kernel_rfl) (then_n ?_)
            exact one_in (some 30) (by kernel_rfl) (.pointer (some ⟨b43, 1, none⟩)) _ [(29, .bool (true))] (seen_cons (Eq.trans (by kernel_rfl) hv6_V90_7) seen_nil) (by kernel_rfl) (VT.le.refl _) hM90_7 ((hG90_7 _ _).2 rfl)
          refine all_snoc (.inr ⟨by decide, fun S90_6 g90_6 V90_6 w90_6 F90_6 cx90_6 hM90_6 => ?_⟩) ?_
          · -- op 6
            obtain hv5_V90_6 : g90_6 28 = .bool (true) := (hG90_5 _ _).1 (cx90_6.fact 5 28 (by decide) (cx90_6.dep 5 (by kernel_rfl)) (by kernel_rfl))
            refine wpF_see 28 (.bool (true)) (Eq.trans (by kernel_rfl) hv5_V90_6) ?_
            refine wpF_seg 1 (by kernel_rfl) ?_
            refine wpF_end _ (by kernel_rfl) (then_n ?_)
            exact one_in (some 29) (by kernel_rfl) (.bool (true)) _ [(28, .bool (true))] (seen_cons (Eq.trans (by kernel_rfl) hv5_V90_6) seen_nil) (by kernel_rfl) (VT.le.refl _) hM90_6 ((hG90_6 _ _).2 rfl)
          refine all_snoc (.inr ⟨by decide, fun S90_5 g90_5 V90_5 w90_5 F90_5 cx90_5 hM90_5 => ?_⟩) ?_
          · -- op 5
            obtain hv1_V90_5 : g90_5 24 = .int .i64 ((nr79_1 : Int)) := (hG90_1 _ _).1 (cx90_5.fact 1 24 (by decide) (cx90_5.dep 1 (by kernel_rfl)) (by kernel_rfl))
            obtain hv4_V90_5 : g90_5 27 = .int .i64 ((nk.length : Int)) := (hG90_4 _ _).1 (cx90_5.fact 4 27 (by decide) (cx90_5.dep 4 (by kernel_rfl)) (by kernel_rfl))
            refine wpF_see 24 (.int .i64 ((nr79_1 : Int))) (Eq.trans (by kernel_rfl) hv1_V90_5) ?_
            refine wpF_see 27 (.int .i64 ((nk.length : Int))) (Eq.trans (by kernel_rfl) hv4_V90_5) ?_
            refine wpF_seg 1 (by kernel_rfl) ?_
            refine wpF_slot 28 (.bool (decide (((nr79_1 : Int)) < ((nk.length : Int))))) (.bool true) (by kernel_rfl) (by kernel_rfl) (by rw [h84]) ?_
            refine wpF_end _ (by kernel_rfl) (then_n ?_)
            exact one_in (some 28) (by kernel_rfl) (.bool (true)) _ [(27, .int .i64 ((nk.length : Int))), (24, .int .i64 ((nr79_1 : Int)))] (seen_cons (Eq.trans (by kernel_rfl) hv4_V90_5) (seen_cons (Eq.trans (by kernel_rfl) hv1_V90_5) seen_nil)) (by kernel_rfl) (VT.le.refl _) hM90_5 ((hG90_5 _ _).2 rfl)
          refine all_snoc (.inr ⟨by decide, fun S90_4 g90_4 V90_4 w90_4 F90_4 cx90_4 hM90_4 => ?_⟩) ?_
          · -- op 4
            obtain hv3_V90_4 : g90_4 26 = .slice Ank (nk).length cnk := (hG90_3 _ _).1 (cx90_4.fact 3 26 (by decide) (cx90_4.dep 3 (by kernel_rfl)) (by kernel_rfl))
            refine wpF_see 26 (.slice Ank (nk).length cnk) (Eq.trans (by kernel_rfl) hv3_V90_4) ?_
            refine wpF_seg 1 (by kernel_rfl) ?_
            refine wpF_end _ (by kernel_rfl) (then_n ?_)
            exact one_in (some 27) (by kernel_rfl) (.int .i64 ((nk.length : Int))) _ [(26, .slice Ank (nk).length cnk)] (seen_cons (Eq.trans (by kernel_rfl) hv3_V90_4) seen_nil) (by kernel_rfl) (VT.le.refl _) hM90_4 ((hG90_4 _ _).2 rfl)
          refine all_snoc (.inr ⟨by decide, fun S90_3 g90_3 V90_3 w90_3 F90_3 cx90_3 hM90_3 => ?_⟩) ?_
          · -- op 3
            obtain hv2_V90_3 : g90_3 25 = .pointer (some ⟨b43, 1, none⟩) := (hG90_2 _ _).1 (cx90_3.fact 2 25 (by decide) (cx90_3.dep 2 (by kernel_rfl)) (by kernel_rfl))
            refine wpF_see 25 (.pointer (some ⟨b43, 1, none⟩)) (Eq.trans (by kernel_rfl) hv2_V90_3) ?_
            refine wpF_loadB hM90_3 #[.bool (true), .slice Ank (nk).length cnk, .slice Anv (nv).length cnv, .slice Anc (nc).length cnc] (fun i v hi => (((le55.trans le64).trans le77).trans cx90_3.le) _ _ _ (hc49 i v hi)) (h := (by kernel_rfl : opAt _ _ _ _ _ = some (Go.Op.load 22 (Go.Operand.tmp 25), some 26))) (off := 1) (by kernel_rfl) (.slice Ank (nk).length cnk) (by kernel_rfl) ?_
            refine wpF_end _ (by kernel_rfl) (then_n ?_)
            exact one_in (some 26) (by kernel_rfl) (.slice Ank (nk).length cnk) _ [(25, .pointer (some ⟨b43, 1, none⟩))] (seen_cons (Eq.trans (by kernel_rfl) hv2_V90_3) seen_nil) (by kernel_rfl) (VT.le.refl _) hM90_3 ((hG90_3 _ _).2 rfl)
          refine all_snoc (.inr ⟨by decide, fun S90_2 g90_2 V90_2 w90_2 F90_2 cx90_2 hM90_2 => ?_⟩) ?_
          · -- op 2
            refine wpF_seg 1 (by kernel_rfl) ?_
            refine wpF_end _ (by kernel_rfl) (then_n ?_)
            exact one_in (some 25) (by kernel_rfl) (.pointer (some ⟨b43, 1, none⟩)) _ [] seen_nil (by kernel_rfl) (VT.le.refl _) hM90_2 ((hG90_2 _ _).2 rfl)
          refine all_snoc (.inr ⟨by decide, fun S90_1 g90_1 V90_1 w90_1 F90_1 cx90_1 hM90_1 => ?_⟩) ?_
          · -- op 1
            refine wpF_seg 1 (by kernel_rfl) ?_
            refine wpF_end _ (by kernel_rfl) (then_n ?_)
            exact one_in (some 24) (by kernel_rfl) (.int .i64 ((nr79_1 : Int))) _ [] seen_nil (by kernel_rfl) (VT.le.refl _) hM90_1 ((hG90_1 _ _).2 rfl)
          refine all_snoc (.inr ⟨by decide, fun S90_0 g90_0 V90_0 w90_0 F90_0 cx90_0 hM90_0 => ?_⟩) ?_
          · -- op 0
            refine wpF_seg 1 (by kernel_rfl) ?_
            refine wpF_end _ (by kernel_rfl) (then_n ?_)
            exact one_in (some 23) (by kernel_rfl) (.int .i64 ((nr79_1 : Int))) _ [] seen_nil (by kernel_rfl) (VT.le.refl _) hM90_0 ((hG90_0 _ _).2 rfl)
          exact all_none
        · -- behind it
          intro ge90 Ve90 we90 hMe90 hle90 hf90
          refine wpF_stop (P := Try.prog) (ops := #[]) (i := 0) _ rfl ?_
          obtain hv15_Ve90 : ge90 4 = .int .i64 ((nr79_1 : Int)) := (hG90_15 _ _).1 (hf90 15 4 (by decide) (by kernel_rfl))
          obtain ⟨hv16_Ve90, l89⟩ : ge90 5 = .bool (decide (((nk.getD (nr79_1) [])) = (y))) ∧ ((nk.getD (nr79_1) []).length ≤ 140737488355328) := (hG90_16 _ _).1 (hf90 16 5 (by decide) (by kernel_rfl))
          obtain hv0_Ve90 : ge90 23 = .int .i64 ((nr79_1 : Int)) := (hG90_0 _ _).1 (hf90 0 23 (by decide) (by kernel_rfl))
          obtain hv1_Ve90 : ge90 24 = .int .i64 ((nr79_1 : Int)) := (hG90_1 _ _).1 (hf90 1 24 (by decide) (by kernel_rfl))
          obtain hv2_Ve90 : ge90 25 = .pointer (some ⟨b43, 1, none⟩) := (hG90_2 _ _).1 (hf90 2 25 (by decide) (by kernel_rfl))
          obtain hv3_Ve90 : ge90 26 = .slice Ank (nk).length cnk := (hG90_3 _ _).1 (hf90 3 26 (by decide) (by kernel_rfl))
          obtain hv4_Ve90 : ge90 27 = .int .i64 ((nk.length : Int)) := (hG90_4 _ _).1 (hf90 4 27 (by decide) (by kernel_rfl))
          obtain hv5_Ve90 : ge90 28 = .bool (true) := (hG90_5 _ _).1 (hf90 5 28 (by decide) (by kernel_rfl))
          obtain hv6_Ve90 : ge90 29 = .bool (true) := (hG90_6 _ _).1 (hf90 6 29 (by decide) (by kernel_rfl))
          obtain hv7_Ve90 : ge90 30 = .pointer (some ⟨b43, 1, none⟩) := (hG90_7 _ _).1 (hf90 7 30 (by decide) (by kernel_rfl))
          obtain hv8_Ve90 : ge90 31 = .slice Ank (nk).length cnk := (hG90_8 _ _).1 (hf90 8 31 (by decide) (by kernel_rfl))
          obtain hv9_Ve90 : ge90 32 = .int .i64 ((nr79_1 : Int)) := (hG90_9 _ _).1 (hf90 9 32 (by decide) (by kernel_rfl))
          obtain ⟨b86, o87, hv10_Ve90, at_b86, l89⟩ : ∃ b86 : Nat, ∃ o87 : Nat, ge90 33 = .pointer (some ⟨b86, o87, none⟩) ∧ (At strK Ve90 b86 o87 ((nk.getD (nr79_1) []))) ∧ ((nk.getD (nr79_1) []).length ≤ 140737488355328) := (hG90_10 _ _).1 (hf90 10 33 (by decide) (by kernel_rfl))
          have c92 : Ve90 b86 o87 = some (bs (nk.getD (nr79_1) [])) := (At.str at_b86).1
          have l93 : (nk.getD (nr79_1) []).length ≤ 140737488355328 := (At.str at_b86).2
          obtain ⟨hv11_Ve90, l89⟩ : ge90 34 = bs ((nk.getD (nr79_1) [])) ∧ ((nk.getD (nr79_1) []).length ≤ 140737488355328) := (hG90_11 _ _).1 (hf90 11 34 (by decide) (by kernel_rfl))
          obtain hv12_Ve90 : ge90 35 = bs (y) := (hG90_12 _ _).1 (hf90 12 35 (by decide) (by kernel_rfl))
          obtain ⟨hv13_Ve90, l89⟩ : ge90 36 = .bool (decide (((nk.getD (nr79_1) [])) = (y))) ∧ ((nk.getD (nr79_1) []).length ≤ 140737488355328) := (hG90_13 _ _).1 (hf90 13 36 (by decide) (by kernel_rfl))
          obtain ⟨hv14_Ve90, l89⟩ : ge90 37 = .bool (decide (((nk.getD (nr79_1) [])) = (y))) ∧ ((nk.getD (nr79_1) []).length ≤ 140737488355328) := (hG90_14 _ _).1 (hf90 14 37 (by decide) (by kernel_rfl))
          refine wpF_see 4 (.int .i64 ((nr79_1 : Int))) (Eq.trans (by kernel_rfl) hv15_Ve90) ?_
          refine wpF_see 5 (.bool (decide (((nk.getD (nr79_1) [])) = (y)))) (Eq.trans (by kernel_rfl) hv16_Ve90) ?_
          refine wpF_see 23 (.int .i64 ((nr79_1 : Int))) (Eq.trans (by kernel_rfl) hv0_Ve90) ?_
          refine wpF_see 24 (.int .i64 ((nr79_1 : Int))) (Eq.trans (by kernel_rfl) hv1_Ve90) ?_
          refine wpF_see 25 (.pointer (some ⟨b43, 1, none⟩)) (Eq.trans (by kernel_rfl) hv2_Ve90) ?_
          refine wpF_see 26 (.slice Ank (nk).length cnk) (Eq.trans (by kernel_rfl) hv3_Ve90) ?_
          refine wpF_see 27 (.int .i64 ((nk.length : Int))) (Eq.trans (by kernel_rfl) hv4_Ve90) ?_
          refine wpF_see 28 (.bool (true)) (Eq.trans (by kernel_rfl) hv5_Ve90) ?_
          refine wpF_see 29 (.bool (true)) (Eq.trans (by kernel_rfl) hv6_Ve90) ?_
          refine wpF_see 30 (.pointer (some ⟨b43, 1, none⟩)) (Eq.trans (by kernel_rfl) hv7_Ve90) ?_
          refine wpF_see 31 (.slice Ank (nk).length cnk) (Eq.trans (by kernel_rfl) hv8_Ve90) ?_
          refine wpF_see 32 (.int .i64 ((nr79_1 : Int))) (Eq.trans (by kernel_rfl) hv9_Ve90) ?_
          refine wpF_see 33 (.pointer (some ⟨b86, o87, none⟩)) (Eq.trans (by kernel_rfl) hv10_Ve90) ?_
          refine wpF_see 34 (bs ((nk.getD (nr79_1) []))) (Eq.trans (by kernel_rfl) hv11_Ve90) ?_
          refine wpF_see 35 (bs (y)) (Eq.trans (by kernel_rfl) hv12_Ve90) ?_
          refine wpF_see 36 (.bool (decide (((nk.getD (nr79_1) [])) = (y)))) (Eq.trans (by kernel_rfl) hv13_Ve90) ?_
          refine wpF_see 37 (.bool (decide (((nk.getD (nr79_1) [])) = (y)))) (Eq.trans (by kernel_rfl) hv14_Ve90) ?_
          refine wpF_end _ (by kernel_rfl) (then_n (hK83 _ _ ?_))
          refine wp_ret ?_
          refine retN [.int .i64 ((nr79_1 : Int)), .bool (decide (((nk.getD (nr79_1) [])) = (y)))] (.tuple #[.int .i64 ((nr79_1 : Int)), .bool (decide (((nk.getD (nr79_1) [])) = (y)))]) Try.results22 (.tmp (by kernel_rfl) (by kernel_rfl) (.tmp (by kernel_rfl) (by kernel_rfl) .nil)) (by kernel_rfl) (hRet _ _ ⟨_, _, rfl, hMe90.clear, ?_⟩)
          -- end Tft
          subst_vars; delta findI findB findN; simp only [h67, h70, h84, cond_true, cond_false, Bool.true_and, Bool.and_true, Bool.false_and, Bool.and_false]
      · -- Tff
        have p95 : ¬ (((nr79_1 : Int)) < ((nk.length : Int))) := of_decide_eq_false h84
        refine wp_base [(2, .pointer (some ⟨b43, 0, none⟩)), (3, .pointer (some ⟨b51, 0, none⟩)), (6, .int .i64 ((nr79_1 : Int)))] (by kernel_rfl) (fun g0_96 => ?_)
        obtain ⟨G96, hGm96, hG96_0, hG96_1, hG96_2, hG96_3, hG96_4, hG96_5, hG96_6, hG96_7, hG96_8, hG96_9, hG96_10, hG96_11, hG96_12, hG96_13, hG96_14, hG96_15, hG96_16⟩ : ∃ G : Nat → Value → VT → Prop, (∀ j v V V', VT.le V V' → G j v V → G j v V') ∧ (∀ v_ V_, G 0 v_ V_ ↔ (v_ = .int .i64 ((nr79_1 : Int)))) ∧ (∀ v_ V_, G 1 v_ V_ ↔ (v_ = .int .i64 ((nr79_1 : Int)))) ∧ (∀ v_ V_, G 2 v_ V_ ↔ (v_ = .pointer (some ⟨b43, 1, none⟩))) ∧ (∀ v_ V_, G 3 v_ V_ ↔ (v_ = .slice Ank (nk).length cnk)) ∧ (∀ v_ V_, G 4 v_ V_ ↔ (v_ = .int .i64 ((nk.length : Int)))) ∧ (∀ v_ V_, G 5 v_ V_ ↔ (v_ = .bool (false))) ∧ (∀ v_ V_, G 6 v_ V_ ↔ (v_ = .bool (false))) ∧ (∀ v_ V_, G 7 v_ V_ ↔ (v_ = undef)) ∧ (∀ v_ V_, G 8 v_ V_ ↔ (v_ = undef)) ∧ (∀ v_ V_, G 9 v_ V_ ↔ (v_ = undef)) ∧ (∀ v_ V_, G 10 v_ V_ ↔ (v_ = undef)) ∧ (∀ v_ V_, G 11 v_ V_ ↔ (v_ = undef)) ∧ (∀ v_ V_, G 12 v_ V_ ↔ (v_ = undef)) ∧ (∀ v_ V_, G 13 v_ V_ ↔ (v_ = undef)) ∧ (∀ v_ V_, G 14 v_ V_ ↔ (v_ = .bool (false))) ∧ (∀ v_ V_, G 15 v_ V_ ↔ (v_ = .int .i64 ((nr79_1 : Int)))) ∧ (∀ v_ V_, G 16 v_ V_ ↔ (v_ = .bool (false))) :=
            ⟨mG [mV (.int .i64 ((nr79_1 : Int))), mV (.int .i64 ((nr79_1 : Int))), mV (.pointer (some ⟨b43, 1, none⟩)), mV (.slice Ank (nk).length cnk), mV (.int .i64 ((nk.length : Int))), mV (.bool (false)), mV (.bool (false)), mV undef, mV undef, mV undef, mV undef, mV undef, mV undef, mV undef, mV (.bool (false)), mV (.int .i64 ((nr79_1 : Int))), mV (.bool (false))], mG_up _, fun _ _ => Iff.rfl, fun _ _ => Iff.rfl, fun _ _ => Iff.rfl, fun _ _ => Iff.rfl, fun _ _ => Iff.rfl, fun _ _ => Iff.rfl, fun _ _ => Iff.rfl, fun _ _ => Iff.rfl, fun _ _ => Iff.rfl, fun _ _ => Iff.rfl, fun _ _ => Iff.rfl, fun _ _ => Iff.rfl, fun _ _ => Iff.rfl, fun _ _ => Iff.rfl, fun _ _ => Iff.rfl, fun _ _ => Iff.rfl, fun _ _ => Iff.rfl⟩
        refine wp_drawG (L0 := [(2, .pointer (some ⟨b43, 0, none⟩)), (3, .pointer (some ⟨b51, 0, none⟩)), (6, .int .i64 ((nr79_1 : Int)))]) 17 (by kernel_rfl) (by kernel_rfl) (by kernel_rfl) (by kernel_rfl) (by kernel_rfl) G96 hGm96 [] pre_nil (by kernel_rfl) [] (by kernel_rfl) (fun (S : Nat → Bool) (g : Nat → Value) => ([] : List Ent)) (fun _ _ _ _ _ => rfl) hM78 ?_ ?_
        · -- the operations
          refine all_snoc (.inr ⟨by decide, fun S96_16 g96_16 V96_16 w96_16 F96_16 cx96_16 hM96_16 => ?_⟩) ?_
          · -- op 16
            obtain hv14_V96_16 : g96_16 37 = .bool (false) := (hG96_14 _ _).1 (cx96_16.fact 14 37 (by decide) (cx96_16.dep 14 (by kernel_rfl)) (by kernel_rfl))
            refine wpF_see 37 (.bool (false)) (Eq.trans (by kernel_rfl) hv14_V96_16) ?_
            refine wpF_seg 1 (by kernel_rfl) ?_
            refine wpF_end _ (by kernel_rfl) (then_n ?_)
            exact one_in (some 5) (by kernel_rfl) (.bool (false)) _ [(37, .bool (false))] (seen_cons (Eq.trans (by kernel_rfl) hv14_V96_16) seen_nil) (by kernel_rfl) (VT.le.refl _) hM96_16 ((hG96_16 _ _).2 rfl)
          refine all_snoc (.inr ⟨by decide, fun S96_15 g96_15 V96_15 w96_15 F96_15 cx96_15 hM96_15 => ?_⟩) ?_
          · -- op 15
            obtain hv0_V96_15 : g96_15 23 = .int .i64 ((nr79_1 : Int)) := (hG96_0 _ _).1 (cx96_15.fact 0 23 (by decide) (cx96_15.dep 0 (by kernel_rfl)) (by kernel_rfl))
            refine wpF_see 23 (.int .i64 ((nr79_1 : Int))) (Eq.trans (by kernel_rfl) hv0_V96_15) ?_
            refine wpF_seg 1 (by kernel_rfl) ?_
            refine wpF_end _ (by kernel_rfl) (then_n ?_)
            exact one_in (some 4) (by kernel_rfl) (.int .i64 ((nr79_1 : Int))) _ [(23, .int .i64 ((nr79_1 : Int)))] (seen_cons (Eq.trans (by kernel_rfl) hv0_V96_15) seen_nil) (by kernel_rfl) (VT.le.refl _) hM96_15 ((hG96_15 _ _).2 rfl)
          refine all_snoc (.inr ⟨by decide, fun S96_14 g96_14 V96_14 w96_14 F96_14 cx96_14 hM96_14 => ?_⟩) ?_
          · -- op 14
            obtain hv6_V96_14 : g96_14 29 = .bool (false) := (hG96_6 _ _).1 (cx96_14.fact 6 29 (by decide) (cx96_14.dep 6 (by kernel_rfl)) (by kernel_rfl))
            obtain hv13_V96_14 : g96_14 36 = undef := (hG96_13 _ _).1 (cx96_14.fact 13 36 (by decide) (cx96_14.dep 13 (by kernel_rfl)) (by kernel_rfl))
            refine wpF_see 29 (.bool (false)) (Eq.trans (by kernel_rfl) hv6_V96_14) ?_
            refine wpF_see 36 (undef) (Eq.trans (by kernel_rfl) hv13_V96_14) ?_
            refine wpF_seg 1 (by kernel_rfl) ?_
            refine wpF_end _ (by kernel_rfl) (then_n ?_)
            exact one_in (some 37) (by kernel_rfl) (.bool (false)) _ [(36, undef), (29, .bool (false))] (seen_cons (Eq.trans (by kernel_rfl) hv13_V96_14) (seen_cons (Eq.trans (by kernel_rfl) hv6_V96_14) seen_nil)) (by kernel_rfl) (VT.le.refl _) hM96_14 ((hG96_14 _ _).2 rfl)
          refine all_snoc (.inr ⟨by decide, fun S96_13 g96_13 V96_13 w96_13 F96_13 cx96_13 hM96_13 => ?_⟩) ?_
          · -- op 13
            obtain hv6_V96_13 : g96_13 29 = .bool (false) := (hG96_6 _ _).1 (cx96_13.fact 6 29 (by decide) (cx96_13.dep 6 (by kernel_rfl)) (by kernel_rfl))
            obtain hv11_V96_13 : g96_13 34 = undef := (hG96_11 _ _).1 (cx96_13.fact 11 34 (by decide) (cx96_13.dep 11 (by kernel_rfl)) (by kernel_rfl))
            obtain hv12_V96_13 : g96_13 35 = undef := (hG96_12 _ _).1 (cx96_13.fact 12 35 (by decide) (cx96_13.dep 12 (by kernel_rfl)) (by kernel_rfl))
            refine wpF_see 29 (.bool (false)) (Eq.trans (by kernel_rfl) hv6_V96_13) ?_
            refine wpF_see 34 (undef) (Eq.trans (by kernel_rfl) hv11_V96_13) ?_
            refine wpF_see 35 (undef) (Eq.trans (by kernel_rfl) hv12_V96_13) ?_
            refine wpF_seg 1 (by kernel_rfl) ?_
            refine wpF_end _ (by kernel_rfl) (then_n ?_)
            exact one_in (some 36) (by kernel_rfl) (undef) _ [(35, undef), (34, undef), (29, .bool (false))] (seen_cons (Eq.trans (by kernel_rfl) hv12_V96_13) (seen_cons (Eq.trans (by kernel_rfl) hv11_V96_13) (seen_cons (Eq.trans (by kernel_rfl) hv6_V96_13) seen_nil))) (by kernel_rfl) (VT.le.refl _) hM96_13 ((hG96_13 _ _).2 rfl)
          refine all_snoc (.inr ⟨by decide, fun S96_12 g96_12 V96_12 w96_12 F96_12 cx96_12 hM96_12 => ?_⟩) ?_
          · -- op 12
            obtain hv6_V96_12 : g96_12 29 = .bool (false) := (hG96_6 _ _).1 (cx96_12.fact 6 29 (by decide) (cx96_12.dep 6 (by kernel_rfl)) (by kernel_rfl))
            refine wpF_see 29 (.bool (false)) (Eq.trans (by kernel_rfl) hv6_V96_12) ?_
            refine wpF_seg 1 (by kernel_rfl) ?_
            refine wpF_end _ (by kernel_rfl) (then_n ?_)
            exact one_in (some 35) (by kernel_rfl) (undef) _ [(29, .bool (false))] (seen_cons (Eq.trans (by kernel_rfl) hv6_V96_12) seen_nil) (by kernel_rfl) (VT.le.refl _) hM96_12 ((hG96_12 _ _).2 rfl)
          refine all_snoc (.inr ⟨by decide, fun S96_11 g96_11 V96_11 w96_11 F96_11 cx96_11 hM96_11 => ?_⟩) ?_
          · -- op 11
            obtain hv6_V96_11 : g96_11 29 = .bool (false) := (hG96_6 _ _).1 (cx96_11.fact 6 29 (by decide) (cx96_11.dep 6 (by kernel_rfl)) (by kernel_rfl))
            obtain hv10_V96_11 : g96_11 33 = undef := (hG96_10 _ _).1 (cx96_11.fact 10 33 (by decide) (cx96_11.dep 10 (by kernel_rfl)) (by kernel_rfl))
            refine wpF_see 29 (.bool (false)) (Eq.trans (by kernel_rfl) hv6_V96_11) ?_
            refine wpF_see 33 (undef) (Eq.trans (by kernel_rfl) hv10_V96_11) ?_
            refine wpF_seg 1 (by kernel_rfl) ?_
            refine wpF_end _ (by kernel_rfl) (then_n ?_)
            exact one_in (some 34) (by kernel_rfl) (undef) _ [(33, undef), (29, .bool (false))] (seen_cons (Eq.trans (by kernel_rfl) hv10_V96_11) (seen_cons (Eq.trans (by kernel_rfl) hv6_V96_11) seen_nil)) (by kernel_rfl) (VT.le.refl _) hM96_11 ((hG96_11 _ _).2 rfl)
          refine all_snoc (.inr ⟨by decide, fun S96_10 g96_10 V96_10 w96_10 F96_10 cx96_10 hM96_10 => ?_⟩) ?_
          · -- op 10
            obtain hv6_V96_10 : g96_10 29 = .bool (false) := (hG96_6 _ _).1 (cx96_10.fact 6 29 (by decide) (cx96_10.dep 6 (by kernel_rfl)) (by kernel_rfl))
            obtain hv8_V96_10 : g96_10 31 = undef := (hG96_8 _ _).1 (cx96_10.fact 8 31 (by decide) (cx96_10.dep 8 (by kernel_rfl)) (by kernel_rfl))
            obtain hv9_V96_10 : g96_10 32 = undef := (hG96_9 _ _).1 (cx96_10.fact 9 32 (by decide) (cx96_10.dep 9 (by kernel_rfl)) (by kernel_rfl))
            refine wpF_see 29 (.bool (false)) (Eq.trans (by kernel_rfl) hv6_V96_10) ?_
            refine wpF_see 31 (undef) (Eq.trans (by kernel_rfl) hv8_V96_10) ?_
            refine wpF_see 32 (undef) (Eq.trans (by kernel_rfl) hv9_V96_10) ?_
            refine wpF_seg 1 (by kernel_rfl) ?_
            refine wpF_end _ (by kernel_rfl) (then_n ?_)
            exact one_in (some 33) (by kernel_rfl) (undef) _ [(32, undef), (31, undef), (29, .bool (false))] (seen_cons (Eq.trans (by kernel_rfl) hv9_V96_10) (seen_cons (Eq.trans (by kernel_rfl) hv8_V96_10) (seen_cons (Eq.trans (by kernel_rfl) hv6_V96_10) seen_nil))) (by kernel_rfl) (VT.le.refl _) hM96_10 ((hG96_10 _ _).2 rfl)
          refine all_snoc (.inr ⟨by decide, fun S96_9 g96_9 V96_9 w96_9 F96_9 cx96_9 hM96_9 => ?_⟩) ?_
          · -- op 9
            obtain hv6_V96_9 : g96_9 29 = .bool (false) := (hG96_6 _ _).1 (cx96_9.fact 6 29 (by decide) (cx96_9.dep 6 (by kernel_rfl)) (by kernel_rfl))
            refine wpF_see 29 (.bool (false)) (Eq.trans (by kernel_rfl) hv6_V96_9) ?_
            refine wpF_seg 1 (by kernel_rfl) ?_
            refine wpF_end _ (by kernel_rfl) (then_n ?_)
            exact one_in (some 32) (by kernel_rfl) (undef) _ [(29, .bool (false))] (seen_cons (Eq.trans (by kernel_rfl) hv6_V96_9) seen_nil) (by kernel_rfl) (VT.le.refl _) hM96_9 ((hG96_9 _ _).2 rfl)
          refine all_snoc (.inr ⟨by decide, fun S96_8 g96_8 V96_8 w96_8 F96_8 cx96_8 hM96_8 => ?_⟩) ?_
          · -- op 8
            obtain hv6_V96_8 : g96_8 29 = .bool (false) := (hG96_6 _ _).1 (cx96_8.fact 6 29 (by decide) (cx96_8.dep 6 (by kernel_rfl)) (by kernel_rfl))
            obtain hv7_V96_8 : g96_8 30 = undef := (hG96_7 _ _).1 (cx96_8.fact 7 30 (by decide) (cx96_8.dep 7 (by kernel_rfl)) (by kernel_rfl))
            refine wpF_see 29 (.bool (false)) (Eq.trans (by kernel_rfl) hv6_V96_8) ?_
            refine wpF_see 30 (undef) (Eq.trans (by kernel_rfl) hv7_V96_8) ?_
            refine wpF_seg 1 (by kernel_rfl) ?_
            refine wpF_end _ (by kernel_rfl) (then_n ?_)
            exact one_in (some 31) (by kernel_rfl) (undef) _ [(30, undef), (29, .bool (false))] (seen_cons (Eq.trans (by kernel_rfl) hv7_V96_8) (seen_cons (Eq.trans (by kernel_rfl) hv6_V96_8) seen_nil)) (by kernel_rfl) (VT.le.refl _) hM96_8 ((hG96_8 _ _).2 rfl)
          refine all_snoc (.inr ⟨by decide, fun S96_7 g96_7 V96_7 w96_7 F96_7 cx96_7 hM96_7 => ?_⟩) ?_
          · -- op 7
            obtain hv6_V96_7 : g96_7 29 = .bool (false) := (hG96_6 _ _).1 (cx96_7.fact 6 29 (by decide) (cx96_7.dep 6 (by kernel_rfl)) (by kernel_rfl))
            refine wpF_see 29 (.bool (false)) (Eq.trans (by kernel_rfl) hv6_V96_7) ?_
            refine wpF_seg 1 (by kernel_rfl) ?_
            refine wpF_end _ (by kernel_rfl) (then_n ?_)
            exact one_in (some 30) (by kernel_rfl) (undef) _ [(29, .bool (false))] (seen_cons (Eq.trans (by kernel_rfl) hv6_V96_7) seen_nil) (by kernel_rfl) (VT.le.refl _) hM96_7 ((hG96_7 _ _).2 rfl)
          refine all_snoc (.inr ⟨by decide, fun S96_6 g96_6 V96_6 w96_6 F96_6 cx96_6 hM96_6 => ?_⟩) ?_
          · -- op 6
            obtain hv5_V96_6 : g96_6 28 = .bool (false) := (hG96_5 _ _).1 (cx96_6.fact 5 28 (by decide) (cx96_6.dep 5 (by kernel_rfl)) (by kernel_rfl))
            refine wpF_see 28 (.bool (false)) (Eq.trans (by kernel_rfl) hv5_V96_6) ?_
            refine wpF_seg 1 (by kernel_rfl) ?_
            refine wpF_end _ (by kernel_rfl) (then_n ?_)
            exact one_in (some 29) (by kernel_rfl) (.bool (false)) _ [(28, .bool (false))] (seen_cons (Eq.trans (by kernel_rfl) hv5_V96_6) seen_nil) (by kernel_rfl) (VT.le.refl _) hM96_6 ((hG96_6 _ _).2 rfl)
          refine all_snoc (.inr ⟨by decide, fun S96_5 g96_5 V96_5 w96_5 F96_5 cx96_5 hM96_5 => ?_⟩) ?_
          · -- op 5
            obtain hv1_V96_5 : g96_5 24 = .int .i64 ((nr79_1 : Int)) := (hG96_1 _ _).1 (cx96_5.fact 1 24 (by decide) (cx96_5.dep 1 (by kernel_rfl)) (by kernel_rfl))
            obtain hv4_V96_5 : g96_5 27 = .int .i64 ((nk.length : Int)) := (hG96_4 _ _).1 (cx96_5.fact 4 27 (by decide) (cx96_5.dep 4 (by kernel_rfl)) (by kernel_rfl))
            refine wpF_see 24 (.int .i64 ((nr79_1 : Int))) (Eq.trans (by kernel_rfl) hv1_V96_5) ?_
            refine wpF_see 27 (.int .i64 ((nk.length : Int))) (Eq.trans (by kernel_rfl) hv4_V96_5) ?_
            refine wpF_seg 1 (by kernel_rfl) ?_
            refine wpF_slot 28 (.bool (decide (((nr79_1 : Int)) < ((nk.length : Int))))) (.bool false) (by kernel_rfl) (by kernel_rfl) (by rw [h84]) ?_
            refine wpF_end _ (by kernel_rfl) (then_n ?_)
            exact one_in (some 28) (by kernel_rfl) (.bool (false)) _ [(27, .int .i64 ((nk.length : Int))), (24, .int .i64 ((nr79_1 : Int)))] (seen_cons (Eq.trans (by kernel_rfl) hv4_V96_5) (seen_cons (Eq.trans (by kernel_rfl) hv1_V96_5) seen_nil)) (by kernel_rfl) (VT.le.refl _) hM96_5 ((hG96_5 _ _).2 rfl)
          refine all_snoc (.inr ⟨by decide, fun S96_4 g96_4 V96_4 w96_4 F96_4 cx96_4 hM96_4 => ?_⟩) ?_
          · -- op 4
            obtain hv3_V96_4 : g96_4 26 = .slice Ank (nk).length cnk := (hG96_3 _ _).1 (cx96_4.fact 3 26 (by decide) (cx96_4.dep 3 (by kernel_rfl)) (by kernel_rfl))
            refine wpF_see 26 (.slice Ank (nk).length cnk) (Eq.trans (by kernel_rfl) hv3_V96_4) ?_
            refine wpF_seg 1 (by kernel_rfl) ?_
            refine wpF_end _ (by kernel_rfl) (then_n ?_)
            exact one_in (some 27) (by kernel_rfl) (.int .i64 ((nk.length : Int))) _ [(26, .slice Ank (nk).length cnk)] (seen_cons (Eq.trans (by kernel_rfl) hv3_V96_4) seen_nil) (by kernel_rfl) (VT.le.refl _) hM96_4 ((hG96_4 _ _).2 rfl)
          refine all_snoc (.inr ⟨by decide, fun S96_3 g96_3 V96_3 w96_3 F96_3 cx96_3 hM96_3 => ?_⟩) ?_
          · -- op 3
            obtain hv2_V96_3 : g96_3 25 = .pointer (some ⟨b43, 1, none⟩) := (hG96_2 _ _).1 (cx96_3.fact 2 25 (by decide) (cx96_3.dep 2 (by kernel_rfl)) (by kernel_rfl))
            refine wpF_see 25 (.pointer (some ⟨b43, 1, none⟩)) (Eq.trans (by kernel_rfl) hv2_V96_3) ?_
            refine wpF_loadB hM96_3 #[.bool (true), .slice Ank (nk).length cnk, .slice Anv (nv).length cnv, .slice Anc (nc).length cnc] (fun i v hi => (((le55.trans le64).trans le77).trans cx96_3.le) _ _ _ (hc49 i v hi)) (h := (by kernel_rfl : opAt _ _ _ _ _ = some (Go.Op.load 22 (Go.Operand.tmp 25), some 26))) (off := 1) (by kernel_rfl) (.slice Ank (nk).length cnk) (by kernel_rfl) ?_
            refine wpF_end _ (by kernel_rfl) (then_n ?_)
            exact one_in (some 26) (by kernel_rfl) (.slice Ank (nk).length cnk) _ [(25, .pointer (some ⟨b43, 1, none⟩))] (seen_cons (Eq.trans (by kernel_rfl) hv2_V96_3) seen_nil) (by kernel_rfl) (VT.le.refl _) hM96_3 ((hG96_3 _ _).2 rfl)
          refine all_snoc (.inr ⟨by decide, fun S96_2 g96_2 V96_2 w96_2 F96_2 cx96_2 hM96_2 => ?_⟩) ?_
          · -- op 2
            refine wpF_seg 1 (by kernel_rfl) ?_
            refine wpF_end _ (by kernel_rfl) (then_n ?_)
            exact one_in (some 25) (by kernel_rfl) (.pointer (some ⟨b43, 1, none⟩)) _ [] seen_nil (by kernel_rfl) (VT.le.refl _) hM96_2 ((hG96_2 _ _).2 rfl)
          refine all_snoc (.inr ⟨by decide, fun S96_1 g96_1 V96_1 w96_1 F96_1 cx96_1 hM96_1 => ?_⟩) ?_
          · -- op 1
            refine wpF_seg 1 (by kernel_rfl) ?_
            refine wpF_end _ (by kernel_rfl) (then_n ?_)
            exact one_in (some 24) (by kernel_rfl) (.int .i64 ((nr79_1 : Int))) _ [] seen_nil (by kernel_rfl) (VT.le.refl _) hM96_1 ((hG96_1 _ _).2 rfl)
          refine all_snoc (.inr ⟨by decide, fun S96_0 g96_0 V96_0 w96_0 F96_0 cx96_0 hM96_0 => ?_⟩) ?_
          · -- op 0
            refine wpF_seg 1 (by kernel_rfl) ?_
            refine wpF_end _ (by kernel_rfl) (then_n ?_)
            exact one_in (some 23) (by kernel_rfl) (.int .i64 ((nr79_1 : Int))) _ [] seen_nil (by kernel_rfl) (VT.le.refl _) hM96_0 ((hG96_0 _ _).2 rfl)
          exact all_none
        · -- behind it
          intro ge96 Ve96 we96 hMe96 hle96 hf96
          refine wpF_stop (P := Try.prog) (ops := #[]) (i := 0) _ rfl ?_
          obtain hv15_Ve96 : ge96 4 = .int .i64 ((nr79_1 : Int)) := (hG96_15 _ _).1 (hf96 15 4 (by decide) (by kernel_rfl))
          obtain hv16_Ve96 : ge96 5 = .bool (false) := (hG96_16 _ _).1 (hf96 16 5 (by decide) (by kernel_rfl))
          obtain hv0_Ve96 : ge96 23 = .int .i64 ((nr79_1 : Int)) := (hG96_0 _ _).1 (hf96 0 23 (by decide) (by kernel_rfl))
          obtain hv1_Ve96 : ge96 24 = .int .i64 ((nr79_1 : Int)) := (hG96_1 _ _).1 (hf96 1 24 (by decide) (by kernel_rfl))
          obtain hv2_Ve96 : ge96 25 = .pointer (some ⟨b43, 1, none⟩) := (hG96_2 _ _).1 (hf96 2 25 (by decide) (by kernel_rfl))
          obtain hv3_Ve96 : ge96 26 = .slice Ank (nk).length cnk := (hG96_3 _ _).1 (hf96 3 26 (by decide) (by kernel_rfl))
          obtain hv4_Ve96 : ge96 27 = .int .i64 ((nk.length : Int)) := (hG96_4 _ _).1 (hf96 4 27 (by decide) (by kernel_rfl))
          obtain hv5_Ve96 : ge96 28 = .bool (false) := (hG96_5 _ _).1 (hf96 5 28 (by decide) (by kernel_rfl))
          obtain hv6_Ve96 : ge96 29 = .bool (false) := (hG96_6 _ _).1 (hf96 6 29 (by decide) (by kernel_rfl))
          obtain hv14_Ve96 : ge96 37 = .bool (false) := (hG96_14 _ _).1 (hf96 14 37 (by decide) (by kernel_rfl))
          refine wpF_see 4 (.int .i64 ((nr79_1 : Int))) (Eq.trans (by kernel_rfl) hv15_Ve96) ?_
          refine wpF_see 5 (.bool (false)) (Eq.trans (by kernel_rfl) hv16_Ve96) ?_
          refine wpF_see 23 (.int .i64 ((nr79_1 : Int))) (Eq.trans (by kernel_rfl) hv0_Ve96) ?_
          refine wpF_see 24 (.int .i64 ((nr79_1 : Int))) (Eq.trans (by kernel_rfl) hv1_Ve96) ?_
          refine wpF_see 25 (.pointer (some ⟨b43, 1, none⟩)) (Eq.trans (by kernel_rfl) hv2_Ve96) ?_
          refine wpF_see 26 (.slice Ank (nk).length cnk) (Eq.trans (by kernel_rfl) hv3_Ve96) ?_
          refine wpF_see 27 (.int .i64 ((nk.length : Int))) (Eq.trans (by kernel_rfl) hv4_Ve96) ?_
          refine wpF_see 28 (.bool (false)) (Eq.trans (by kernel_rfl) hv5_Ve96) ?_
          refine wpF_see 29 (.bool (false)) (Eq.trans (by kernel_rfl) hv6_Ve96) ?_
          refine wpF_see 37 (.bool (false)) (Eq.trans (by kernel_rfl) hv14_Ve96) ?_
          refine wpF_end _ (by kernel_rfl) (then_n (hK83 _ _ ?_))
          refine wp_ret ?_
          refine retN [.int .i64 ((nr79_1 : Int)), .bool (false)] (.tuple #[.int .i64 ((nr79_1 : Int)), .bool (false)]) Try.results22 (.tmp (by kernel_rfl) (by kernel_rfl) (.tmp (by kernel_rfl) (by kernel_rfl) .nil)) (by kernel_rfl) (hRet _ _ ⟨_, _, rfl, hMe96.clear, ?_⟩)
          -- end Tff
          subst_vars; delta findI findB findN; simp only [h67, h70, h84, cond_true, cond_false, Bool.true_and, Bool.and_true, Bool.false_and, Bool.and_false]

end Go.Vk
