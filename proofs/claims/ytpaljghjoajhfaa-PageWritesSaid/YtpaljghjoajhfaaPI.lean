/- Contracts of the page's functions, part I: printed by wip/tools/p8.py. -/
import Derived.Test.YtpaljghjoajhfaaPH
set_option linter.unusedVariables false
set_option linter.unusedSimpArgs false
namespace Go.Vk
open Go.Proofs
set_option maxRecDepth 100000 in
theorem f25 (V : VT) (w : World) (hV : V.inW w) (nl : Bool) (Ank : Option Addr) (cnk : Nat) (nk : List Str) (hnk : Rd strK V Ank cnk nk) (Anv : Option Addr) (cnv : Nat) (nv : List Str) (hnv : Rd strK V Anv cnv nv) (Anc : Option Addr) (cnc : Nat) (nc : List Int) (hnc : Rd (intK .i64) V Anc cnc nc) (y : Str) (hy : y.length ≤ maxL) :
    Calls Try.prog 25 #[.agg #[.bool (nl), .slice Ank (nk).length cnk, .slice Anv (nv).length cnv, .slice Anc (nc).length cnc], bs (y)] w (RetP V w fun rv V' => rv = .tuple #[.int .i64 (findI nl nk nv nc y), .bool (findB nl nk nv nc y)]) := by
  have mxnk : nk.length ≤ 140737488355328 := hnk.max
  have mxnv : nv.length ≤ 140737488355328 := hnv.max
  have mxnc : nc.length ≤ 140737488355328 := hnc.max
  have mxy : y.length ≤ 140737488355328 := hy
  refine calls_env (n := 59) Try.func25 (c := _) rfl Try.ntmps25 (by kernel_rfl) (fun R hRet => ?_)
  have hM0 : Step V w [] V w [] := Step.refl (St.nilE hV)
  cases nl with
  | false =>
    refine wp_seq_k (fun K1 hK1 => ?_)
    refine wp_reg ?_
    refine wpF_box hM0 #[.bool (false), .slice Ank (nk).length cnk, .slice Anv (nv).length cnv, .slice Anc (nc).length cnc] (h := (by kernel_rfl : opAt _ _ _ _ _ = some (Go.Op.box 25 (Go.Operand.tmp 0), some 2))) (by kernel_rfl) (fun b2 w3 hM4 => ?_)
    obtain ⟨V5, le6, hM7, hc8⟩ := hM4.settle 0 rfl
    have hM9 : Step V w [] V5 _ [] := hM7
    refine wpF_seg 2 (by kernel_rfl) ?_
    refine wpF_end _ (by kernel_rfl) (then_n (hK1 _ _ ?_))
    refine wp_seq_k (fun K10 hK10 => ?_)
    refine wp_seq_k (fun K11 hK11 => ?_)
    refine wp_reg ?_
    refine wpF_loadB hM9 #[.bool (false), .slice Ank (nk).length cnk, .slice Anv (nv).length cnv, .slice Anc (nc).length cnc] hc8 (h := (by kernel_rfl : opAt _ _ _ _ _ = some (Go.Op.load 25 (Go.Operand.tmp 2), some 7))) (off := 0) (by kernel_rfl) (.agg #[.bool (false), .slice Ank (nk).length cnk, .slice Anv (nv).length cnv, .slice Anc (nc).length cnc]) (by kernel_rfl) ?_
    refine wpF_callP hM9 (f := 35) (caps := #[]) (h := (by kernel_rfl : opAt _ _ _ _ _ = some (Go.Op.call (Go.Call.mk (Go.Callee.value (Go.Operand.func 35)) #[(Go.Operand.tmp 7)] #[25]), some 8))) (by kernel_rfl) (by kernel_rfl) (by kernel_rfl) (f35 _ _ hM9.inW (false) Ank cnk (nk) (hnk.up hM9.le) Anv cnv (nv) (hnv.up hM9.le) Anc cnc (nc) (hnc.up hM9.le)) (fun v12 V13 w14 le15 hM16 hp17 => ?_)
    obtain rfl := hp17
    refine wpF_seg 1 (by kernel_rfl) ?_
    refine wpF_end _ (by kernel_rfl) (then_n (hK11 _ _ ?_))
    refine wp_if (!(stands (false) (nk) (nv) (nc))) (by kernel_rfl) (fun h18 => ?_) (fun h18 => ?_)
    · -- Ft
      have h19 : (stands (false) (nk) (nv) (nc)) = false := by simpa using h18
      refine wp_seq_k (fun K20 hK20 => ?_)
      refine wp_reg ?_
      refine wpF_seg 2 (by kernel_rfl) ?_
      refine wpF_end _ (by kernel_rfl) (then_n (hK20 _ _ ?_))
      refine wp_ret (then_r (?_))
      refine retN [.int .i64 (0), .bool (false)] (.tuple #[.int .i64 (0), .bool (false)]) Try.results25 (.tmp (by kernel_rfl) (by kernel_rfl) (.tmp (by kernel_rfl) (by kernel_rfl) .nil)) (by kernel_rfl) (hRet _ _ ⟨_, _, rfl, hM16.clear, ?_⟩)
      -- end Ft
      first | (simp only [findI, findB, h18, h19, cond_false, Bool.false_and]; done) | ((first | have e := find_t (vs := nv) (kids := nc) (y := y) (i := i) (by assumption) (by omega) (by assumption) (by first | exact .inl (by assumption) | exact .inr (by assumption)) | have e := find_f (vs := nv) (kids := nc) (y := y) (i := i) (by assumption) (by omega) (by assumption) (by first | exact .inl (by assumption) | exact .inr (tri (by assumption) (by assumption)))); delta findI findB; rw [e]; simp only [h18, h19, cond_true, cond_false, Bool.true_and, Bool.and_true, Bool.false_and, Bool.and_false])
    · -- Ff
      have h21 : (stands (false) (nk) (nv) (nc)) = true := by simpa using h18
      refine wp_skip (then_n (hK10 _ _ ?_))
      refine wp_seq_k (fun K22 hK22 => ?_)
      refine wp_reg ?_
      refine wpF_seg 1 (by kernel_rfl) ?_
      refine wpF_end _ (by kernel_rfl) (then_n (hK22 _ _ ?_))
      refine wp_seq_k (fun K23 hK23 => ?_)
      refine wp_block ?_
      refine wp_base [(1, bs (y)), (2, .pointer (some ⟨b2, 0, none⟩)), (4, .int .i64 (0)), (5, .bool (false)), (6, .int .i64 ((0 : Int)))] (by kernel_rfl) (fun g25 => ?_)
      refine wp_loopX (fun (x_ : Nat) a_ w_ => ∃ (g : Nat → Value) (V_ : VT), a_ = env 59 [(1, bs (y)), (2, .pointer (some ⟨b2, 0, none⟩)), (4, .int .i64 (0)), (5, .bool (false)), (6, .int .i64 ((x_ : Int)))] g ∧ Step V w [] V_ w_ [] ∧ VT.le V13 V_ ∧ (x_ ≤ nk.length) ∧ (∀ j, j < x_ → ¬ y < nk.getD j [])) (fun (x_ : Nat) => nk.length - x_) (0) ⟨g25, V13, rfl, hM16, VT.le.refl _, by omega, by (intro j hj; omega)⟩ ?_
      rintro i a_ w27 ⟨g26, Vl24, rfl, hM28, le29, hi30_0, hi30_1⟩ K30 hK30
      refine wp_seq_k (fun K31 hK31 => ?_)
      refine wp_seq_k (fun K32 hK32 => ?_)
      refine wp_reg ?_
      refine wpF_seg 2 (by kernel_rfl) ?_
      refine wpF_loadB hM28 #[.bool (false), .slice Ank (nk).length cnk, .slice Anv (nv).length cnv, .slice Anc (nc).length cnc] (fun i v hi => (le15.trans le29) _ _ _ (hc8 i v hi)) (h := (by kernel_rfl : opAt _ _ _ _ _ = some (Go.Op.load 22 (Go.Operand.tmp 11), some 12))) (off := 1) (by kernel_rfl) (.slice Ank (nk).length cnk) (by kernel_rfl) ?_
      refine wpF_seg 3 (by kernel_rfl) ?_
      refine wpF_caseB 15 (decide (((i : Int)) < ((nk.length : Int)))) (by kernel_rfl) (by kernel_rfl) (fun h33 => ?_) (fun h33 => ?_)
      · -- FfLt
        have p34 : (((i : Int)) < ((nk.length : Int))) := of_decide_eq_true h33
        refine wpF_seg 1 (by kernel_rfl) ?_
        refine wpF_loadB hM28 #[.bool (false), .slice Ank (nk).length cnk, .slice Anv (nv).length cnv, .slice Anc (nc).length cnc] (fun i v hi => (le15.trans le29) _ _ _ (hc8 i v hi)) (h := (by kernel_rfl : opAt _ _ _ _ _ = some (Go.Op.load 22 (Go.Operand.tmp 16), some 17))) (off := 1) (by kernel_rfl) (.slice Ank (nk).length cnk) (by kernel_rfl) ?_
        refine wpF_seg 1 (by kernel_rfl) ?_
        refine wpF_index (A := Ank) (c := cnk) (hnk.up hM28.le) .i64 ((i : Int)) (h := (by kernel_rfl : opAt _ _ _ _ _ = some (Go.Op.indexAddr 22 (Go.Operand.tmp 17) (Go.Operand.tmp 18), some 19))) (e := 9) (by kernel_rfl) (by kernel_rfl) (by kernel_rfl) (i) rfl (by omega) (fun b35 o36 at_b35 => ?_)
        have c37 : Vl24 b35 o36 = some (bs (nk.getD (i) [])) := (At.str at_b35).1
        have l38 : (nk.getD (i) []).length ≤ 140737488355328 := (At.str at_b35).2
        refine wpF_loadV hM28 c37 (h := (by kernel_rfl : opAt _ _ _ _ _ = some (Go.Op.load 9 (Go.Operand.tmp 19), some 20))) (by kernel_rfl) (by kernel_rfl) ?_
        refine wpF_seg 1 (by kernel_rfl) ?_
        refine wpF_callP hM28 (f := 49) (caps := #[]) (h := (by kernel_rfl : opAt _ _ _ _ _ = some (Go.Op.call (Go.Call.mk (Go.Callee.value (Go.Operand.func 49)) #[(Go.Operand.tmp 20), (Go.Operand.tmp 21)] #[9, 9]), some 22))) (by kernel_rfl) (by kernel_rfl) (by kernel_rfl) (f49 _ _ hM28.inW ((nk.getD (i) [])) (l38) (y) (hy)) (fun v39 V40 w41 le42 hM43 hp44 => ?_)
        obtain rfl := hp44
        refine wpF_seg 1 (by kernel_rfl) ?_
        refine wpF_caseB 23 (decide (((nk.getD (i) [])) < (y))) (by kernel_rfl) (by kernel_rfl) (fun h45 => ?_) (fun h45 => ?_)
        · -- FfLtt
          have p46 : (((nk.getD (i) [])) < (y)) := of_decide_eq_true h45
          refine wpF_seg 14 (by kernel_rfl) ?_
          refine wpF_end _ (by kernel_rfl) (then_n (hK32 _ _ ?_))
          refine wp_ct (by kernel_rfl) ?_
          refine wp_skip (then_n (hK31 _ _ ?_))
          refine wp_block ?_
          refine wp_reg ?_
          refine wpF_seg 1 (by kernel_rfl) ?_
          refine wpF_add .i64 ((i : Int)) (1) ((i : Int) + 1) (h := (by kernel_rfl : opAt _ _ _ _ _ = some (Go.Op.binOp Go.BinOp.add 3 (Go.Operand.tmp 38) (Go.Operand.const (Go.Value.int Go.IntKind.i64 1)) 3, some 39))) (by kernel_rfl) (by kernel_rfl) (wrap64_ok _ (by omega)) ?_
          refine wpF_seg 1 (by kernel_rfl) ?_
          refine wpF_base [(1, bs (y)), (2, .pointer (some ⟨b2, 0, none⟩)), (4, .int .i64 (0)), (5, .bool (false)), (6, .int .i64 ((i + 1 : Int)))] (by kernel_rfl) (fun g47 => ?_)
          refine wpF_end _ (by kernel_rfl) (blk_n (then_n (hK30 _ _ (i + 1) (by omega) ?_)))
          refine ⟨g47, V40, rfl, hM43, (le29.trans le42), ?_, ?_⟩
          · -- FfLtt inv 0
            omega
          · -- FfLtt inv 1
            exact all_step (by assumption) (by first | assumption | exact not_gt (by assumption) | exact not_gt_eq (by assumption))
        · -- FfLtf
          have p48 : ¬ (((nk.getD (i) [])) < (y)) := of_decide_eq_false h45
          refine wpF_seg 1 (by kernel_rfl) ?_
          refine wpF_loadB hM43 #[.bool (false), .slice Ank (nk).length cnk, .slice Anv (nv).length cnv, .slice Anc (nc).length cnc] (fun i v hi => ((le15.trans le29).trans le42) _ _ _ (hc8 i v hi)) (h := (by kernel_rfl : opAt _ _ _ _ _ = some (Go.Op.load 4 (Go.Operand.tmp 24), some 25))) (off := 0) (by kernel_rfl) (.bool (false)) (by kernel_rfl) ?_
          refine wpF_seg 3 (by kernel_rfl) ?_
          refine wpF_loadB hM43 #[.bool (false), .slice Ank (nk).length cnk, .slice Anv (nv).length cnv, .slice Anc (nc).length cnc] (fun i v hi => ((le15.trans le29).trans le42) _ _ _ (hc8 i v hi)) (h := (by kernel_rfl : opAt _ _ _ _ _ = some (Go.Op.load 22 (Go.Operand.tmp 28), some 29))) (off := 1) (by kernel_rfl) (.slice Ank (nk).length cnk) (by kernel_rfl) ?_
          refine wpF_seg 1 (by kernel_rfl) ?_
          refine wpF_index (A := Ank) (c := cnk) (hnk.up hM43.le) .i64 ((i : Int)) (h := (by kernel_rfl : opAt _ _ _ _ _ = some (Go.Op.indexAddr 22 (Go.Operand.tmp 29) (Go.Operand.tmp 30), some 31))) (e := 9) (by kernel_rfl) (by kernel_rfl) (by kernel_rfl) (i) rfl (by omega) (fun b49 o50 at_b49 => ?_)
          have c51 : V40 b49 o50 = some (bs (nk.getD (i) [])) := (At.str at_b49).1
          have l52 : (nk.getD (i) []).length ≤ 140737488355328 := (At.str at_b49).2
          refine wpF_loadV hM43 c51 (h := (by kernel_rfl : opAt _ _ _ _ _ = some (Go.Op.load 9 (Go.Operand.tmp 31), some 32))) (by kernel_rfl) (by kernel_rfl) ?_
          refine wpF_seg 5 (by kernel_rfl) ?_
          refine wpF_end _ (by kernel_rfl) (then_n (hK32 _ _ ?_))
          refine wp_if (decide (((nk.getD (i) [])) = (y))) (by kernel_rfl) (fun h53 => ?_) (fun h53 => ?_)
          · -- FfLtft
            have p54 : (((nk.getD (i) [])) = (y)) := of_decide_eq_true h53
            refine wp_skip (then_n (hK31 _ _ ?_))
            refine wp_block ?_
            refine wp_reg ?_
            refine wpF_seg 1 (by kernel_rfl) ?_
            refine wpF_add .i64 ((i : Int)) (1) ((i : Int) + 1) (h := (by kernel_rfl : opAt _ _ _ _ _ = some (Go.Op.binOp Go.BinOp.add 3 (Go.Operand.tmp 38) (Go.Operand.const (Go.Value.int Go.IntKind.i64 1)) 3, some 39))) (by kernel_rfl) (by kernel_rfl) (wrap64_ok _ (by omega)) ?_
            refine wpF_seg 1 (by kernel_rfl) ?_
            refine wpF_base [(1, bs (y)), (2, .pointer (some ⟨b2, 0, none⟩)), (4, .int .i64 (0)), (5, .bool (false)), (6, .int .i64 ((i + 1 : Int)))] (by kernel_rfl) (fun g55 => ?_)
            refine wpF_end _ (by kernel_rfl) (blk_n (then_n (hK30 _ _ (i + 1) (by omega) ?_)))
            refine ⟨g55, V40, rfl, hM43, (le29.trans le42), ?_, ?_⟩
            · -- FfLtft inv 0
              omega
            · -- FfLtft inv 1
              exact all_step (by assumption) (by first | assumption | exact not_gt (by assumption) | exact not_gt_eq (by assumption))
          · -- FfLtff
            have p56 : ¬ (((nk.getD (i) [])) = (y)) := of_decide_eq_false h53
            refine wp_exit (then_x (then_x (blk_hit (then_n (hK23 _ _ ?_)))))
            refine wp_seq_k (fun K57 hK57 => ?_)
            refine wp_base [(1, bs (y)), (2, .pointer (some ⟨b2, 0, none⟩)), (6, .int .i64 ((i : Int)))] (by kernel_rfl) (fun g0_58 => ?_)
            obtain ⟨G58, hGm58, hG58_0, hG58_1, hG58_2, hG58_3, hG58_4, hG58_5, hG58_6, hG58_7, hG58_8, hG58_9, hG58_10, hG58_11, hG58_12, hG58_13, hG58_14, hG58_15, hG58_16, hG58_17, hG58_18, hG58_19, hG58_20⟩ : ∃ G : Nat → Value → VT → Prop, (∀ j v V V', VT.le V V' → G j v V → G j v V') ∧ (∀ v_ V_, G 0 v_ V_ ↔ (v_ = .int .i64 ((i : Int)))) ∧ (∀ v_ V_, G 1 v_ V_ ↔ (v_ = .pointer (some ⟨b2, 0, none⟩))) ∧ (∀ v_ V_, G 2 v_ V_ ↔ (v_ = .bool (false))) ∧ (∀ v_ V_, G 3 v_ V_ ↔ (v_ = .bool (false))) ∧ (∀ v_ V_, G 4 v_ V_ ↔ (v_ = undef)) ∧ (∀ v_ V_, G 5 v_ V_ ↔ (v_ = undef)) ∧ (∀ v_ V_, G 6 v_ V_ ↔ (v_ = undef)) ∧ (∀ v_ V_, G 7 v_ V_ ↔ (v_ = undef)) ∧ (∀ v_ V_, G 8 v_ V_ ↔ (v_ = undef)) ∧ (∀ v_ V_, G 9 v_ V_ ↔ (v_ = .bool (false))) ∧ (∀ v_ V_, G 10 v_ V_ ↔ (v_ = .bool (false))) ∧ (∀ v_ V_, G 11 v_ V_ ↔ (v_ = undef)) ∧ (∀ v_ V_, G 12 v_ V_ ↔ (v_ = undef)) ∧ (∀ v_ V_, G 13 v_ V_ ↔ (v_ = undef)) ∧ (∀ v_ V_, G 14 v_ V_ ↔ (v_ = undef)) ∧ (∀ v_ V_, G 15 v_ V_ ↔ (v_ = undef)) ∧ (∀ v_ V_, G 16 v_ V_ ↔ (v_ = undef)) ∧ (∀ v_ V_, G 17 v_ V_ ↔ (v_ = undef)) ∧ (∀ v_ V_, G 18 v_ V_ ↔ (v_ = .bool (false))) ∧ (∀ v_ V_, G 19 v_ V_ ↔ (v_ = .int .i64 ((i : Int)))) ∧ (∀ v_ V_, G 20 v_ V_ ↔ (v_ = .bool (false))) :=
                ⟨mG [mV (.int .i64 ((i : Int))), mV (.pointer (some ⟨b2, 0, none⟩)), mV (.bool (false)), mV (.bool (false)), mV undef, mV undef, mV undef, mV undef, mV undef, mV (.bool (false)), mV (.bool (false)), mV undef, mV undef, mV undef, mV undef, mV undef, mV undef, mV undef, mV (.bool (false)), mV (.int .i64 ((i : Int))), mV (.bool (false))], mG_up _, fun _ _ => Iff.rfl, fun _ _ => Iff.rfl, fun _ _ => Iff.rfl, fun _ _ => Iff.rfl, fun _ _ => Iff.rfl, fun _ _ => Iff.rfl, fun _ _ => Iff.rfl, fun _ _ => Iff.rfl, fun _ _ => Iff.rfl, fun _ _ => Iff.rfl, fun _ _ => Iff.rfl, fun _ _ => Iff.rfl, fun _ _ => Iff.rfl, fun _ _ => Iff.rfl, fun _ _ => Iff.rfl, fun _ _ => Iff.rfl, fun _ _ => Iff.rfl, fun _ _ => Iff.rfl, fun _ _ => Iff.rfl, fun _ _ => Iff.rfl, fun _ _ => Iff.rfl⟩
            refine wp_drawG (L0 := [(1, bs (y)), (2, .pointer (some ⟨b2, 0, none⟩)), (6, .int .i64 ((i : Int)))]) 21 (by kernel_rfl) (by kernel_rfl) (by kernel_rfl) (by kernel_rfl) (by kernel_rfl) G58 hGm58 [] pre_nil (by kernel_rfl) [] (by kernel_rfl) (fun (S : Nat → Bool) (g : Nat → Value) => ([] : List Ent)) (fun _ _ _ _ _ => rfl) hM43 ?_ ?_
            · -- the operations
              refine all_snoc (.inr ⟨by decide, fun S58_20 g58_20 V58_20 w58_20 F58_20 cx58_20 hM58_20 => ?_⟩) ?_
              · -- op 20
                obtain hv18_V58_20 : g58_20 58 = .bool (false) := (hG58_18 _ _).1 (cx58_20.fact 18 58 (by decide) (cx58_20.dep 18 (by kernel_rfl)) (by kernel_rfl))
                refine wpF_see 58 (.bool (false)) (Eq.trans (by kernel_rfl) hv18_V58_20) ?_
                refine wpF_seg 1 (by kernel_rfl) ?_
                refine wpF_end _ (by kernel_rfl) (then_n ?_)
                exact one_in (some 5) (by kernel_rfl) (.bool (false)) _ [(58, .bool (false))] (seen_cons (Eq.trans (by kernel_rfl) hv18_V58_20) seen_nil) (by kernel_rfl) (VT.le.refl _) hM58_20 ((hG58_20 _ _).2 rfl)
              refine all_snoc (.inr ⟨by decide, fun S58_19 g58_19 V58_19 w58_19 F58_19 cx58_19 hM58_19 => ?_⟩) ?_
              · -- op 19
                obtain hv0_V58_19 : g58_19 40 = .int .i64 ((i : Int)) := (hG58_0 _ _).1 (cx58_19.fact 0 40 (by decide) (cx58_19.dep 0 (by kernel_rfl)) (by kernel_rfl))
                refine wpF_see 40 (.int .i64 ((i : Int))) (Eq.trans (by kernel_rfl) hv0_V58_19) ?_
                refine wpF_seg 1 (by kernel_rfl) ?_
                refine wpF_end _ (by kernel_rfl) (then_n ?_)
                exact one_in (some 4) (by kernel_rfl) (.int .i64 ((i : Int))) _ [(40, .int .i64 ((i : Int)))] (seen_cons (Eq.trans (by kernel_rfl) hv0_V58_19) seen_nil) (by kernel_rfl) (VT.le.refl _) hM58_19 ((hG58_19 _ _).2 rfl)
              refine all_snoc (.inr ⟨by decide, fun S58_18 g58_18 V58_18 w58_18 F58_18 cx58_18 hM58_18 => ?_⟩) ?_
              · -- op 18
                obtain hv10_V58_18 : g58_18 50 = .bool (false) := (hG58_10 _ _).1 (cx58_18.fact 10 50 (by decide) (cx58_18.dep 10 (by kernel_rfl)) (by kernel_rfl))
                obtain hv17_V58_18 : g58_18 57 = undef := (hG58_17 _ _).1 (cx58_18.fact 17 57 (by decide) (cx58_18.dep 17 (by kernel_rfl)) (by kernel_rfl))
                refine wpF_see 50 (.bool (false)) (Eq.trans (by kernel_rfl) hv10_V58_18) ?_
                refine wpF_see 57 (undef) (Eq.trans (by kernel_rfl) hv17_V58_18) ?_
                refine wpF_seg 1 (by kernel_rfl) ?_
                refine wpF_end _ (by kernel_rfl) (then_n ?_)
                exact one_in (some 58) (by kernel_rfl) (.bool (false)) _ [(57, undef), (50, .bool (false))] (seen_cons (Eq.trans (by kernel_rfl) hv17_V58_18) (seen_cons (Eq.trans (by kernel_rfl) hv10_V58_18) seen_nil)) (by kernel_rfl) (VT.le.refl _) hM58_18 ((hG58_18 _ _).2 rfl)
              refine all_snoc (.inr ⟨by decide, fun S58_17 g58_17 V58_17 w58_17 F58_17 cx58_17 hM58_17 => ?_⟩) ?_
              · -- op 17
                obtain hv10_V58_17 : g58_17 50 = .bool (false) := (hG58_10 _ _).1 (cx58_17.fact 10 50 (by decide) (cx58_17.dep 10 (by kernel_rfl)) (by kernel_rfl))
                obtain hv15_V58_17 : g58_17 55 = undef := (hG58_15 _ _).1 (cx58_17.fact 15 55 (by decide) (cx58_17.dep 15 (by kernel_rfl)) (by kernel_rfl))
                obtain hv16_V58_17 : g58_17 56 = undef := (hG58_16 _ _).1 (cx58_17.fact 16 56 (by decide) (cx58_17.dep 16 (by kernel_rfl)) (by kernel_rfl))
                refine wpF_see 50 (.bool (false)) (Eq.trans (by kernel_rfl) hv10_V58_17) ?_
                refine wpF_see 55 (undef) (Eq.trans (by kernel_rfl) hv15_V58_17) ?_
                refine wpF_see 56 (undef) (Eq.trans (by kernel_rfl) hv16_V58_17) ?_
                refine wpF_seg 1 (by kernel_rfl) ?_
                refine wpF_end _ (by kernel_rfl) (then_n ?_)
                exact one_in (some 57) (by kernel_rfl) (undef) _ [(56, undef), (55, undef), (50, .bool (false))] (seen_cons (Eq.trans (by kernel_rfl) hv16_V58_17) (seen_cons (Eq.trans (by kernel_rfl) hv15_V58_17) (seen_cons (Eq.trans (by kernel_rfl) hv10_V58_17) seen_nil))) (by kernel_rfl) (VT.le.refl _) hM58_17 ((hG58_17 _ _).2 rfl)
              refine all_snoc (.inr ⟨by decide, fun S58_16 g58_16 V58_16 w58_16 F58_16 cx58_16 hM58_16 => ?_⟩) ?_
              · -- op 16
                obtain hv10_V58_16 : g58_16 50 = .bool (false) := (hG58_10 _ _).1 (cx58_16.fact 10 50 (by decide) (cx58_16.dep 10 (by kernel_rfl)) (by kernel_rfl))
                refine wpF_see 50 (.bool (false)) (Eq.trans (by kernel_rfl) hv10_V58_16) ?_
                refine wpF_seg 1 (by kernel_rfl) ?_
                refine wpF_end _ (by kernel_rfl) (then_n ?_)
                exact one_in (some 56) (by kernel_rfl) (undef) _ [(50, .bool (false))] (seen_cons (Eq.trans (by kernel_rfl) hv10_V58_16) seen_nil) (by kernel_rfl) (VT.le.refl _) hM58_16 ((hG58_16 _ _).2 rfl)
              refine all_snoc (.inr ⟨by decide, fun S58_15 g58_15 V58_15 w58_15 F58_15 cx58_15 hM58_15 => ?_⟩) ?_
              · -- op 15
                obtain hv10_V58_15 : g58_15 50 = .bool (false) := (hG58_10 _ _).1 (cx58_15.fact 10 50 (by decide) (cx58_15.dep 10 (by kernel_rfl)) (by kernel_rfl))
                obtain hv14_V58_15 : g58_15 54 = undef := (hG58_14 _ _).1 (cx58_15.fact 14 54 (by decide) (cx58_15.dep 14 (by kernel_rfl)) (by kernel_rfl))
                refine wpF_see 50 (.bool (false)) (Eq.trans (by kernel_rfl) hv10_V58_15) ?_
                refine wpF_see 54 (undef) (Eq.trans (by kernel_rfl) hv14_V58_15) ?_
                refine wpF_seg 1 (by kernel_rfl) ?_
                refine wpF_end _ (by kernel_rfl) (then_n ?_)
                exact one_in (some 55) (by kernel_rfl) (undef) _ [(54, undef), (50, .bool (false))] (seen_cons (Eq.trans (by kernel_rfl) hv14_V58_15) (seen_cons (Eq.trans (by kernel_rfl) hv10_V58_15) seen_nil)) (by kernel_rfl) (VT.le.refl _) hM58_15 ((hG58_15 _ _).2 rfl)
              refine all_snoc (.inr ⟨by decide, fun S58_14 g58_14 V58_14 w58_14 F58_14 cx58_14 hM58_14 => ?_⟩) ?_
              · -- op 14
                obtain hv10_V58_14 : g58_14 50 = .bool (false) := (hG58_10 _ _).1 (cx58_14.fact 10 50 (by decide) (cx58_14.dep 10 (by kernel_rfl)) (by kernel_rfl))
                obtain hv12_V58_14 : g58_14 52 = undef := (hG58_12 _ _).1 (cx58_14.fact 12 52 (by decide) (cx58_14.dep 12 (by kernel_rfl)) (by kernel_rfl))
                obtain hv13_V58_14 : g58_14 53 = undef := (hG58_13 _ _).1 (cx58_14.fact 13 53 (by decide) (cx58_14.dep 13 (by kernel_rfl)) (by kernel_rfl))
                refine wpF_see 50 (.bool (false)) (Eq.trans (by kernel_rfl) hv10_V58_14) ?_
                refine wpF_see 52 (undef) (Eq.trans (by kernel_rfl) hv12_V58_14) ?_
                refine wpF_see 53 (undef) (Eq.trans (by kernel_rfl) hv13_V58_14) ?_
                refine wpF_seg 1 (by kernel_rfl) ?_
                refine wpF_end _ (by kernel_rfl) (then_n ?_)
                exact one_in (some 54) (by kernel_rfl) (undef) _ [(53, undef), (52, undef), (50, .bool (false))] (seen_cons (Eq.trans (by kernel_rfl) hv13_V58_14) (seen_cons (Eq.trans (by kernel_rfl) hv12_V58_14) (seen_cons (Eq.trans (by kernel_rfl) hv10_V58_14) seen_nil))) (by kernel_rfl) (VT.le.refl _) hM58_14 ((hG58_14 _ _).2 rfl)
              refine all_snoc (.inr ⟨by decide, fun S58_13 g58_13 V58_13 w58_13 F58_13 cx58_13 hM58_13 => ?_⟩) ?_
              · -- op 13
                obtain hv10_V58_13 : g58_13 50 = .bool (false) := (hG58_10 _ _).1 (cx58_13.fact 10 50 (by decide) (cx58_13.dep 10 (by kernel_rfl)) (by kernel_rfl))
                refine wpF_see 50 (.bool (false)) (Eq.trans (by kernel_rfl) hv10_V58_13) ?_
                refine wpF_seg 1 (by kernel_rfl) ?_
                refine wpF_end _ (by kernel_rfl) (then_n ?_)
                exact one_in (some 53) (by kernel_rfl) (undef) _ [(50, .bool (false))] (seen_cons (Eq.trans (by kernel_rfl) hv10_V58_13) seen_nil) (by kernel_rfl) (VT.le.refl _) hM58_13 ((hG58_13 _ _).2 rfl)
              refine all_snoc (.inr ⟨by decide, fun S58_12 g58_12 V58_12 w58_12 F58_12 cx58_12 hM58_12 => ?_⟩) ?_
              · -- op 12
                obtain hv10_V58_12 : g58_12 50 = .bool (false) := (hG58_10 _ _).1 (cx58_12.fact 10 50 (by decide) (cx58_12.dep 10 (by kernel_rfl)) (by kernel_rfl))
                obtain hv11_V58_12 : g58_12 51 = undef := (hG58_11 _ _).1 (cx58_12.fact 11 51 (by decide) (cx58_12.dep 11 (by kernel_rfl)) (by kernel_rfl))
                refine wpF_see 50 (.bool (false)) (Eq.trans (by kernel_rfl) hv10_V58_12) ?_
                refine wpF_see 51 (undef) (Eq.trans (by kernel_rfl) hv11_V58_12) ?_
                refine wpF_seg 1 (by kernel_rfl) ?_
                refine wpF_end _ (by kernel_rfl) (then_n ?_)
                exact one_in (some 52) (by kernel_rfl) (undef) _ [(51, undef), (50, .bool (false))] (seen_cons (Eq.trans (by kernel_rfl) hv11_V58_12) (seen_cons (Eq.trans (by kernel_rfl) hv10_V58_12) seen_nil)) (by kernel_rfl) (VT.le.refl _) hM58_12 ((hG58_12 _ _).2 rfl)
              refine all_snoc (.inr ⟨by decide, fun S58_11 g58_11 V58_11 w58_11 F58_11 cx58_11 hM58_11 => ?_⟩) ?_
              · -- op 11
                obtain hv10_V58_11 : g58_11 50 = .bool (false) := (hG58_10 _ _).1 (cx58_11.fact 10 50 (by decide) (cx58_11.dep 10 (by kernel_rfl)) (by kernel_rfl))
                refine wpF_see 50 (.bool (false)) (Eq.trans (by kernel_rfl) hv10_V58_11) ?_
                refine wpF_seg 1 (by kernel_rfl) ?_
                refine wpF_end _ (by kernel_rfl) (then_n ?_)
                exact one_in (some 51) (by kernel_rfl) (undef) _ [(50, .bool (false))] (seen_cons (Eq.trans (by kernel_rfl) hv10_V58_11) seen_nil) (by kernel_rfl) (VT.le.refl _) hM58_11 ((hG58_11 _ _).2 rfl)
              refine all_snoc (.inr ⟨by decide, fun S58_10 g58_10 V58_10 w58_10 F58_10 cx58_10 hM58_10 => ?_⟩) ?_
              · -- op 10
                obtain hv9_V58_10 : g58_10 49 = .bool (false) := (hG58_9 _ _).1 (cx58_10.fact 9 49 (by decide) (cx58_10.dep 9 (by kernel_rfl)) (by kernel_rfl))
                refine wpF_see 49 (.bool (false)) (Eq.trans (by kernel_rfl) hv9_V58_10) ?_
                refine wpF_seg 1 (by kernel_rfl) ?_
                refine wpF_end _ (by kernel_rfl) (then_n ?_)
                exact one_in (some 50) (by kernel_rfl) (.bool (false)) _ [(49, .bool (false))] (seen_cons (Eq.trans (by kernel_rfl) hv9_V58_10) seen_nil) (by kernel_rfl) (VT.le.refl _) hM58_10 ((hG58_10 _ _).2 rfl)
              refine all_snoc (.inr ⟨by decide, fun S58_9 g58_9 V58_9 w58_9 F58_9 cx58_9 hM58_9 => ?_⟩) ?_
              · -- op 9
                obtain hv3_V58_9 : g58_9 43 = .bool (false) := (hG58_3 _ _).1 (cx58_9.fact 3 43 (by decide) (cx58_9.dep 3 (by kernel_rfl)) (by kernel_rfl))
                obtain hv8_V58_9 : g58_9 48 = undef := (hG58_8 _ _).1 (cx58_9.fact 8 48 (by decide) (cx58_9.dep 8 (by kernel_rfl)) (by kernel_rfl))
                refine wpF_see 43 (.bool (false)) (Eq.trans (by kernel_rfl) hv3_V58_9) ?_
                refine wpF_see 48 (undef) (Eq.trans (by kernel_rfl) hv8_V58_9) ?_
                refine wpF_seg 1 (by kernel_rfl) ?_
                refine wpF_end _ (by kernel_rfl) (then_n ?_)
                exact one_in (some 49) (by kernel_rfl) (.bool (false)) _ [(48, undef), (43, .bool (false))] (seen_cons (Eq.trans (by kernel_rfl) hv8_V58_9) (seen_cons (Eq.trans (by kernel_rfl) hv3_V58_9) seen_nil)) (by kernel_rfl) (VT.le.refl _) hM58_9 ((hG58_9 _ _).2 rfl)
              refine all_snoc (.inr ⟨by decide, fun S58_8 g58_8 V58_8 w58_8 F58_8 cx58_8 hM58_8 => ?_⟩) ?_
              · -- op 8
                obtain hv3_V58_8 : g58_8 43 = .bool (false) := (hG58_3 _ _).1 (cx58_8.fact 3 43 (by decide) (cx58_8.dep 3 (by kernel_rfl)) (by kernel_rfl))
                obtain hv4_V58_8 : g58_8 44 = undef := (hG58_4 _ _).1 (cx58_8.fact 4 44 (by decide) (cx58_8.dep 4 (by kernel_rfl)) (by kernel_rfl))
                obtain hv7_V58_8 : g58_8 47 = undef := (hG58_7 _ _).1 (cx58_8.fact 7 47 (by decide) (cx58_8.dep 7 (by kernel_rfl)) (by kernel_rfl))
                refine wpF_see 43 (.bool (false)) (Eq.trans (by kernel_rfl) hv3_V58_8) ?_
                refine wpF_see 44 (undef) (Eq.trans (by kernel_rfl) hv4_V58_8) ?_
                refine wpF_see 47 (undef) (Eq.trans (by kernel_rfl) hv7_V58_8) ?_
                refine wpF_seg 1 (by kernel_rfl) ?_
                refine wpF_end _ (by kernel_rfl) (then_n ?_)
                exact one_in (some 48) (by kernel_rfl) (undef) _ [(47, undef), (44, undef), (43, .bool (false))] (seen_cons (Eq.trans (by kernel_rfl) hv7_V58_8) (seen_cons (Eq.trans (by kernel_rfl) hv4_V58_8) (seen_cons (Eq.trans (by kernel_rfl) hv3_V58_8) seen_nil))) (by kernel_rfl) (VT.le.refl _) hM58_8 ((hG58_8 _ _).2 rfl)
              refine all_snoc (.inr ⟨by decide, fun S58_7 g58_7 V58_7 w58_7 F58_7 cx58_7 hM58_7 => ?_⟩) ?_
              · -- op 7
                obtain hv3_V58_7 : g58_7 43 = .bool (false) := (hG58_3 _ _).1 (cx58_7.fact 3 43 (by decide) (cx58_7.dep 3 (by kernel_rfl)) (by kernel_rfl))
                obtain hv6_V58_7 : g58_7 46 = undef := (hG58_6 _ _).1 (cx58_7.fact 6 46 (by decide) (cx58_7.dep 6 (by kernel_rfl)) (by kernel_rfl))
                refine wpF_see 43 (.bool (false)) (Eq.trans (by kernel_rfl) hv3_V58_7) ?_
                refine wpF_see 46 (undef) (Eq.trans (by kernel_rfl) hv6_V58_7) ?_
                refine wpF_seg 1 (by kernel_rfl) ?_
                refine wpF_end _ (by kernel_rfl) (then_n ?_)
                exact one_in (some 47) (by kernel_rfl) (undef) _ [(46, undef), (43, .bool (false))] (seen_cons (Eq.trans (by kernel_rfl) hv6_V58_7) (seen_cons (Eq.trans (by kernel_rfl) hv3_V58_7) seen_nil)) (by kernel_rfl) (VT.le.refl _) hM58_7 ((hG58_7 _ _).2 rfl)
              refine all_snoc (.inr ⟨by decide, fun S58_6 g58_6 V58_6 w58_6 F58_6 cx58_6 hM58_6 => ?_⟩) ?_
              · -- op 6
                obtain hv3_V58_6 : g58_6 43 = .bool (false) := (hG58_3 _ _).1 (cx58_6.fact 3 43 (by decide) (cx58_6.dep 3 (by kernel_rfl)) (by kernel_rfl))
                obtain hv5_V58_6 : g58_6 45 = undef := (hG58_5 _ _).1 (cx58_6.fact 5 45 (by decide) (cx58_6.dep 5 (by kernel_rfl)) (by kernel_rfl))
                refine wpF_see 43 (.bool (false)) (Eq.trans (by kernel_rfl) hv3_V58_6) ?_
                refine wpF_see 45 (undef) (Eq.trans (by kernel_rfl) hv5_V58_6) ?_
                refine wpF_seg 1 (by kernel_rfl) ?_
                refine wpF_end _ (by kernel_rfl) (then_n ?_)
                exact one_in (some 46) (by kernel_rfl) (undef) _ [(45, undef), (43, .bool (false))] (seen_cons (Eq.trans (by kernel_rfl) hv5_V58_6) (seen_cons (Eq.trans (by kernel_rfl) hv3_V58_6) seen_nil)) (by kernel_rfl) (VT.le.refl _) hM58_6 ((hG58_6 _ _).2 rfl)
              refine all_snoc (.inr ⟨by decide, fun S58_5 g58_5 V58_5 w58_5 F58_5 cx58_5 hM58_5 => ?_⟩) ?_
              · -- op 5
                obtain hv3_V58_5 : g58_5 43 = .bool (false) := (hG58_3 _ _).1 (cx58_5.fact 3 43 (by decide) (cx58_5.dep 3 (by kernel_rfl)) (by kernel_rfl))
                refine wpF_see 43 (.bool (false)) (Eq.trans (by kernel_rfl) hv3_V58_5) ?_
                refine wpF_seg 1 (by kernel_rfl) ?_
                refine wpF_end _ (by kernel_rfl) (then_n ?_)
                exact one_in (some 45) (by kernel_rfl) (undef) _ [(43, .bool (false))] (seen_cons (Eq.trans (by kernel_rfl) hv3_V58_5) seen_nil) (by kernel_rfl) (VT.le.refl _) hM58_5 ((hG58_5 _ _).2 rfl)
              refine all_snoc (.inr ⟨by decide, fun S58_4 g58_4 V58_4 w58_4 F58_4 cx58_4 hM58_4 => ?_⟩) ?_
              · -- op 4
                obtain hv3_V58_4 : g58_4 43 = .bool (false) := (hG58_3 _ _).1 (cx58_4.fact 3 43 (by decide) (cx58_4.dep 3 (by kernel_rfl)) (by kernel_rfl))
                refine wpF_see 43 (.bool (false)) (Eq.trans (by kernel_rfl) hv3_V58_4) ?_
                refine wpF_seg 1 (by kernel_rfl) ?_
                refine wpF_end _ (by kernel_rfl) (then_n ?_)
                exact one_in (some 44) (by kernel_rfl) (undef) _ [(43, .bool (false))] (seen_cons (Eq.trans (by kernel_rfl) hv3_V58_4) seen_nil) (by kernel_rfl) (VT.le.refl _) hM58_4 ((hG58_4 _ _).2 rfl)
              refine all_snoc (.inr ⟨by decide, fun S58_3 g58_3 V58_3 w58_3 F58_3 cx58_3 hM58_3 => ?_⟩) ?_
              · -- op 3
                obtain hv2_V58_3 : g58_3 42 = .bool (false) := (hG58_2 _ _).1 (cx58_3.fact 2 42 (by decide) (cx58_3.dep 2 (by kernel_rfl)) (by kernel_rfl))
                refine wpF_see 42 (.bool (false)) (Eq.trans (by kernel_rfl) hv2_V58_3) ?_
                refine wpF_seg 1 (by kernel_rfl) ?_
                refine wpF_end _ (by kernel_rfl) (then_n ?_)
                exact one_in (some 43) (by kernel_rfl) (.bool (false)) _ [(42, .bool (false))] (seen_cons (Eq.trans (by kernel_rfl) hv2_V58_3) seen_nil) (by kernel_rfl) (VT.le.refl _) hM58_3 ((hG58_3 _ _).2 rfl)
              refine all_snoc (.inr ⟨by decide, fun S58_2 g58_2 V58_2 w58_2 F58_2 cx58_2 hM58_2 => ?_⟩) ?_
              · -- op 2
                obtain hv1_V58_2 : g58_2 41 = .pointer (some ⟨b2, 0, none⟩) := (hG58_1 _ _).1 (cx58_2.fact 1 41 (by decide) (cx58_2.dep 1 (by kernel_rfl)) (by kernel_rfl))
                refine wpF_see 41 (.pointer (some ⟨b2, 0, none⟩)) (Eq.trans (by kernel_rfl) hv1_V58_2) ?_
                refine wpF_loadB hM58_2 #[.bool (false), .slice Ank (nk).length cnk, .slice Anv (nv).length cnv, .slice Anc (nc).length cnc] (fun i v hi => (((le15.trans le29).trans le42).trans cx58_2.le) _ _ _ (hc8 i v hi)) (h := (by kernel_rfl : opAt _ _ _ _ _ = some (Go.Op.load 4 (Go.Operand.tmp 41), some 42))) (off := 0) (by kernel_rfl) (.bool (false)) (by kernel_rfl) ?_
                refine wpF_end _ (by kernel_rfl) (then_n ?_)
                exact one_in (some 42) (by kernel_rfl) (.bool (false)) _ [(41, .pointer (some ⟨b2, 0, none⟩))] (seen_cons (Eq.trans (by kernel_rfl) hv1_V58_2) seen_nil) (by kernel_rfl) (VT.le.refl _) hM58_2 ((hG58_2 _ _).2 rfl)
              refine all_snoc (.inr ⟨by decide, fun S58_1 g58_1 V58_1 w58_1 F58_1 cx58_1 hM58_1 => ?_⟩) ?_
              · -- op 1
                refine wpF_seg 1 (by kernel_rfl) ?_
                refine wpF_end _ (by kernel_rfl) (then_n ?_)
                exact one_in (some 41) (by kernel_rfl) (.pointer (some ⟨b2, 0, none⟩)) _ [] seen_nil (by kernel_rfl) (VT.le.refl _) hM58_1 ((hG58_1 _ _).2 rfl)
              refine all_snoc (.inr ⟨by decide, fun S58_0 g58_0 V58_0 w58_0 F58_0 cx58_0 hM58_0 => ?_⟩) ?_
              · -- op 0
                refine wpF_seg 1 (by kernel_rfl) ?_
                refine wpF_end _ (by kernel_rfl) (then_n ?_)
                exact one_in (some 40) (by kernel_rfl) (.int .i64 ((i : Int))) _ [] seen_nil (by kernel_rfl) (VT.le.refl _) hM58_0 ((hG58_0 _ _).2 rfl)
              exact all_none
            · -- behind it
              intro ge58 Ve58 we58 hMe58 hle58 hf58
              refine wpF_stop (P := Try.prog) (ops := #[]) (i := 0) _ rfl ?_
              obtain hv19_Ve58 : ge58 4 = .int .i64 ((i : Int)) := (hG58_19 _ _).1 (hf58 19 4 (by decide) (by kernel_rfl))
              obtain hv20_Ve58 : ge58 5 = .bool (false) := (hG58_20 _ _).1 (hf58 20 5 (by decide) (by kernel_rfl))
              obtain hv0_Ve58 : ge58 40 = .int .i64 ((i : Int)) := (hG58_0 _ _).1 (hf58 0 40 (by decide) (by kernel_rfl))
              obtain hv1_Ve58 : ge58 41 = .pointer (some ⟨b2, 0, none⟩) := (hG58_1 _ _).1 (hf58 1 41 (by decide) (by kernel_rfl))
              obtain hv2_Ve58 : ge58 42 = .bool (false) := (hG58_2 _ _).1 (hf58 2 42 (by decide) (by kernel_rfl))
              obtain hv3_Ve58 : ge58 43 = .bool (false) := (hG58_3 _ _).1 (hf58 3 43 (by decide) (by kernel_rfl))
              obtain hv9_Ve58 : ge58 49 = .bool (false) := (hG58_9 _ _).1 (hf58 9 49 (by decide) (by kernel_rfl))
              obtain hv10_Ve58 : ge58 50 = .bool (false) := (hG58_10 _ _).1 (hf58 10 50 (by decide) (by kernel_rfl))
              obtain hv18_Ve58 : ge58 58 = .bool (false) := (hG58_18 _ _).1 (hf58 18 58 (by decide) (by kernel_rfl))
              refine wpF_see 4 (.int .i64 ((i : Int))) (Eq.trans (by kernel_rfl) hv19_Ve58) ?_
              refine wpF_see 5 (.bool (false)) (Eq.trans (by kernel_rfl) hv20_Ve58) ?_
              refine wpF_see 40 (.int .i64 ((i : Int))) (Eq.trans (by kernel_rfl) hv0_Ve58) ?_
              refine wpF_see 41 (.pointer (some ⟨b2, 0, none⟩)) (Eq.trans (by kernel_rfl) hv1_Ve58) ?_
              refine wpF_see 42 (.bool (false)) (Eq.trans (by kernel_rfl) hv2_Ve58) ?_
              refine wpF_see 43 (.bool (false)) (Eq.trans (by kernel_rfl) hv3_Ve58) ?_
              refine wpF_see 49 (.bool (false)) (Eq.trans (by kernel_rfl) hv9_Ve58) ?_
              refine wpF_see 50 (.bool (false)) (Eq.trans (by kernel_rfl) hv10_Ve58) ?_
              refine wpF_see 58 (.bool (false)) (Eq.trans (by kernel_rfl) hv18_Ve58) ?_
              refine wpF_end _ (by kernel_rfl) (then_n (hK57 _ _ ?_))
              refine wp_ret ?_
              refine retN [.int .i64 ((i : Int)), .bool (false)] (.tuple #[.int .i64 ((i : Int)), .bool (false)]) Try.results25 (.tmp (by kernel_rfl) (by kernel_rfl) (.tmp (by kernel_rfl) (by kernel_rfl) .nil)) (by kernel_rfl) (hRet _ _ ⟨_, _, rfl, hMe58.clear, ?_⟩)
              -- end FfLtff
              first | (simp only [findI, findB, h18, h21, h33, h45, h53, cond_false, Bool.false_and]; done) | ((first | have e := find_t (vs := nv) (kids := nc) (y := y) (i := i) (by assumption) (by omega) (by assumption) (by first | exact .inl (by assumption) | exact .inr (by assumption)) | have e := find_f (vs := nv) (kids := nc) (y := y) (i := i) (by assumption) (by omega) (by assumption) (by first | exact .inl (by assumption) | exact .inr (tri (by assumption) (by assumption)))); delta findI findB; rw [e]; simp only [h18, h21, h33, h45, h53, cond_true, cond_false, Bool.true_and, Bool.and_true, Bool.false_and, Bool.and_false])
      · -- FfLf
        have p61 : ¬ (((i : Int)) < ((nk.length : Int))) := of_decide_eq_false h33
        refine wpF_seg 22 (by kernel_rfl) ?_
        refine wpF_end _ (by kernel_rfl) (then_n (hK32 _ _ ?_))
        refine wp_cf (by kernel_rfl) ?_
        refine wp_exit (then_x (then_x (blk_hit (then_n (hK23 _ _ ?_)))))
        refine wp_seq_k (fun K62 hK62 => ?_)
        refine wp_base [(1, bs (y)), (2, .pointer (some ⟨b2, 0, none⟩)), (6, .int .i64 ((i : Int)))] (by kernel_rfl) (fun g0_63 => ?_)
        obtain ⟨G63, hGm63, hG63_0, hG63_1, hG63_2, hG63_3, hG63_4, hG63_5, hG63_6, hG63_7, hG63_8, hG63_9, hG63_10, hG63_11, hG63_12, hG63_13, hG63_14, hG63_15, hG63_16, hG63_17, hG63_18, hG63_19, hG63_20⟩ : ∃ G : Nat → Value → VT → Prop, (∀ j v V V', VT.le V V' → G j v V → G j v V') ∧ (∀ v_ V_, G 0 v_ V_ ↔ (v_ = .int .i64 ((i : Int)))) ∧ (∀ v_ V_, G 1 v_ V_ ↔ (v_ = .pointer (some ⟨b2, 0, none⟩))) ∧ (∀ v_ V_, G 2 v_ V_ ↔ (v_ = .bool (false))) ∧ (∀ v_ V_, G 3 v_ V_ ↔ (v_ = .bool (false))) ∧ (∀ v_ V_, G 4 v_ V_ ↔ (v_ = undef)) ∧ (∀ v_ V_, G 5 v_ V_ ↔ (v_ = undef)) ∧ (∀ v_ V_, G 6 v_ V_ ↔ (v_ = undef)) ∧ (∀ v_ V_, G 7 v_ V_ ↔ (v_ = undef)) ∧ (∀ v_ V_, G 8 v_ V_ ↔ (v_ = undef)) ∧ (∀ v_ V_, G 9 v_ V_ ↔ (v_ = .bool (false))) ∧ (∀ v_ V_, G 10 v_ V_ ↔ (v_ = .bool (false))) ∧ (∀ v_ V_, G 11 v_ V_ ↔ (v_ = undef)) ∧ (∀ v_ V_, G 12 v_ V_ ↔ (v_ = undef)) ∧ (∀ v_ V_, G 13 v_ V_ ↔ (v_ = undef)) ∧ (∀ v_ V_, G 14 v_ V_ ↔ (v_ = undef)) ∧ (∀ v_ V_, G 15 v_ V_ ↔ (v_ = undef)) ∧ (∀ v_ V_, G 16 v_ V_ ↔ (v_ = undef)) ∧ (∀ v_ V_, G 17 v_ V_ ↔ (v_ = undef)) ∧ (∀ v_ V_, G 18 v_ V_ ↔ (v_ = .bool (false))) ∧ (∀ v_ V_, G 19 v_ V_ ↔ (v_ = .int .i64 ((i : Int)))) ∧ (∀ v_ V_, G 20 v_ V_ ↔ (v_ = .bool (false))) :=
            ⟨mG [mV (.int .i64 ((i : Int))), mV (.pointer (some ⟨b2, 0, none⟩)), mV (.bool (false)), mV (.bool (false)), mV undef, mV undef, mV undef, mV undef, mV undef, mV (.bool (false)), mV (.bool (false)), mV undef, mV undef, mV undef, mV undef, mV undef, mV undef, mV undef, mV (.bool (false)), mV (.int .i64 ((i : Int))), mV (.bool (false))], mG_up _, fun _ _ => Iff.rfl, fun _ _ => Iff.rfl, fun _ _ => Iff.rfl, fun _ _ => Iff.rfl, fun _ _ => Iff.rfl, fun _ _ => Iff.rfl, fun _ _ => Iff.rfl, fun _ _ => Iff.rfl, fun _ _ => Iff.rfl, fun _ _ => Iff.rfl, fun _ _ => Iff.rfl, fun _ _ => Iff.rfl, fun _ _ => Iff.rfl, fun _ _ => Iff.rfl, fun _ _ => Iff.rfl, fun _ _ => Iff.rfl, fun _ _ => Iff.rfl, fun _ _ => Iff.rfl, fun _ _ => Iff.rfl, fun _ _ => Iff.rfl, fun _ _ => Iff.rfl⟩
        refine wp_drawG (L0 := [(1, bs (y)), (2, .pointer (some ⟨b2, 0, none⟩)), (6, .int .i64 ((i : Int)))]) 21 (by kernel_rfl) (by kernel_rfl) (by kernel_rfl) (by kernel_rfl) (by kernel_rfl) G63 hGm63 [] pre_nil (by kernel_rfl) [] (by kernel_rfl) (fun (S : Nat → Bool) (g : Nat → Value) => ([] : List Ent)) (fun _ _ _ _ _ => rfl) hM28 ?_ ?_
        · -- the operations
          refine all_snoc (.inr ⟨by decide, fun S63_20 g63_20 V63_20 w63_20 F63_20 cx63_20 hM63_20 => ?_⟩) ?_
          · -- op 20
            obtain hv18_V63_20 : g63_20 58 = .bool (false) := (hG63_18 _ _).1 (cx63_20.fact 18 58 (by decide) (cx63_20.dep 18 (by kernel_rfl)) (by kernel_rfl))
            refine wpF_see 58 (.bool (false)) (Eq.trans (by kernel_rfl) hv18_V63_20) ?_
            refine wpF_seg 1 (by kernel_rfl) ?_
            refine wpF_end _ (by kernel_rfl) (then_n ?_)
            exact one_in (some 5) (by kernel_rfl) (.bool (false)) _ [(58, .bool (false))] (seen_cons (Eq.trans (by kernel_rfl) hv18_V63_20) seen_nil) (by kernel_rfl) (VT.le.refl _) hM63_20 ((hG63_20 _ _).2 rfl)
          refine all_snoc (.inr ⟨by decide, fun S63_19 g63_19 V63_19 w63_19 F63_19 cx63_19 hM63_19 => ?_⟩) ?_
          · -- op 19
            obtain hv0_V63_19 : g63_19 40 = .int .i64 ((i : Int)) := (hG63_0 _ _).1 (cx63_19.fact 0 40 (by decide) (cx63_19.dep 0 (by kernel_rfl)) (by kernel_rfl))
            refine wpF_see 40 (.int .i64 ((i : Int))) (Eq.trans (by kernel_rfl) hv0_V63_19) ?_
            refine wpF_seg 1 (by kernel_rfl) ?_
            refine wpF_end _ (by kernel_rfl) (then_n ?_)
            exact one_in (some 4) (by kernel_rfl) (.int .i64 ((i : Int))) _ [(40, .int .i64 ((i : Int)))] (seen_cons (Eq.trans (by kernel_rfl) hv0_V63_19) seen_nil) (by kernel_rfl) (VT.le.refl _) hM63_19 ((hG63_19 _ _).2 rfl)
          refine all_snoc (.inr ⟨by decide, fun S63_18 g63_18 V63_18 w63_18 F63_18 cx63_18 hM63_18 => ?_⟩) ?_
          · -- op 18
            obtain hv10_V63_18 : g63_18 50 = .bool (false) := (hG63_10 _ _).1 (cx63_18.fact 10 50 (by decide) (cx63_18.dep 10 (by kernel_rfl)) (by kernel_rfl))
            obtain hv17_V63_18 : g63_18 57 = undef := (hG63_17 _ _).1 (cx63_18.fact 17 57 (by decide) (cx63_18.dep 17 (by kernel_rfl)) (by kernel_rfl))
            refine wpF_see 50 (.bool (false)) (Eq.trans (by kernel_rfl) hv10_V63_18) ?_
            refine wpF_see 57 (undef) (Eq.trans (by kernel_rfl) hv17_V63_18) ?_
            refine wpF_seg 1 (by kernel_rfl) ?_
            refine wpF_end _ (by kernel_rfl) (then_n ?_)
            exact one_in (some 58) (by kernel_rfl) (.bool (false)) _ [(57, undef), (50, .bool (false))] (seen_cons (Eq.trans (by kernel_rfl) hv17_V63_18) (seen_cons (Eq.trans (by kernel_rfl) hv10_V63_18) seen_nil)) (by kernel_rfl) (VT.le.refl _) hM63_18 ((hG63_18 _ _).2 rfl)
          refine all_snoc (.inr ⟨by decide, fun S63_17 g63_17 V63_17 w63_17 F63_17 cx63_17 hM63_17 => ?_⟩) ?_
          · -- op 17
            obtain hv10_V63_17 : g63_17 50 = .bool (false) := (hG63_10 _ _).1 (cx63_17.fact 10 50 (by decide) (cx63_17.dep 10 (by kernel_rfl)) (by kernel_rfl))
            obtain hv15_V63_17 : g63_17 55 = undef := (hG63_15 _ _).1 (cx63_17.fact 15 55 (by decide) (cx63_17.dep 15 (by kernel_rfl)) (by kernel_rfl))
            obtain hv16_V63_17 : g63_17 56 = undef := (hG63_16 _ _).1 (cx63_17.fact 16 56 (by decide) (cx63_17.dep 16 (by kernel_rfl)) (by kernel_rfl))
            refine wpF_see 50 (.bool (false)) (Eq.trans (by kernel_rfl) hv10_V63_17) ?_
            refine wpF_see 55 (undef) (Eq.trans (by kernel_rfl) hv15_V63_17) ?_
            refine wpF_see 56 (undef) (Eq.trans (by kernel_rfl) hv16_V63_17) ?_
            refine wpF_seg 1 (by kernel_rfl) ?_
            refine wpF_end _ (by kernel_rfl) (then_n ?_)
            exact one_in (some 57) (by kernel_rfl) (undef) _ [(56, undef), (55, undef), (50, .bool (false))] (seen_cons (Eq.trans (by kernel_rfl) hv16_V63_17) (seen_cons (Eq.trans (by kernel_rfl) hv15_V63_17) (seen_cons (Eq.trans (by kernel_rfl) hv10_V63_17) seen_nil))) (by kernel_rfl) (VT.le.refl _) hM63_17 ((hG63_17 _ _).2 rfl)
          refine all_snoc (.inr ⟨by decide, fun S63_16 g63_16 V63_16 w63_16 F63_16 cx63_16 hM63_16 => ?_⟩) ?_
          · -- op 16
            obtain hv10_V63_16 : g63_16 50 = .bool (false) := (hG63_10 _ _).1 (cx63_16.fact 10 50 (by decide) (cx63_16.dep 10 (by kernel_rfl)) (by kernel_rfl))
            refine wpF_see 50 (.bool (false)) (Eq.trans (by kernel_rfl) hv10_V63_16) ?_
            refine wpF_seg 1 (by kernel_rfl) ?_
            refine wpF_end _ (by kernel_rfl) (then_n ?_)
            exact one_in (some 56) (by kernel_rfl) (undef) _ [(50, .bool (false))] (seen_cons (Eq.trans (by kernel_rfl) hv10_V63_16) seen_nil) (by kernel_rfl) (VT.le.refl _) hM63_16 ((hG63_16 _ _).2 rfl)
          refine all_snoc (.inr ⟨by decide, fun S63_15 g63_15 V63_15 w63_15 F63_15 cx63_15 hM63_15 => ?_⟩) ?_
          · -- op 15
            obtain hv10_V63_15 : g63_15 50 = .bool (false) := (hG63_10 _ _).1 (cx63_15.fact 10 50 (by decide) (cx63_15.dep 10 (by kernel_rfl)) (by kernel_rfl))
            obtain hv14_V63_15 : g63_15 54 = undef := (hG63_14 _ _).1 (cx63_15.fact 14 54 (by decide) (cx63_15.dep 14 (by kernel_rfl)) (by kernel_rfl))
            refine wpF_see 50 (.bool (false)) (Eq.trans (by kernel_rfl) hv10_V63_15) ?_
            refine wpF_see 54 (undef) (Eq.trans (by kernel_rfl) hv14_V63_15) ?_
            refine wpF_seg 1 (by kernel_rfl) ?_
            refine wpF_end _ (by kernel_rfl) (then_n ?_)
            exact one_in (some 55) (by kernel_rfl) (undef) _ [(54, undef), (50, .bool (false))] (seen_cons (Eq.trans (by kernel_rfl) hv14_V63_15) (seen_cons (Eq.trans (by kernel_rfl) hv10_V63_15) seen_nil)) (by kernel_rfl) (VT.le.refl _) hM63_15 ((hG63_15 _ _).2 rfl)
          refine all_snoc (.inr ⟨by decide, fun S63_14 g63_14 V63_14 w63_14 F63_14 cx63_14 hM63_14 => ?_⟩) ?_
          · -- op 14
            obtain hv10_V63_14 : g63_14 50 = .bool (false) := (hG63_10 _ _).1 (cx63_14.fact 10 50 (by decide) (cx63_14.dep 10 (by kernel_rfl)) (by kernel_rfl))
            obtain hv12_V63_14 : g63_14 52 = undef := (hG63_12 _ _).1 (cx63_14.fact 12 52 (by decide) (cx63_14.dep 12 (by kernel_rfl)) (by kernel_rfl))
            obtain hv13_V63_14 : g63_14 53 = undef := (hG63_13 _ _).1 (cx63_14.fact 13 53 (by decide) (cx63_14.dep 13 (by kernel_rfl)) (by kernel_rfl))
            refine wpF_see 50 (.bool (false)) (Eq.trans (by kernel_rfl) hv10_V63_14) ?_
            refine wpF_see 52 (undef) (Eq.trans (by kernel_rfl) hv12_V63_14) ?_
            refine wpF_see 53 (undef) (Eq.trans (by kernel_rfl) hv13_V63_14) ?_
            refine wpF_seg 1 (by kernel_rfl) ?_
            refine wpF_end _ (by kernel_rfl) (then_n ?_)
            exact one_in (some 54) (by kernel_rfl) (undef) _ [(53, undef), (52, undef), (50, .bool (false))] (seen_cons (Eq.trans (by kernel_rfl) hv13_V63_14) (seen_cons (Eq.trans (by kernel_rfl) hv12_V63_14) (seen_cons (Eq.trans (by kernel_rfl) hv10_V63_14) seen_nil))) (by kernel_rfl) (VT.le.refl _) hM63_14 ((hG63_14 _ _).2 rfl)
          refine all_snoc (.inr ⟨by decide, fun S63_13 g63_13 V63_13 w63_13 F63_13 cx63_13 hM63_13 => ?_⟩) ?_
          · -- op 13
            obtain hv10_V63_13 : g63_13 50 = .bool (false) := (hG63_10 _ _).1 (cx63_13.fact 10 50 (by decide) (cx63_13.dep 10 (by kernel_rfl)) (by kernel_rfl))
            refine wpF_see 50 (.bool (false)) (Eq.trans (by kernel_rfl) hv10_V63_13) ?_
            refine wpF_seg 1 (by kernel_rfl) ?_
            refine wpF_end _ (by kernel_rfl) (then_n ?_)
            exact one_in (some 53) (by kernel_rfl) (undef) _ [(50, .bool (false))] (seen_cons (Eq.trans (by kernel_rfl) hv10_V63_13) seen_nil) (by kernel_rfl) (VT.le.refl _) hM63_13 ((hG63_13 _ _).2 rfl)
          refine all_snoc (.inr ⟨by decide, fun S63_12 g63_12 V63_12 w63_12 F63_12 cx63_12 hM63_12 => ?_⟩) ?_
          · -- op 12
            obtain hv10_V63_12 : g63_12 50 = .bool (false) := (hG63_10 _ _).1 (cx63_12.fact 10 50 (by decide) (cx63_12.dep 10 (by kernel_rfl)) (by kernel_rfl))
            obtain hv11_V63_12 : g63_12 51 = undef := (hG63_11 _ _).1 (cx63_12.fact 11 51 (by decide) (cx63_12.dep 11 (by kernel_rfl)) (by kernel_rfl))
            refine wpF_see 50 (.bool (false)) (Eq.trans (by kernel_rfl) hv10_V63_12) ?_
            refine wpF_see 51 (undef) (Eq.trans (by kernel_rfl) hv11_V63_12) ?_
            refine wpF_seg 1 (by kernel_rfl) ?_
            refine wpF_end _ (by kernel_rfl) (then_n ?_)
            exact one_in (some 52) (by kernel_rfl) (undef) _ [(51, undef), (50, .bool (false))] (seen_cons (Eq.trans (by kernel_rfl) hv11_V63_12) (seen_cons (Eq.trans (by kernel_rfl) hv10_V63_12) seen_nil)) (by kernel_rfl) (VT.le.refl _) hM63_12 ((hG63_12 _ _).2 rfl)
          refine all_snoc (.inr ⟨by decide, fun S63_11 g63_11 V63_11 w63_11 F63_11 cx63_11 hM63_11 => ?_⟩) ?_
          · -- op 11
            obtain hv10_V63_11 : g63_11 50 = .bool (false) := (hG63_10 _ _).1 (cx63_11.fact 10 50 (by decide) (cx63_11.dep 10 (by kernel_rfl)) (by kernel_rfl))
            refine wpF_see 50 (.bool (false)) (Eq.trans (by kernel_rfl) hv10_V63_11) ?_
            refine wpF_seg 1 (by kernel_rfl) ?_
            refine wpF_end _ (by kernel_rfl) (then_n ?_)
            exact one_in (some 51) (by kernel_rfl) (undef) _ [(50, .bool (false))] (seen_cons (Eq.trans (by kernel_rfl) hv10_V63_11) seen_nil) (by kernel_rfl) (VT.le.refl _) hM63_11 ((hG63_11 _ _).2 rfl)
          refine all_snoc (.inr ⟨by decide, fun S63_10 g63_10 V63_10 w63_10 F63_10 cx63_10 hM63_10 => ?_⟩) ?_
          · -- op 10
            obtain hv9_V63_10 : g63_10 49 = .bool (false) := (hG63_9 _ _).1 (cx63_10.fact 9 49 (by decide) (cx63_10.dep 9 (by kernel_rfl)) (by kernel_rfl))
            refine wpF_see 49 (.bool (false)) (Eq.trans (by kernel_rfl) hv9_V63_10) ?_
            refine wpF_seg 1 (by kernel_rfl) ?_
            refine wpF_end _ (by kernel_rfl) (then_n ?_)
            exact one_in (some 50) (by kernel_rfl) (.bool (false)) _ [(49, .bool (false))] (seen_cons (Eq.trans (by kernel_rfl) hv9_V63_10) seen_nil) (by kernel_rfl) (VT.le.refl _) hM63_10 ((hG63_10 _ _).2 rfl)
          refine all_snoc (.inr ⟨by decide, fun S63_9 g63_9 V63_9 w63_9 F63_9 cx63_9 hM63_9 => ?_⟩) ?_
          · -- op 9
            obtain hv3_V63_9 : g63_9 43 = .bool (false) := (hG63_3 _ _).1 (cx63_9.fact 3 43 (by decide) (cx63_9.dep 3 (by kernel_rfl)) (by kernel_rfl))
            obtain hv8_V63_9 : g63_9 48 = undef := (hG63_8 _ _).1 (cx63_9.fact 8 48 (by decide) (cx63_9.dep 8 (by kernel_rfl)) (by kernel_rfl))
            refine wpF_see 43 (.bool (false)) (Eq.trans (by kernel_rfl) hv3_V63_9) ?_
            refine wpF_see 48 (undef) (Eq.trans (by kernel_rfl) hv8_V63_9) ?_
            refine wpF_seg 1 (by kernel_rfl) ?_
            refine wpF_end _ (by kernel_rfl) (then_n ?_)
            exact one_in (some 49) (by kernel_rfl) (.bool (false)) _ [(48, undef), (43, .bool (false))] (seen_cons (Eq.trans (by kernel_rfl) hv8_V63_9) (seen_cons (Eq.trans (by kernel_rfl) hv3_V63_9) seen_nil)) (by kernel_rfl) (VT.le.refl _) hM63_9 ((hG63_9 _ _).2 rfl)
          refine all_snoc (.inr ⟨by decide, fun S63_8 g63_8 V63_8 w63_8 F63_8 cx63_8 hM63_8 => ?_⟩) ?_
          · -- op 8
            obtain hv3_V63_8 : g63_8 43 = .bool (false) := (hG63_3 _ _).1 (cx63_8.fact 3 43 (by decide) (cx63_8.dep 3 (by kernel_rfl)) (by kernel_rfl))
            obtain hv4_V63_8 : g63_8 44 = undef := (hG63_4 _ _).1 (cx63_8.fact 4 44 (by decide) (cx63_8.dep 4 (by kernel_rfl)) (by kernel_rfl))
            obtain hv7_V63_8 : g63_8 47 = undef := (hG63_7 _ _).1 (cx63_8.fact 7 47 (by decide) (cx63_8.dep 7 (by kernel_rfl)) (by kernel_rfl))
            refine wpF_see 43 (.bool (false)) (Eq.trans (by kernel_rfl) hv3_V63_8) ?_
            refine wpF_see 44 (undef) (Eq.trans (by kernel_rfl) hv4_V63_8) ?_
            refine wpF_see 47 (undef) (Eq.trans (by kernel_rfl) hv7_V63_8) ?_
            refine wpF_seg 1 (by kernel_rfl) ?_
            refine wpF_end _ (by kernel_rfl) (then_n ?_)
            exact one_in (some 48) (by kernel_rfl) (undef) _ [(47, undef), (44, undef), (43, .bool (false))] (seen_cons (Eq.trans (by kernel_rfl) hv7_V63_8) (seen_cons (Eq.trans (by kernel_rfl) hv4_V63_8) (seen_cons (Eq.trans (by kernel_rfl) hv3_V63_8) seen_nil))) (by kernel_rfl) (VT.le.refl _) hM63_8 ((hG63_8 _ _).2 rfl)
          refine all_snoc (.inr ⟨by decide, fun S63_7 g63_7 V63_7 w63_7 F63_7 cx63_7 hM63_7 => ?_⟩) ?_
          · -- op 7
            obtain hv3_V63_7 : g63_7 43 = .bool (false) := (hG63_3 _ _).1 (cx63_7.fact 3 43 (by decide) (cx63_7.dep 3 (by kernel_rfl)) (by kernel_rfl))
            obtain hv6_V63_7 : g63_7 46 = undef := (hG63_6 _ _).1 (cx63_7.fact 6 46 (by decide) (cx63_7.dep 6 (by kernel_rfl)) (by kernel_rfl))
            refine wpF_see 43 (.bool (false)) (Eq.trans (by kernel_rfl) hv3_V63_7) ?_
            refine wpF_see 46 (undef) (Eq.trans (by kernel_rfl) hv6_V63_7) ?_
            refine wpF_seg 1 (by kernel_rfl) ?_
            refine wpF_end _ (by kernel_rfl) (then_n ?_)
            exact one_in (some 47) (by kernel_rfl) (undef) _ [(46, undef), (43, .bool (false))] (seen_cons (Eq.trans (by kernel_rfl) hv6_V63_7) (seen_cons (Eq.trans (by kernel_rfl) hv3_V63_7) seen_nil)) (by kernel_rfl) (VT.le.refl _) hM63_7 ((hG63_7 _ _).2 rfl)
          refine all_snoc (.inr ⟨by decide, fun S63_6 g63_6 V63_6 w63_6 F63_6 cx63_6 hM63_6 => ?_⟩) ?_
          · -- op 6
            obtain hv3_V63_6 : g63_6 43 = .bool (false) := (hG63_3 _ _).1 (cx63_6.fact 3 43 (by decide) (cx63_6.dep 3 (by kernel_rfl)) (by kernel_rfl))
            obtain hv5_V63_6 : g63_6 45 = undef := (hG63_5 _ _).1 (cx63_6.fact 5 45 (by decide) (cx63_6.dep 5 (by kernel_rfl)) (by kernel_rfl))
            refine wpF_see 43 (.bool (false)) (Eq.trans (by kernel_rfl) hv3_V63_6) ?_
            refine wpF_see 45 (undef) (Eq.trans (by kernel_rfl) hv5_V63_6) ?_
            refine wpF_seg 1 (by kernel_rfl) ?_
            refine wpF_end _ (by kernel_rfl) (then_n ?_)
            exact one_in (some 46) (by kernel_rfl) (undef) _ [(45, undef), (43, .bool (false))] (seen_cons (Eq.trans (by kernel_rfl) hv5_V63_6) (seen_cons (Eq.trans (by kernel_rfl) hv3_V63_6) seen_nil)) (by kernel_rfl) (VT.le.refl _) hM63_6 ((hG63_6 _ _).2 rfl)
          refine all_snoc (.inr ⟨by decide, fun S63_5 g63_5 V63_5 w63_5 F63_5 cx63_5 hM63_5 => ?_⟩) ?_
          · -- op 5
            obtain hv3_V63_5 : g63_5 43 = .bool (false) := (hG63_3 _ _).1 (cx63_5.fact 3 43 (by decide) (cx63_5.dep 3 (by kernel_rfl)) (by kernel_rfl))
            refine wpF_see 43 (.bool (false)) (Eq.trans (by kernel_rfl) hv3_V63_5) ?_
            refine wpF_seg 1 (by kernel_rfl) ?_
            refine wpF_end _ (by kernel_rfl) (then_n ?_)
            exact one_in (some 45) (by kernel_rfl) (undef) _ [(43, .bool (false))] (seen_cons (Eq.trans (by kernel_rfl) hv3_V63_5) seen_nil) (by kernel_rfl) (VT.le.refl _) hM63_5 ((hG63_5 _ _).2 rfl)
          refine all_snoc (.inr ⟨by decide, fun S63_4 g63_4 V63_4 w63_4 F63_4 cx63_4 hM63_4 => ?_⟩) ?_
          · -- op 4
            obtain hv3_V63_4 : g63_4 43 = .bool (false) := (hG63_3 _ _).1 (cx63_4.fact 3 43 (by decide) (cx63_4.dep 3 (by kernel_rfl)) (by kernel_rfl))
            refine wpF_see 43 (.bool (false)) (Eq.trans (by kernel_rfl) hv3_V63_4) ?_
            refine wpF_seg 1 (by kernel_rfl) ?_
            refine wpF_end _ (by kernel_rfl) (then_n ?_)
            exact one_in (some 44) (by kernel_rfl) (undef) _ [(43, .bool (false))] (seen_cons (Eq.trans (by kernel_rfl) hv3_V63_4) seen_nil) (by kernel_rfl) (VT.le.refl _) hM63_4 ((hG63_4 _ _).2 rfl)
          refine all_snoc (.inr ⟨by decide, fun S63_3 g63_3 V63_3 w63_3 F63_3 cx63_3 hM63_3 => ?_⟩) ?_
          · -- op 3
            obtain hv2_V63_3 : g63_3 42 = .bool (false) := (hG63_2 _ _).1 (cx63_3.fact 2 42 (by decide) (cx63_3.dep 2 (by kernel_rfl)) (by kernel_rfl))
            refine wpF_see 42 (.bool (false)) (Eq.trans (by kernel_rfl) hv2_V63_3) ?_
            refine wpF_seg 1 (by kernel_rfl) ?_
            refine wpF_end _ (by kernel_rfl) (then_n ?_)
            exact one_in (some 43) (by kernel_rfl) (.bool (false)) _ [(42, .bool (false))] (seen_cons (Eq.trans (by kernel_rfl) hv2_V63_3) seen_nil) (by kernel_rfl) (VT.le.refl _) hM63_3 ((hG63_3 _ _).2 rfl)
          refine all_snoc (.inr ⟨by decide, fun S63_2 g63_2 V63_2 w63_2 F63_2 cx63_2 hM63_2 => ?_⟩) ?_
          · -- op 2
            obtain hv1_V63_2 : g63_2 41 = .pointer (some ⟨b2, 0, none⟩) := (hG63_1 _ _).1 (cx63_2.fact 1 41 (by decide) (cx63_2.dep 1 (by kernel_rfl)) (by kernel_rfl))
            refine wpF_see 41 (.pointer (some ⟨b2, 0, none⟩)) (Eq.trans (by kernel_rfl) hv1_V63_2) ?_
            refine wpF_loadB hM63_2 #[.bool (false), .slice Ank (nk).length cnk, .slice Anv (nv).length cnv, .slice Anc (nc).length cnc] (fun i v hi => ((le15.trans le29).trans cx63_2.le) _ _ _ (hc8 i v hi)) (h := (by kernel_rfl : opAt _ _ _ _ _ = some (Go.Op.load 4 (Go.Operand.tmp 41), some 42))) (off := 0) (by kernel_rfl) (.bool (false)) (by kernel_rfl) ?_
            refine wpF_end _ (by kernel_rfl) (then_n ?_)
            exact one_in (some 42) (by kernel_rfl) (.bool (false)) _ [(41, .pointer (some ⟨b2, 0, none⟩))] (seen_cons (Eq.trans (by kernel_rfl) hv1_V63_2) seen_nil) (by kernel_rfl) (VT.le.refl _) hM63_2 ((hG63_2 _ _).2 rfl)
          refine all_snoc (.inr ⟨by decide, fun S63_1 g63_1 V63_1 w63_1 F63_1 cx63_1 hM63_1 => ?_⟩) ?_
          · -- op 1
            refine wpF_seg 1 (by kernel_rfl) ?_
            refine wpF_end _ (by kernel_rfl) (then_n ?_)
            exact one_in (some 41) (by kernel_rfl) (.pointer (some ⟨b2, 0, none⟩)) _ [] seen_nil (by kernel_rfl) (VT.le.refl _) hM63_1 ((hG63_1 _ _).2 rfl)
          refine all_snoc (.inr ⟨by decide, fun S63_0 g63_0 V63_0 w63_0 F63_0 cx63_0 hM63_0 => ?_⟩) ?_
          · -- op 0
            refine wpF_seg 1 (by kernel_rfl) ?_
            refine wpF_end _ (by kernel_rfl) (then_n ?_)
            exact one_in (some 40) (by kernel_rfl) (.int .i64 ((i : Int))) _ [] seen_nil (by kernel_rfl) (VT.le.refl _) hM63_0 ((hG63_0 _ _).2 rfl)
          exact all_none
        · -- behind it
          intro ge63 Ve63 we63 hMe63 hle63 hf63
          refine wpF_stop (P := Try.prog) (ops := #[]) (i := 0) _ rfl ?_
          obtain hv19_Ve63 : ge63 4 = .int .i64 ((i : Int)) := (hG63_19 _ _).1 (hf63 19 4 (by decide) (by kernel_rfl))
          obtain hv20_Ve63 : ge63 5 = .bool (false) := (hG63_20 _ _).1 (hf63 20 5 (by decide) (by kernel_rfl))
          obtain hv0_Ve63 : ge63 40 = .int .i64 ((i : Int)) := (hG63_0 _ _).1 (hf63 0 40 (by decide) (by kernel_rfl))
          obtain hv1_Ve63 : ge63 41 = .pointer (some ⟨b2, 0, none⟩) := (hG63_1 _ _).1 (hf63 1 41 (by decide) (by kernel_rfl))
          obtain hv2_Ve63 : ge63 42 = .bool (false) := (hG63_2 _ _).1 (hf63 2 42 (by decide) (by kernel_rfl))
          obtain hv3_Ve63 : ge63 43 = .bool (false) := (hG63_3 _ _).1 (hf63 3 43 (by decide) (by kernel_rfl))
          obtain hv9_Ve63 : ge63 49 = .bool (false) := (hG63_9 _ _).1 (hf63 9 49 (by decide) (by kernel_rfl))
          obtain hv10_Ve63 : ge63 50 = .bool (false) := (hG63_10 _ _).1 (hf63 10 50 (by decide) (by kernel_rfl))
          obtain hv18_Ve63 : ge63 58 = .bool (false) := (hG63_18 _ _).1 (hf63 18 58 (by decide) (by kernel_rfl))
          refine wpF_see 4 (.int .i64 ((i : Int))) (Eq.trans (by kernel_rfl) hv19_Ve63) ?_
          refine wpF_see 5 (.bool (false)) (Eq.trans (by kernel_rfl) hv20_Ve63) ?_
          refine wpF_see 40 (.int .i64 ((i : Int))) (Eq.trans (by kernel_rfl) hv0_Ve63) ?_
          refine wpF_see 41 (.pointer (some ⟨b2, 0, none⟩)) (Eq.trans (by kernel_rfl) hv1_Ve63) ?_
          refine wpF_see 42 (.bool (false)) (Eq.trans (by kernel_rfl) hv2_Ve63) ?_
          refine wpF_see 43 (.bool (false)) (Eq.trans (by kernel_rfl) hv3_Ve63) ?_
          refine wpF_see 49 (.bool (false)) (Eq.trans (by kernel_rfl) hv9_Ve63) ?_
          refine wpF_see 50 (.bool (false)) (Eq.trans (by kernel_rfl) hv10_Ve63) ?_
          refine wpF_see 58 (.bool (false)) (Eq.trans (by kernel_rfl) hv18_Ve63) ?_
          refine wpF_end _ (by kernel_rfl) (then_n (hK62 _ _ ?_))
          refine wp_ret ?_
          refine retN [.int .i64 ((i : Int)), .bool (false)] (.tuple #[.int .i64 ((i : Int)), .bool (false)]) Try.results25 (.tmp (by kernel_rfl) (by kernel_rfl) (.tmp (by kernel_rfl) (by kernel_rfl) .nil)) (by kernel_rfl) (hRet _ _ ⟨_, _, rfl, hMe63.clear, ?_⟩)
          -- end FfLf
          first | (simp only [findI, findB, h18, h21, h33, cond_false, Bool.false_and]; done) | ((first | have e := find_t (vs := nv) (kids := nc) (y := y) (i := i) (by assumption) (by omega) (by assumption) (by first | exact .inl (by assumption) | exact .inr (by assumption)) | have e := find_f (vs := nv) (kids := nc) (y := y) (i := i) (by assumption) (by omega) (by assumption) (by first | exact .inl (by assumption) | exact .inr (tri (by assumption) (by assumption)))); delta findI findB; rw [e]; simp only [h18, h21, h33, cond_true, cond_false, Bool.true_and, Bool.and_true, Bool.false_and, Bool.and_false])
  | true =>
    refine wp_seq_k (fun K66 hK66 => ?_)
    refine wp_reg ?_
    refine wpF_box hM0 #[.bool (true), .slice Ank (nk).length cnk, .slice Anv (nv).length cnv, .slice Anc (nc).length cnc] (h := (by kernel_rfl : opAt _ _ _ _ _ = some (Go.Op.box 25 (Go.Operand.tmp 0), some 2))) (by kernel_rfl) (fun b67 w68 hM69 => ?_)
    obtain ⟨V70, le71, hM72, hc73⟩ := hM69.settle 0 rfl
    have hM74 : Step V w [] V70 _ [] := hM72
    refine wpF_seg 2 (by kernel_rfl) ?_
    refine wpF_end _ (by kernel_rfl) (then_n (hK66 _ _ ?_))
    refine wp_seq_k (fun K75 hK75 => ?_)
    refine wp_seq_k (fun K76 hK76 => ?_)
    refine wp_reg ?_
    refine wpF_loadB hM74 #[.bool (true), .slice Ank (nk).length cnk, .slice Anv (nv).length cnv, .slice Anc (nc).length cnc] hc73 (h := (by kernel_rfl : opAt _ _ _ _ _ = some (Go.Op.load 25 (Go.Operand.tmp 2), some 7))) (off := 0) (by kernel_rfl) (.agg #[.bool (true), .slice Ank (nk).length cnk, .slice Anv (nv).length cnv, .slice Anc (nc).length cnc]) (by kernel_rfl) ?_
    refine wpF_callP hM74 (f := 35) (caps := #[]) (h := (by kernel_rfl : opAt _ _ _ _ _ = some (Go.Op.call (Go.Call.mk (Go.Callee.value (Go.Operand.func 35)) #[(Go.Operand.tmp 7)] #[25]), some 8))) (by kernel_rfl) (by kernel_rfl) (by kernel_rfl) (f35 _ _ hM74.inW (true) Ank cnk (nk) (hnk.up hM74.le) Anv cnv (nv) (hnv.up hM74.le) Anc cnc (nc) (hnc.up hM74.le)) (fun v77 V78 w79 le80 hM81 hp82 => ?_)
    obtain rfl := hp82
    refine wpF_seg 1 (by kernel_rfl) ?_
    refine wpF_end _ (by kernel_rfl) (then_n (hK76 _ _ ?_))
    refine wp_if (!(stands (true) (nk) (nv) (nc))) (by kernel_rfl) (fun h83 => ?_) (fun h83 => ?_)
    · -- Tt
      have h84 : (stands (true) (nk) (nv) (nc)) = false := by simpa using h83
      refine wp_seq_k (fun K85 hK85 => ?_)
      refine wp_reg ?_
      refine wpF_seg 2 (by kernel_rfl) ?_
      refine wpF_end _ (by kernel_rfl) (then_n (hK85 _ _ ?_))
      refine wp_ret (then_r (?_))
      refine retN [.int .i64 (0), .bool (false)] (.tuple #[.int .i64 (0), .bool (false)]) Try.results25 (.tmp (by kernel_rfl) (by kernel_rfl) (.tmp (by kernel_rfl) (by kernel_rfl) .nil)) (by kernel_rfl) (hRet _ _ ⟨_, _, rfl, hM81.clear, ?_⟩)
      -- end Tt
      first | (simp only [findI, findB, h83, h84, cond_false, Bool.false_and]; done) | ((first | have e := find_t (vs := nv) (kids := nc) (y := y) (i := i) (by assumption) (by omega) (by assumption) (by first | exact .inl (by assumption) | exact .inr (by assumption)) | have e := find_f (vs := nv) (kids := nc) (y := y) (i := i) (by assumption) (by omega) (by assumption) (by first | exact .inl (by assumption) | exact .inr (tri (by assumption) (by assumption)))); delta findI findB; rw [e]; simp only [h83, h84, cond_true, cond_false, Bool.true_and, Bool.and_true, Bool.false_and, Bool.and_false])
    · -- Tf
      have h86 : (stands (true) (nk) (nv) (nc)) = true := by simpa using h83
      refine wp_skip (then_n (hK75 _ _ ?_))
      refine wp_seq_k (fun K87 hK87 => ?_)
      refine wp_reg ?_
      refine wpF_seg 1 (by kernel_rfl) ?_
      refine wpF_end _ (by kernel_rfl) (then_n (hK87 _ _ ?_))
      refine wp_seq_k (fun K88 hK88 => ?_)
      refine wp_block ?_
      refine wp_base [(1, bs (y)), (2, .pointer (some ⟨b67, 0, none⟩)), (4, .int .i64 (0)), (5, .bool (false)), (6, .int .i64 ((0 : Int)))] (by kernel_rfl) (fun g90 => ?_)
      refine wp_loopX (fun (x_ : Nat) a_ w_ => ∃ (g : Nat → Value) (V_ : VT), a_ = env 59 [(1, bs (y)), (2, .pointer (some ⟨b67, 0, none⟩)), (4, .int .i64 (0)), (5, .bool (false)), (6, .int .i64 ((x_ : Int)))] g ∧ Step V w [] V_ w_ [] ∧ VT.le V78 V_ ∧ (x_ ≤ nk.length) ∧ (∀ j, j < x_ → nk.getD j [] < y)) (fun (x_ : Nat) => nk.length - x_) (0) ⟨g90, V78, rfl, hM81, VT.le.refl _, by omega, by (intro j hj; omega)⟩ ?_
      rintro i a_ w92 ⟨g91, Vl89, rfl, hM93, le94, hi95_0, hi95_1⟩ K95 hK95
      refine wp_seq_k (fun K96 hK96 => ?_)
      refine wp_seq_k (fun K97 hK97 => ?_)
      refine wp_reg ?_
      refine wpF_seg 2 (by kernel_rfl) ?_
      refine wpF_loadB hM93 #[.bool (true), .slice Ank (nk).length cnk, .slice Anv (nv).length cnv, .slice Anc (nc).length cnc] (fun i v hi => (le80.trans le94) _ _ _ (hc73 i v hi)) (h := (by kernel_rfl : opAt _ _ _ _ _ = some (Go.Op.load 22 (Go.Operand.tmp 11), some 12))) (off := 1) (by kernel_rfl) (.slice Ank (nk).length cnk) (by kernel_rfl) ?_
      refine wpF_seg 3 (by kernel_rfl) ?_
      refine wpF_caseB 15 (decide (((i : Int)) < ((nk.length : Int)))) (by kernel_rfl) (by kernel_rfl) (fun h98 => ?_) (fun h98 => ?_)
      · -- TfLt
        have p99 : (((i : Int)) < ((nk.length : Int))) := of_decide_eq_true h98
        refine wpF_seg 1 (by kernel_rfl) ?_
        refine wpF_loadB hM93 #[.bool (true), .slice Ank (nk).length cnk, .slice Anv (nv).length cnv, .slice Anc (nc).length cnc] (fun i v hi => (le80.trans le94) _ _ _ (hc73 i v hi)) (h := (by kernel_rfl : opAt _ _ _ _ _ = some (Go.Op.load 22 (Go.Operand.tmp 16), some 17))) (off := 1) (by kernel_rfl) (.slice Ank (nk).length cnk) (by kernel_rfl) ?_
        refine wpF_seg 1 (by kernel_rfl) ?_
        refine wpF_index (A := Ank) (c := cnk) (hnk.up hM93.le) .i64 ((i : Int)) (h := (by kernel_rfl : opAt _ _ _ _ _ = some (Go.Op.indexAddr 22 (Go.Operand.tmp 17) (Go.Operand.tmp 18), some 19))) (e := 9) (by kernel_rfl) (by kernel_rfl) (by kernel_rfl) (i) rfl (by omega) (fun b100 o101 at_b100 => ?_)
        have c102 : Vl89 b100 o101 = some (bs (nk.getD (i) [])) := (At.str at_b100).1
        have l103 : (nk.getD (i) []).length ≤ 140737488355328 := (At.str at_b100).2
        refine wpF_loadV hM93 c102 (h := (by kernel_rfl : opAt _ _ _ _ _ = some (Go.Op.load 9 (Go.Operand.tmp 19), some 20))) (by kernel_rfl) (by kernel_rfl) ?_
        refine wpF_seg 1 (by kernel_rfl) ?_
        refine wpF_callP hM93 (f := 49) (caps := #[]) (h := (by kernel_rfl : opAt _ _ _ _ _ = some (Go.Op.call (Go.Call.mk (Go.Callee.value (Go.Operand.func 49)) #[(Go.Operand.tmp 20), (Go.Operand.tmp 21)] #[9, 9]), some 22))) (by kernel_rfl) (by kernel_rfl) (by kernel_rfl) (f49 _ _ hM93.inW ((nk.getD (i) [])) (l103) (y) (hy)) (fun v104 V105 w106 le107 hM108 hp109 => ?_)
        obtain rfl := hp109
        refine wpF_seg 1 (by kernel_rfl) ?_
        refine wpF_caseB 23 (decide (((nk.getD (i) [])) < (y))) (by kernel_rfl) (by kernel_rfl) (fun h110 => ?_) (fun h110 => ?_)
        · -- TfLtt
          have p111 : (((nk.getD (i) [])) < (y)) := of_decide_eq_true h110
          refine wpF_seg 14 (by kernel_rfl) ?_
          refine wpF_end _ (by kernel_rfl) (then_n (hK97 _ _ ?_))
          refine wp_ct (by kernel_rfl) ?_
          refine wp_skip (then_n (hK96 _ _ ?_))
          refine wp_block ?_
          refine wp_reg ?_
          refine wpF_seg 1 (by kernel_rfl) ?_
          refine wpF_add .i64 ((i : Int)) (1) ((i : Int) + 1) (h := (by kernel_rfl : opAt _ _ _ _ _ = some (Go.Op.binOp Go.BinOp.add 3 (Go.Operand.tmp 38) (Go.Operand.const (Go.Value.int Go.IntKind.i64 1)) 3, some 39))) (by kernel_rfl) (by kernel_rfl) (wrap64_ok _ (by omega)) ?_
          refine wpF_seg 1 (by kernel_rfl) ?_
          refine wpF_base [(1, bs (y)), (2, .pointer (some ⟨b67, 0, none⟩)), (4, .int .i64 (0)), (5, .bool (false)), (6, .int .i64 ((i + 1 : Int)))] (by kernel_rfl) (fun g112 => ?_)
          refine wpF_end _ (by kernel_rfl) (blk_n (then_n (hK95 _ _ (i + 1) (by omega) ?_)))
          refine ⟨g112, V105, rfl, hM108, (le94.trans le107), ?_, ?_⟩
          · -- TfLtt inv 0
            omega
          · -- TfLtt inv 1
            exact all_step (by assumption) (by first | assumption | exact not_gt (by assumption) | exact not_gt_eq (by assumption))
        · -- TfLtf
          have p113 : ¬ (((nk.getD (i) [])) < (y)) := of_decide_eq_false h110
          refine wpF_seg 1 (by kernel_rfl) ?_
          refine wpF_loadB hM108 #[.bool (true), .slice Ank (nk).length cnk, .slice Anv (nv).length cnv, .slice Anc (nc).length cnc] (fun i v hi => ((le80.trans le94).trans le107) _ _ _ (hc73 i v hi)) (h := (by kernel_rfl : opAt _ _ _ _ _ = some (Go.Op.load 4 (Go.Operand.tmp 24), some 25))) (off := 0) (by kernel_rfl) (.bool (true)) (by kernel_rfl) ?_
          refine wpF_seg 12 (by kernel_rfl) ?_
          refine wpF_end _ (by kernel_rfl) (then_n (hK97 _ _ ?_))
          refine wp_cf (by kernel_rfl) ?_
          refine wp_exit (then_x (then_x (blk_hit (then_n (hK88 _ _ ?_)))))
          refine wp_seq_k (fun K114 hK114 => ?_)
          refine wp_base [(1, bs (y)), (2, .pointer (some ⟨b67, 0, none⟩)), (6, .int .i64 ((i : Int)))] (by kernel_rfl) (fun g0_119 => ?_)
          obtain ⟨G119, hGm119, hG119_0, hG119_1, hG119_2, hG119_3, hG119_4, hG119_5, hG119_6, hG119_7, hG119_8, hG119_9, hG119_10, hG119_11, hG119_12, hG119_13, hG119_14, hG119_15, hG119_16, hG119_17, hG119_18, hG119_19, hG119_20⟩ : ∃ G : Nat → Value → VT → Prop, (∀ j v V V', VT.le V V' → G j v V → G j v V') ∧ (∀ v_ V_, G 0 v_ V_ ↔ (v_ = .int .i64 ((i : Int)))) ∧ (∀ v_ V_, G 1 v_ V_ ↔ (v_ = .pointer (some ⟨b67, 0, none⟩))) ∧ (∀ v_ V_, G 2 v_ V_ ↔ (v_ = .bool (true))) ∧ (∀ v_ V_, G 3 v_ V_ ↔ (v_ = .bool (true))) ∧ (∀ v_ V_, G 4 v_ V_ ↔ (v_ = .int .i64 ((i : Int)))) ∧ (∀ v_ V_, G 5 v_ V_ ↔ (v_ = .pointer (some ⟨b67, 1, none⟩))) ∧ (∀ v_ V_, G 6 v_ V_ ↔ (v_ = .slice Ank (nk).length cnk)) ∧ (∀ v_ V_, G 7 v_ V_ ↔ (v_ = .int .i64 ((nk.length : Int)))) ∧ (∀ v_ V_, G 8 v_ V_ ↔ (v_ = .bool (true))) ∧ (∀ v_ V_, G 9 v_ V_ ↔ (v_ = .bool (true))) ∧ (∀ v_ V_, G 10 v_ V_ ↔ (v_ = .bool (true))) ∧ (∀ v_ V_, G 11 v_ V_ ↔ (v_ = .pointer (some ⟨b67, 1, none⟩))) ∧ (∀ v_ V_, G 12 v_ V_ ↔ (v_ = .slice Ank (nk).length cnk)) ∧ (∀ v_ V_, G 13 v_ V_ ↔ (v_ = .int .i64 ((i : Int)))) ∧ (∀ v_ V_, G 14 v_ V_ ↔ (∃ b115 : Nat, ∃ o116 : Nat, v_ = .pointer (some ⟨b115, o116, none⟩) ∧ (At strK V_ b115 o116 ((nk.getD (i) []))) ∧ ((nk.getD (i) []).length ≤ 140737488355328))) ∧ (∀ v_ V_, G 15 v_ V_ ↔ (v_ = bs ((nk.getD (i) [])) ∧ ((nk.getD (i) []).length ≤ 140737488355328))) ∧ (∀ v_ V_, G 16 v_ V_ ↔ (v_ = bs (y))) ∧ (∀ v_ V_, G 17 v_ V_ ↔ (v_ = .bool (decide (((nk.getD (i) [])) = (y))) ∧ ((nk.getD (i) []).length ≤ 140737488355328))) ∧ (∀ v_ V_, G 18 v_ V_ ↔ (v_ = .bool (decide (((nk.getD (i) [])) = (y))) ∧ ((nk.getD (i) []).length ≤ 140737488355328))) ∧ (∀ v_ V_, G 19 v_ V_ ↔ (v_ = .int .i64 ((i : Int)))) ∧ (∀ v_ V_, G 20 v_ V_ ↔ (v_ = .bool (decide (((nk.getD (i) [])) = (y))) ∧ ((nk.getD (i) []).length ≤ 140737488355328))) :=
              ⟨mG [mV (.int .i64 ((i : Int))), mV (.pointer (some ⟨b67, 0, none⟩)), mV (.bool (true)), mV (.bool (true)), mV (.int .i64 ((i : Int))), mV (.pointer (some ⟨b67, 1, none⟩)), mV (.slice Ank (nk).length cnk), mV (.int .i64 ((nk.length : Int))), mV (.bool (true)), mV (.bool (true)), mV (.bool (true)), mV (.pointer (some ⟨b67, 1, none⟩)), mV (.slice Ank (nk).length cnk), mV (.int .i64 ((i : Int))), mE fun b115 : Nat => mE fun o116 : Nat => mN (mV (.pointer (some ⟨b115, o116, none⟩))) (mN (mA strK b115 o116 ((nk.getD (i) []))) (mP ((nk.getD (i) []).length ≤ 140737488355328))), mN (mV (bs ((nk.getD (i) [])))) (mP ((nk.getD (i) []).length ≤ 140737488355328)), mV (bs (y)), mN (mV (.bool (decide (((nk.getD (i) [])) = (y))))) (mP ((nk.getD (i) []).length ≤ 140737488355328)), mN (mV (.bool (decide (((nk.getD (i) [])) = (y))))) (mP ((nk.getD (i) []).length ≤ 140737488355328)), mV (.int .i64 ((i : Int))), mN (mV (.bool (decide (((nk.getD (i) [])) = (y))))) (mP ((nk.getD (i) []).length ≤ 140737488355328))], mG_up _, fun _ _ => Iff.rfl, fun _ _ => Iff.rfl, fun _ _ => Iff.rfl, fun _ _ => Iff.rfl, fun _ _ => Iff.rfl, fun _ _ => Iff.rfl, fun _ _ => Iff.rfl, fun _ _ => Iff.rfl, fun _ _ => Iff.rfl, fun _ _ => Iff.rfl, fun _ _ => Iff.rfl, fun _ _ => Iff.rfl, fun _ _ => Iff.rfl, fun _ _ => Iff.rfl, fun _ _ => Iff.rfl, fun _ _ => Iff.rfl, fun _ _ => Iff.rfl, fun _ _ => Iff.rfl, fun _ _ => Iff.rfl, fun _ _ => Iff.rfl, fun _ _ => Iff.rfl⟩
          refine wp_drawG (L0 := [(1, bs (y)), (2, .pointer (some ⟨b67, 0, none⟩)), (6, .int .i64 ((i : Int)))]) 21 (by kernel_rfl) (by kernel_rfl) (by kernel_rfl) (by kernel_rfl) (by kernel_rfl) G119 hGm119 [] pre_nil (by kernel_rfl) [] (by kernel_rfl) (fun (S : Nat → Bool) (g : Nat → Value) => ([] : List Ent)) (fun _ _ _ _ _ => rfl) hM108 ?_ ?_
          · -- the operations
            refine all_snoc (.inr ⟨by decide, fun S119_20 g119_20 V119_20 w119_20 F119_20 cx119_20 hM119_20 => ?_⟩) ?_
            · -- op 20
              obtain ⟨hv18_V119_20, l118⟩ : g119_20 58 = .bool (decide (((nk.getD (i) [])) = (y))) ∧ ((nk.getD (i) []).length ≤ 140737488355328) := (hG119_18 _ _).1 (cx119_20.fact 18 58 (by decide) (cx119_20.dep 18 (by kernel_rfl)) (by kernel_rfl))
              refine wpF_see 58 (.bool (decide (((nk.getD (i) [])) = (y)))) (Eq.trans (by kernel_rfl) hv18_V119_20) ?_
              refine wpF_seg 1 (by kernel_rfl) ?_
              refine wpF_end _ (by kernel_rfl) (then_n ?_)
              exact one_in (some 5) (by kernel_rfl) (.bool (decide (((nk.getD (i) [])) = (y)))) _ [(58, .bool (decide (((nk.getD (i) [])) = (y))))] (seen_cons (Eq.trans (by kernel_rfl) hv18_V119_20) seen_nil) (by kernel_rfl) (VT.le.refl _) hM119_20 ((hG119_20 _ _).2 ⟨rfl, l118⟩)
            refine all_snoc (.inr ⟨by decide, fun S119_19 g119_19 V119_19 w119_19 F119_19 cx119_19 hM119_19 => ?_⟩) ?_
            · -- op 19
              obtain hv0_V119_19 : g119_19 40 = .int .i64 ((i : Int)) := (hG119_0 _ _).1 (cx119_19.fact 0 40 (by decide) (cx119_19.dep 0 (by kernel_rfl)) (by kernel_rfl))
              refine wpF_see 40 (.int .i64 ((i : Int))) (Eq.trans (by kernel_rfl) hv0_V119_19) ?_
              refine wpF_seg 1 (by kernel_rfl) ?_
              refine wpF_end _ (by kernel_rfl) (then_n ?_)
              exact one_in (some 4) (by kernel_rfl) (.int .i64 ((i : Int))) _ [(40, .int .i64 ((i : Int)))] (seen_cons (Eq.trans (by kernel_rfl) hv0_V119_19) seen_nil) (by kernel_rfl) (VT.le.refl _) hM119_19 ((hG119_19 _ _).2 rfl)
            refine all_snoc (.inr ⟨by decide, fun S119_18 g119_18 V119_18 w119_18 F119_18 cx119_18 hM119_18 => ?_⟩) ?_
            · -- op 18
              obtain hv10_V119_18 : g119_18 50 = .bool (true) := (hG119_10 _ _).1 (cx119_18.fact 10 50 (by decide) (cx119_18.dep 10 (by kernel_rfl)) (by kernel_rfl))
              obtain ⟨hv17_V119_18, l118⟩ : g119_18 57 = .bool (decide (((nk.getD (i) [])) = (y))) ∧ ((nk.getD (i) []).length ≤ 140737488355328) := (hG119_17 _ _).1 (cx119_18.fact 17 57 (by decide) (cx119_18.dep 17 (by kernel_rfl)) (by kernel_rfl))
              refine wpF_see 50 (.bool (true)) (Eq.trans (by kernel_rfl) hv10_V119_18) ?_
              refine wpF_see 57 (.bool (decide (((nk.getD (i) [])) = (y)))) (Eq.trans (by kernel_rfl) hv17_V119_18) ?_
              refine wpF_seg 1 (by kernel_rfl) ?_
              refine wpF_end _ (by kernel_rfl) (then_n ?_)
              exact one_in (some 58) (by kernel_rfl) (.bool (decide (((nk.getD (i) [])) = (y)))) _ [(57, .bool (decide (((nk.getD (i) [])) = (y)))), (50, .bool (true))] (seen_cons (Eq.trans (by kernel_rfl) hv17_V119_18) (seen_cons (Eq.trans (by kernel_rfl) hv10_V119_18) seen_nil)) (by kernel_rfl) (VT.le.refl _) hM119_18 ((hG119_18 _ _).2 ⟨rfl, l118⟩)
            refine all_snoc (.inr ⟨by decide, fun S119_17 g119_17 V119_17 w119_17 F119_17 cx119_17 hM119_17 => ?_⟩) ?_
            · -- op 17
              obtain hv10_V119_17 : g119_17 50 = .bool (true) := (hG119_10 _ _).1 (cx119_17.fact 10 50 (by decide) (cx119_17.dep 10 (by kernel_rfl)) (by kernel_rfl))
              obtain ⟨hv15_V119_17, l118⟩ : g119_17 55 = bs ((nk.getD (i) [])) ∧ ((nk.getD (i) []).length ≤ 140737488355328) := (hG119_15 _ _).1 (cx119_17.fact 15 55 (by decide) (cx119_17.dep 15 (by kernel_rfl)) (by kernel_rfl))
              obtain hv16_V119_17 : g119_17 56 = bs (y) := (hG119_16 _ _).1 (cx119_17.fact 16 56 (by decide) (cx119_17.dep 16 (by kernel_rfl)) (by kernel_rfl))
              refine wpF_see 50 (.bool (true)) (Eq.trans (by kernel_rfl) hv10_V119_17) ?_
              refine wpF_see 55 (bs ((nk.getD (i) []))) (Eq.trans (by kernel_rfl) hv15_V119_17) ?_
              refine wpF_see 56 (bs (y)) (Eq.trans (by kernel_rfl) hv16_V119_17) ?_
              refine wpF_seg 1 (by kernel_rfl) ?_
              refine wpF_end _ (by kernel_rfl) (then_n ?_)
              exact one_in (some 57) (by kernel_rfl) (.bool (decide (((nk.getD (i) [])) = (y)))) _ [(56, bs (y)), (55, bs ((nk.getD (i) []))), (50, .bool (true))] (seen_cons (Eq.trans (by kernel_rfl) hv16_V119_17) (seen_cons (Eq.trans (by kernel_rfl) hv15_V119_17) (seen_cons (Eq.trans (by kernel_rfl) hv10_V119_17) seen_nil))) (by kernel_rfl) (VT.le.refl _) hM119_17 ((hG119_17 _ _).2 ⟨rfl, l118⟩)
            refine all_snoc (.inr ⟨by decide, fun S119_16 g119_16 V119_16 w119_16 F119_16 cx119_16 hM119_16 => ?_⟩) ?_
            · -- op 16
              obtain hv10_V119_16 : g119_16 50 = .bool (true) := (hG119_10 _ _).1 (cx119_16.fact 10 50 (by decide) (cx119_16.dep 10 (by kernel_rfl)) (by kernel_rfl))
              refine wpF_see 50 (.bool (true)) (Eq.trans (by kernel_rfl) hv10_V119_16) ?_
              refine wpF_seg 1 (by kernel_rfl) ?_
              refine wpF_end _ (by kernel_rfl) (then_n ?_)
              exact one_in (some 56) (by kernel_rfl) (bs (y)) _ [(50, .bool (true))] (seen_cons (Eq.trans (by kernel_rfl) hv10_V119_16) seen_nil) (by kernel_rfl) (VT.le.refl _) hM119_16 ((hG119_16 _ _).2 rfl)
            refine all_snoc (.inr ⟨by decide, fun S119_15 g119_15 V119_15 w119_15 F119_15 cx119_15 hM119_15 => ?_⟩) ?_
            · -- op 15
              obtain hv10_V119_15 : g119_15 50 = .bool (true) := (hG119_10 _ _).1 (cx119_15.fact 10 50 (by decide) (cx119_15.dep 10 (by kernel_rfl)) (by kernel_rfl))
              obtain ⟨b115, o116, hv14_V119_15, at_b115, l118⟩ : ∃ b115 : Nat, ∃ o116 : Nat, g119_15 54 = .pointer (some ⟨b115, o116, none⟩) ∧ (At strK V119_15 b115 o116 ((nk.getD (i) []))) ∧ ((nk.getD (i) []).length ≤ 140737488355328) := (hG119_14 _ _).1 (cx119_15.fact 14 54 (by decide) (cx119_15.dep 14 (by kernel_rfl)) (by kernel_rfl))
              have c915281 : V119_15 b115 o116 = some (bs (nk.getD (i) [])) := (At.str at_b115).1
              have l915282 : (nk.getD (i) []).length ≤ 140737488355328 := (At.str at_b115).2
              refine wpF_see 50 (.bool (true)) (Eq.trans (by kernel_rfl) hv10_V119_15) ?_
              refine wpF_see 54 (.pointer (some ⟨b115, o116, none⟩)) (Eq.trans (by kernel_rfl) hv14_V119_15) ?_
              refine wpF_loadV hM119_15 c915281 (h := (by kernel_rfl : opAt _ _ _ _ _ = some (Go.Op.load 9 (Go.Operand.tmp 54), some 55))) (by kernel_rfl) (by kernel_rfl) ?_
              refine wpF_end _ (by kernel_rfl) (then_n ?_)
              exact one_in (some 55) (by kernel_rfl) (bs ((nk.getD (i) []))) _ [(54, .pointer (some ⟨b115, o116, none⟩)), (50, .bool (true))] (seen_cons (Eq.trans (by kernel_rfl) hv14_V119_15) (seen_cons (Eq.trans (by kernel_rfl) hv10_V119_15) seen_nil)) (by kernel_rfl) (VT.le.refl _) hM119_15 ((hG119_15 _ _).2 ⟨rfl, l118⟩)
            refine all_snoc (.inr ⟨by decide, fun S119_14 g119_14 V119_14 w119_14 F119_14 cx119_14 hM119_14 => ?_⟩) ?_
            · -- op 14
              obtain hv10_V119_14 : g119_14 50 = .bool (true) := (hG119_10 _ _).1 (cx119_14.fact 10 50 (by decide) (cx119_14.dep 10 (by kernel_rfl)) (by kernel_rfl))
              obtain hv12_V119_14 : g119_14 52 = .slice Ank (nk).length cnk := (hG119_12 _ _).1 (cx119_14.fact 12 52 (by decide) (cx119_14.dep 12 (by kernel_rfl)) (by kernel_rfl))
              obtain hv13_V119_14 : g119_14 53 = .int .i64 ((i : Int)) := (hG119_13 _ _).1 (cx119_14.fact 13 53 (by decide) (cx119_14.dep 13 (by kernel_rfl)) (by kernel_rfl))
              refine wpF_see 50 (.bool (true)) (Eq.trans (by kernel_rfl) hv10_V119_14) ?_
              refine wpF_see 52 (.slice Ank (nk).length cnk) (Eq.trans (by kernel_rfl) hv12_V119_14) ?_
              refine wpF_see 53 (.int .i64 ((i : Int))) (Eq.trans (by kernel_rfl) hv13_V119_14) ?_
              refine wpF_index (A := Ank) (c := cnk) (hnk.up hM119_14.le) .i64 ((i : Int)) (h := (by kernel_rfl : opAt _ _ _ _ _ = some (Go.Op.indexAddr 22 (Go.Operand.tmp 52) (Go.Operand.tmp 53), some 54))) (e := 9) (by kernel_rfl) (by kernel_rfl) (by kernel_rfl) (i) rfl (by omega) (fun b115 o116 at_b115 => ?_)
              have c117 : V119_14 b115 o116 = some (bs (nk.getD (i) [])) := (At.str at_b115).1
              have l118 : (nk.getD (i) []).length ≤ 140737488355328 := (At.str at_b115).2
              refine wpF_end _ (by kernel_rfl) (then_n ?_)
              exact one_in (some 54) (by kernel_rfl) (.pointer (some ⟨b115, o116, none⟩)) _ [(53, .int .i64 ((i : Int))), (52, .slice Ank (nk).length cnk), (50, .bool (true))] (seen_cons (Eq.trans (by kernel_rfl) hv13_V119_14) (seen_cons (Eq.trans (by kernel_rfl) hv12_V119_14) (seen_cons (Eq.trans (by kernel_rfl) hv10_V119_14) seen_nil))) (by kernel_rfl) (VT.le.refl _) hM119_14 ((hG119_14 _ _).2 ⟨b115, o116, rfl, at_b115, l118⟩)
            refine all_snoc (.inr ⟨by decide, fun S119_13 g119_13 V119_13 w119_13 F119_13 cx119_13 hM119_13 => ?_⟩) ?_
            · -- op 13
              obtain hv10_V119_13 : g119_13 50 = .bool (true) := (hG119_10 _ _).1 (cx119_13.fact 10 50 (by decide) (cx119_13.dep 10 (by kernel_rfl)) (by kernel_rfl))
              refine wpF_see 50 (.bool (true)) (Eq.trans (by kernel_rfl) hv10_V119_13) ?_
              refine wpF_seg 1 (by kernel_rfl) ?_
              refine wpF_end _ (by kernel_rfl) (then_n ?_)
              exact one_in (some 53) (by kernel_rfl) (.int .i64 ((i : Int))) _ [(50, .bool (true))] (seen_cons (Eq.trans (by kernel_rfl) hv10_V119_13) seen_nil) (by kernel_rfl) (VT.le.refl _) hM119_13 ((hG119_13 _ _).2 rfl)
            refine all_snoc (.inr ⟨by decide, fun S119_12 g119_12 V119_12 w119_12 F119_12 cx119_12 hM119_12 => ?_⟩) ?_
            · -- op 12
              obtain hv10_V119_12 : g119_12 50 = .bool (true) := (hG119_10 _ _).1 (cx119_12.fact 10 50 (by decide) (cx119_12.dep 10 (by kernel_rfl)) (by kernel_rfl))
              obtain hv11_V119_12 : g119_12 51 = .pointer (some ⟨b67, 1, none⟩) := (hG119_11 _ _).1 (cx119_12.fact 11 51 (by decide) (cx119_12.dep 11 (by kernel_rfl)) (by kernel_rfl))
              refine wpF_see 50 (.bool (true)) (Eq.trans (by kernel_rfl) hv10_V119_12) ?_
              refine wpF_see 51 (.pointer (some ⟨b67, 1, none⟩)) (Eq.trans (by kernel_rfl) hv11_V119_12) ?_
              refine wpF_loadB hM119_12 #[.bool (true), .slice Ank (nk).length cnk, .slice Anv (nv).length cnv, .slice Anc (nc).length cnc] (fun i v hi => (((le80.trans le94).trans le107).trans cx119_12.le) _ _ _ (hc73 i v hi)) (h := (by kernel_rfl : opAt _ _ _ _ _ = some (Go.Op.load 22 (Go.Operand.tmp 51), some 52))) (off := 1) (by kernel_rfl) (.slice Ank (nk).length cnk) (by kernel_rfl) ?_
              refine wpF_end _ (by kernel_rfl) (then_n ?_)
              exact one_in (some 52) (by kernel_rfl) (.slice Ank (nk).length cnk) _ [(51, .pointer (some ⟨b67, 1, none⟩)), (50, .bool (true))] (seen_cons (Eq.trans (by kernel_rfl) hv11_V119_12) (seen_cons (Eq.trans (by kernel_rfl) hv10_V119_12) seen_nil)) (by kernel_rfl) (VT.le.refl _) hM119_12 ((hG119_12 _ _).2 rfl)
            refine all_snoc (.inr ⟨by decide, fun S119_11 g119_11 V119_11 w119_11 F119_11 cx119_11 hM119_11 => ?_⟩) ?_
            · -- op 11
              obtain hv10_V119_11 : g119_11 50 = .bool (true) := (hG119_10 _ _).1 (cx119_11.fact 10 50 (by decide) (cx119_11.dep 10 (by kernel_rfl)) (by kernel_rfl))
              refine wpF_see 50 (.bool (true)) (Eq.trans (by kernel_rfl) hv10_V119_11) ?_
              refine wpF_seg 1 (by kernel_rfl) ?_
              refine wpF_end _ (by kernel_rfl) (then_n ?_)
              exact one_in (some 51) (by kernel_rfl) (.pointer (some ⟨b67, 1, none⟩)) _ [(50, .bool (true))] (seen_cons (Eq.trans (by kernel_rfl) hv10_V119_11) seen_nil) (by kernel_rfl) (VT.le.refl _) hM119_11 ((hG119_11 _ _).2 rfl)
            refine all_snoc (.inr ⟨by decide, fun S119_10 g119_10 V119_10 w119_10 F119_10 cx119_10 hM119_10 => ?_⟩) ?_
            · -- op 10
              obtain hv9_V119_10 : g119_10 49 = .bool (true) := (hG119_9 _ _).1 (cx119_10.fact 9 49 (by decide) (cx119_10.dep 9 (by kernel_rfl)) (by kernel_rfl))
              refine wpF_see 49 (.bool (true)) (Eq.trans (by kernel_rfl) hv9_V119_10) ?_
              refine wpF_seg 1 (by kernel_rfl) ?_
              refine wpF_end _ (by kernel_rfl) (then_n ?_)
              exact one_in (some 50) (by kernel_rfl) (.bool (true)) _ [(49, .bool (true))] (seen_cons (Eq.trans (by kernel_rfl) hv9_V119_10) seen_nil) (by kernel_rfl) (VT.le.refl _) hM119_10 ((hG119_10 _ _).2 rfl)
            refine all_snoc (.inr ⟨by decide, fun S119_9 g119_9 V119_9 w119_9 F119_9 cx119_9 hM119_9 => ?_⟩) ?_
            · -- op 9
              obtain hv3_V119_9 : g119_9 43 = .bool (true) := (hG119_3 _ _).1 (cx119_9.fact 3 43 (by decide) (cx119_9.dep 3 (by kernel_rfl)) (by kernel_rfl))
              obtain hv8_V119_9 : g119_9 48 = .bool (true) := (hG119_8 _ _).1 (cx119_9.fact 8 48 (by decide) (cx119_9.dep 8 (by kernel_rfl)) (by kernel_rfl))
              refine wpF_see 43 (.bool (true)) (Eq.trans (by kernel_rfl) hv3_V119_9) ?_
              refine wpF_see 48 (.bool (true)) (Eq.trans (by kernel_rfl) hv8_V119_9) ?_
              refine wpF_seg 1 (by kernel_rfl) ?_
              refine wpF_end _ (by kernel_rfl) (then_n ?_)
              exact one_in (some 49) (by kernel_rfl) (.bool (true)) _ [(48, .bool (true)), (43, .bool (true))] (seen_cons (Eq.trans (by kernel_rfl) hv8_V119_9) (seen_cons (Eq.trans (by kernel_rfl) hv3_V119_9) seen_nil)) (by kernel_rfl) (VT.le.refl _) hM119_9 ((hG119_9 _ _).2 rfl)
            refine all_snoc (.inr ⟨by decide, fun S119_8 g119_8 V119_8 w119_8 F119_8 cx119_8 hM119_8 => ?_⟩) ?_
            · -- op 8
              obtain hv3_V119_8 : g119_8 43 = .bool (true) := (hG119_3 _ _).1 (cx119_8.fact 3 43 (by decide) (cx119_8.dep 3 (by kernel_rfl)) (by kernel_rfl))
              obtain hv4_V119_8 : g119_8 44 = .int .i64 ((i : Int)) := (hG119_4 _ _).1 (cx119_8.fact 4 44 (by decide) (cx119_8.dep 4 (by kernel_rfl)) (by kernel_rfl))
              obtain hv7_V119_8 : g119_8 47 = .int .i64 ((nk.length : Int)) := (hG119_7 _ _).1 (cx119_8.fact 7 47 (by decide) (cx119_8.dep 7 (by kernel_rfl)) (by kernel_rfl))
              refine wpF_see 43 (.bool (true)) (Eq.trans (by kernel_rfl) hv3_V119_8) ?_
              refine wpF_see 44 (.int .i64 ((i : Int))) (Eq.trans (by kernel_rfl) hv4_V119_8) ?_
              refine wpF_see 47 (.int .i64 ((nk.length : Int))) (Eq.trans (by kernel_rfl) hv7_V119_8) ?_
              refine wpF_seg 1 (by kernel_rfl) ?_
              refine wpF_slot 48 (.bool (decide (((i : Int)) < ((nk.length : Int))))) (.bool true) (by kernel_rfl) (by kernel_rfl) (by rw [h98]) ?_
              refine wpF_end _ (by kernel_rfl) (then_n ?_)
              exact one_in (some 48) (by kernel_rfl) (.bool (true)) _ [(47, .int .i64 ((nk.length : Int))), (44, .int .i64 ((i : Int))), (43, .bool (true))] (seen_cons (Eq.trans (by kernel_rfl) hv7_V119_8) (seen_cons (Eq.trans (by kernel_rfl) hv4_V119_8) (seen_cons (Eq.trans (by kernel_rfl) hv3_V119_8) seen_nil))) (by kernel_rfl) (VT.le.refl _) hM119_8 ((hG119_8 _ _).2 rfl)
            refine all_snoc (.inr ⟨by decide, fun S119_7 g119_7 V119_7 w119_7 F119_7 cx119_7 hM119_7 => ?_⟩) ?_
            · -- op 7
              obtain hv3_V119_7 : g119_7 43 = .bool (true) := (hG119_3 _ _).1 (cx119_7.fact 3 43 (by decide) (cx119_7.dep 3 (by kernel_rfl)) (by kernel_rfl))
              obtain hv6_V119_7 : g119_7 46 = .slice Ank (nk).length cnk := (hG119_6 _ _).1 (cx119_7.fact 6 46 (by decide) (cx119_7.dep 6 (by kernel_rfl)) (by kernel_rfl))
              refine wpF_see 43 (.bool (true)) (Eq.trans (by kernel_rfl) hv3_V119_7) ?_
              refine wpF_see 46 (.slice Ank (nk).length cnk) (Eq.trans (by kernel_rfl) hv6_V119_7) ?_
              refine wpF_seg 1 (by kernel_rfl) ?_
              refine wpF_end _ (by kernel_rfl) (then_n ?_)
              exact one_in (some 47) (by kernel_rfl) (.int .i64 ((nk.length : Int))) _ [(46, .slice Ank (nk).length cnk), (43, .bool (true))] (seen_cons (Eq.trans (by kernel_rfl) hv6_V119_7) (seen_cons (Eq.trans (by kernel_rfl) hv3_V119_7) seen_nil)) (by kernel_rfl) (VT.le.refl _) hM119_7 ((hG119_7 _ _).2 rfl)
            refine all_snoc (.inr ⟨by decide, fun S119_6 g119_6 V119_6 w119_6 F119_6 cx119_6 hM119_6 => ?_⟩) ?_
            · -- op 6
              obtain hv3_V119_6 : g119_6 43 = .bool (true) := (hG119_3 _ _).1 (cx119_6.fact 3 43 (by decide) (cx119_6.dep 3 (by kernel_rfl)) (by kernel_rfl))
              obtain hv5_V119_6 : g119_6 45 = .pointer (some ⟨b67, 1, none⟩) := (hG119_5 _ _).1 (cx119_6.fact 5 45 (by decide) (cx119_6.dep 5 (by kernel_rfl)) (by kernel_rfl))
              refine wpF_see 43 (.bool (true)) (Eq.trans (by kernel_rfl) hv3_V119_6) ?_
              refine wpF_see 45 (.pointer (some ⟨b67, 1, none⟩)) (Eq.trans (by kernel_rfl) hv5_V119_6) ?_
              refine wpF_loadB hM119_6 #[.bool (true), .slice Ank (nk).length cnk, .slice Anv (nv).length cnv, .slice Anc (nc).length cnc] (fun i v hi => (((le80.trans le94).trans le107).trans cx119_6.le) _ _ _ (hc73 i v hi)) (h := (by kernel_rfl : opAt _ _ _ _ _ = some (Go.Op.load 22 (Go.Operand.tmp 45), some 46))) (off := 1) (by kernel_rfl) (.slice Ank (nk).length cnk) (by kernel_rfl) ?_
              refine wpF_end _ (by kernel_rfl) (then_n ?_)
              exact one_in (some 46) (by kernel_rfl) (.slice Ank (nk).length cnk) _ [(45, .pointer (some ⟨b67, 1, none⟩)), (43, .bool (true))] (seen_cons (Eq.trans (by kernel_rfl) hv5_V119_6) (seen_cons (Eq.trans (by kernel_rfl) hv3_V119_6) seen_nil)) (by kernel_rfl) (VT.le.refl _) hM119_6 ((hG119_6 _ _).2 rfl)
            refine all_snoc (.inr ⟨by decide, fun S119_5 g119_5 V119_5 w119_5 F119_5 cx119_5 hM119_5 => ?_⟩) ?_
            · -- op 5
              obtain hv3_V119_5 : g119_5 43 = .bool (true) := (hG119_3 _ _).1 (cx119_5.fact 3 43 (by decide) (cx119_5.dep 3 (by kernel_rfl)) (by kernel_rfl))
              refine wpF_see 43 (.bool (true)) (Eq.trans (by kernel_rfl) hv3_V119_5) ?_
              refine wpF_seg 1 (by kernel_rfl) ?_
              refine wpF_end _ (by kernel_rfl) (then_n ?_)
              exact one_in (some 45) (by kernel_rfl) (.pointer (some ⟨b67, 1, none⟩)) _ [(43, .bool (true))] (seen_cons (Eq.trans (by kernel_rfl) hv3_V119_5) seen_nil) (by kernel_rfl) (VT.le.refl _) hM119_5 ((hG119_5 _ _).2 rfl)
            refine all_snoc (.inr ⟨by decide, fun S119_4 g119_4 V119_4 w119_4 F119_4 cx119_4 hM119_4 => ?_⟩) ?_
            · -- op 4
              obtain hv3_V119_4 : g119_4 43 = .bool (true) := (hG119_3 _ _).1 (cx119_4.fact 3 43 (by decide) (cx119_4.dep 3 (by kernel_rfl)) (by kernel_rfl))
              refine wpF_see 43 (.bool (true)) (Eq.trans (by kernel_rfl) hv3_V119_4) ?_
              refine wpF_seg 1 (by kernel_rfl) ?_
              refine wpF_end _ (by kernel_rfl) (then_n ?_)
              exact one_in (some 44) (by kernel_rfl) (.int .i64 ((i : Int))) _ [(43, .bool (true))] (seen_cons (Eq.trans (by kernel_rfl) hv3_V119_4) seen_nil) (by kernel_rfl) (VT.le.refl _) hM119_4 ((hG119_4 _ _).2 rfl)
            refine all_snoc (.inr ⟨by decide, fun S119_3 g119_3 V119_3 w119_3 F119_3 cx119_3 hM119_3 => ?_⟩) ?_
            · -- op 3
              obtain hv2_V119_3 : g119_3 42 = .bool (true) := (hG119_2 _ _).1 (cx119_3.fact 2 42 (by decide) (cx119_3.dep 2 (by kernel_rfl)) (by kernel_rfl))
              refine wpF_see 42 (.bool (true)) (Eq.trans (by kernel_rfl) hv2_V119_3) ?_
              refine wpF_seg 1 (by kernel_rfl) ?_
              refine wpF_end _ (by kernel_rfl) (then_n ?_)
              exact one_in (some 43) (by kernel_rfl) (.bool (true)) _ [(42, .bool (true))] (seen_cons (Eq.trans (by kernel_rfl) hv2_V119_3) seen_nil) (by kernel_rfl) (VT.le.refl _) hM119_3 ((hG119_3 _ _).2 rfl)
            refine all_snoc (.inr ⟨by decide, fun S119_2 g119_2 V119_2 w119_2 F119_2 cx119_2 hM119_2 => ?_⟩) ?_
            · -- op 2
              obtain hv1_V119_2 : g119_2 41 = .pointer (some ⟨b67, 0, none⟩) := (hG119_1 _ _).1 (cx119_2.fact 1 41 (by decide) (cx119_2.dep 1 (by kernel_rfl)) (by kernel_rfl))
              refine wpF_see 41 (.pointer (some ⟨b67, 0, none⟩)) (Eq.trans (by kernel_rfl) hv1_V119_2) ?_
              refine wpF_loadB hM119_2 #[.bool (true), .slice Ank (nk).length cnk, .slice Anv (nv).length cnv, .slice Anc (nc).length cnc] (fun i v hi => (((le80.trans le94).trans le107).trans cx119_2.le) _ _ _ (hc73 i v hi)) (h := (by kernel_rfl : opAt _ _ _ _ _ = some (Go.Op.load 4 (Go.Operand.tmp 41), some 42))) (off := 0) (by kernel_rfl) (.bool (true)) (by kernel_rfl) ?_
              refine wpF_end _ (by kernel_rfl) (then_n ?_)
              exact one_in (some 42) (by kernel_rfl) (.bool (true)) _ [(41, .pointer (some ⟨b67, 0, none⟩))] (seen_cons (Eq.trans (by kernel_rfl) hv1_V119_2) seen_nil) (by kernel_rfl) (VT.le.refl _) hM119_2 ((hG119_2 _ _).2 rfl)
            refine all_snoc (.inr ⟨by decide, fun S119_1 g119_1 V119_1 w119_1 F119_1 cx119_1 hM119_1 => ?_⟩) ?_
            · -- op 1
              refine wpF_seg 1 (by kernel_rfl) ?_
              refine wpF_end _ (by kernel_rfl) (then_n ?_)
              exact one_in (some 41) (by kernel_rfl) (.pointer (some ⟨b67, 0, none⟩)) _ [] seen_nil (by kernel_rfl) (VT.le.refl _) hM119_1 ((hG119_1 _ _).2 rfl)
            refine all_snoc (.inr ⟨by decide, fun S119_0 g119_0 V119_0 w119_0 F119_0 cx119_0 hM119_0 => ?_⟩) ?_
            · -- op 0
              refine wpF_seg 1 (by kernel_rfl) ?_
              refine wpF_end _ (by kernel_rfl) (then_n ?_)
              exact one_in (some 40) (by kernel_rfl) (.int .i64 ((i : Int))) _ [] seen_nil (by kernel_rfl) (VT.le.refl _) hM119_0 ((hG119_0 _ _).2 rfl)
            exact all_none
          · -- behind it
            intro ge119 Ve119 we119 hMe119 hle119 hf119
            refine wpF_stop (P := Try.prog) (ops := #[]) (i := 0) _ rfl ?_
            obtain hv19_Ve119 : ge119 4 = .int .i64 ((i : Int)) := (hG119_19 _ _).1 (hf119 19 4 (by decide) (by kernel_rfl))
            obtain ⟨hv20_Ve119, l118⟩ : ge119 5 = .bool (decide (((nk.getD (i) [])) = (y))) ∧ ((nk.getD (i) []).length ≤ 140737488355328) := (hG119_20 _ _).1 (hf119 20 5 (by decide) (by kernel_rfl))
            obtain hv0_Ve119 : ge119 40 = .int .i64 ((i : Int)) := (hG119_0 _ _).1 (hf119 0 40 (by decide) (by kernel_rfl))
            obtain hv1_Ve119 : ge119 41 = .pointer (some ⟨b67, 0, none⟩) := (hG119_1 _ _).1 (hf119 1 41 (by decide) (by kernel_rfl))
            obtain hv2_Ve119 : ge119 42 = .bool (true) := (hG119_2 _ _).1 (hf119 2 42 (by decide) (by kernel_rfl))
            obtain hv3_Ve119 : ge119 43 = .bool (true) := (hG119_3 _ _).1 (hf119 3 43 (by decide) (by kernel_rfl))
            obtain hv4_Ve119 : ge119 44 = .int .i64 ((i : Int)) := (hG119_4 _ _).1 (hf119 4 44 (by decide) (by kernel_rfl))
            obtain hv5_Ve119 : ge119 45 = .pointer (some ⟨b67, 1, none⟩) := (hG119_5 _ _).1 (hf119 5 45 (by decide) (by kernel_rfl))
            obtain hv6_Ve119 : ge119 46 = .slice Ank (nk).length cnk := (hG119_6 _ _).1 (hf119 6 46 (by decide) (by kernel_rfl))
            obtain hv7_Ve119 : ge119 47 = .int .i64 ((nk.length : Int)) := (hG119_7 _ _).1 (hf119 7 47 (by decide) (by kernel_rfl))
            obtain hv8_Ve119 : ge119 48 = .bool (true) := (hG119_8 _ _).1 (hf119 8 48 (by decide) (by kernel_rfl))
            obtain hv9_Ve119 : ge119 49 = .bool (true) := (hG119_9 _ _).1 (hf119 9 49 (by decide) (by kernel_rfl))
            obtain hv10_Ve119 : ge119 50 = .bool (true) := (hG119_10 _ _).1 (hf119 10 50 (by decide) (by kernel_rfl))
            obtain hv11_Ve119 : ge119 51 = .pointer (some ⟨b67, 1, none⟩) := (hG119_11 _ _).1 (hf119 11 51 (by decide) (by kernel_rfl))
            obtain hv12_Ve119 : ge119 52 = .slice Ank (nk).length cnk := (hG119_12 _ _).1 (hf119 12 52 (by decide) (by kernel_rfl))
            obtain hv13_Ve119 : ge119 53 = .int .i64 ((i : Int)) := (hG119_13 _ _).1 (hf119 13 53 (by decide) (by kernel_rfl))
            obtain ⟨b115, o116, hv14_Ve119, at_b115, l118⟩ : ∃ b115 : Nat, ∃ o116 : Nat, ge119 54 = .pointer (some ⟨b115, o116, none⟩) ∧ (At strK Ve119 b115 o116 ((nk.getD (i) []))) ∧ ((nk.getD (i) []).length ≤ 140737488355328) := (hG119_14 _ _).1 (hf119 14 54 (by decide) (by kernel_rfl))
            have c121 : Ve119 b115 o116 = some (bs (nk.getD (i) [])) := (At.str at_b115).1
            have l122 : (nk.getD (i) []).length ≤ 140737488355328 := (At.str at_b115).2
            obtain ⟨hv15_Ve119, l118⟩ : ge119 55 = bs ((nk.getD (i) [])) ∧ ((nk.getD (i) []).length ≤ 140737488355328) := (hG119_15 _ _).1 (hf119 15 55 (by decide) (by kernel_rfl))
            obtain hv16_Ve119 : ge119 56 = bs (y) := (hG119_16 _ _).1 (hf119 16 56 (by decide) (by kernel_rfl))
            obtain ⟨hv17_Ve119, l118⟩ : ge119 57 = .bool (decide (((nk.getD (i) [])) = (y))) ∧ ((nk.getD (i) []).length ≤ 140737488355328) := (hG119_17 _ _).1 (hf119 17 57 (by decide) (by kernel_rfl))
            obtain ⟨hv18_Ve119, l118⟩ : ge119 58 = .bool (decide (((nk.getD (i) [])) = (y))) ∧ ((nk.getD (i) []).length ≤ 140737488355328) := (hG119_18 _ _).1 (hf119 18 58 (by decide) (by kernel_rfl))
            refine wpF_see 4 (.int .i64 ((i : Int))) (Eq.trans (by kernel_rfl) hv19_Ve119) ?_
            refine wpF_see 5 (.bool (decide (((nk.getD (i) [])) = (y)))) (Eq.trans (by kernel_rfl) hv20_Ve119) ?_
            refine wpF_see 40 (.int .i64 ((i : Int))) (Eq.trans (by kernel_rfl) hv0_Ve119) ?_
            refine wpF_see 41 (.pointer (some ⟨b67, 0, none⟩)) (Eq.trans (by kernel_rfl) hv1_Ve119) ?_
            refine wpF_see 42 (.bool (true)) (Eq.trans (by kernel_rfl) hv2_Ve119) ?_
            refine wpF_see 43 (.bool (true)) (Eq.trans (by kernel_rfl) hv3_Ve119) ?_
            refine wpF_see 44 (.int .i64 ((i : Int))) (Eq.trans (by kernel_rfl) hv4_Ve119) ?_
            refine wpF_see 45 (.pointer (some ⟨b67, 1, none⟩)) (Eq.trans (by kernel_rfl) hv5_Ve119) ?_
            refine wpF_see 46 (.slice Ank (nk).length cnk) (Eq.trans (by kernel_rfl) hv6_Ve119) ?_
            refine wpF_see 47 (.int .i64 ((nk.length : Int))) (Eq.trans (by kernel_rfl) hv7_Ve119) ?_
            refine wpF_see 48 (.bool (true)) (Eq.trans (by kernel_rfl) hv8_Ve119) ?_
            refine wpF_see 49 (.bool (true)) (Eq.trans (by kernel_rfl) hv9_Ve119) ?_
            refine wpF_see 50 (.bool (true)) (Eq.trans (by kernel_rfl) hv10_Ve119) ?_
            refine wpF_see 51 (.pointer (some ⟨b67, 1, none⟩)) (Eq.trans (by kernel_rfl) hv11_Ve119) ?_
            refine wpF_see 52 (.slice Ank (nk).length cnk) (Eq.trans (by kernel_rfl) hv12_Ve119) ?_
            refine wpF_see 53 (.int .i64 ((i : Int))) (Eq.trans (by kernel_rfl) hv13_Ve119) ?_
            refine wpF_see 54 (.pointer (some ⟨b115, o116, none⟩)) (Eq.trans (by kernel_rfl) hv14_Ve119) ?_
            refine wpF_see 55 (bs ((nk.getD (i) []))) (Eq.trans (by kernel_rfl) hv15_Ve119) ?_
            refine wpF_see 56 (bs (y)) (Eq.trans (by kernel_rfl) hv16_Ve119) ?_
            refine wpF_see 57 (.bool (decide (((nk.getD (i) [])) = (y)))) (Eq.trans (by kernel_rfl) hv17_Ve119) ?_
            refine wpF_see 58 (.bool (decide (((nk.getD (i) [])) = (y)))) (Eq.trans (by kernel_rfl) hv18_Ve119) ?_
            refine wpF_end _ (by kernel_rfl) (then_n (hK114 _ _ ?_))
            refine wp_ret ?_
            refine retN [.int .i64 ((i : Int)), .bool (decide (((nk.getD (i) [])) = (y)))] (.tuple #[.int .i64 ((i : Int)), .bool (decide (((nk.getD (i) [])) = (y)))]) Try.results25 (.tmp (by kernel_rfl) (by kernel_rfl) (.tmp (by kernel_rfl) (by kernel_rfl) .nil)) (by kernel_rfl) (hRet _ _ ⟨_, _, rfl, hMe119.clear, ?_⟩)
            -- end TfLtf
            first | (simp only [findI, findB, h110, h83, h86, h98, cond_false, Bool.false_and]; done) | ((first | have e := find_t (vs := nv) (kids := nc) (y := y) (i := i) (by assumption) (by omega) (by assumption) (by first | exact .inl (by assumption) | exact .inr (by assumption)) | have e := find_f (vs := nv) (kids := nc) (y := y) (i := i) (by assumption) (by omega) (by assumption) (by first | exact .inl (by assumption) | exact .inr (tri (by assumption) (by assumption)))); delta findI findB; rw [e]; simp only [h110, h83, h86, h98, cond_true, cond_false, Bool.true_and, Bool.and_true, Bool.false_and, Bool.and_false])
      · -- TfLf
        have p124 : ¬ (((i : Int)) < ((nk.length : Int))) := of_decide_eq_false h98
        refine wpF_seg 22 (by kernel_rfl) ?_
        refine wpF_end _ (by kernel_rfl) (then_n (hK97 _ _ ?_))
        refine wp_cf (by kernel_rfl) ?_
        refine wp_exit (then_x (then_x (blk_hit (then_n (hK88 _ _ ?_)))))
        refine wp_seq_k (fun K125 hK125 => ?_)
        refine wp_base [(1, bs (y)), (2, .pointer (some ⟨b67, 0, none⟩)), (6, .int .i64 ((i : Int)))] (by kernel_rfl) (fun g0_126 => ?_)
        obtain ⟨G126, hGm126, hG126_0, hG126_1, hG126_2, hG126_3, hG126_4, hG126_5, hG126_6, hG126_7, hG126_8, hG126_9, hG126_10, hG126_11, hG126_12, hG126_13, hG126_14, hG126_15, hG126_16, hG126_17, hG126_18, hG126_19, hG126_20⟩ : ∃ G : Nat → Value → VT → Prop, (∀ j v V V', VT.le V V' → G j v V → G j v V') ∧ (∀ v_ V_, G 0 v_ V_ ↔ (v_ = .int .i64 ((i : Int)))) ∧ (∀ v_ V_, G 1 v_ V_ ↔ (v_ = .pointer (some ⟨b67, 0, none⟩))) ∧ (∀ v_ V_, G 2 v_ V_ ↔ (v_ = .bool (true))) ∧ (∀ v_ V_, G 3 v_ V_ ↔ (v_ = .bool (true))) ∧ (∀ v_ V_, G 4 v_ V_ ↔ (v_ = .int .i64 ((i : Int)))) ∧ (∀ v_ V_, G 5 v_ V_ ↔ (v_ = .pointer (some ⟨b67, 1, none⟩))) ∧ (∀ v_ V_, G 6 v_ V_ ↔ (v_ = .slice Ank (nk).length cnk)) ∧ (∀ v_ V_, G 7 v_ V_ ↔ (v_ = .int .i64 ((nk.length : Int)))) ∧ (∀ v_ V_, G 8 v_ V_ ↔ (v_ = .bool (false))) ∧ (∀ v_ V_, G 9 v_ V_ ↔ (v_ = .bool (false))) ∧ (∀ v_ V_, G 10 v_ V_ ↔ (v_ = .bool (false))) ∧ (∀ v_ V_, G 11 v_ V_ ↔ (v_ = undef)) ∧ (∀ v_ V_, G 12 v_ V_ ↔ (v_ = undef)) ∧ (∀ v_ V_, G 13 v_ V_ ↔ (v_ = undef)) ∧ (∀ v_ V_, G 14 v_ V_ ↔ (v_ = undef)) ∧ (∀ v_ V_, G 15 v_ V_ ↔ (v_ = undef)) ∧ (∀ v_ V_, G 16 v_ V_ ↔ (v_ = undef)) ∧ (∀ v_ V_, G 17 v_ V_ ↔ (v_ = undef)) ∧ (∀ v_ V_, G 18 v_ V_ ↔ (v_ = .bool (false))) ∧ (∀ v_ V_, G 19 v_ V_ ↔ (v_ = .int .i64 ((i : Int)))) ∧ (∀ v_ V_, G 20 v_ V_ ↔ (v_ = .bool (false))) :=
            ⟨mG [mV (.int .i64 ((i : Int))), mV (.pointer (some ⟨b67, 0, none⟩)), mV (.bool (true)), mV (.bool (true)), mV (.int .i64 ((i : Int))), mV (.pointer (some ⟨b67, 1, none⟩)), mV (.slice Ank (nk).length cnk), mV (.int .i64 ((nk.length : Int))), mV (.bool (false)), mV (.bool (false)), mV (.bool (false)), mV undef, mV undef, mV undef, mV undef, mV undef, mV undef, mV undef, mV (.bool (false)), mV (.int .i64 ((i : Int))), mV (.bool (false))], mG_up _, fun _ _ => Iff.rfl, fun _ _ => Iff.rfl, fun _ _ => Iff.rfl, fun _ _ => Iff.rfl, fun _ _ => Iff.rfl, fun _ _ => Iff.rfl, fun _ _ => Iff.rfl, fun _ _ => Iff.rfl, fun _ _ => Iff.rfl, fun _ _ => Iff.rfl, fun _ _ => Iff.rfl, fun _ _ => Iff.rfl, fun _ _ => Iff.rfl, fun _ _ => Iff.rfl, fun _ _ => Iff.rfl, fun _ _ => Iff.rfl, fun _ _ => Iff.rfl, fun _ _ => Iff.rfl, fun _ _ => Iff.rfl, fun _ _ => Iff.rfl, fun _ _ => Iff.rfl⟩
        refine wp_drawG (L0 := [(1, bs (y)), (2, .pointer (some ⟨b67, 0, none⟩)), (6, .int .i64 ((i : Int)))]) 21 (by kernel_rfl) (by kernel_rfl) (by kernel_rfl) (by kernel_rfl) (by kernel_rfl) G126 hGm126 [] pre_nil (by kernel_rfl) [] (by kernel_rfl) (fun (S : Nat → Bool) (g : Nat → Value) => ([] : List Ent)) (fun _ _ _ _ _ => rfl) hM93 ?_ ?_
        · -- the operations
          refine all_snoc (.inr ⟨by decide, fun S126_20 g126_20 V126_20 w126_20 F126_20 cx126_20 hM126_20 => ?_⟩) ?_
          · -- op 20
            obtain hv18_V126_20 : g126_20 58 = .bool (false) := (hG126_18 _ _).1 (cx126_20.fact 18 58 (by decide) (cx126_20.dep 18 (by kernel_rfl)) (by kernel_rfl))
            refine wpF_see 58 (.bool (false)) (Eq.trans (by kernel_rfl) hv18_V126_20) ?_
            refine wpF_seg 1 (by kernel_rfl) ?_
            refine wpF_end _ (by kernel_rfl) (then_n ?_)
            exact one_in (some 5) (by kernel_rfl) (.bool (false)) _ [(58, .bool (false))] (seen_cons (Eq.trans (by kernel_rfl) hv18_V126_20) seen_nil) (by kernel_rfl) (VT.le.refl _) hM126_20 ((hG126_20 _ _).2 rfl)
          refine all_snoc (.inr ⟨by decide, fun S126_19 g126_19 V126_19 w126_19 F126_19 cx126_19 hM126_19 => ?_⟩) ?_
          · -- op 19
            obtain hv0_V126_19 : g126_19 40 = .int .i64 ((i : Int)) := (hG126_0 _ _).1 (cx126_19.fact 0 40 (by decide) (cx126_19.dep 0 (by kernel_rfl)) (by kernel_rfl))
            refine wpF_see 40 (.int .i64 ((i : Int))) (Eq.trans (by kernel_rfl) hv0_V126_19) ?_
            refine wpF_seg 1 (by kernel_rfl) ?_
            refine wpF_end _ (by kernel_rfl) (then_n ?_)
            exact one_in (some 4) (by kernel_rfl) (.int .i64 ((i : Int))) _ [(40, .int .i64 ((i : Int)))] (seen_cons (Eq.trans (by kernel_rfl) hv0_V126_19) seen_nil) (by kernel_rfl) (VT.le.refl _) hM126_19 ((hG126_19 _ _).2 rfl)
          refine all_snoc (.inr ⟨by decide, fun S126_18 g126_18 V126_18 w126_18 F126_18 cx126_18 hM126_18 => ?_⟩) ?_
          · -- op 18
            obtain hv10_V126_18 : g126_18 50 = .bool (false) := (hG126_10 _ _).1 (cx126_18.fact 10 50 (by decide) (cx126_18.dep 10 (by kernel_rfl)) (by kernel_rfl))
            obtain hv17_V126_18 : g126_18 57 = undef := (hG126_17 _ _).1 (cx126_18.fact 17 57 (by decide) (cx126_18.dep 17 (by kernel_rfl)) (by kernel_rfl))
            refine wpF_see 50 (.bool (false)) (Eq.trans (by kernel_rfl) hv10_V126_18) ?_
            refine wpF_see 57 (undef) (Eq.trans (by kernel_rfl) hv17_V126_18) ?_
            refine wpF_seg 1 (by kernel_rfl) ?_
            refine wpF_end _ (by kernel_rfl) (then_n ?_)
            exact one_in (some 58) (by kernel_rfl) (.bool (false)) _ [(57, undef), (50, .bool (false))] (seen_cons (Eq.trans (by kernel_rfl) hv17_V126_18) (seen_cons (Eq.trans (by kernel_rfl) hv10_V126_18) seen_nil)) (by kernel_rfl) (VT.le.refl _) hM126_18 ((hG126_18 _ _).2 rfl)
          refine all_snoc (.inr ⟨by decide, fun S126_17 g126_17 V126_17 w126_17 F126_17 cx126_17 hM126_17 => ?_⟩) ?_
          · -- op 17
            obtain hv10_V126_17 : g126_17 50 = .bool (false) := (hG126_10 _ _).1 (cx126_17.fact 10 50 (by decide) (cx126_17.dep 10 (by kernel_rfl)) (by kernel_rfl))
            obtain hv15_V126_17 : g126_17 55 = undef := (hG126_15 _ _).1 (cx126_17.fact 15 55 (by decide) (cx126_17.dep 15 (by kernel_rfl)) (by kernel_rfl))
            obtain hv16_V126_17 : g126_17 56 = undef := (hG126_16 _ _).1 (cx126_17.fact 16 56 (by decide) (cx126_17.dep 16 (by kernel_rfl)) (by kernel_rfl))
            refine wpF_see 50 (.bool (false)) (Eq.trans (by kernel_rfl) hv10_V126_17) ?_
            refine wpF_see 55 (undef) (Eq.trans (by kernel_rfl) hv15_V126_17) ?_
            refine wpF_see 56 (undef) (Eq.trans (by kernel_rfl) hv16_V126_17) ?_
            refine wpF_seg 1 (by kernel_rfl) ?_
            refine wpF_end _ (by kernel_rfl) (then_n ?_)
            exact one_in (some 57) (by kernel_rfl) (undef) _ [(56, undef), (55, undef), (50, .bool (false))] (seen_cons (Eq.trans (by kernel_rfl) hv16_V126_17) (seen_cons (Eq.trans (by kernel_rfl) hv15_V126_17) (seen_cons (Eq.trans (by kernel_rfl) hv10_V126_17) seen_nil))) (by kernel_rfl) (VT.le.refl _) hM126_17 ((hG126_17 _ _).2 rfl)
          refine all_snoc (.inr ⟨by decide, fun S126_16 g126_16 V126_16 w126_16 F126_16 cx126_16 hM126_16 => ?_⟩) ?_
          · -- op 16
            obtain hv10_V126_16 : g126_16 50 = .bool (false) := (hG126_10 _ _).1 (cx126_16.fact 10 50 (by decide) (cx126_16.dep 10 (by kernel_rfl)) (by kernel_rfl))
            refine wpF_see 50 (.bool (false)) (Eq.trans (by kernel_rfl) hv10_V126_16) ?_
            refine wpF_seg 1 (by kernel_rfl) ?_
            refine wpF_end _ (by kernel_rfl) (then_n ?_)
            exact one_in (some 56) (by kernel_rfl) (undef) _ [(50, .bool (false))] (seen_cons (Eq.trans (by kernel_rfl) hv10_V126_16) seen_nil) (by kernel_rfl) (VT.le.refl _) hM126_16 ((hG126_16 _ _).2 rfl)
          refine all_snoc (.inr ⟨by decide, fun S126_15 g126_15 V126_15 w126_15 F126_15 cx126_15 hM126_15 => ?_⟩) ?_
          · -- op 15
            obtain hv10_V126_15 : g126_15 50 = .bool (false) := (hG126_10 _ _).1 (cx126_15.fact 10 50 (by decide) (cx126_15.dep 10 (by kernel_rfl)) (by kernel_rfl))
            obtain hv14_V126_15 : g126_15 54 = undef := (hG126_14 _ _).1 (cx126_15.fact 14 54 (by decide) (cx126_15.dep 14 (by kernel_rfl)) (by kernel_rfl))
            refine wpF_see 50 (.bool (false)) (Eq.trans (by kernel_rfl) hv10_V126_15) ?_
            refine wpF_see 54 (undef) (Eq.trans (by kernel_rfl) hv14_V126_15) ?_
            refine wpF_seg 1 (by kernel_rfl) ?_
            refine wpF_end _ (by kernel_rfl) (then_n ?_)
            exact one_in (some 55) (by kernel_rfl) (undef) _ [(54, undef), (50, .bool (false))] (seen_cons (Eq.trans (by kernel_rfl) hv14_V126_15) (seen_cons (Eq.trans (by kernel_rfl) hv10_V126_15) seen_nil)) (by kernel_rfl) (VT.le.refl _) hM126_15 ((hG126_15 _ _).2 rfl)
          refine all_snoc (.inr ⟨by decide, fun S126_14 g126_14 V126_14 w126_14 F126_14 cx126_14 hM126_14 => ?_⟩) ?_
          · -- op 14
            obtain hv10_V126_14 : g126_14 50 = .bool (false) := (hG126_10 _ _).1 (cx126_14.fact 10 50 (by decide) (cx126_14.dep 10 (by kernel_rfl)) (by kernel_rfl))
            obtain hv12_V126_14 : g126_14 52 = undef := (hG126_12 _ _).1 (cx126_14.fact 12 52 (by decide) (cx126_14.dep 12 (by kernel_rfl)) (by kernel_rfl))
            obtain hv13_V126_14 : g126_14 53 = undef := (hG126_13 _ _).1 (cx126_14.fact 13 53 (by decide) (cx126_14.dep 13 (by kernel_rfl)) (by kernel_rfl))
            refine wpF_see 50 (.bool (false)) (Eq.trans (by kernel_rfl) hv10_V126_14) ?_
            refine wpF_see 52 (undef) (Eq.trans (by kernel_rfl) hv12_V126_14) ?_
            refine wpF_see 53 (undef) (Eq.trans (by kernel_rfl) hv13_V126_14) ?_
            refine wpF_seg 1 (by kernel_rfl) ?_
            refine wpF_end _ (by kernel_rfl) (then_n ?_)
            exact one_in (some 54) (by kernel_rfl) (undef) _ [(53, undef), (52, undef), (50, .bool (false))] (seen_cons (Eq.trans (by kernel_rfl) hv13_V126_14) (seen_cons (Eq.trans (by kernel_rfl) hv12_V126_14) (seen_cons (Eq.trans (by kernel_rfl) hv10_V126_14) seen_nil))) (by kernel_rfl) (VT.le.refl _) hM126_14 ((hG126_14 _ _).2 rfl)
          refine all_snoc (.inr ⟨by decide, fun S126_13 g126_13 V126_13 w126_13 F126_13 cx126_13 hM126_13 => ?_⟩) ?_
          · -- op 13
            obtain hv10_V126_13 : g126_13 50 = .bool (false) := (hG126_10 _ _).1 (cx126_13.fact 10 50 (by decide) (cx126_13.dep 10 (by kernel_rfl)) (by kernel_rfl))
            refine wpF_see 50 (.bool (false)) (Eq.trans (by kernel_rfl) hv10_V126_13) ?_
            refine wpF_seg 1 (by kernel_rfl) ?_
            refine wpF_end _ (by kernel_rfl) (then_n ?_)
            exact one_in (some 53) (by kernel_rfl) (undef) _ [(50, .bool (false))] (seen_cons (Eq.trans (by kernel_rfl) hv10_V126_13) seen_nil) (by kernel_rfl) (VT.le.refl _) hM126_13 ((hG126_13 _ _).2 rfl)
          refine all_snoc (.inr ⟨by decide, fun S126_12 g126_12 V126_12 w126_12 F126_12 cx126_12 hM126_12 => ?_⟩) ?_
          · -- op 12
            obtain hv10_V126_12 : g126_12 50 = .bool (false) := (hG126_10 _ _).1 (cx126_12.fact 10 50 (by decide) (cx126_12.dep 10 (by kernel_rfl)) (by kernel_rfl))
            obtain hv11_V126_12 : g126_12 51 = undef := (hG126_11 _ _).1 (cx126_12.fact 11 51 (by decide) (cx126_12.dep 11 (by kernel_rfl)) (by kernel_rfl))
            refine wpF_see 50 (.bool (false)) (Eq.trans (by kernel_rfl) hv10_V126_12) ?_
            refine wpF_see 51 (undef) (Eq.trans (by kernel_rfl) hv11_V126_12) ?_
            refine wpF_seg 1 (by kernel_rfl) ?_
            refine wpF_end _ (by kernel_rfl) (then_n ?_)
            exact one_in (some 52) (by kernel_rfl) (undef) _ [(51, undef), (50, .bool (false))] (seen_cons (Eq.trans (by kernel_rfl) hv11_V126_12) (seen_cons (Eq.trans (by kernel_rfl) hv10_V126_12) seen_nil)) (by kernel_rfl) (VT.le.refl _) hM126_12 ((hG126_12 _ _).2 rfl)
          refine all_snoc (.inr ⟨by decide, fun S126_11 g126_11 V126_11 w126_11 F126_11 cx126_11 hM126_11 => ?_⟩) ?_
          · -- op 11
            obtain hv10_V126_11 : g126_11 50 = .bool (false) := (hG126_10 _ _).1 (cx126_11.fact 10 50 (by decide) (cx126_11.dep 10 (by kernel_rfl)) (by kernel_rfl))
            refine wpF_see 50 (.bool (false)) (Eq.trans (by kernel_rfl) hv10_V126_11) ?_
            refine wpF_seg 1 (by kernel_rfl) ?_
            refine wpF_end _ (by kernel_rfl) (then_n ?_)
            exact one_in (some 51) (by kernel_rfl) (undef) _ [(50, .bool (false))] (seen_cons (Eq.trans (by kernel_rfl) hv10_V126_11) seen_nil) (by kernel_rfl) (VT.le.refl _) hM126_11 ((hG126_11 _ _).2 rfl)
          refine all_snoc (.inr ⟨by decide, fun S126_10 g126_10 V126_10 w126_10 F126_10 cx126_10 hM126_10 => ?_⟩) ?_
          · -- op 10
            obtain hv9_V126_10 : g126_10 49 = .bool (false) := (hG126_9 _ _).1 (cx126_10.fact 9 49 (by decide) (cx126_10.dep 9 (by kernel_rfl)) (by kernel_rfl))
            refine wpF_see 49 (.bool (false)) (Eq.trans (by kernel_rfl) hv9_V126_10) ?_
            refine wpF_seg 1 (by kernel_rfl) ?_
            refine wpF_end _ (by kernel_rfl) (then_n ?_)
            exact one_in (some 50) (by kernel_rfl) (.bool (false)) _ [(49, .bool (false))] (seen_cons (Eq.trans (by kernel_rfl) hv9_V126_10) seen_nil) (by kernel_rfl) (VT.le.refl _) hM126_10 ((hG126_10 _ _).2 rfl)
          refine all_snoc (.inr ⟨by decide, fun S126_9 g126_9 V126_9 w126_9 F126_9 cx126_9 hM126_9 => ?_⟩) ?_
          · -- op 9
            obtain hv3_V126_9 : g126_9 43 = .bool (true) := (hG126_3 _ _).1 (cx126_9.fact 3 43 (by decide) (cx126_9.dep 3 (by kernel_rfl)) (by kernel_rfl))
            obtain hv8_V126_9 : g126_9 48 = .bool (false) := (hG126_8 _ _).1 (cx126_9.fact 8 48 (by decide) (cx126_9.dep 8 (by kernel_rfl)) (by kernel_rfl))
            refine wpF_see 43 (.bool (true)) (Eq.trans (by kernel_rfl) hv3_V126_9) ?_
            refine wpF_see 48 (.bool (false)) (Eq.trans (by kernel_rfl) hv8_V126_9) ?_
            refine wpF_seg 1 (by kernel_rfl) ?_
            refine wpF_end _ (by kernel_rfl) (then_n ?_)
            exact one_in (some 49) (by kernel_rfl) (.bool (false)) _ [(48, .bool (false)), (43, .bool (true))] (seen_cons (Eq.trans (by kernel_rfl) hv8_V126_9) (seen_cons (Eq.trans (by kernel_rfl) hv3_V126_9) seen_nil)) (by kernel_rfl) (VT.le.refl _) hM126_9 ((hG126_9 _ _).2 rfl)
          refine all_snoc (.inr ⟨by decide, fun S126_8 g126_8 V126_8 w126_8 F126_8 cx126_8 hM126_8 => ?_⟩) ?_
          · -- op 8
            obtain hv3_V126_8 : g126_8 43 = .bool (true) := (hG126_3 _ _).1 (cx126_8.fact 3 43 (by decide) (cx126_8.dep 3 (by kernel_rfl)) (by kernel_rfl))
            obtain hv4_V126_8 : g126_8 44 = .int .i64 ((i : Int)) := (hG126_4 _ _).1 (cx126_8.fact 4 44 (by decide) (cx126_8.dep 4 (by kernel_rfl)) (by kernel_rfl))
            obtain hv7_V126_8 : g126_8 47 = .int .i64 ((nk.length : Int)) := (hG126_7 _ _).1 (cx126_8.fact 7 47 (by decide) (cx126_8.dep 7 (by kernel_rfl)) (by kernel_rfl))
            refine wpF_see 43 (.bool (true)) (Eq.trans (by kernel_rfl) hv3_V126_8) ?_
            refine wpF_see 44 (.int .i64 ((i : Int))) (Eq.trans (by kernel_rfl) hv4_V126_8) ?_
            refine wpF_see 47 (.int .i64 ((nk.length : Int))) (Eq.trans (by kernel_rfl) hv7_V126_8) ?_
            refine wpF_seg 1 (by kernel_rfl) ?_
            refine wpF_slot 48 (.bool (decide (((i : Int)) < ((nk.length : Int))))) (.bool false) (by kernel_rfl) (by kernel_rfl) (by rw [h98]) ?_
            refine wpF_end _ (by kernel_rfl) (then_n ?_)
            exact one_in (some 48) (by kernel_rfl) (.bool (false)) _ [(47, .int .i64 ((nk.length : Int))), (44, .int .i64 ((i : Int))), (43, .bool (true))] (seen_cons (Eq.trans (by kernel_rfl) hv7_V126_8) (seen_cons (Eq.trans (by kernel_rfl) hv4_V126_8) (seen_cons (Eq.trans (by kernel_rfl) hv3_V126_8) seen_nil))) (by kernel_rfl) (VT.le.refl _) hM126_8 ((hG126_8 _ _).2 rfl)
          refine all_snoc (.inr ⟨by decide, fun S126_7 g126_7 V126_7 w126_7 F126_7 cx126_7 hM126_7 => ?_⟩) ?_
          · -- op 7
            obtain hv3_V126_7 : g126_7 43 = .bool (true) := (hG126_3 _ _).1 (cx126_7.fact 3 43 (by decide) (cx126_7.dep 3 (by kernel_rfl)) (by kernel_rfl))
            obtain hv6_V126_7 : g126_7 46 = .slice Ank (nk).length cnk := (hG126_6 _ _).1 (cx126_7.fact 6 46 (by decide) (cx126_7.dep 6 (by kernel_rfl)) (by kernel_rfl))
            refine wpF_see 43 (.bool (true)) (Eq.trans (by kernel_rfl) hv3_V126_7) ?_
            refine wpF_see 46 (.slice Ank (nk).length cnk) (Eq.trans (by kernel_rfl) hv6_V126_7) ?_
            refine wpF_seg 1 (by kernel_rfl) ?_
            refine wpF_end _ (by kernel_rfl) (then_n ?_)
            exact one_in (some 47) (by kernel_rfl) (.int .i64 ((nk.length : Int))) _ [(46, .slice Ank (nk).length cnk), (43, .bool (true))] (seen_cons (Eq.trans (by kernel_rfl) hv6_V126_7) (seen_cons (Eq.trans (by kernel_rfl) hv3_V126_7) seen_nil)) (by kernel_rfl) (VT.le.refl _) hM126_7 ((hG126_7 _ _).2 rfl)
          refine all_snoc (.inr ⟨by decide, fun S126_6 g126_6 V126_6 w126_6 F126_6 cx126_6 hM126_6 => ?_⟩) ?_
          · -- op 6
            obtain hv3_V126_6 : g126_6 43 = .bool (true) := (hG126_3 _ _).1 (cx126_6.fact 3 43 (by decide) (cx126_6.dep 3 (by kernel_rfl)) (by kernel_rfl))
            obtain hv5_V126_6 : g126_6 45 = .pointer (some ⟨b67, 1, none⟩) := (hG126_5 _ _).1 (cx126_6.fact 5 45 (by decide) (cx126_6.dep 5 (by kernel_rfl)) (by kernel_rfl))
            refine wpF_see 43 (.bool (true)) (Eq.trans (by kernel_rfl) hv3_V126_6) ?_
            refine wpF_see 45 (.pointer (some ⟨b67, 1, none⟩)) (Eq.trans (by kernel_rfl) hv5_V126_6) ?_
            refine wpF_loadB hM126_6 #[.bool (true), .slice Ank (nk).length cnk, .slice Anv (nv).length cnv, .slice Anc (nc).length cnc] (fun i v hi => ((le80.trans le94).trans cx126_6.le) _ _ _ (hc73 i v hi)) (h := (by kernel_rfl : opAt _ _ _ _ _ = some (Go.Op.load 22 (Go.Operand.tmp 45), some 46))) (off := 1) (by kernel_rfl) (.slice Ank (nk).length cnk) (by kernel_rfl) ?_
            refine wpF_end _ (by kernel_rfl) (then_n ?_)
            exact one_in (some 46) (by kernel_rfl) (.slice Ank (nk).length cnk) _ [(45, .pointer (some ⟨b67, 1, none⟩)), (43, .bool (true))] (seen_cons (Eq.trans (by kernel_rfl) hv5_V126_6) (seen_cons (Eq.trans (by kernel_rfl) hv3_V126_6) seen_nil)) (by kernel_rfl) (VT.le.refl _) hM126_6 ((hG126_6 _ _).2 rfl)
          refine all_snoc (.inr ⟨by decide, fun S126_5 g126_5 V126_5 w126_5 F126_5 cx126_5 hM126_5 => ?_⟩) ?_
          · -- op 5
            obtain hv3_V126_5 : g126_5 43 = .bool (true) := (hG126_3 _ _).1 (cx126_5.fact 3 43 (by decide) (cx126_5.dep 3 (by kernel_rfl)) (by kernel_rfl))
            refine wpF_see 43 (.bool (true)) (Eq.trans (by kernel_rfl) hv3_V126_5) ?_
            refine wpF_seg 1 (by kernel_rfl) ?_
            refine wpF_end _ (by kernel_rfl) (then_n ?_)
            exact one_in (some 45) (by kernel_rfl) (.pointer (some ⟨b67, 1, none⟩)) _ [(43, .bool (true))] (seen_cons (Eq.trans (by kernel_rfl) hv3_V126_5) seen_nil) (by kernel_rfl) (VT.le.refl _) hM126_5 ((hG126_5 _ _).2 rfl)
          refine all_snoc (.inr ⟨by decide, fun S126_4 g126_4 V126_4 w126_4 F126_4 cx126_4 hM126_4 => ?_⟩) ?_
          · -- op 4
            obtain hv3_V126_4 : g126_4 43 = .bool (true) := (hG126_3 _ _).1 (cx126_4.fact 3 43 (by decide) (cx126_4.dep 3 (by kernel_rfl)) (by kernel_rfl))
            refine wpF_see 43 (.bool (true)) (Eq.trans (by kernel_rfl) hv3_V126_4) ?_
            refine wpF_seg 1 (by kernel_rfl) ?_
            refine wpF_end _ (by kernel_rfl) (then_n ?_)
            exact one_in (some 44) (by kernel_rfl) (.int .i64 ((i : Int))) _ [(43, .bool (true))] (seen_cons (Eq.trans (by kernel_rfl) hv3_V126_4) seen_nil) (by kernel_rfl) (VT.le.refl _) hM126_4 ((hG126_4 _ _).2 rfl)
          refine all_snoc (.inr ⟨by decide, fun S126_3 g126_3 V126_3 w126_3 F126_3 cx126_3 hM126_3 => ?_⟩) ?_
          · -- op 3
            obtain hv2_V126_3 : g126_3 42 = .bool (true) := (hG126_2 _ _).1 (cx126_3.fact 2 42 (by decide) (cx126_3.dep 2 (by kernel_rfl)) (by kernel_rfl))
            refine wpF_see 42 (.bool (true)) (Eq.trans (by kernel_rfl) hv2_V126_3) ?_
            refine wpF_seg 1 (by kernel_rfl) ?_
            refine wpF_end _ (by kernel_rfl) (then_n ?_)
            exact one_in (some 43) (by kernel_rfl) (.bool (true)) _ [(42, .bool (true))] (seen_cons (Eq.trans (by kernel_rfl) hv2_V126_3) seen_nil) (by kernel_rfl) (VT.le.refl _) hM126_3 ((hG126_3 _ _).2 rfl)
          refine all_snoc (.inr ⟨by decide, fun S126_2 g126_2 V126_2 w126_2 F126_2 cx126_2 hM126_2 => ?_⟩) ?_
          · -- op 2
            obtain hv1_V126_2 : g126_2 41 = .pointer (some ⟨b67, 0, none⟩) := (hG126_1 _ _).1 (cx126_2.fact 1 41 (by decide) (cx126_2.dep 1 (by kernel_rfl)) (by kernel_rfl))
            refine wpF_see 41 (.pointer (some ⟨b67, 0, none⟩)) (Eq.trans (by kernel_rfl) hv1_V126_2) ?_
            refine wpF_loadB hM126_2 #[.bool (true), .slice Ank (nk).length cnk, .slice Anv (nv).length cnv, .slice Anc (nc).length cnc] (fun i v hi => ((le80.trans le94).trans cx126_2.le) _ _ _ (hc73 i v hi)) (h := (by kernel_rfl : opAt _ _ _ _ _ = some (Go.Op.load 4 (Go.Operand.tmp 41), some 42))) (off := 0) (by kernel_rfl) (.bool (true)) (by kernel_rfl) ?_
            refine wpF_end _ (by kernel_rfl) (then_n ?_)
            exact one_in (some 42) (by kernel_rfl) (.bool (true)) _ [(41, .pointer (some ⟨b67, 0, none⟩))] (seen_cons (Eq.trans (by kernel_rfl) hv1_V126_2) seen_nil) (by kernel_rfl) (VT.le.refl _) hM126_2 ((hG126_2 _ _).2 rfl)
          refine all_snoc (.inr ⟨by decide, fun S126_1 g126_1 V126_1 w126_1 F126_1 cx126_1 hM126_1 => ?_⟩) ?_
          · -- op 1
            refine wpF_seg 1 (by kernel_rfl) ?_
            refine wpF_end _ (by kernel_rfl) (then_n ?_)
            exact one_in (some 41) (by kernel_rfl) (.pointer (some ⟨b67, 0, none⟩)) _ [] seen_nil (by kernel_rfl) (VT.le.refl _) hM126_1 ((hG126_1 _ _).2 rfl)
          refine all_snoc (.inr ⟨by decide, fun S126_0 g126_0 V126_0 w126_0 F126_0 cx126_0 hM126_0 => ?_⟩) ?_
          · -- op 0
            refine wpF_seg 1 (by kernel_rfl) ?_
            refine wpF_end _ (by kernel_rfl) (then_n ?_)
            exact one_in (some 40) (by kernel_rfl) (.int .i64 ((i : Int))) _ [] seen_nil (by kernel_rfl) (VT.le.refl _) hM126_0 ((hG126_0 _ _).2 rfl)
          exact all_none
        · -- behind it
          intro ge126 Ve126 we126 hMe126 hle126 hf126
          refine wpF_stop (P := Try.prog) (ops := #[]) (i := 0) _ rfl ?_
          obtain hv19_Ve126 : ge126 4 = .int .i64 ((i : Int)) := (hG126_19 _ _).1 (hf126 19 4 (by decide) (by kernel_rfl))
          obtain hv20_Ve126 : ge126 5 = .bool (false) := (hG126_20 _ _).1 (hf126 20 5 (by decide) (by kernel_rfl))
          obtain hv0_Ve126 : ge126 40 = .int .i64 ((i : Int)) := (hG126_0 _ _).1 (hf126 0 40 (by decide) (by kernel_rfl))
          obtain hv1_Ve126 : ge126 41 = .pointer (some ⟨b67, 0, none⟩) := (hG126_1 _ _).1 (hf126 1 41 (by decide) (by kernel_rfl))
          obtain hv2_Ve126 : ge126 42 = .bool (true) := (hG126_2 _ _).1 (hf126 2 42 (by decide) (by kernel_rfl))
          obtain hv3_Ve126 : ge126 43 = .bool (true) := (hG126_3 _ _).1 (hf126 3 43 (by decide) (by kernel_rfl))
          obtain hv4_Ve126 : ge126 44 = .int .i64 ((i : Int)) := (hG126_4 _ _).1 (hf126 4 44 (by decide) (by kernel_rfl))
          obtain hv5_Ve126 : ge126 45 = .pointer (some ⟨b67, 1, none⟩) := (hG126_5 _ _).1 (hf126 5 45 (by decide) (by kernel_rfl))
          obtain hv6_Ve126 : ge126 46 = .slice Ank (nk).length cnk := (hG126_6 _ _).1 (hf126 6 46 (by decide) (by kernel_rfl))
          obtain hv7_Ve126 : ge126 47 = .int .i64 ((nk.length : Int)) := (hG126_7 _ _).1 (hf126 7 47 (by decide) (by kernel_rfl))
          obtain hv8_Ve126 : ge126 48 = .bool (false) := (hG126_8 _ _).1 (hf126 8 48 (by decide) (by kernel_rfl))
          obtain hv9_Ve126 : ge126 49 = .bool (false) := (hG126_9 _ _).1 (hf126 9 49 (by decide) (by kernel_rfl))
          obtain hv10_Ve126 : ge126 50 = .bool (false) := (hG126_10 _ _).1 (hf126 10 50 (by decide) (by kernel_rfl))
          obtain hv18_Ve126 : ge126 58 = .bool (false) := (hG126_18 _ _).1 (hf126 18 58 (by decide) (by kernel_rfl))
          refine wpF_see 4 (.int .i64 ((i : Int))) (Eq.trans (by kernel_rfl) hv19_Ve126) ?_
          refine wpF_see 5 (.bool (false)) (Eq.trans (by kernel_rfl) hv20_Ve126) ?_
          refine wpF_see 40 (.int .i64 ((i : Int))) (Eq.trans (by kernel_rfl) hv0_Ve126) ?_
          refine wpF_see 41 (.pointer (some ⟨b67, 0, none⟩)) (Eq.trans (by kernel_rfl) hv1_Ve126) ?_
          refine wpF_see 42 (.bool (true)) (Eq.trans (by kernel_rfl) hv2_Ve126) ?_
          refine wpF_see 43 (.bool (true)) (Eq.trans (by kernel_rfl) hv3_Ve126) ?_
          refine wpF_see 44 (.int .i64 ((i : Int))) (Eq.trans (by kernel_rfl) hv4_Ve126) ?_
          refine wpF_see 45 (.pointer (some ⟨b67, 1, none⟩)) (Eq.trans (by kernel_rfl) hv5_Ve126) ?_
          refine wpF_see 46 (.slice Ank (nk).length cnk) (Eq.trans (by kernel_rfl) hv6_Ve126) ?_
          refine wpF_see 47 (.int .i64 ((nk.length : Int))) (Eq.trans (by kernel_rfl) hv7_Ve126) ?_
          refine wpF_see 48 (.bool (false)) (Eq.trans (by kernel_rfl) hv8_Ve126) ?_
          refine wpF_see 49 (.bool (false)) (Eq.trans (by kernel_rfl) hv9_Ve126) ?_
          refine wpF_see 50 (.bool (false)) (Eq.trans (by kernel_rfl) hv10_Ve126) ?_
          refine wpF_see 58 (.bool (false)) (Eq.trans (by kernel_rfl) hv18_Ve126) ?_
          refine wpF_end _ (by kernel_rfl) (then_n (hK125 _ _ ?_))
          refine wp_ret ?_
          refine retN [.int .i64 ((i : Int)), .bool (false)] (.tuple #[.int .i64 ((i : Int)), .bool (false)]) Try.results25 (.tmp (by kernel_rfl) (by kernel_rfl) (.tmp (by kernel_rfl) (by kernel_rfl) .nil)) (by kernel_rfl) (hRet _ _ ⟨_, _, rfl, hMe126.clear, ?_⟩)
          -- end TfLf
          first | (simp only [findI, findB, h83, h86, h98, cond_false, Bool.false_and]; done) | ((first | have e := find_t (vs := nv) (kids := nc) (y := y) (i := i) (by assumption) (by omega) (by assumption) (by first | exact .inl (by assumption) | exact .inr (by assumption)) | have e := find_f (vs := nv) (kids := nc) (y := y) (i := i) (by assumption) (by omega) (by assumption) (by first | exact .inl (by assumption) | exact .inr (tri (by assumption) (by assumption)))); delta findI findB; rw [e]; simp only [h83, h86, h98, cond_true, cond_false, Bool.true_and, Bool.and_true, Bool.false_and, Bool.and_false])

end Go.Vk
