/- Contracts of the page's functions, part G: printed by wip/tools/p8.py. -/
import Derived.Test.YtpaljghjoajhfaaPF
set_option linter.unusedVariables false
set_option linter.unusedSimpArgs false
namespace Go.Vk
open Go.Proofs
set_option maxRecDepth 100000 in
theorem f35 (V : VT) (w : World) (hV : V.inW w) (nl : Bool) (Ank : Option Addr) (cnk : Nat) (nk : List Str) (hnk : Rd strK V Ank cnk nk) (Anv : Option Addr) (cnv : Nat) (nv : List Str) (hnv : Rd strK V Anv cnv nv) (Anc : Option Addr) (cnc : Nat) (nc : List Int) (hnc : Rd (intK .i64) V Anc cnc nc) :
    Calls Try.prog 35 #[.agg #[.bool (nl), .slice Ank (nk).length cnk, .slice Anv (nv).length cnv, .slice Anc (nc).length cnc]] w (RetP V w fun rv V' => rv = .bool (stands nl nk nv nc)) := by
  have mxnk : nk.length ≤ 140737488355328 := hnk.max
  have mxnv : nv.length ≤ 140737488355328 := hnv.max
  have mxnc : nc.length ≤ 140737488355328 := hnc.max
  refine calls_env (n := 104) Try.func35 (c := _) rfl Try.ntmps35 (by kernel_rfl) (fun R hRet => ?_)
  have hM0 : Step V w [] V w [] := Step.refl (St.nilE hV)
  cases nl with
  | false =>
    refine wp_seq_k (fun K1 hK1 => ?_)
    refine wp_reg ?_
    refine wpF_box hM0 #[.bool (false), .slice Ank (nk).length cnk, .slice Anv (nv).length cnv, .slice Anc (nc).length cnc] (h := (by kernel_rfl : opAt _ _ _ _ _ = some (Go.Op.box 25 (Go.Operand.tmp 0), some 1))) (by kernel_rfl) (fun b2 w3 hM4 => ?_)
    obtain ⟨V5, le6, hM7, hc8⟩ := hM4.settle 0 rfl
    have hM9 : Step V w [] V5 _ [] := hM7
    refine wpF_seg 1 (by kernel_rfl) ?_
    refine wpF_end _ (by kernel_rfl) (then_n (hK1 _ _ ?_))
    refine wp_seq_k (fun K10 hK10 => ?_)
    refine wp_seq_k (fun K11 hK11 => ?_)
    refine wp_reg ?_
    refine wpF_seg 1 (by kernel_rfl) ?_
    refine wpF_end _ (by kernel_rfl) (then_n (hK11 _ _ ?_))
    refine wp_block ?_
    refine wp_base [(1, .pointer (some ⟨b2, 0, none⟩)), (3, .int .i64 ((0 : Int)))] (by kernel_rfl) (fun g13 => ?_)
    refine wp_loopX (fun (x_ : Nat) a_ w_ => ∃ (g : Nat → Value) (V_ : VT), a_ = env 104 [(1, .pointer (some ⟨b2, 0, none⟩)), (3, .int .i64 ((x_ : Int)))] g ∧ Step V w [] V_ w_ [] ∧ VT.le V5 V_ ∧ (x_ ≤ nk.length) ∧ (upTo nk (x_) = true)) (fun (x_ : Nat) => nk.length - x_) (0) ⟨g13, V5, rfl, hM9, VT.le.refl _, by omega, by rfl⟩ ?_
    rintro k a_ w15 ⟨g14, Vl12, rfl, hM16, le17, hi18_0, hi18_1⟩ K18 hK18
    refine wp_seq_k (fun K19 hK19 => ?_)
    refine wp_seq_k (fun K20 hK20 => ?_)
    refine wp_reg ?_
    refine wpF_seg 2 (by kernel_rfl) ?_
    refine wpF_loadB hM16 #[.bool (false), .slice Ank (nk).length cnk, .slice Anv (nv).length cnv, .slice Anc (nc).length cnc] (fun i v hi => le17 _ _ _ (hc8 i v hi)) (h := (by kernel_rfl : opAt _ _ _ _ _ = some (Go.Op.load 22 (Go.Operand.tmp 7), some 8))) (off := 1) (by kernel_rfl) (.slice Ank (nk).length cnk) (by kernel_rfl) ?_
    refine wpF_seg 2 (by kernel_rfl) ?_
    refine wpF_end _ (by kernel_rfl) (then_n (hK20 _ _ ?_))
    refine wp_if (decide (((k : Int)) < ((nk.length : Int)))) (by kernel_rfl) (fun h21 => ?_) (fun h21 => ?_)
    · -- FLt
      have p22 : (((k : Int)) < ((nk.length : Int))) := of_decide_eq_true h21
      refine wp_skip (then_n (hK19 _ _ ?_))
      refine wp_seq_k (fun K23 hK23 => ?_)
      refine wp_block ?_
      refine wp_seq_k (fun K24 hK24 => ?_)
      refine caseB (decide ((128) < ((((nk.getD (k) [])).length : Int)))) (fun h25 => ?_) (fun h25 => ?_)
      · -- FLtt
        have p26 : ((128) < ((((nk.getD (k) [])).length : Int))) := of_decide_eq_true h25
        refine wp_base [(1, .pointer (some ⟨b2, 0, none⟩)), (3, .int .i64 ((k : Int))), (6, .int .i64 ((k : Int))), (7, .pointer (some ⟨b2, 1, none⟩)), (8, .slice Ank (nk).length cnk), (9, .int .i64 ((nk.length : Int))), (10, .bool (decide (((k : Int)) < ((nk.length : Int)))))] (by kernel_rfl) (fun g0_31 => ?_)
        obtain ⟨G31, hGm31, hG31_0, hG31_1, hG31_2, hG31_3, hG31_4, hG31_5, hG31_6, hG31_7, hG31_8, hG31_9, hG31_10, hG31_11, hG31_12, hG31_13, hG31_14, hG31_15, hG31_16, hG31_17, hG31_18, hG31_19, hG31_20, hG31_21, hG31_22, hG31_23, hG31_24, hG31_25⟩ : ∃ G : Nat → Value → VT → Prop, (∀ j v V V', VT.le V V' → G j v V → G j v V') ∧ (∀ v_ V_, G 0 v_ V_ ↔ (v_ = .pointer (some ⟨b2, 1, none⟩))) ∧ (∀ v_ V_, G 1 v_ V_ ↔ (v_ = .slice Ank (nk).length cnk)) ∧ (∀ v_ V_, G 2 v_ V_ ↔ (v_ = .int .i64 ((k : Int)))) ∧ (∀ v_ V_, G 3 v_ V_ ↔ (∃ b27 : Nat, ∃ o28 : Nat, v_ = .pointer (some ⟨b27, o28, none⟩) ∧ (At strK V_ b27 o28 ((nk.getD (k) []))) ∧ ((nk.getD (k) []).length ≤ 140737488355328))) ∧ (∀ v_ V_, G 4 v_ V_ ↔ (v_ = bs ((nk.getD (k) [])) ∧ ((nk.getD (k) []).length ≤ 140737488355328))) ∧ (∀ v_ V_, G 5 v_ V_ ↔ (v_ = .int .i64 ((((nk.getD (k) [])).length : Int)) ∧ ((nk.getD (k) []).length ≤ 140737488355328))) ∧ (∀ v_ V_, G 6 v_ V_ ↔ (v_ = .bool (true) ∧ ((nk.getD (k) []).length ≤ 140737488355328))) ∧ (∀ v_ V_, G 7 v_ V_ ↔ (v_ = .bool (true) ∧ ((nk.getD (k) []).length ≤ 140737488355328))) ∧ (∀ v_ V_, G 8 v_ V_ ↔ (v_ = undef)) ∧ (∀ v_ V_, G 9 v_ V_ ↔ (v_ = undef)) ∧ (∀ v_ V_, G 10 v_ V_ ↔ (v_ = undef)) ∧ (∀ v_ V_, G 11 v_ V_ ↔ (v_ = undef)) ∧ (∀ v_ V_, G 12 v_ V_ ↔ (v_ = undef)) ∧ (∀ v_ V_, G 13 v_ V_ ↔ (v_ = undef)) ∧ (∀ v_ V_, G 14 v_ V_ ↔ (v_ = undef)) ∧ (∀ v_ V_, G 15 v_ V_ ↔ (v_ = undef)) ∧ (∀ v_ V_, G 16 v_ V_ ↔ (v_ = undef)) ∧ (∀ v_ V_, G 17 v_ V_ ↔ (v_ = undef)) ∧ (∀ v_ V_, G 18 v_ V_ ↔ (v_ = undef)) ∧ (∀ v_ V_, G 19 v_ V_ ↔ (v_ = undef)) ∧ (∀ v_ V_, G 20 v_ V_ ↔ (v_ = undef)) ∧ (∀ v_ V_, G 21 v_ V_ ↔ (v_ = undef)) ∧ (∀ v_ V_, G 22 v_ V_ ↔ (v_ = undef)) ∧ (∀ v_ V_, G 23 v_ V_ ↔ (v_ = undef)) ∧ (∀ v_ V_, G 24 v_ V_ ↔ (v_ = undef)) ∧ (∀ v_ V_, G 25 v_ V_ ↔ (v_ = .bool (true) ∧ ((nk.getD (k) []).length ≤ 140737488355328))) :=
            ⟨mG [mV (.pointer (some ⟨b2, 1, none⟩)), mV (.slice Ank (nk).length cnk), mV (.int .i64 ((k : Int))), mE fun b27 : Nat => mE fun o28 : Nat => mN (mV (.pointer (some ⟨b27, o28, none⟩))) (mN (mA strK b27 o28 ((nk.getD (k) []))) (mP ((nk.getD (k) []).length ≤ 140737488355328))), mN (mV (bs ((nk.getD (k) [])))) (mP ((nk.getD (k) []).length ≤ 140737488355328)), mN (mV (.int .i64 ((((nk.getD (k) [])).length : Int)))) (mP ((nk.getD (k) []).length ≤ 140737488355328)), mN (mV (.bool (true))) (mP ((nk.getD (k) []).length ≤ 140737488355328)), mN (mV (.bool (true))) (mP ((nk.getD (k) []).length ≤ 140737488355328)), mV undef, mV undef, mV undef, mV undef, mV undef, mV undef, mV undef, mV undef, mV undef, mV undef, mV undef, mV undef, mV undef, mV undef, mV undef, mV undef, mV undef, mN (mV (.bool (true))) (mP ((nk.getD (k) []).length ≤ 140737488355328))], mG_up _, fun _ _ => Iff.rfl, fun _ _ => Iff.rfl, fun _ _ => Iff.rfl, fun _ _ => Iff.rfl, fun _ _ => Iff.rfl, fun _ _ => Iff.rfl, fun _ _ => Iff.rfl, fun _ _ => Iff.rfl, fun _ _ => Iff.rfl, fun _ _ => Iff.rfl, fun _ _ => Iff.rfl, fun _ _ => Iff.rfl, fun _ _ => Iff.rfl, fun _ _ => Iff.rfl, fun _ _ => Iff.rfl, fun _ _ => Iff.rfl, fun _ _ => Iff.rfl, fun _ _ => Iff.rfl, fun _ _ => Iff.rfl, fun _ _ => Iff.rfl, fun _ _ => Iff.rfl, fun _ _ => Iff.rfl, fun _ _ => Iff.rfl, fun _ _ => Iff.rfl, fun _ _ => Iff.rfl, fun _ _ => Iff.rfl⟩
        refine wp_drawG (L0 := [(1, .pointer (some ⟨b2, 0, none⟩)), (3, .int .i64 ((k : Int))), (6, .int .i64 ((k : Int))), (7, .pointer (some ⟨b2, 1, none⟩)), (8, .slice Ank (nk).length cnk), (9, .int .i64 ((nk.length : Int))), (10, .bool (decide (((k : Int)) < ((nk.length : Int)))))]) 26 (by kernel_rfl) (by kernel_rfl) (by kernel_rfl) (by kernel_rfl) (by kernel_rfl) G31 hGm31 [] pre_nil (by kernel_rfl) [] (by kernel_rfl) (fun (S : Nat → Bool) (g : Nat → Value) => ([] : List Ent)) (fun _ _ _ _ _ => rfl) hM16 ?_ ?_
        · -- the operations
          refine all_snoc (.inr ⟨by decide, fun S31_25 g31_25 V31_25 w31_25 F31_25 cx31_25 hM31_25 => ?_⟩) ?_
          · -- op 25
            obtain ⟨hv7_V31_25, l30⟩ : g31_25 20 = .bool (true) ∧ ((nk.getD (k) []).length ≤ 140737488355328) := (hG31_7 _ _).1 (cx31_25.fact 7 20 (by decide) (cx31_25.dep 7 (by kernel_rfl)) (by kernel_rfl))
            obtain hv24_V31_25 : g31_25 37 = undef := (hG31_24 _ _).1 (cx31_25.fact 24 37 (by decide) (cx31_25.dep 24 (by kernel_rfl)) (by kernel_rfl))
            refine wpF_see 20 (.bool (true)) (Eq.trans (by kernel_rfl) hv7_V31_25) ?_
            refine wpF_see 37 (undef) (Eq.trans (by kernel_rfl) hv24_V31_25) ?_
            refine wpF_seg 1 (by kernel_rfl) ?_
            refine wpF_end _ (by kernel_rfl) (then_n ?_)
            exact one_in (some 38) (by kernel_rfl) (.bool (true)) _ [(37, undef), (20, .bool (true))] (seen_cons (Eq.trans (by kernel_rfl) hv24_V31_25) (seen_cons (Eq.trans (by kernel_rfl) hv7_V31_25) seen_nil)) (by kernel_rfl) (VT.le.refl _) hM31_25 ((hG31_25 _ _).2 ⟨rfl, l30⟩)
          refine all_snoc (.inr ⟨by decide, fun S31_24 g31_24 V31_24 w31_24 F31_24 cx31_24 hM31_24 => ?_⟩) ?_
          · -- op 24
            obtain ⟨hv7_V31_24, l30⟩ : g31_24 20 = .bool (true) ∧ ((nk.getD (k) []).length ≤ 140737488355328) := (hG31_7 _ _).1 (cx31_24.fact 7 20 (by decide) (cx31_24.dep 7 (by kernel_rfl)) (by kernel_rfl))
            obtain hv10_V31_24 : g31_24 23 = undef := (hG31_10 _ _).1 (cx31_24.fact 10 23 (by decide) (cx31_24.dep 10 (by kernel_rfl)) (by kernel_rfl))
            obtain hv23_V31_24 : g31_24 36 = undef := (hG31_23 _ _).1 (cx31_24.fact 23 36 (by decide) (cx31_24.dep 23 (by kernel_rfl)) (by kernel_rfl))
            refine wpF_see 20 (.bool (true)) (Eq.trans (by kernel_rfl) hv7_V31_24) ?_
            refine wpF_see 23 (undef) (Eq.trans (by kernel_rfl) hv10_V31_24) ?_
            refine wpF_see 36 (undef) (Eq.trans (by kernel_rfl) hv23_V31_24) ?_
            refine wpF_seg 1 (by kernel_rfl) ?_
            refine wpF_end _ (by kernel_rfl) (then_n ?_)
            exact one_in (some 37) (by kernel_rfl) (undef) _ [(36, undef), (23, undef), (20, .bool (true))] (seen_cons (Eq.trans (by kernel_rfl) hv23_V31_24) (seen_cons (Eq.trans (by kernel_rfl) hv10_V31_24) (seen_cons (Eq.trans (by kernel_rfl) hv7_V31_24) seen_nil))) (by kernel_rfl) (VT.le.refl _) hM31_24 ((hG31_24 _ _).2 rfl)
          refine all_snoc (.inr ⟨by decide, fun S31_23 g31_23 V31_23 w31_23 F31_23 cx31_23 hM31_23 => ?_⟩) ?_
          · -- op 23
            obtain hv10_V31_23 : g31_23 23 = undef := (hG31_10 _ _).1 (cx31_23.fact 10 23 (by decide) (cx31_23.dep 10 (by kernel_rfl)) (by kernel_rfl))
            obtain hv22_V31_23 : g31_23 35 = undef := (hG31_22 _ _).1 (cx31_23.fact 22 35 (by decide) (cx31_23.dep 22 (by kernel_rfl)) (by kernel_rfl))
            refine wpF_see 23 (undef) (Eq.trans (by kernel_rfl) hv10_V31_23) ?_
            refine wpF_see 35 (undef) (Eq.trans (by kernel_rfl) hv22_V31_23) ?_
            refine wpF_seg 1 (by kernel_rfl) ?_
            refine wpF_end _ (by kernel_rfl) (then_n ?_)
            exact one_in (some 36) (by kernel_rfl) (undef) _ [(35, undef), (23, undef)] (seen_cons (Eq.trans (by kernel_rfl) hv22_V31_23) (seen_cons (Eq.trans (by kernel_rfl) hv10_V31_23) seen_nil)) (by kernel_rfl) (VT.le.refl _) hM31_23 ((hG31_23 _ _).2 rfl)
          refine all_snoc (.inr ⟨by decide, fun S31_22 g31_22 V31_22 w31_22 F31_22 cx31_22 hM31_22 => ?_⟩) ?_
          · -- op 22
            obtain hv10_V31_22 : g31_22 23 = undef := (hG31_10 _ _).1 (cx31_22.fact 10 23 (by decide) (cx31_22.dep 10 (by kernel_rfl)) (by kernel_rfl))
            obtain hv16_V31_22 : g31_22 29 = undef := (hG31_16 _ _).1 (cx31_22.fact 16 29 (by decide) (cx31_22.dep 16 (by kernel_rfl)) (by kernel_rfl))
            obtain hv21_V31_22 : g31_22 34 = undef := (hG31_21 _ _).1 (cx31_22.fact 21 34 (by decide) (cx31_22.dep 21 (by kernel_rfl)) (by kernel_rfl))
            refine wpF_see 23 (undef) (Eq.trans (by kernel_rfl) hv10_V31_22) ?_
            refine wpF_see 29 (undef) (Eq.trans (by kernel_rfl) hv16_V31_22) ?_
            refine wpF_see 34 (undef) (Eq.trans (by kernel_rfl) hv21_V31_22) ?_
            refine wpF_seg 1 (by kernel_rfl) ?_
            refine wpF_end _ (by kernel_rfl) (then_n ?_)
            exact one_in (some 35) (by kernel_rfl) (undef) _ [(34, undef), (29, undef), (23, undef)] (seen_cons (Eq.trans (by kernel_rfl) hv21_V31_22) (seen_cons (Eq.trans (by kernel_rfl) hv16_V31_22) (seen_cons (Eq.trans (by kernel_rfl) hv10_V31_22) seen_nil))) (by kernel_rfl) (VT.le.refl _) hM31_22 ((hG31_22 _ _).2 rfl)
          refine all_snoc (.inr ⟨by decide, fun S31_21 g31_21 V31_21 w31_21 F31_21 cx31_21 hM31_21 => ?_⟩) ?_
          · -- op 21
            obtain hv10_V31_21 : g31_21 23 = undef := (hG31_10 _ _).1 (cx31_21.fact 10 23 (by decide) (cx31_21.dep 10 (by kernel_rfl)) (by kernel_rfl))
            obtain hv20_V31_21 : g31_21 33 = undef := (hG31_20 _ _).1 (cx31_21.fact 20 33 (by decide) (cx31_21.dep 20 (by kernel_rfl)) (by kernel_rfl))
            refine wpF_see 23 (undef) (Eq.trans (by kernel_rfl) hv10_V31_21) ?_
            refine wpF_see 33 (undef) (Eq.trans (by kernel_rfl) hv20_V31_21) ?_
            refine wpF_seg 1 (by kernel_rfl) ?_
            refine wpF_end _ (by kernel_rfl) (then_n ?_)
            exact one_in (some 34) (by kernel_rfl) (undef) _ [(33, undef), (23, undef)] (seen_cons (Eq.trans (by kernel_rfl) hv20_V31_21) (seen_cons (Eq.trans (by kernel_rfl) hv10_V31_21) seen_nil)) (by kernel_rfl) (VT.le.refl _) hM31_21 ((hG31_21 _ _).2 rfl)
          refine all_snoc (.inr ⟨by decide, fun S31_20 g31_20 V31_20 w31_20 F31_20 cx31_20 hM31_20 => ?_⟩) ?_
          · -- op 20
            obtain hv10_V31_20 : g31_20 23 = undef := (hG31_10 _ _).1 (cx31_20.fact 10 23 (by decide) (cx31_20.dep 10 (by kernel_rfl)) (by kernel_rfl))
            obtain hv18_V31_20 : g31_20 31 = undef := (hG31_18 _ _).1 (cx31_20.fact 18 31 (by decide) (cx31_20.dep 18 (by kernel_rfl)) (by kernel_rfl))
            obtain hv19_V31_20 : g31_20 32 = undef := (hG31_19 _ _).1 (cx31_20.fact 19 32 (by decide) (cx31_20.dep 19 (by kernel_rfl)) (by kernel_rfl))
            refine wpF_see 23 (undef) (Eq.trans (by kernel_rfl) hv10_V31_20) ?_
            refine wpF_see 31 (undef) (Eq.trans (by kernel_rfl) hv18_V31_20) ?_
            refine wpF_see 32 (undef) (Eq.trans (by kernel_rfl) hv19_V31_20) ?_
            refine wpF_seg 1 (by kernel_rfl) ?_
            refine wpF_end _ (by kernel_rfl) (then_n ?_)
            exact one_in (some 33) (by kernel_rfl) (undef) _ [(32, undef), (31, undef), (23, undef)] (seen_cons (Eq.trans (by kernel_rfl) hv19_V31_20) (seen_cons (Eq.trans (by kernel_rfl) hv18_V31_20) (seen_cons (Eq.trans (by kernel_rfl) hv10_V31_20) seen_nil))) (by kernel_rfl) (VT.le.refl _) hM31_20 ((hG31_20 _ _).2 rfl)
          refine all_snoc (.inr ⟨by decide, fun S31_19 g31_19 V31_19 w31_19 F31_19 cx31_19 hM31_19 => ?_⟩) ?_
          · -- op 19
            obtain hv10_V31_19 : g31_19 23 = undef := (hG31_10 _ _).1 (cx31_19.fact 10 23 (by decide) (cx31_19.dep 10 (by kernel_rfl)) (by kernel_rfl))
            refine wpF_see 23 (undef) (Eq.trans (by kernel_rfl) hv10_V31_19) ?_
            refine wpF_seg 1 (by kernel_rfl) ?_
            refine wpF_end _ (by kernel_rfl) (then_n ?_)
            exact one_in (some 32) (by kernel_rfl) (undef) _ [(23, undef)] (seen_cons (Eq.trans (by kernel_rfl) hv10_V31_19) seen_nil) (by kernel_rfl) (VT.le.refl _) hM31_19 ((hG31_19 _ _).2 rfl)
          refine all_snoc (.inr ⟨by decide, fun S31_18 g31_18 V31_18 w31_18 F31_18 cx31_18 hM31_18 => ?_⟩) ?_
          · -- op 18
            obtain hv10_V31_18 : g31_18 23 = undef := (hG31_10 _ _).1 (cx31_18.fact 10 23 (by decide) (cx31_18.dep 10 (by kernel_rfl)) (by kernel_rfl))
            obtain hv17_V31_18 : g31_18 30 = undef := (hG31_17 _ _).1 (cx31_18.fact 17 30 (by decide) (cx31_18.dep 17 (by kernel_rfl)) (by kernel_rfl))
            refine wpF_see 23 (undef) (Eq.trans (by kernel_rfl) hv10_V31_18) ?_
            refine wpF_see 30 (undef) (Eq.trans (by kernel_rfl) hv17_V31_18) ?_
            refine wpF_seg 1 (by kernel_rfl) ?_
            refine wpF_end _ (by kernel_rfl) (then_n ?_)
            exact one_in (some 31) (by kernel_rfl) (undef) _ [(30, undef), (23, undef)] (seen_cons (Eq.trans (by kernel_rfl) hv17_V31_18) (seen_cons (Eq.trans (by kernel_rfl) hv10_V31_18) seen_nil)) (by kernel_rfl) (VT.le.refl _) hM31_18 ((hG31_18 _ _).2 rfl)
          refine all_snoc (.inr ⟨by decide, fun S31_17 g31_17 V31_17 w31_17 F31_17 cx31_17 hM31_17 => ?_⟩) ?_
          · -- op 17
            obtain hv10_V31_17 : g31_17 23 = undef := (hG31_10 _ _).1 (cx31_17.fact 10 23 (by decide) (cx31_17.dep 10 (by kernel_rfl)) (by kernel_rfl))
            refine wpF_see 23 (undef) (Eq.trans (by kernel_rfl) hv10_V31_17) ?_
            refine wpF_seg 1 (by kernel_rfl) ?_
            refine wpF_end _ (by kernel_rfl) (then_n ?_)
            exact one_in (some 30) (by kernel_rfl) (undef) _ [(23, undef)] (seen_cons (Eq.trans (by kernel_rfl) hv10_V31_17) seen_nil) (by kernel_rfl) (VT.le.refl _) hM31_17 ((hG31_17 _ _).2 rfl)
          refine all_snoc (.inr ⟨by decide, fun S31_16 g31_16 V31_16 w31_16 F31_16 cx31_16 hM31_16 => ?_⟩) ?_
          · -- op 16
            obtain hv10_V31_16 : g31_16 23 = undef := (hG31_10 _ _).1 (cx31_16.fact 10 23 (by decide) (cx31_16.dep 10 (by kernel_rfl)) (by kernel_rfl))
            obtain hv15_V31_16 : g31_16 28 = undef := (hG31_15 _ _).1 (cx31_16.fact 15 28 (by decide) (cx31_16.dep 15 (by kernel_rfl)) (by kernel_rfl))
            refine wpF_see 23 (undef) (Eq.trans (by kernel_rfl) hv10_V31_16) ?_
            refine wpF_see 28 (undef) (Eq.trans (by kernel_rfl) hv15_V31_16) ?_
            refine wpF_seg 1 (by kernel_rfl) ?_
            refine wpF_end _ (by kernel_rfl) (then_n ?_)
            exact one_in (some 29) (by kernel_rfl) (undef) _ [(28, undef), (23, undef)] (seen_cons (Eq.trans (by kernel_rfl) hv15_V31_16) (seen_cons (Eq.trans (by kernel_rfl) hv10_V31_16) seen_nil)) (by kernel_rfl) (VT.le.refl _) hM31_16 ((hG31_16 _ _).2 rfl)
          refine all_snoc (.inr ⟨by decide, fun S31_15 g31_15 V31_15 w31_15 F31_15 cx31_15 hM31_15 => ?_⟩) ?_
          · -- op 15
            obtain hv10_V31_15 : g31_15 23 = undef := (hG31_10 _ _).1 (cx31_15.fact 10 23 (by decide) (cx31_15.dep 10 (by kernel_rfl)) (by kernel_rfl))
            obtain hv12_V31_15 : g31_15 25 = undef := (hG31_12 _ _).1 (cx31_15.fact 12 25 (by decide) (cx31_15.dep 12 (by kernel_rfl)) (by kernel_rfl))
            obtain hv14_V31_15 : g31_15 27 = undef := (hG31_14 _ _).1 (cx31_15.fact 14 27 (by decide) (cx31_15.dep 14 (by kernel_rfl)) (by kernel_rfl))
            refine wpF_see 23 (undef) (Eq.trans (by kernel_rfl) hv10_V31_15) ?_
            refine wpF_see 25 (undef) (Eq.trans (by kernel_rfl) hv12_V31_15) ?_
            refine wpF_see 27 (undef) (Eq.trans (by kernel_rfl) hv14_V31_15) ?_
            refine wpF_seg 1 (by kernel_rfl) ?_
            refine wpF_end _ (by kernel_rfl) (then_n ?_)
            exact one_in (some 28) (by kernel_rfl) (undef) _ [(27, undef), (25, undef), (23, undef)] (seen_cons (Eq.trans (by kernel_rfl) hv14_V31_15) (seen_cons (Eq.trans (by kernel_rfl) hv12_V31_15) (seen_cons (Eq.trans (by kernel_rfl) hv10_V31_15) seen_nil))) (by kernel_rfl) (VT.le.refl _) hM31_15 ((hG31_15 _ _).2 rfl)
          refine all_snoc (.inr ⟨by decide, fun S31_14 g31_14 V31_14 w31_14 F31_14 cx31_14 hM31_14 => ?_⟩) ?_
          · -- op 14
            obtain hv10_V31_14 : g31_14 23 = undef := (hG31_10 _ _).1 (cx31_14.fact 10 23 (by decide) (cx31_14.dep 10 (by kernel_rfl)) (by kernel_rfl))
            obtain hv13_V31_14 : g31_14 26 = undef := (hG31_13 _ _).1 (cx31_14.fact 13 26 (by decide) (cx31_14.dep 13 (by kernel_rfl)) (by kernel_rfl))
            refine wpF_see 23 (undef) (Eq.trans (by kernel_rfl) hv10_V31_14) ?_
            refine wpF_see 26 (undef) (Eq.trans (by kernel_rfl) hv13_V31_14) ?_
            refine wpF_seg 1 (by kernel_rfl) ?_
            refine wpF_end _ (by kernel_rfl) (then_n ?_)
            exact one_in (some 27) (by kernel_rfl) (undef) _ [(26, undef), (23, undef)] (seen_cons (Eq.trans (by kernel_rfl) hv13_V31_14) (seen_cons (Eq.trans (by kernel_rfl) hv10_V31_14) seen_nil)) (by kernel_rfl) (VT.le.refl _) hM31_14 ((hG31_14 _ _).2 rfl)
          refine all_snoc (.inr ⟨by decide, fun S31_13 g31_13 V31_13 w31_13 F31_13 cx31_13 hM31_13 => ?_⟩) ?_
          · -- op 13
            obtain hv10_V31_13 : g31_13 23 = undef := (hG31_10 _ _).1 (cx31_13.fact 10 23 (by decide) (cx31_13.dep 10 (by kernel_rfl)) (by kernel_rfl))
            refine wpF_see 23 (undef) (Eq.trans (by kernel_rfl) hv10_V31_13) ?_
            refine wpF_seg 1 (by kernel_rfl) ?_
            refine wpF_end _ (by kernel_rfl) (then_n ?_)
            exact one_in (some 26) (by kernel_rfl) (undef) _ [(23, undef)] (seen_cons (Eq.trans (by kernel_rfl) hv10_V31_13) seen_nil) (by kernel_rfl) (VT.le.refl _) hM31_13 ((hG31_13 _ _).2 rfl)
          refine all_snoc (.inr ⟨by decide, fun S31_12 g31_12 V31_12 w31_12 F31_12 cx31_12 hM31_12 => ?_⟩) ?_
          · -- op 12
            obtain hv10_V31_12 : g31_12 23 = undef := (hG31_10 _ _).1 (cx31_12.fact 10 23 (by decide) (cx31_12.dep 10 (by kernel_rfl)) (by kernel_rfl))
            obtain hv11_V31_12 : g31_12 24 = undef := (hG31_11 _ _).1 (cx31_12.fact 11 24 (by decide) (cx31_12.dep 11 (by kernel_rfl)) (by kernel_rfl))
            refine wpF_see 23 (undef) (Eq.trans (by kernel_rfl) hv10_V31_12) ?_
            refine wpF_see 24 (undef) (Eq.trans (by kernel_rfl) hv11_V31_12) ?_
            refine wpF_seg 1 (by kernel_rfl) ?_
            refine wpF_end _ (by kernel_rfl) (then_n ?_)
            exact one_in (some 25) (by kernel_rfl) (undef) _ [(24, undef), (23, undef)] (seen_cons (Eq.trans (by kernel_rfl) hv11_V31_12) (seen_cons (Eq.trans (by kernel_rfl) hv10_V31_12) seen_nil)) (by kernel_rfl) (VT.le.refl _) hM31_12 ((hG31_12 _ _).2 rfl)
          refine all_snoc (.inr ⟨by decide, fun S31_11 g31_11 V31_11 w31_11 F31_11 cx31_11 hM31_11 => ?_⟩) ?_
          · -- op 11
            obtain hv10_V31_11 : g31_11 23 = undef := (hG31_10 _ _).1 (cx31_11.fact 10 23 (by decide) (cx31_11.dep 10 (by kernel_rfl)) (by kernel_rfl))
            refine wpF_see 23 (undef) (Eq.trans (by kernel_rfl) hv10_V31_11) ?_
            refine wpF_seg 1 (by kernel_rfl) ?_
            refine wpF_end _ (by kernel_rfl) (then_n ?_)
            exact one_in (some 24) (by kernel_rfl) (undef) _ [(23, undef)] (seen_cons (Eq.trans (by kernel_rfl) hv10_V31_11) seen_nil) (by kernel_rfl) (VT.le.refl _) hM31_11 ((hG31_11 _ _).2 rfl)
          refine all_snoc (.inr ⟨by decide, fun S31_10 g31_10 V31_10 w31_10 F31_10 cx31_10 hM31_10 => ?_⟩) ?_
          · -- op 10
            obtain ⟨hv7_V31_10, l30⟩ : g31_10 20 = .bool (true) ∧ ((nk.getD (k) []).length ≤ 140737488355328) := (hG31_7 _ _).1 (cx31_10.fact 7 20 (by decide) (cx31_10.dep 7 (by kernel_rfl)) (by kernel_rfl))
            obtain hv9_V31_10 : g31_10 22 = undef := (hG31_9 _ _).1 (cx31_10.fact 9 22 (by decide) (cx31_10.dep 9 (by kernel_rfl)) (by kernel_rfl))
            refine wpF_see 20 (.bool (true)) (Eq.trans (by kernel_rfl) hv7_V31_10) ?_
            refine wpF_see 22 (undef) (Eq.trans (by kernel_rfl) hv9_V31_10) ?_
            refine wpF_seg 1 (by kernel_rfl) ?_
            refine wpF_end _ (by kernel_rfl) (then_n ?_)
            exact one_in (some 23) (by kernel_rfl) (undef) _ [(22, undef), (20, .bool (true))] (seen_cons (Eq.trans (by kernel_rfl) hv9_V31_10) (seen_cons (Eq.trans (by kernel_rfl) hv7_V31_10) seen_nil)) (by kernel_rfl) (VT.le.refl _) hM31_10 ((hG31_10 _ _).2 rfl)
          refine all_snoc (.inr ⟨by decide, fun S31_9 g31_9 V31_9 w31_9 F31_9 cx31_9 hM31_9 => ?_⟩) ?_
          · -- op 9
            obtain ⟨hv7_V31_9, l30⟩ : g31_9 20 = .bool (true) ∧ ((nk.getD (k) []).length ≤ 140737488355328) := (hG31_7 _ _).1 (cx31_9.fact 7 20 (by decide) (cx31_9.dep 7 (by kernel_rfl)) (by kernel_rfl))
            obtain hv8_V31_9 : g31_9 21 = undef := (hG31_8 _ _).1 (cx31_9.fact 8 21 (by decide) (cx31_9.dep 8 (by kernel_rfl)) (by kernel_rfl))
            refine wpF_see 20 (.bool (true)) (Eq.trans (by kernel_rfl) hv7_V31_9) ?_
            refine wpF_see 21 (undef) (Eq.trans (by kernel_rfl) hv8_V31_9) ?_
            refine wpF_seg 1 (by kernel_rfl) ?_
            refine wpF_end _ (by kernel_rfl) (then_n ?_)
            exact one_in (some 22) (by kernel_rfl) (undef) _ [(21, undef), (20, .bool (true))] (seen_cons (Eq.trans (by kernel_rfl) hv8_V31_9) (seen_cons (Eq.trans (by kernel_rfl) hv7_V31_9) seen_nil)) (by kernel_rfl) (VT.le.refl _) hM31_9 ((hG31_9 _ _).2 rfl)
          refine all_snoc (.inr ⟨by decide, fun S31_8 g31_8 V31_8 w31_8 F31_8 cx31_8 hM31_8 => ?_⟩) ?_
          · -- op 8
            obtain ⟨hv7_V31_8, l30⟩ : g31_8 20 = .bool (true) ∧ ((nk.getD (k) []).length ≤ 140737488355328) := (hG31_7 _ _).1 (cx31_8.fact 7 20 (by decide) (cx31_8.dep 7 (by kernel_rfl)) (by kernel_rfl))
            refine wpF_see 20 (.bool (true)) (Eq.trans (by kernel_rfl) hv7_V31_8) ?_
            refine wpF_seg 1 (by kernel_rfl) ?_
            refine wpF_end _ (by kernel_rfl) (then_n ?_)
            exact one_in (some 21) (by kernel_rfl) (undef) _ [(20, .bool (true))] (seen_cons (Eq.trans (by kernel_rfl) hv7_V31_8) seen_nil) (by kernel_rfl) (VT.le.refl _) hM31_8 ((hG31_8 _ _).2 rfl)
          refine all_snoc (.inr ⟨by decide, fun S31_7 g31_7 V31_7 w31_7 F31_7 cx31_7 hM31_7 => ?_⟩) ?_
          · -- op 7
            obtain ⟨hv6_V31_7, l30⟩ : g31_7 19 = .bool (true) ∧ ((nk.getD (k) []).length ≤ 140737488355328) := (hG31_6 _ _).1 (cx31_7.fact 6 19 (by decide) (cx31_7.dep 6 (by kernel_rfl)) (by kernel_rfl))
            refine wpF_see 19 (.bool (true)) (Eq.trans (by kernel_rfl) hv6_V31_7) ?_
            refine wpF_seg 1 (by kernel_rfl) ?_
            refine wpF_end _ (by kernel_rfl) (then_n ?_)
            exact one_in (some 20) (by kernel_rfl) (.bool (true)) _ [(19, .bool (true))] (seen_cons (Eq.trans (by kernel_rfl) hv6_V31_7) seen_nil) (by kernel_rfl) (VT.le.refl _) hM31_7 ((hG31_7 _ _).2 ⟨rfl, l30⟩)
          refine all_snoc (.inr ⟨by decide, fun S31_6 g31_6 V31_6 w31_6 F31_6 cx31_6 hM31_6 => ?_⟩) ?_
          · -- op 6
            obtain ⟨hv5_V31_6, l30⟩ : g31_6 18 = .int .i64 ((((nk.getD (k) [])).length : Int)) ∧ ((nk.getD (k) []).length ≤ 140737488355328) := (hG31_5 _ _).1 (cx31_6.fact 5 18 (by decide) (cx31_6.dep 5 (by kernel_rfl)) (by kernel_rfl))
            refine wpF_see 18 (.int .i64 ((((nk.getD (k) [])).length : Int))) (Eq.trans (by kernel_rfl) hv5_V31_6) ?_
            refine wpF_seg 1 (by kernel_rfl) ?_
            refine wpF_slot 19 (.bool (decide ((128) < ((((nk.getD (k) [])).length : Int))))) (.bool true) (by kernel_rfl) (by kernel_rfl) (by rw [h25]) ?_
            refine wpF_end _ (by kernel_rfl) (then_n ?_)
            exact one_in (some 19) (by kernel_rfl) (.bool (true)) _ [(18, .int .i64 ((((nk.getD (k) [])).length : Int)))] (seen_cons (Eq.trans (by kernel_rfl) hv5_V31_6) seen_nil) (by kernel_rfl) (VT.le.refl _) hM31_6 ((hG31_6 _ _).2 ⟨rfl, l30⟩)
          refine all_snoc (.inr ⟨by decide, fun S31_5 g31_5 V31_5 w31_5 F31_5 cx31_5 hM31_5 => ?_⟩) ?_
          · -- op 5
            obtain ⟨hv4_V31_5, l30⟩ : g31_5 17 = bs ((nk.getD (k) [])) ∧ ((nk.getD (k) []).length ≤ 140737488355328) := (hG31_4 _ _).1 (cx31_5.fact 4 17 (by decide) (cx31_5.dep 4 (by kernel_rfl)) (by kernel_rfl))
            refine wpF_see 17 (bs ((nk.getD (k) []))) (Eq.trans (by kernel_rfl) hv4_V31_5) ?_
            refine wpF_seg 1 (by kernel_rfl) ?_
            refine wpF_end _ (by kernel_rfl) (then_n ?_)
            exact one_in (some 18) (by kernel_rfl) (.int .i64 ((((nk.getD (k) [])).length : Int))) _ [(17, bs ((nk.getD (k) [])))] (seen_cons (Eq.trans (by kernel_rfl) hv4_V31_5) seen_nil) (by kernel_rfl) (VT.le.refl _) hM31_5 ((hG31_5 _ _).2 ⟨rfl, l30⟩)
          refine all_snoc (.inr ⟨by decide, fun S31_4 g31_4 V31_4 w31_4 F31_4 cx31_4 hM31_4 => ?_⟩) ?_
          · -- op 4
            obtain ⟨b27, o28, hv3_V31_4, at_b27, l30⟩ : ∃ b27 : Nat, ∃ o28 : Nat, g31_4 16 = .pointer (some ⟨b27, o28, none⟩) ∧ (At strK V31_4 b27 o28 ((nk.getD (k) []))) ∧ ((nk.getD (k) []).length ≤ 140737488355328) := (hG31_3 _ _).1 (cx31_4.fact 3 16 (by decide) (cx31_4.dep 3 (by kernel_rfl)) (by kernel_rfl))
            have c904061 : V31_4 b27 o28 = some (bs (nk.getD (k) [])) := (At.str at_b27).1
            have l904062 : (nk.getD (k) []).length ≤ 140737488355328 := (At.str at_b27).2
            refine wpF_see 16 (.pointer (some ⟨b27, o28, none⟩)) (Eq.trans (by kernel_rfl) hv3_V31_4) ?_
            refine wpF_loadV hM31_4 c904061 (h := (by kernel_rfl : opAt _ _ _ _ _ = some (Go.Op.load 9 (Go.Operand.tmp 16), some 17))) (by kernel_rfl) (by kernel_rfl) ?_
            refine wpF_end _ (by kernel_rfl) (then_n ?_)
            exact one_in (some 17) (by kernel_rfl) (bs ((nk.getD (k) []))) _ [(16, .pointer (some ⟨b27, o28, none⟩))] (seen_cons (Eq.trans (by kernel_rfl) hv3_V31_4) seen_nil) (by kernel_rfl) (VT.le.refl _) hM31_4 ((hG31_4 _ _).2 ⟨rfl, l30⟩)
          refine all_snoc (.inr ⟨by decide, fun S31_3 g31_3 V31_3 w31_3 F31_3 cx31_3 hM31_3 => ?_⟩) ?_
          · -- op 3
            obtain hv1_V31_3 : g31_3 14 = .slice Ank (nk).length cnk := (hG31_1 _ _).1 (cx31_3.fact 1 14 (by decide) (cx31_3.dep 1 (by kernel_rfl)) (by kernel_rfl))
            obtain hv2_V31_3 : g31_3 15 = .int .i64 ((k : Int)) := (hG31_2 _ _).1 (cx31_3.fact 2 15 (by decide) (cx31_3.dep 2 (by kernel_rfl)) (by kernel_rfl))
            refine wpF_see 14 (.slice Ank (nk).length cnk) (Eq.trans (by kernel_rfl) hv1_V31_3) ?_
            refine wpF_see 15 (.int .i64 ((k : Int))) (Eq.trans (by kernel_rfl) hv2_V31_3) ?_
            refine wpF_index (A := Ank) (c := cnk) (hnk.up hM31_3.le) .i64 ((k : Int)) (h := (by kernel_rfl : opAt _ _ _ _ _ = some (Go.Op.indexAddr 22 (Go.Operand.tmp 14) (Go.Operand.tmp 15), some 16))) (e := 9) (by kernel_rfl) (by kernel_rfl) (by kernel_rfl) (k) rfl (by omega) (fun b27 o28 at_b27 => ?_)
            have c29 : V31_3 b27 o28 = some (bs (nk.getD (k) [])) := (At.str at_b27).1
            have l30 : (nk.getD (k) []).length ≤ 140737488355328 := (At.str at_b27).2
            refine wpF_end _ (by kernel_rfl) (then_n ?_)
            exact one_in (some 16) (by kernel_rfl) (.pointer (some ⟨b27, o28, none⟩)) _ [(15, .int .i64 ((k : Int))), (14, .slice Ank (nk).length cnk)] (seen_cons (Eq.trans (by kernel_rfl) hv2_V31_3) (seen_cons (Eq.trans (by kernel_rfl) hv1_V31_3) seen_nil)) (by kernel_rfl) (VT.le.refl _) hM31_3 ((hG31_3 _ _).2 ⟨b27, o28, rfl, at_b27, l30⟩)
          refine all_snoc (.inr ⟨by decide, fun S31_2 g31_2 V31_2 w31_2 F31_2 cx31_2 hM31_2 => ?_⟩) ?_
          · -- op 2
            refine wpF_seg 1 (by kernel_rfl) ?_
            refine wpF_end _ (by kernel_rfl) (then_n ?_)
            exact one_in (some 15) (by kernel_rfl) (.int .i64 ((k : Int))) _ [] seen_nil (by kernel_rfl) (VT.le.refl _) hM31_2 ((hG31_2 _ _).2 rfl)
          refine all_snoc (.inr ⟨by decide, fun S31_1 g31_1 V31_1 w31_1 F31_1 cx31_1 hM31_1 => ?_⟩) ?_
          · -- op 1
            obtain hv0_V31_1 : g31_1 13 = .pointer (some ⟨b2, 1, none⟩) := (hG31_0 _ _).1 (cx31_1.fact 0 13 (by decide) (cx31_1.dep 0 (by kernel_rfl)) (by kernel_rfl))
            refine wpF_see 13 (.pointer (some ⟨b2, 1, none⟩)) (Eq.trans (by kernel_rfl) hv0_V31_1) ?_
            refine wpF_loadB hM31_1 #[.bool (false), .slice Ank (nk).length cnk, .slice Anv (nv).length cnv, .slice Anc (nc).length cnc] (fun i v hi => (le17.trans cx31_1.le) _ _ _ (hc8 i v hi)) (h := (by kernel_rfl : opAt _ _ _ _ _ = some (Go.Op.load 22 (Go.Operand.tmp 13), some 14))) (off := 1) (by kernel_rfl) (.slice Ank (nk).length cnk) (by kernel_rfl) ?_
            refine wpF_end _ (by kernel_rfl) (then_n ?_)
            exact one_in (some 14) (by kernel_rfl) (.slice Ank (nk).length cnk) _ [(13, .pointer (some ⟨b2, 1, none⟩))] (seen_cons (Eq.trans (by kernel_rfl) hv0_V31_1) seen_nil) (by kernel_rfl) (VT.le.refl _) hM31_1 ((hG31_1 _ _).2 rfl)
          refine all_snoc (.inr ⟨by decide, fun S31_0 g31_0 V31_0 w31_0 F31_0 cx31_0 hM31_0 => ?_⟩) ?_
          · -- op 0
            refine wpF_seg 1 (by kernel_rfl) ?_
            refine wpF_end _ (by kernel_rfl) (then_n ?_)
            exact one_in (some 13) (by kernel_rfl) (.pointer (some ⟨b2, 1, none⟩)) _ [] seen_nil (by kernel_rfl) (VT.le.refl _) hM31_0 ((hG31_0 _ _).2 rfl)
          exact all_none
        · -- behind it
          intro ge31 Ve31 we31 hMe31 hle31 hf31
          refine wpF_stop (P := Try.prog) (ops := #[]) (i := 0) _ rfl ?_
          obtain hv0_Ve31 : ge31 13 = .pointer (some ⟨b2, 1, none⟩) := (hG31_0 _ _).1 (hf31 0 13 (by decide) (by kernel_rfl))
          obtain hv1_Ve31 : ge31 14 = .slice Ank (nk).length cnk := (hG31_1 _ _).1 (hf31 1 14 (by decide) (by kernel_rfl))
          obtain hv2_Ve31 : ge31 15 = .int .i64 ((k : Int)) := (hG31_2 _ _).1 (hf31 2 15 (by decide) (by kernel_rfl))
          obtain ⟨b27, o28, hv3_Ve31, at_b27, l30⟩ : ∃ b27 : Nat, ∃ o28 : Nat, ge31 16 = .pointer (some ⟨b27, o28, none⟩) ∧ (At strK Ve31 b27 o28 ((nk.getD (k) []))) ∧ ((nk.getD (k) []).length ≤ 140737488355328) := (hG31_3 _ _).1 (hf31 3 16 (by decide) (by kernel_rfl))
          have c33 : Ve31 b27 o28 = some (bs (nk.getD (k) [])) := (At.str at_b27).1
          have l34 : (nk.getD (k) []).length ≤ 140737488355328 := (At.str at_b27).2
          obtain ⟨hv4_Ve31, l30⟩ : ge31 17 = bs ((nk.getD (k) [])) ∧ ((nk.getD (k) []).length ≤ 140737488355328) := (hG31_4 _ _).1 (hf31 4 17 (by decide) (by kernel_rfl))
          obtain ⟨hv5_Ve31, l30⟩ : ge31 18 = .int .i64 ((((nk.getD (k) [])).length : Int)) ∧ ((nk.getD (k) []).length ≤ 140737488355328) := (hG31_5 _ _).1 (hf31 5 18 (by decide) (by kernel_rfl))
          obtain ⟨hv6_Ve31, l30⟩ : ge31 19 = .bool (true) ∧ ((nk.getD (k) []).length ≤ 140737488355328) := (hG31_6 _ _).1 (hf31 6 19 (by decide) (by kernel_rfl))
          obtain ⟨hv7_Ve31, l30⟩ : ge31 20 = .bool (true) ∧ ((nk.getD (k) []).length ≤ 140737488355328) := (hG31_7 _ _).1 (hf31 7 20 (by decide) (by kernel_rfl))
          obtain ⟨hv25_Ve31, l30⟩ : ge31 38 = .bool (true) ∧ ((nk.getD (k) []).length ≤ 140737488355328) := (hG31_25 _ _).1 (hf31 25 38 (by decide) (by kernel_rfl))
          refine wpF_see 13 (.pointer (some ⟨b2, 1, none⟩)) (Eq.trans (by kernel_rfl) hv0_Ve31) ?_
          refine wpF_see 14 (.slice Ank (nk).length cnk) (Eq.trans (by kernel_rfl) hv1_Ve31) ?_
          refine wpF_see 15 (.int .i64 ((k : Int))) (Eq.trans (by kernel_rfl) hv2_Ve31) ?_
          refine wpF_see 16 (.pointer (some ⟨b27, o28, none⟩)) (Eq.trans (by kernel_rfl) hv3_Ve31) ?_
          refine wpF_see 17 (bs ((nk.getD (k) []))) (Eq.trans (by kernel_rfl) hv4_Ve31) ?_
          refine wpF_see 18 (.int .i64 ((((nk.getD (k) [])).length : Int))) (Eq.trans (by kernel_rfl) hv5_Ve31) ?_
          refine wpF_see 19 (.bool (true)) (Eq.trans (by kernel_rfl) hv6_Ve31) ?_
          refine wpF_see 20 (.bool (true)) (Eq.trans (by kernel_rfl) hv7_Ve31) ?_
          refine wpF_see 38 (.bool (true)) (Eq.trans (by kernel_rfl) hv25_Ve31) ?_
          refine wpF_end _ (by kernel_rfl) (then_n (hK24 _ _ ?_))
          refine wp_ct (by kernel_rfl) ?_
          refine wp_seq_k (fun K36 hK36 => ?_)
          refine wp_reg ?_
          refine wpF_seg 1 (by kernel_rfl) ?_
          refine wpF_end _ (by kernel_rfl) (then_n (hK36 _ _ ?_))
          refine wp_ret (blk_r (then_r (then_r (blk_r (then_r (?_))))))
          refine retN [.bool (false)] (.bool (false)) Try.results35 (.tmp (by kernel_rfl) (by kernel_rfl) .nil) (by kernel_rfl) (hRet _ _ ⟨_, _, rfl, hMe31.clear, ?_⟩)
          -- end FLtt
          first | exact congrArg Value.bool (stands_long (k := k) (by omega) (by assumption)).symm | exact congrArg Value.bool (stands_rise (k := k) (by omega) (by omega) (by assumption)).symm | exact congrArg Value.bool (stands_val (k := q) (by omega) (by assumption)).symm | exact congrArg Value.bool (stands_kid (k := m) (by omega) (by omega)).symm | (rw [stands_all (by assumption)]; (first | rw [vals_none (by assumption)] | rw [kids_none (by assumption)]); simp only [h21, h25, cond_true, cond_false, Bool.true_and, Bool.and_true, Bool.false_and, Bool.and_false, Bool.not_true, Bool.not_false])
      · -- FLtf
        have p37 : ¬ ((128) < ((((nk.getD (k) [])).length : Int))) := of_decide_eq_false h25
        refine caseB (decide ((0) < ((k : Int)))) (fun h38 => ?_) (fun h38 => ?_)
        · -- FLtft
          have p39 : ((0) < ((k : Int))) := of_decide_eq_true h38
          refine wp_base [(1, .pointer (some ⟨b2, 0, none⟩)), (3, .int .i64 ((k : Int))), (6, .int .i64 ((k : Int))), (7, .pointer (some ⟨b2, 1, none⟩)), (8, .slice Ank (nk).length cnk), (9, .int .i64 ((nk.length : Int))), (10, .bool (decide (((k : Int)) < ((nk.length : Int)))))] (by kernel_rfl) (fun g0_58 => ?_)
          obtain ⟨G58, hGm58, hG58_0, hG58_1, hG58_2, hG58_3, hG58_4, hG58_5, hG58_6, hG58_7, hG58_8, hG58_9, hG58_10, hG58_11, hG58_12, hG58_13, hG58_14, hG58_15, hG58_16, hG58_17, hG58_18, hG58_19, hG58_20, hG58_21, hG58_22, hG58_23, hG58_24, hG58_25⟩ : ∃ G : Nat → Value → VT → Prop, (∀ j v V V', VT.le V V' → G j v V → G j v V') ∧ (∀ v_ V_, G 0 v_ V_ ↔ (v_ = .pointer (some ⟨b2, 1, none⟩))) ∧ (∀ v_ V_, G 1 v_ V_ ↔ (v_ = .slice Ank (nk).length cnk)) ∧ (∀ v_ V_, G 2 v_ V_ ↔ (v_ = .int .i64 ((k : Int)))) ∧ (∀ v_ V_, G 3 v_ V_ ↔ (∃ b40 : Nat, ∃ o41 : Nat, v_ = .pointer (some ⟨b40, o41, none⟩) ∧ (At strK V_ b40 o41 ((nk.getD (k) []))) ∧ ((nk.getD (k) []).length ≤ 140737488355328))) ∧ (∀ v_ V_, G 4 v_ V_ ↔ (v_ = bs ((nk.getD (k) [])) ∧ ((nk.getD (k) []).length ≤ 140737488355328))) ∧ (∀ v_ V_, G 5 v_ V_ ↔ (v_ = .int .i64 ((((nk.getD (k) [])).length : Int)) ∧ ((nk.getD (k) []).length ≤ 140737488355328))) ∧ (∀ v_ V_, G 6 v_ V_ ↔ (v_ = .bool (false) ∧ ((nk.getD (k) []).length ≤ 140737488355328))) ∧ (∀ v_ V_, G 7 v_ V_ ↔ (v_ = .bool (false) ∧ ((nk.getD (k) []).length ≤ 140737488355328))) ∧ (∀ v_ V_, G 8 v_ V_ ↔ (v_ = .int .i64 ((k : Int)))) ∧ (∀ v_ V_, G 9 v_ V_ ↔ (v_ = .bool (true))) ∧ (∀ v_ V_, G 10 v_ V_ ↔ (v_ = .bool (true))) ∧ (∀ v_ V_, G 11 v_ V_ ↔ (v_ = .pointer (some ⟨b2, 1, none⟩))) ∧ (∀ v_ V_, G 12 v_ V_ ↔ (v_ = .slice Ank (nk).length cnk)) ∧ (∀ v_ V_, G 13 v_ V_ ↔ (v_ = .int .i64 ((k : Int)))) ∧ (∀ v_ V_, G 14 v_ V_ ↔ (v_ = .int .i64 ((k : Int) - 1))) ∧ (∀ v_ V_, G 15 v_ V_ ↔ (∃ b44 : Nat, ∃ o45 : Nat, v_ = .pointer (some ⟨b44, o45, none⟩) ∧ (At strK V_ b44 o45 ((nk.getD (k - 1) []))) ∧ ((nk.getD (k - 1) []).length ≤ 140737488355328))) ∧ (∀ v_ V_, G 16 v_ V_ ↔ (v_ = bs ((nk.getD (k - 1) [])) ∧ ((nk.getD (k - 1) []).length ≤ 140737488355328))) ∧ (∀ v_ V_, G 17 v_ V_ ↔ (v_ = .pointer (some ⟨b2, 1, none⟩))) ∧ (∀ v_ V_, G 18 v_ V_ ↔ (v_ = .slice Ank (nk).length cnk)) ∧ (∀ v_ V_, G 19 v_ V_ ↔ (v_ = .int .i64 ((k : Int)))) ∧ (∀ v_ V_, G 20 v_ V_ ↔ (∃ b48 : Nat, ∃ o49 : Nat, v_ = .pointer (some ⟨b48, o49, none⟩) ∧ (At strK V_ b48 o49 ((nk.getD (k) []))) ∧ ((nk.getD (k) []).length ≤ 140737488355328))) ∧ (∀ v_ V_, G 21 v_ V_ ↔ (v_ = bs ((nk.getD (k) [])) ∧ ((nk.getD (k) []).length ≤ 140737488355328))) ∧ (∀ v_ V_, G 22 v_ V_ ↔ (v_ = .bool (decide (((nk.getD (k - 1) [])) < ((nk.getD (k) [])))))) ∧ (∀ v_ V_, G 23 v_ V_ ↔ (v_ = .bool (!(decide (((nk.getD (k - 1) [])) < ((nk.getD (k) []))))))) ∧ (∀ v_ V_, G 24 v_ V_ ↔ (v_ = .bool (!(decide (((nk.getD (k - 1) [])) < ((nk.getD (k) []))))))) ∧ (∀ v_ V_, G 25 v_ V_ ↔ (v_ = .bool (!(decide (((nk.getD (k - 1) [])) < ((nk.getD (k) []))))) ∧ ((nk.getD (k) []).length ≤ 140737488355328))) :=
              ⟨mG [mV (.pointer (some ⟨b2, 1, none⟩)), mV (.slice Ank (nk).length cnk), mV (.int .i64 ((k : Int))), mE fun b40 : Nat => mE fun o41 : Nat => mN (mV (.pointer (some ⟨b40, o41, none⟩))) (mN (mA strK b40 o41 ((nk.getD (k) []))) (mP ((nk.getD (k) []).length ≤ 140737488355328))), mN (mV (bs ((nk.getD (k) [])))) (mP ((nk.getD (k) []).length ≤ 140737488355328)), mN (mV (.int .i64 ((((nk.getD (k) [])).length : Int)))) (mP ((nk.getD (k) []).length ≤ 140737488355328)), mN (mV (.bool (false))) (mP ((nk.getD (k) []).length ≤ 140737488355328)), mN (mV (.bool (false))) (mP ((nk.getD (k) []).length ≤ 140737488355328)), mV (.int .i64 ((k : Int))), mV (.bool (true)), mV (.bool (true)), mV (.pointer (some ⟨b2, 1, none⟩)), mV (.slice Ank (nk).length cnk), mV (.int .i64 ((k : Int))), mV (.int .i64 ((k : Int) - 1)), mE fun b44 : Nat => mE fun o45 : Nat => mN (mV (.pointer (some ⟨b44, o45, none⟩))) (mN (mA strK b44 o45 ((nk.getD (k - 1) []))) (mP ((nk.getD (k - 1) []).length ≤ 140737488355328))), mN (mV (bs ((nk.getD (k - 1) [])))) (mP ((nk.getD (k - 1) []).length ≤ 140737488355328)), mV (.pointer (some ⟨b2, 1, none⟩)), mV (.slice Ank (nk).length cnk), mV (.int .i64 ((k : Int))), mE fun b48 : Nat => mE fun o49 : Nat => mN (mV (.pointer (some ⟨b48, o49, none⟩))) (mN (mA strK b48 o49 ((nk.getD (k) []))) (mP ((nk.getD (k) []).length ≤ 140737488355328))), mN (mV (bs ((nk.getD (k) [])))) (mP ((nk.getD (k) []).length ≤ 140737488355328)), mV (.bool (decide (((nk.getD (k - 1) [])) < ((nk.getD (k) []))))), mV (.bool (!(decide (((nk.getD (k - 1) [])) < ((nk.getD (k) [])))))), mV (.bool (!(decide (((nk.getD (k - 1) [])) < ((nk.getD (k) [])))))), mN (mV (.bool (!(decide (((nk.getD (k - 1) [])) < ((nk.getD (k) []))))))) (mP ((nk.getD (k) []).length ≤ 140737488355328))], mG_up _, fun _ _ => Iff.rfl, fun _ _ => Iff.rfl, fun _ _ => Iff.rfl, fun _ _ => Iff.rfl, fun _ _ => Iff.rfl, fun _ _ => Iff.rfl, fun _ _ => Iff.rfl, fun _ _ => Iff.rfl, fun _ _ => Iff.rfl, fun _ _ => Iff.rfl, fun _ _ => Iff.rfl, fun _ _ => Iff.rfl, fun _ _ => Iff.rfl, fun _ _ => Iff.rfl, fun _ _ => Iff.rfl, fun _ _ => Iff.rfl, fun _ _ => Iff.rfl, fun _ _ => Iff.rfl, fun _ _ => Iff.rfl, fun _ _ => Iff.rfl, fun _ _ => Iff.rfl, fun _ _ => Iff.rfl, fun _ _ => Iff.rfl, fun _ _ => Iff.rfl, fun _ _ => Iff.rfl, fun _ _ => Iff.rfl⟩
          refine wp_drawG (L0 := [(1, .pointer (some ⟨b2, 0, none⟩)), (3, .int .i64 ((k : Int))), (6, .int .i64 ((k : Int))), (7, .pointer (some ⟨b2, 1, none⟩)), (8, .slice Ank (nk).length cnk), (9, .int .i64 ((nk.length : Int))), (10, .bool (decide (((k : Int)) < ((nk.length : Int)))))]) 26 (by kernel_rfl) (by kernel_rfl) (by kernel_rfl) (by kernel_rfl) (by kernel_rfl) G58 hGm58 [] pre_nil (by kernel_rfl) [] (by kernel_rfl) (fun (S : Nat → Bool) (g : Nat → Value) => ([] : List Ent)) (fun _ _ _ _ _ => rfl) hM16 ?_ ?_
          · -- the operations
            refine all_snoc (.inr ⟨by decide, fun S58_25 g58_25 V58_25 w58_25 F58_25 cx58_25 hM58_25 => ?_⟩) ?_
            · -- op 25
              obtain ⟨hv7_V58_25, l43⟩ : g58_25 20 = .bool (false) ∧ ((nk.getD (k) []).length ≤ 140737488355328) := (hG58_7 _ _).1 (cx58_25.fact 7 20 (by decide) (cx58_25.dep 7 (by kernel_rfl)) (by kernel_rfl))
              obtain hv24_V58_25 : g58_25 37 = .bool (!(decide (((nk.getD (k - 1) [])) < ((nk.getD (k) []))))) := (hG58_24 _ _).1 (cx58_25.fact 24 37 (by decide) (cx58_25.dep 24 (by kernel_rfl)) (by kernel_rfl))
              refine wpF_see 20 (.bool (false)) (Eq.trans (by kernel_rfl) hv7_V58_25) ?_
              refine wpF_see 37 (.bool (!(decide (((nk.getD (k - 1) [])) < ((nk.getD (k) [])))))) (Eq.trans (by kernel_rfl) hv24_V58_25) ?_
              refine wpF_seg 1 (by kernel_rfl) ?_
              refine wpF_end _ (by kernel_rfl) (then_n ?_)
              exact one_in (some 38) (by kernel_rfl) (.bool (!(decide (((nk.getD (k - 1) [])) < ((nk.getD (k) [])))))) _ [(37, .bool (!(decide (((nk.getD (k - 1) [])) < ((nk.getD (k) [])))))), (20, .bool (false))] (seen_cons (Eq.trans (by kernel_rfl) hv24_V58_25) (seen_cons (Eq.trans (by kernel_rfl) hv7_V58_25) seen_nil)) (by kernel_rfl) (VT.le.refl _) hM58_25 ((hG58_25 _ _).2 ⟨rfl, l43⟩)
            refine all_snoc (.inr ⟨by decide, fun S58_24 g58_24 V58_24 w58_24 F58_24 cx58_24 hM58_24 => ?_⟩) ?_
            · -- op 24
              obtain ⟨hv7_V58_24, l43⟩ : g58_24 20 = .bool (false) ∧ ((nk.getD (k) []).length ≤ 140737488355328) := (hG58_7 _ _).1 (cx58_24.fact 7 20 (by decide) (cx58_24.dep 7 (by kernel_rfl)) (by kernel_rfl))
              obtain hv10_V58_24 : g58_24 23 = .bool (true) := (hG58_10 _ _).1 (cx58_24.fact 10 23 (by decide) (cx58_24.dep 10 (by kernel_rfl)) (by kernel_rfl))
              obtain hv23_V58_24 : g58_24 36 = .bool (!(decide (((nk.getD (k - 1) [])) < ((nk.getD (k) []))))) := (hG58_23 _ _).1 (cx58_24.fact 23 36 (by decide) (cx58_24.dep 23 (by kernel_rfl)) (by kernel_rfl))
              refine wpF_see 20 (.bool (false)) (Eq.trans (by kernel_rfl) hv7_V58_24) ?_
              refine wpF_see 23 (.bool (true)) (Eq.trans (by kernel_rfl) hv10_V58_24) ?_
              refine wpF_see 36 (.bool (!(decide (((nk.getD (k - 1) [])) < ((nk.getD (k) [])))))) (Eq.trans (by kernel_rfl) hv23_V58_24) ?_
              refine wpF_seg 1 (by kernel_rfl) ?_
              refine wpF_end _ (by kernel_rfl) (then_n ?_)
              exact one_in (some 37) (by kernel_rfl) (.bool (!(decide (((nk.getD (k - 1) [])) < ((nk.getD (k) [])))))) _ [(36, .bool (!(decide (((nk.getD (k - 1) [])) < ((nk.getD (k) [])))))), (23, .bool (true)), (20, .bool (false))] (seen_cons (Eq.trans (by kernel_rfl) hv23_V58_24) (seen_cons (Eq.trans (by kernel_rfl) hv10_V58_24) (seen_cons (Eq.trans (by kernel_rfl) hv7_V58_24) seen_nil))) (by kernel_rfl) (VT.le.refl _) hM58_24 ((hG58_24 _ _).2 rfl)
            refine all_snoc (.inr ⟨by decide, fun S58_23 g58_23 V58_23 w58_23 F58_23 cx58_23 hM58_23 => ?_⟩) ?_
            · -- op 23
              obtain hv10_V58_23 : g58_23 23 = .bool (true) := (hG58_10 _ _).1 (cx58_23.fact 10 23 (by decide) (cx58_23.dep 10 (by kernel_rfl)) (by kernel_rfl))
              obtain hv22_V58_23 : g58_23 35 = .bool (decide (((nk.getD (k - 1) [])) < ((nk.getD (k) [])))) := (hG58_22 _ _).1 (cx58_23.fact 22 35 (by decide) (cx58_23.dep 22 (by kernel_rfl)) (by kernel_rfl))
              refine wpF_see 23 (.bool (true)) (Eq.trans (by kernel_rfl) hv10_V58_23) ?_
              refine wpF_see 35 (.bool (decide (((nk.getD (k - 1) [])) < ((nk.getD (k) []))))) (Eq.trans (by kernel_rfl) hv22_V58_23) ?_
              refine wpF_seg 1 (by kernel_rfl) ?_
              refine wpF_end _ (by kernel_rfl) (then_n ?_)
              exact one_in (some 36) (by kernel_rfl) (.bool (!(decide (((nk.getD (k - 1) [])) < ((nk.getD (k) [])))))) _ [(35, .bool (decide (((nk.getD (k - 1) [])) < ((nk.getD (k) []))))), (23, .bool (true))] (seen_cons (Eq.trans (by kernel_rfl) hv22_V58_23) (seen_cons (Eq.trans (by kernel_rfl) hv10_V58_23) seen_nil)) (by kernel_rfl) (VT.le.refl _) hM58_23 ((hG58_23 _ _).2 rfl)
            refine all_snoc (.inr ⟨by decide, fun S58_22 g58_22 V58_22 w58_22 F58_22 cx58_22 hM58_22 => ?_⟩) ?_
            · -- op 22
              obtain hv10_V58_22 : g58_22 23 = .bool (true) := (hG58_10 _ _).1 (cx58_22.fact 10 23 (by decide) (cx58_22.dep 10 (by kernel_rfl)) (by kernel_rfl))
              obtain ⟨hv16_V58_22, l47⟩ : g58_22 29 = bs ((nk.getD (k - 1) [])) ∧ ((nk.getD (k - 1) []).length ≤ 140737488355328) := (hG58_16 _ _).1 (cx58_22.fact 16 29 (by decide) (cx58_22.dep 16 (by kernel_rfl)) (by kernel_rfl))
              obtain ⟨hv21_V58_22, l51⟩ : g58_22 34 = bs ((nk.getD (k) [])) ∧ ((nk.getD (k) []).length ≤ 140737488355328) := (hG58_21 _ _).1 (cx58_22.fact 21 34 (by decide) (cx58_22.dep 21 (by kernel_rfl)) (by kernel_rfl))
              refine wpF_see 23 (.bool (true)) (Eq.trans (by kernel_rfl) hv10_V58_22) ?_
              refine wpF_see 29 (bs ((nk.getD (k - 1) []))) (Eq.trans (by kernel_rfl) hv16_V58_22) ?_
              refine wpF_see 34 (bs ((nk.getD (k) []))) (Eq.trans (by kernel_rfl) hv21_V58_22) ?_
              refine wpF_callP hM58_22 (f := 49) (caps := #[]) (h := (by kernel_rfl : opAt _ _ _ _ _ = some (Go.Op.call (Go.Call.mk (Go.Callee.value (Go.Operand.func 49)) #[(Go.Operand.tmp 29), (Go.Operand.tmp 34)] #[9, 9]), some 35))) (by kernel_rfl) (by kernel_rfl) (by kernel_rfl) (f49 _ _ hM58_22.inW ((nk.getD (k - 1) [])) (l47) ((nk.getD (k) [])) (l51)) (fun v52 V53 w54 le55 hM56 hp57 => ?_)
              obtain rfl := hp57
              refine wpF_end _ (by kernel_rfl) (then_n ?_)
              exact one_in (some 35) (by kernel_rfl) (.bool (decide (((nk.getD (k - 1) [])) < ((nk.getD (k) []))))) _ [(34, bs ((nk.getD (k) []))), (29, bs ((nk.getD (k - 1) []))), (23, .bool (true))] (seen_cons (Eq.trans (by kernel_rfl) hv21_V58_22) (seen_cons (Eq.trans (by kernel_rfl) hv16_V58_22) (seen_cons (Eq.trans (by kernel_rfl) hv10_V58_22) seen_nil))) (by kernel_rfl) le55 hM56 ((hG58_22 _ _).2 rfl)
            refine all_snoc (.inr ⟨by decide, fun S58_21 g58_21 V58_21 w58_21 F58_21 cx58_21 hM58_21 => ?_⟩) ?_
            · -- op 21
              obtain hv10_V58_21 : g58_21 23 = .bool (true) := (hG58_10 _ _).1 (cx58_21.fact 10 23 (by decide) (cx58_21.dep 10 (by kernel_rfl)) (by kernel_rfl))
              obtain ⟨b48, o49, hv20_V58_21, at_b48, l51⟩ : ∃ b48 : Nat, ∃ o49 : Nat, g58_21 33 = .pointer (some ⟨b48, o49, none⟩) ∧ (At strK V58_21 b48 o49 ((nk.getD (k) []))) ∧ ((nk.getD (k) []).length ≤ 140737488355328) := (hG58_20 _ _).1 (cx58_21.fact 20 33 (by decide) (cx58_21.dep 20 (by kernel_rfl)) (by kernel_rfl))
              have c921401 : V58_21 b48 o49 = some (bs (nk.getD (k) [])) := (At.str at_b48).1
              have l921402 : (nk.getD (k) []).length ≤ 140737488355328 := (At.str at_b48).2
              refine wpF_see 23 (.bool (true)) (Eq.trans (by kernel_rfl) hv10_V58_21) ?_
              refine wpF_see 33 (.pointer (some ⟨b48, o49, none⟩)) (Eq.trans (by kernel_rfl) hv20_V58_21) ?_
              refine wpF_loadV hM58_21 c921401 (h := (by kernel_rfl : opAt _ _ _ _ _ = some (Go.Op.load 9 (Go.Operand.tmp 33), some 34))) (by kernel_rfl) (by kernel_rfl) ?_
              refine wpF_end _ (by kernel_rfl) (then_n ?_)
              exact one_in (some 34) (by kernel_rfl) (bs ((nk.getD (k) []))) _ [(33, .pointer (some ⟨b48, o49, none⟩)), (23, .bool (true))] (seen_cons (Eq.trans (by kernel_rfl) hv20_V58_21) (seen_cons (Eq.trans (by kernel_rfl) hv10_V58_21) seen_nil)) (by kernel_rfl) (VT.le.refl _) hM58_21 ((hG58_21 _ _).2 ⟨rfl, l51⟩)
            refine all_snoc (.inr ⟨by decide, fun S58_20 g58_20 V58_20 w58_20 F58_20 cx58_20 hM58_20 => ?_⟩) ?_
            · -- op 20
              obtain hv10_V58_20 : g58_20 23 = .bool (true) := (hG58_10 _ _).1 (cx58_20.fact 10 23 (by decide) (cx58_20.dep 10 (by kernel_rfl)) (by kernel_rfl))
              obtain hv18_V58_20 : g58_20 31 = .slice Ank (nk).length cnk := (hG58_18 _ _).1 (cx58_20.fact 18 31 (by decide) (cx58_20.dep 18 (by kernel_rfl)) (by kernel_rfl))
              obtain hv19_V58_20 : g58_20 32 = .int .i64 ((k : Int)) := (hG58_19 _ _).1 (cx58_20.fact 19 32 (by decide) (cx58_20.dep 19 (by kernel_rfl)) (by kernel_rfl))
              refine wpF_see 23 (.bool (true)) (Eq.trans (by kernel_rfl) hv10_V58_20) ?_
              refine wpF_see 31 (.slice Ank (nk).length cnk) (Eq.trans (by kernel_rfl) hv18_V58_20) ?_
              refine wpF_see 32 (.int .i64 ((k : Int))) (Eq.trans (by kernel_rfl) hv19_V58_20) ?_
              refine wpF_index (A := Ank) (c := cnk) (hnk.up hM58_20.le) .i64 ((k : Int)) (h := (by kernel_rfl : opAt _ _ _ _ _ = some (Go.Op.indexAddr 22 (Go.Operand.tmp 31) (Go.Operand.tmp 32), some 33))) (e := 9) (by kernel_rfl) (by kernel_rfl) (by kernel_rfl) (k) rfl (by omega) (fun b48 o49 at_b48 => ?_)
              have c50 : V58_20 b48 o49 = some (bs (nk.getD (k) [])) := (At.str at_b48).1
              have l51 : (nk.getD (k) []).length ≤ 140737488355328 := (At.str at_b48).2
              refine wpF_end _ (by kernel_rfl) (then_n ?_)
              exact one_in (some 33) (by kernel_rfl) (.pointer (some ⟨b48, o49, none⟩)) _ [(32, .int .i64 ((k : Int))), (31, .slice Ank (nk).length cnk), (23, .bool (true))] (seen_cons (Eq.trans (by kernel_rfl) hv19_V58_20) (seen_cons (Eq.trans (by kernel_rfl) hv18_V58_20) (seen_cons (Eq.trans (by kernel_rfl) hv10_V58_20) seen_nil))) (by kernel_rfl) (VT.le.refl _) hM58_20 ((hG58_20 _ _).2 ⟨b48, o49, rfl, at_b48, l51⟩)
            refine all_snoc (.inr ⟨by decide, fun S58_19 g58_19 V58_19 w58_19 F58_19 cx58_19 hM58_19 => ?_⟩) ?_
            · -- op 19
              obtain hv10_V58_19 : g58_19 23 = .bool (true) := (hG58_10 _ _).1 (cx58_19.fact 10 23 (by decide) (cx58_19.dep 10 (by kernel_rfl)) (by kernel_rfl))
              refine wpF_see 23 (.bool (true)) (Eq.trans (by kernel_rfl) hv10_V58_19) ?_
              refine wpF_seg 1 (by kernel_rfl) ?_
              refine wpF_end _ (by kernel_rfl) (then_n ?_)
              exact one_in (some 32) (by kernel_rfl) (.int .i64 ((k : Int))) _ [(23, .bool (true))] (seen_cons (Eq.trans (by kernel_rfl) hv10_V58_19) seen_nil) (by kernel_rfl) (VT.le.refl _) hM58_19 ((hG58_19 _ _).2 rfl)
            refine all_snoc (.inr ⟨by decide, fun S58_18 g58_18 V58_18 w58_18 F58_18 cx58_18 hM58_18 => ?_⟩) ?_
            · -- op 18
              obtain hv10_V58_18 : g58_18 23 = .bool (true) := (hG58_10 _ _).1 (cx58_18.fact 10 23 (by decide) (cx58_18.dep 10 (by kernel_rfl)) (by kernel_rfl))
              obtain hv17_V58_18 : g58_18 30 = .pointer (some ⟨b2, 1, none⟩) := (hG58_17 _ _).1 (cx58_18.fact 17 30 (by decide) (cx58_18.dep 17 (by kernel_rfl)) (by kernel_rfl))
              refine wpF_see 23 (.bool (true)) (Eq.trans (by kernel_rfl) hv10_V58_18) ?_
              refine wpF_see 30 (.pointer (some ⟨b2, 1, none⟩)) (Eq.trans (by kernel_rfl) hv17_V58_18) ?_
              refine wpF_loadB hM58_18 #[.bool (false), .slice Ank (nk).length cnk, .slice Anv (nv).length cnv, .slice Anc (nc).length cnc] (fun i v hi => (le17.trans cx58_18.le) _ _ _ (hc8 i v hi)) (h := (by kernel_rfl : opAt _ _ _ _ _ = some (Go.Op.load 22 (Go.Operand.tmp 30), some 31))) (off := 1) (by kernel_rfl) (.slice Ank (nk).length cnk) (by kernel_rfl) ?_
              refine wpF_end _ (by kernel_rfl) (then_n ?_)
              exact one_in (some 31) (by kernel_rfl) (.slice Ank (nk).length cnk) _ [(30, .pointer (some ⟨b2, 1, none⟩)), (23, .bool (true))] (seen_cons (Eq.trans (by kernel_rfl) hv17_V58_18) (seen_cons (Eq.trans (by kernel_rfl) hv10_V58_18) seen_nil)) (by kernel_rfl) (VT.le.refl _) hM58_18 ((hG58_18 _ _).2 rfl)
            refine all_snoc (.inr ⟨by decide, fun S58_17 g58_17 V58_17 w58_17 F58_17 cx58_17 hM58_17 => ?_⟩) ?_
            · -- op 17
              obtain hv10_V58_17 : g58_17 23 = .bool (true) := (hG58_10 _ _).1 (cx58_17.fact 10 23 (by decide) (cx58_17.dep 10 (by kernel_rfl)) (by kernel_rfl))
              refine wpF_see 23 (.bool (true)) (Eq.trans (by kernel_rfl) hv10_V58_17) ?_
              refine wpF_seg 1 (by kernel_rfl) ?_
              refine wpF_end _ (by kernel_rfl) (then_n ?_)
              exact one_in (some 30) (by kernel_rfl) (.pointer (some ⟨b2, 1, none⟩)) _ [(23, .bool (true))] (seen_cons (Eq.trans (by kernel_rfl) hv10_V58_17) seen_nil) (by kernel_rfl) (VT.le.refl _) hM58_17 ((hG58_17 _ _).2 rfl)
            refine all_snoc (.inr ⟨by decide, fun S58_16 g58_16 V58_16 w58_16 F58_16 cx58_16 hM58_16 => ?_⟩) ?_
            · -- op 16
              obtain hv10_V58_16 : g58_16 23 = .bool (true) := (hG58_10 _ _).1 (cx58_16.fact 10 23 (by decide) (cx58_16.dep 10 (by kernel_rfl)) (by kernel_rfl))
              obtain ⟨b44, o45, hv15_V58_16, at_b44, l47⟩ : ∃ b44 : Nat, ∃ o45 : Nat, g58_16 28 = .pointer (some ⟨b44, o45, none⟩) ∧ (At strK V58_16 b44 o45 ((nk.getD (k - 1) []))) ∧ ((nk.getD (k - 1) []).length ≤ 140737488355328) := (hG58_15 _ _).1 (cx58_16.fact 15 28 (by decide) (cx58_16.dep 15 (by kernel_rfl)) (by kernel_rfl))
              have c916301 : V58_16 b44 o45 = some (bs (nk.getD (k - 1) [])) := (At.str at_b44).1
              have l916302 : (nk.getD (k - 1) []).length ≤ 140737488355328 := (At.str at_b44).2
              refine wpF_see 23 (.bool (true)) (Eq.trans (by kernel_rfl) hv10_V58_16) ?_
              refine wpF_see 28 (.pointer (some ⟨b44, o45, none⟩)) (Eq.trans (by kernel_rfl) hv15_V58_16) ?_
              refine wpF_loadV hM58_16 c916301 (h := (by kernel_rfl : opAt _ _ _ _ _ = some (Go.Op.load 9 (Go.Operand.tmp 28), some 29))) (by kernel_rfl) (by kernel_rfl) ?_
              refine wpF_end _ (by kernel_rfl) (then_n ?_)
              exact one_in (some 29) (by kernel_rfl) (bs ((nk.getD (k - 1) []))) _ [(28, .pointer (some ⟨b44, o45, none⟩)), (23, .bool (true))] (seen_cons (Eq.trans (by kernel_rfl) hv15_V58_16) (seen_cons (Eq.trans (by kernel_rfl) hv10_V58_16) seen_nil)) (by kernel_rfl) (VT.le.refl _) hM58_16 ((hG58_16 _ _).2 ⟨rfl, l47⟩)
            refine all_snoc (.inr ⟨by decide, fun S58_15 g58_15 V58_15 w58_15 F58_15 cx58_15 hM58_15 => ?_⟩) ?_
            · -- op 15
              obtain hv10_V58_15 : g58_15 23 = .bool (true) := (hG58_10 _ _).1 (cx58_15.fact 10 23 (by decide) (cx58_15.dep 10 (by kernel_rfl)) (by kernel_rfl))
              obtain hv12_V58_15 : g58_15 25 = .slice Ank (nk).length cnk := (hG58_12 _ _).1 (cx58_15.fact 12 25 (by decide) (cx58_15.dep 12 (by kernel_rfl)) (by kernel_rfl))
              obtain hv14_V58_15 : g58_15 27 = .int .i64 ((k : Int) - 1) := (hG58_14 _ _).1 (cx58_15.fact 14 27 (by decide) (cx58_15.dep 14 (by kernel_rfl)) (by kernel_rfl))
              refine wpF_see 23 (.bool (true)) (Eq.trans (by kernel_rfl) hv10_V58_15) ?_
              refine wpF_see 25 (.slice Ank (nk).length cnk) (Eq.trans (by kernel_rfl) hv12_V58_15) ?_
              refine wpF_see 27 (.int .i64 ((k : Int) - 1)) (Eq.trans (by kernel_rfl) hv14_V58_15) ?_
              refine wpF_index (A := Ank) (c := cnk) (hnk.up hM58_15.le) .i64 ((k : Int) - 1) (h := (by kernel_rfl : opAt _ _ _ _ _ = some (Go.Op.indexAddr 22 (Go.Operand.tmp 25) (Go.Operand.tmp 27), some 28))) (e := 9) (by kernel_rfl) (by kernel_rfl) (by kernel_rfl) (k - 1) (by omega) (by omega) (fun b44 o45 at_b44 => ?_)
              have c46 : V58_15 b44 o45 = some (bs (nk.getD (k - 1) [])) := (At.str at_b44).1
              have l47 : (nk.getD (k - 1) []).length ≤ 140737488355328 := (At.str at_b44).2
              refine wpF_end _ (by kernel_rfl) (then_n ?_)
              exact one_in (some 28) (by kernel_rfl) (.pointer (some ⟨b44, o45, none⟩)) _ [(27, .int .i64 ((k : Int) - 1)), (25, .slice Ank (nk).length cnk), (23, .bool (true))] (seen_cons (Eq.trans (by kernel_rfl) hv14_V58_15) (seen_cons (Eq.trans (by kernel_rfl) hv12_V58_15) (seen_cons (Eq.trans (by kernel_rfl) hv10_V58_15) seen_nil))) (by kernel_rfl) (VT.le.refl _) hM58_15 ((hG58_15 _ _).2 ⟨b44, o45, rfl, at_b44, l47⟩)
            refine all_snoc (.inr ⟨by decide, fun S58_14 g58_14 V58_14 w58_14 F58_14 cx58_14 hM58_14 => ?_⟩) ?_
            · -- op 14
              obtain hv10_V58_14 : g58_14 23 = .bool (true) := (hG58_10 _ _).1 (cx58_14.fact 10 23 (by decide) (cx58_14.dep 10 (by kernel_rfl)) (by kernel_rfl))
              obtain hv13_V58_14 : g58_14 26 = .int .i64 ((k : Int)) := (hG58_13 _ _).1 (cx58_14.fact 13 26 (by decide) (cx58_14.dep 13 (by kernel_rfl)) (by kernel_rfl))
              refine wpF_see 23 (.bool (true)) (Eq.trans (by kernel_rfl) hv10_V58_14) ?_
              refine wpF_see 26 (.int .i64 ((k : Int))) (Eq.trans (by kernel_rfl) hv13_V58_14) ?_
              refine wpF_sub .i64 ((k : Int)) (1) ((k : Int) - 1) (h := (by kernel_rfl : opAt _ _ _ _ _ = some (Go.Op.binOp Go.BinOp.sub 3 (Go.Operand.tmp 26) (Go.Operand.const (Go.Value.int Go.IntKind.i64 1)) 3, some 27))) (by kernel_rfl) (by kernel_rfl) (wrap64_ok _ (by omega)) ?_
              refine wpF_end _ (by kernel_rfl) (then_n ?_)
              exact one_in (some 27) (by kernel_rfl) (.int .i64 ((k : Int) - 1)) _ [(26, .int .i64 ((k : Int))), (23, .bool (true))] (seen_cons (Eq.trans (by kernel_rfl) hv13_V58_14) (seen_cons (Eq.trans (by kernel_rfl) hv10_V58_14) seen_nil)) (by kernel_rfl) (VT.le.refl _) hM58_14 ((hG58_14 _ _).2 rfl)
            refine all_snoc (.inr ⟨by decide, fun S58_13 g58_13 V58_13 w58_13 F58_13 cx58_13 hM58_13 => ?_⟩) ?_
            · -- op 13
              obtain hv10_V58_13 : g58_13 23 = .bool (true) := (hG58_10 _ _).1 (cx58_13.fact 10 23 (by decide) (cx58_13.dep 10 (by kernel_rfl)) (by kernel_rfl))
              refine wpF_see 23 (.bool (true)) (Eq.trans (by kernel_rfl) hv10_V58_13) ?_
              refine wpF_seg 1 (by kernel_rfl) ?_
              refine wpF_end _ (by kernel_rfl) (then_n ?_)
              exact one_in (some 26) (by kernel_rfl) (.int .i64 ((k : Int))) _ [(23, .bool (true))] (seen_cons (Eq.trans (by kernel_rfl) hv10_V58_13) seen_nil) (by kernel_rfl) (VT.le.refl _) hM58_13 ((hG58_13 _ _).2 rfl)
            refine all_snoc (.inr ⟨by decide, fun S58_12 g58_12 V58_12 w58_12 F58_12 cx58_12 hM58_12 => ?_⟩) ?_
            · -- op 12
              obtain hv10_V58_12 : g58_12 23 = .bool (true) := (hG58_10 _ _).1 (cx58_12.fact 10 23 (by decide) (cx58_12.dep 10 (by kernel_rfl)) (by kernel_rfl))
              obtain hv11_V58_12 : g58_12 24 = .pointer (some ⟨b2, 1, none⟩) := (hG58_11 _ _).1 (cx58_12.fact 11 24 (by decide) (cx58_12.dep 11 (by kernel_rfl)) (by kernel_rfl))
              refine wpF_see 23 (.bool (true)) (Eq.trans (by kernel_rfl) hv10_V58_12) ?_
              refine wpF_see 24 (.pointer (some ⟨b2, 1, none⟩)) (Eq.trans (by kernel_rfl) hv11_V58_12) ?_
              refine wpF_loadB hM58_12 #[.bool (false), .slice Ank (nk).length cnk, .slice Anv (nv).length cnv, .slice Anc (nc).length cnc] (fun i v hi => (le17.trans cx58_12.le) _ _ _ (hc8 i v hi)) (h := (by kernel_rfl : opAt _ _ _ _ _ = some (Go.Op.load 22 (Go.Operand.tmp 24), some 25))) (off := 1) (by kernel_rfl) (.slice Ank (nk).length cnk) (by kernel_rfl) ?_
              refine wpF_end _ (by kernel_rfl) (then_n ?_)
              exact one_in (some 25) (by kernel_rfl) (.slice Ank (nk).length cnk) _ [(24, .pointer (some ⟨b2, 1, none⟩)), (23, .bool (true))] (seen_cons (Eq.trans (by kernel_rfl) hv11_V58_12) (seen_cons (Eq.trans (by kernel_rfl) hv10_V58_12) seen_nil)) (by kernel_rfl) (VT.le.refl _) hM58_12 ((hG58_12 _ _).2 rfl)
            refine all_snoc (.inr ⟨by decide, fun S58_11 g58_11 V58_11 w58_11 F58_11 cx58_11 hM58_11 => ?_⟩) ?_
            · -- op 11
              obtain hv10_V58_11 : g58_11 23 = .bool (true) := (hG58_10 _ _).1 (cx58_11.fact 10 23 (by decide) (cx58_11.dep 10 (by kernel_rfl)) (by kernel_rfl))
              refine wpF_see 23 (.bool (true)) (Eq.trans (by kernel_rfl) hv10_V58_11) ?_
              refine wpF_seg 1 (by kernel_rfl) ?_
              refine wpF_end _ (by kernel_rfl) (then_n ?_)
              exact one_in (some 24) (by kernel_rfl) (.pointer (some ⟨b2, 1, none⟩)) _ [(23, .bool (true))] (seen_cons (Eq.trans (by kernel_rfl) hv10_V58_11) seen_nil) (by kernel_rfl) (VT.le.refl _) hM58_11 ((hG58_11 _ _).2 rfl)
            refine all_snoc (.inr ⟨by decide, fun S58_10 g58_10 V58_10 w58_10 F58_10 cx58_10 hM58_10 => ?_⟩) ?_
            · -- op 10
              obtain ⟨hv7_V58_10, l43⟩ : g58_10 20 = .bool (false) ∧ ((nk.getD (k) []).length ≤ 140737488355328) := (hG58_7 _ _).1 (cx58_10.fact 7 20 (by decide) (cx58_10.dep 7 (by kernel_rfl)) (by kernel_rfl))
              obtain hv9_V58_10 : g58_10 22 = .bool (true) := (hG58_9 _ _).1 (cx58_10.fact 9 22 (by decide) (cx58_10.dep 9 (by kernel_rfl)) (by kernel_rfl))
              refine wpF_see 20 (.bool (false)) (Eq.trans (by kernel_rfl) hv7_V58_10) ?_
              refine wpF_see 22 (.bool (true)) (Eq.trans (by kernel_rfl) hv9_V58_10) ?_
              refine wpF_seg 1 (by kernel_rfl) ?_
              refine wpF_end _ (by kernel_rfl) (then_n ?_)
              exact one_in (some 23) (by kernel_rfl) (.bool (true)) _ [(22, .bool (true)), (20, .bool (false))] (seen_cons (Eq.trans (by kernel_rfl) hv9_V58_10) (seen_cons (Eq.trans (by kernel_rfl) hv7_V58_10) seen_nil)) (by kernel_rfl) (VT.le.refl _) hM58_10 ((hG58_10 _ _).2 rfl)
            refine all_snoc (.inr ⟨by decide, fun S58_9 g58_9 V58_9 w58_9 F58_9 cx58_9 hM58_9 => ?_⟩) ?_
            · -- op 9
              obtain ⟨hv7_V58_9, l43⟩ : g58_9 20 = .bool (false) ∧ ((nk.getD (k) []).length ≤ 140737488355328) := (hG58_7 _ _).1 (cx58_9.fact 7 20 (by decide) (cx58_9.dep 7 (by kernel_rfl)) (by kernel_rfl))
              obtain hv8_V58_9 : g58_9 21 = .int .i64 ((k : Int)) := (hG58_8 _ _).1 (cx58_9.fact 8 21 (by decide) (cx58_9.dep 8 (by kernel_rfl)) (by kernel_rfl))
              refine wpF_see 20 (.bool (false)) (Eq.trans (by kernel_rfl) hv7_V58_9) ?_
              refine wpF_see 21 (.int .i64 ((k : Int))) (Eq.trans (by kernel_rfl) hv8_V58_9) ?_
              refine wpF_seg 1 (by kernel_rfl) ?_
              refine wpF_slot 22 (.bool (decide ((0) < ((k : Int))))) (.bool true) (by kernel_rfl) (by kernel_rfl) (by rw [h38]) ?_
              refine wpF_end _ (by kernel_rfl) (then_n ?_)
              exact one_in (some 22) (by kernel_rfl) (.bool (true)) _ [(21, .int .i64 ((k : Int))), (20, .bool (false))] (seen_cons (Eq.trans (by kernel_rfl) hv8_V58_9) (seen_cons (Eq.trans (by kernel_rfl) hv7_V58_9) seen_nil)) (by kernel_rfl) (VT.le.refl _) hM58_9 ((hG58_9 _ _).2 rfl)
            refine all_snoc (.inr ⟨by decide, fun S58_8 g58_8 V58_8 w58_8 F58_8 cx58_8 hM58_8 => ?_⟩) ?_
            · -- op 8
              obtain ⟨hv7_V58_8, l43⟩ : g58_8 20 = .bool (false) ∧ ((nk.getD (k) []).length ≤ 140737488355328) := (hG58_7 _ _).1 (cx58_8.fact 7 20 (by decide) (cx58_8.dep 7 (by kernel_rfl)) (by kernel_rfl))
              refine wpF_see 20 (.bool (false)) (Eq.trans (by kernel_rfl) hv7_V58_8) ?_
              refine wpF_seg 1 (by kernel_rfl) ?_
              refine wpF_end _ (by kernel_rfl) (then_n ?_)
              exact one_in (some 21) (by kernel_rfl) (.int .i64 ((k : Int))) _ [(20, .bool (false))] (seen_cons (Eq.trans (by kernel_rfl) hv7_V58_8) seen_nil) (by kernel_rfl) (VT.le.refl _) hM58_8 ((hG58_8 _ _).2 rfl)
            refine all_snoc (.inr ⟨by decide, fun S58_7 g58_7 V58_7 w58_7 F58_7 cx58_7 hM58_7 => ?_⟩) ?_
            · -- op 7
              obtain ⟨hv6_V58_7, l43⟩ : g58_7 19 = .bool (false) ∧ ((nk.getD (k) []).length ≤ 140737488355328) := (hG58_6 _ _).1 (cx58_7.fact 6 19 (by decide) (cx58_7.dep 6 (by kernel_rfl)) (by kernel_rfl))
              refine wpF_see 19 (.bool (false)) (Eq.trans (by kernel_rfl) hv6_V58_7) ?_
              refine wpF_seg 1 (by kernel_rfl) ?_
              refine wpF_end _ (by kernel_rfl) (then_n ?_)
              exact one_in (some 20) (by kernel_rfl) (.bool (false)) _ [(19, .bool (false))] (seen_cons (Eq.trans (by kernel_rfl) hv6_V58_7) seen_nil) (by kernel_rfl) (VT.le.refl _) hM58_7 ((hG58_7 _ _).2 ⟨rfl, l43⟩)
            refine all_snoc (.inr ⟨by decide, fun S58_6 g58_6 V58_6 w58_6 F58_6 cx58_6 hM58_6 => ?_⟩) ?_
            · -- op 6
              obtain ⟨hv5_V58_6, l43⟩ : g58_6 18 = .int .i64 ((((nk.getD (k) [])).length : Int)) ∧ ((nk.getD (k) []).length ≤ 140737488355328) := (hG58_5 _ _).1 (cx58_6.fact 5 18 (by decide) (cx58_6.dep 5 (by kernel_rfl)) (by kernel_rfl))
              refine wpF_see 18 (.int .i64 ((((nk.getD (k) [])).length : Int))) (Eq.trans (by kernel_rfl) hv5_V58_6) ?_
              refine wpF_seg 1 (by kernel_rfl) ?_
              refine wpF_slot 19 (.bool (decide ((128) < ((((nk.getD (k) [])).length : Int))))) (.bool false) (by kernel_rfl) (by kernel_rfl) (by rw [h25]) ?_
              refine wpF_end _ (by kernel_rfl) (then_n ?_)
              exact one_in (some 19) (by kernel_rfl) (.bool (false)) _ [(18, .int .i64 ((((nk.getD (k) [])).length : Int)))] (seen_cons (Eq.trans (by kernel_rfl) hv5_V58_6) seen_nil) (by kernel_rfl) (VT.le.refl _) hM58_6 ((hG58_6 _ _).2 ⟨rfl, l43⟩)
            refine all_snoc (.inr ⟨by decide, fun S58_5 g58_5 V58_5 w58_5 F58_5 cx58_5 hM58_5 => ?_⟩) ?_
            · -- op 5
              obtain ⟨hv4_V58_5, l43⟩ : g58_5 17 = bs ((nk.getD (k) [])) ∧ ((nk.getD (k) []).length ≤ 140737488355328) := (hG58_4 _ _).1 (cx58_5.fact 4 17 (by decide) (cx58_5.dep 4 (by kernel_rfl)) (by kernel_rfl))
              refine wpF_see 17 (bs ((nk.getD (k) []))) (Eq.trans (by kernel_rfl) hv4_V58_5) ?_
              refine wpF_seg 1 (by kernel_rfl) ?_
              refine wpF_end _ (by kernel_rfl) (then_n ?_)
              exact one_in (some 18) (by kernel_rfl) (.int .i64 ((((nk.getD (k) [])).length : Int))) _ [(17, bs ((nk.getD (k) [])))] (seen_cons (Eq.trans (by kernel_rfl) hv4_V58_5) seen_nil) (by kernel_rfl) (VT.le.refl _) hM58_5 ((hG58_5 _ _).2 ⟨rfl, l43⟩)
            refine all_snoc (.inr ⟨by decide, fun S58_4 g58_4 V58_4 w58_4 F58_4 cx58_4 hM58_4 => ?_⟩) ?_
            · -- op 4
              obtain ⟨b40, o41, hv3_V58_4, at_b40, l43⟩ : ∃ b40 : Nat, ∃ o41 : Nat, g58_4 16 = .pointer (some ⟨b40, o41, none⟩) ∧ (At strK V58_4 b40 o41 ((nk.getD (k) []))) ∧ ((nk.getD (k) []).length ≤ 140737488355328) := (hG58_3 _ _).1 (cx58_4.fact 3 16 (by decide) (cx58_4.dep 3 (by kernel_rfl)) (by kernel_rfl))
              have c904061 : V58_4 b40 o41 = some (bs (nk.getD (k) [])) := (At.str at_b40).1
              have l904062 : (nk.getD (k) []).length ≤ 140737488355328 := (At.str at_b40).2
              refine wpF_see 16 (.pointer (some ⟨b40, o41, none⟩)) (Eq.trans (by kernel_rfl) hv3_V58_4) ?_
              refine wpF_loadV hM58_4 c904061 (h := (by kernel_rfl : opAt _ _ _ _ _ = some (Go.Op.load 9 (Go.Operand.tmp 16), some 17))) (by kernel_rfl) (by kernel_rfl) ?_
              refine wpF_end _ (by kernel_rfl) (then_n ?_)
              exact one_in (some 17) (by kernel_rfl) (bs ((nk.getD (k) []))) _ [(16, .pointer (some ⟨b40, o41, none⟩))] (seen_cons (Eq.trans (by kernel_rfl) hv3_V58_4) seen_nil) (by kernel_rfl) (VT.le.refl _) hM58_4 ((hG58_4 _ _).2 ⟨rfl, l43⟩)
            refine all_snoc (.inr ⟨by decide, fun S58_3 g58_3 V58_3 w58_3 F58_3 cx58_3 hM58_3 => ?_⟩) ?_
            · -- op 3
              obtain hv1_V58_3 : g58_3 14 = .slice Ank (nk).length cnk := (hG58_1 _ _).1 (cx58_3.fact 1 14 (by decide) (cx58_3.dep 1 (by kernel_rfl)) (by kernel_rfl))
              obtain hv2_V58_3 : g58_3 15 = .int .i64 ((k : Int)) := (hG58_2 _ _).1 (cx58_3.fact 2 15 (by decide) (cx58_3.dep 2 (by kernel_rfl)) (by kernel_rfl))
              refine wpF_see 14 (.slice Ank (nk).length cnk) (Eq.trans (by kernel_rfl) hv1_V58_3) ?_
              refine wpF_see 15 (.int .i64 ((k : Int))) (Eq.trans (by kernel_rfl) hv2_V58_3) ?_
              refine wpF_index (A := Ank) (c := cnk) (hnk.up hM58_3.le) .i64 ((k : Int)) (h := (by kernel_rfl : opAt _ _ _ _ _ = some (Go.Op.indexAddr 22 (Go.Operand.tmp 14) (Go.Operand.tmp 15), some 16))) (e := 9) (by kernel_rfl) (by kernel_rfl) (by kernel_rfl) (k) rfl (by omega) (fun b40 o41 at_b40 => ?_)
              have c42 : V58_3 b40 o41 = some (bs (nk.getD (k) [])) := (At.str at_b40).1
              have l43 : (nk.getD (k) []).length ≤ 140737488355328 := (At.str at_b40).2
              refine wpF_end _ (by kernel_rfl) (then_n ?_)
              exact one_in (some 16) (by kernel_rfl) (.pointer (some ⟨b40, o41, none⟩)) _ [(15, .int .i64 ((k : Int))), (14, .slice Ank (nk).length cnk)] (seen_cons (Eq.trans (by kernel_rfl) hv2_V58_3) (seen_cons (Eq.trans (by kernel_rfl) hv1_V58_3) seen_nil)) (by kernel_rfl) (VT.le.refl _) hM58_3 ((hG58_3 _ _).2 ⟨b40, o41, rfl, at_b40, l43⟩)
            refine all_snoc (.inr ⟨by decide, fun S58_2 g58_2 V58_2 w58_2 F58_2 cx58_2 hM58_2 => ?_⟩) ?_
            · -- op 2
              refine wpF_seg 1 (by kernel_rfl) ?_
              refine wpF_end _ (by kernel_rfl) (then_n ?_)
              exact one_in (some 15) (by kernel_rfl) (.int .i64 ((k : Int))) _ [] seen_nil (by kernel_rfl) (VT.le.refl _) hM58_2 ((hG58_2 _ _).2 rfl)
            refine all_snoc (.inr ⟨by decide, fun S58_1 g58_1 V58_1 w58_1 F58_1 cx58_1 hM58_1 => ?_⟩) ?_
            · -- op 1
              obtain hv0_V58_1 : g58_1 13 = .pointer (some ⟨b2, 1, none⟩) := (hG58_0 _ _).1 (cx58_1.fact 0 13 (by decide) (cx58_1.dep 0 (by kernel_rfl)) (by kernel_rfl))
              refine wpF_see 13 (.pointer (some ⟨b2, 1, none⟩)) (Eq.trans (by kernel_rfl) hv0_V58_1) ?_
              refine wpF_loadB hM58_1 #[.bool (false), .slice Ank (nk).length cnk, .slice Anv (nv).length cnv, .slice Anc (nc).length cnc] (fun i v hi => (le17.trans cx58_1.le) _ _ _ (hc8 i v hi)) (h := (by kernel_rfl : opAt _ _ _ _ _ = some (Go.Op.load 22 (Go.Operand.tmp 13), some 14))) (off := 1) (by kernel_rfl) (.slice Ank (nk).length cnk) (by kernel_rfl) ?_
              refine wpF_end _ (by kernel_rfl) (then_n ?_)
              exact one_in (some 14) (by kernel_rfl) (.slice Ank (nk).length cnk) _ [(13, .pointer (some ⟨b2, 1, none⟩))] (seen_cons (Eq.trans (by kernel_rfl) hv0_V58_1) seen_nil) (by kernel_rfl) (VT.le.refl _) hM58_1 ((hG58_1 _ _).2 rfl)
            refine all_snoc (.inr ⟨by decide, fun S58_0 g58_0 V58_0 w58_0 F58_0 cx58_0 hM58_0 => ?_⟩) ?_
            · -- op 0
              refine wpF_seg 1 (by kernel_rfl) ?_
              refine wpF_end _ (by kernel_rfl) (then_n ?_)
              exact one_in (some 13) (by kernel_rfl) (.pointer (some ⟨b2, 1, none⟩)) _ [] seen_nil (by kernel_rfl) (VT.le.refl _) hM58_0 ((hG58_0 _ _).2 rfl)
            exact all_none
          · -- behind it
            intro ge58 Ve58 we58 hMe58 hle58 hf58
            refine wpF_stop (P := Try.prog) (ops := #[]) (i := 0) _ rfl ?_
            obtain hv0_Ve58 : ge58 13 = .pointer (some ⟨b2, 1, none⟩) := (hG58_0 _ _).1 (hf58 0 13 (by decide) (by kernel_rfl))
            obtain hv1_Ve58 : ge58 14 = .slice Ank (nk).length cnk := (hG58_1 _ _).1 (hf58 1 14 (by decide) (by kernel_rfl))
            obtain hv2_Ve58 : ge58 15 = .int .i64 ((k : Int)) := (hG58_2 _ _).1 (hf58 2 15 (by decide) (by kernel_rfl))
            obtain ⟨b40, o41, hv3_Ve58, at_b40, l43⟩ : ∃ b40 : Nat, ∃ o41 : Nat, ge58 16 = .pointer (some ⟨b40, o41, none⟩) ∧ (At strK Ve58 b40 o41 ((nk.getD (k) []))) ∧ ((nk.getD (k) []).length ≤ 140737488355328) := (hG58_3 _ _).1 (hf58 3 16 (by decide) (by kernel_rfl))
            have c60 : Ve58 b40 o41 = some (bs (nk.getD (k) [])) := (At.str at_b40).1
            have l61 : (nk.getD (k) []).length ≤ 140737488355328 := (At.str at_b40).2
            obtain ⟨hv4_Ve58, l43⟩ : ge58 17 = bs ((nk.getD (k) [])) ∧ ((nk.getD (k) []).length ≤ 140737488355328) := (hG58_4 _ _).1 (hf58 4 17 (by decide) (by kernel_rfl))
            obtain ⟨hv5_Ve58, l43⟩ : ge58 18 = .int .i64 ((((nk.getD (k) [])).length : Int)) ∧ ((nk.getD (k) []).length ≤ 140737488355328) := (hG58_5 _ _).1 (hf58 5 18 (by decide) (by kernel_rfl))
            obtain ⟨hv6_Ve58, l43⟩ : ge58 19 = .bool (false) ∧ ((nk.getD (k) []).length ≤ 140737488355328) := (hG58_6 _ _).1 (hf58 6 19 (by decide) (by kernel_rfl))
            obtain ⟨hv7_Ve58, l43⟩ : ge58 20 = .bool (false) ∧ ((nk.getD (k) []).length ≤ 140737488355328) := (hG58_7 _ _).1 (hf58 7 20 (by decide) (by kernel_rfl))
            obtain hv8_Ve58 : ge58 21 = .int .i64 ((k : Int)) := (hG58_8 _ _).1 (hf58 8 21 (by decide) (by kernel_rfl))
            obtain hv9_Ve58 : ge58 22 = .bool (true) := (hG58_9 _ _).1 (hf58 9 22 (by decide) (by kernel_rfl))
            obtain hv10_Ve58 : ge58 23 = .bool (true) := (hG58_10 _ _).1 (hf58 10 23 (by decide) (by kernel_rfl))
            obtain hv11_Ve58 : ge58 24 = .pointer (some ⟨b2, 1, none⟩) := (hG58_11 _ _).1 (hf58 11 24 (by decide) (by kernel_rfl))
            obtain hv12_Ve58 : ge58 25 = .slice Ank (nk).length cnk := (hG58_12 _ _).1 (hf58 12 25 (by decide) (by kernel_rfl))
            obtain hv13_Ve58 : ge58 26 = .int .i64 ((k : Int)) := (hG58_13 _ _).1 (hf58 13 26 (by decide) (by kernel_rfl))
            obtain hv14_Ve58 : ge58 27 = .int .i64 ((k : Int) - 1) := (hG58_14 _ _).1 (hf58 14 27 (by decide) (by kernel_rfl))
            obtain ⟨b44, o45, hv15_Ve58, at_b44, l47⟩ : ∃ b44 : Nat, ∃ o45 : Nat, ge58 28 = .pointer (some ⟨b44, o45, none⟩) ∧ (At strK Ve58 b44 o45 ((nk.getD (k - 1) []))) ∧ ((nk.getD (k - 1) []).length ≤ 140737488355328) := (hG58_15 _ _).1 (hf58 15 28 (by decide) (by kernel_rfl))
            have c62 : Ve58 b44 o45 = some (bs (nk.getD (k - 1) [])) := (At.str at_b44).1
            have l63 : (nk.getD (k - 1) []).length ≤ 140737488355328 := (At.str at_b44).2
            obtain ⟨hv16_Ve58, l47⟩ : ge58 29 = bs ((nk.getD (k - 1) [])) ∧ ((nk.getD (k - 1) []).length ≤ 140737488355328) := (hG58_16 _ _).1 (hf58 16 29 (by decide) (by kernel_rfl))
            obtain hv17_Ve58 : ge58 30 = .pointer (some ⟨b2, 1, none⟩) := (hG58_17 _ _).1 (hf58 17 30 (by decide) (by kernel_rfl))
            obtain hv18_Ve58 : ge58 31 = .slice Ank (nk).length cnk := (hG58_18 _ _).1 (hf58 18 31 (by decide) (by kernel_rfl))
            obtain hv19_Ve58 : ge58 32 = .int .i64 ((k : Int)) := (hG58_19 _ _).1 (hf58 19 32 (by decide) (by kernel_rfl))
            obtain ⟨b48, o49, hv20_Ve58, at_b48, l51⟩ : ∃ b48 : Nat, ∃ o49 : Nat, ge58 33 = .pointer (some ⟨b48, o49, none⟩) ∧ (At strK Ve58 b48 o49 ((nk.getD (k) []))) ∧ ((nk.getD (k) []).length ≤ 140737488355328) := (hG58_20 _ _).1 (hf58 20 33 (by decide) (by kernel_rfl))
            have c64 : Ve58 b48 o49 = some (bs (nk.getD (k) [])) := (At.str at_b48).1
            have l65 : (nk.getD (k) []).length ≤ 140737488355328 := (At.str at_b48).2
            obtain ⟨hv21_Ve58, l51⟩ : ge58 34 = bs ((nk.getD (k) [])) ∧ ((nk.getD (k) []).length ≤ 140737488355328) := (hG58_21 _ _).1 (hf58 21 34 (by decide) (by kernel_rfl))
            obtain hv22_Ve58 : ge58 35 = .bool (decide (((nk.getD (k - 1) [])) < ((nk.getD (k) [])))) := (hG58_22 _ _).1 (hf58 22 35 (by decide) (by kernel_rfl))
            obtain hv23_Ve58 : ge58 36 = .bool (!(decide (((nk.getD (k - 1) [])) < ((nk.getD (k) []))))) := (hG58_23 _ _).1 (hf58 23 36 (by decide) (by kernel_rfl))
            obtain hv24_Ve58 : ge58 37 = .bool (!(decide (((nk.getD (k - 1) [])) < ((nk.getD (k) []))))) := (hG58_24 _ _).1 (hf58 24 37 (by decide) (by kernel_rfl))
            obtain ⟨hv25_Ve58, l43⟩ : ge58 38 = .bool (!(decide (((nk.getD (k - 1) [])) < ((nk.getD (k) []))))) ∧ ((nk.getD (k) []).length ≤ 140737488355328) := (hG58_25 _ _).1 (hf58 25 38 (by decide) (by kernel_rfl))
            refine wpF_see 13 (.pointer (some ⟨b2, 1, none⟩)) (Eq.trans (by kernel_rfl) hv0_Ve58) ?_
            refine wpF_see 14 (.slice Ank (nk).length cnk) (Eq.trans (by kernel_rfl) hv1_Ve58) ?_
            refine wpF_see 15 (.int .i64 ((k : Int))) (Eq.trans (by kernel_rfl) hv2_Ve58) ?_
            refine wpF_see 16 (.pointer (some ⟨b40, o41, none⟩)) (Eq.trans (by kernel_rfl) hv3_Ve58) ?_
            refine wpF_see 17 (bs ((nk.getD (k) []))) (Eq.trans (by kernel_rfl) hv4_Ve58) ?_
            refine wpF_see 18 (.int .i64 ((((nk.getD (k) [])).length : Int))) (Eq.trans (by kernel_rfl) hv5_Ve58) ?_
            refine wpF_see 19 (.bool (false)) (Eq.trans (by kernel_rfl) hv6_Ve58) ?_
            refine wpF_see 20 (.bool (false)) (Eq.trans (by kernel_rfl) hv7_Ve58) ?_
            refine wpF_see 21 (.int .i64 ((k : Int))) (Eq.trans (by kernel_rfl) hv8_Ve58) ?_
            refine wpF_see 22 (.bool (true)) (Eq.trans (by kernel_rfl) hv9_Ve58) ?_
            refine wpF_see 23 (.bool (true)) (Eq.trans (by kernel_rfl) hv10_Ve58) ?_
            refine wpF_see 24 (.pointer (some ⟨b2, 1, none⟩)) (Eq.trans (by kernel_rfl) hv11_Ve58) ?_
            refine wpF_see 25 (.slice Ank (nk).length cnk) (Eq.trans (by kernel_rfl) hv12_Ve58) ?_
            refine wpF_see 26 (.int .i64 ((k : Int))) (Eq.trans (by kernel_rfl) hv13_Ve58) ?_
            refine wpF_see 27 (.int .i64 ((k : Int) - 1)) (Eq.trans (by kernel_rfl) hv14_Ve58) ?_
            refine wpF_see 28 (.pointer (some ⟨b44, o45, none⟩)) (Eq.trans (by kernel_rfl) hv15_Ve58) ?_
            refine wpF_see 29 (bs ((nk.getD (k - 1) []))) (Eq.trans (by kernel_rfl) hv16_Ve58) ?_
            refine wpF_see 30 (.pointer (some ⟨b2, 1, none⟩)) (Eq.trans (by kernel_rfl) hv17_Ve58) ?_
            refine wpF_see 31 (.slice Ank (nk).length cnk) (Eq.trans (by kernel_rfl) hv18_Ve58) ?_
            refine wpF_see 32 (.int .i64 ((k : Int))) (Eq.trans (by kernel_rfl) hv19_Ve58) ?_
            refine wpF_see 33 (.pointer (some ⟨b48, o49, none⟩)) (Eq.trans (by kernel_rfl) hv20_Ve58) ?_
            refine wpF_see 34 (bs ((nk.getD (k) []))) (Eq.trans (by kernel_rfl) hv21_Ve58) ?_
            refine wpF_see 35 (.bool (decide (((nk.getD (k - 1) [])) < ((nk.getD (k) []))))) (Eq.trans (by kernel_rfl) hv22_Ve58) ?_
            refine wpF_see 36 (.bool (!(decide (((nk.getD (k - 1) [])) < ((nk.getD (k) [])))))) (Eq.trans (by kernel_rfl) hv23_Ve58) ?_
            refine wpF_see 37 (.bool (!(decide (((nk.getD (k - 1) [])) < ((nk.getD (k) [])))))) (Eq.trans (by kernel_rfl) hv24_Ve58) ?_
            refine wpF_see 38 (.bool (!(decide (((nk.getD (k - 1) [])) < ((nk.getD (k) [])))))) (Eq.trans (by kernel_rfl) hv25_Ve58) ?_
            refine wpF_end _ (by kernel_rfl) (then_n (hK24 _ _ ?_))
            refine wp_if (!(decide (((nk.getD (k - 1) [])) < ((nk.getD (k) []))))) (by kernel_rfl) (fun h67 => ?_) (fun h67 => ?_)
            · -- FLtftt
              have h68 : decide (((nk.getD (k - 1) [])) < ((nk.getD (k) []))) = false := by rw [← Bool.not_not (decide _), h67]; rfl
              have p69 : ¬ (((nk.getD (k - 1) [])) < ((nk.getD (k) []))) := of_decide_eq_false h68
              refine wp_seq_k (fun K70 hK70 => ?_)
              refine wp_reg ?_
              refine wpF_seg 1 (by kernel_rfl) ?_
              refine wpF_end _ (by kernel_rfl) (then_n (hK70 _ _ ?_))
              refine wp_ret (blk_r (then_r (then_r (blk_r (then_r (?_))))))
              refine retN [.bool (false)] (.bool (false)) Try.results35 (.tmp (by kernel_rfl) (by kernel_rfl) .nil) (by kernel_rfl) (hRet _ _ ⟨_, _, rfl, hMe58.clear, ?_⟩)
              -- end FLtftt
              first | exact congrArg Value.bool (stands_long (k := k) (by omega) (by assumption)).symm | exact congrArg Value.bool (stands_rise (k := k) (by omega) (by omega) (by assumption)).symm | exact congrArg Value.bool (stands_val (k := q) (by omega) (by assumption)).symm | exact congrArg Value.bool (stands_kid (k := m) (by omega) (by omega)).symm | (rw [stands_all (by assumption)]; (first | rw [vals_none (by assumption)] | rw [kids_none (by assumption)]); simp only [h21, h25, h38, h67, h68, cond_true, cond_false, Bool.true_and, Bool.and_true, Bool.false_and, Bool.and_false, Bool.not_true, Bool.not_false])
            · -- FLtftf
              have h71 : decide (((nk.getD (k - 1) [])) < ((nk.getD (k) []))) = true := by rw [← Bool.not_not (decide _), h67]; rfl
              have p72 : (((nk.getD (k - 1) [])) < ((nk.getD (k) []))) := of_decide_eq_true h71
              refine wp_skip (blk_n (then_n (hK23 _ _ ?_)))
              refine wp_reg ?_
              refine wpF_seg 1 (by kernel_rfl) ?_
              refine wpF_add .i64 ((k : Int)) (1) ((k : Int) + 1) (h := (by kernel_rfl : opAt _ _ _ _ _ = some (Go.Op.binOp Go.BinOp.add 3 (Go.Operand.tmp 11) (Go.Operand.const (Go.Value.int Go.IntKind.i64 1)) 3, some 12))) (by kernel_rfl) (by kernel_rfl) (wrap64_ok _ (by omega)) ?_
              refine wpF_seg 1 (by kernel_rfl) ?_
              refine wpF_base [(1, .pointer (some ⟨b2, 0, none⟩)), (3, .int .i64 ((k + 1 : Int)))] (by kernel_rfl) (fun g73 => ?_)
              refine wpF_end _ (by kernel_rfl) (then_n (hK18 _ _ (k + 1) (by omega) ?_))
              refine ⟨g73, Ve58, rfl, hMe58, (le17.trans hle58), ?_, ?_⟩
              · -- FLtftf inv 0
                omega
              · -- FLtftf inv 1
                exact upTo_step (by assumption) (by assumption) (by first | exact .inl (by omega) | exact .inr (by assumption))
        · -- FLtff
          have p74 : ¬ ((0) < ((k : Int))) := of_decide_eq_false h38
          refine wp_base [(1, .pointer (some ⟨b2, 0, none⟩)), (3, .int .i64 ((k : Int))), (6, .int .i64 ((k : Int))), (7, .pointer (some ⟨b2, 1, none⟩)), (8, .slice Ank (nk).length cnk), (9, .int .i64 ((nk.length : Int))), (10, .bool (decide (((k : Int)) < ((nk.length : Int)))))] (by kernel_rfl) (fun g0_79 => ?_)
          obtain ⟨G79, hGm79, hG79_0, hG79_1, hG79_2, hG79_3, hG79_4, hG79_5, hG79_6, hG79_7, hG79_8, hG79_9, hG79_10, hG79_11, hG79_12, hG79_13, hG79_14, hG79_15, hG79_16, hG79_17, hG79_18, hG79_19, hG79_20, hG79_21, hG79_22, hG79_23, hG79_24, hG79_25⟩ : ∃ G : Nat → Value → VT → Prop, (∀ j v V V', VT.le V V' → G j v V → G j v V') ∧ (∀ v_ V_, G 0 v_ V_ ↔ (v_ = .pointer (some ⟨b2, 1, none⟩))) ∧ (∀ v_ V_, G 1 v_ V_ ↔ (v_ = .slice Ank (nk).length cnk)) ∧ (∀ v_ V_, G 2 v_ V_ ↔ (v_ = .int .i64 ((k : Int)))) ∧ (∀ v_ V_, G 3 v_ V_ ↔ (∃ b75 : Nat, ∃ o76 : Nat, v_ = .pointer (some ⟨b75, o76, none⟩) ∧ (At strK V_ b75 o76 ((nk.getD (k) []))) ∧ ((nk.getD (k) []).length ≤ 140737488355328))) ∧ (∀ v_ V_, G 4 v_ V_ ↔ (v_ = bs ((nk.getD (k) [])) ∧ ((nk.getD (k) []).length ≤ 140737488355328))) ∧ (∀ v_ V_, G 5 v_ V_ ↔ (v_ = .int .i64 ((((nk.getD (k) [])).length : Int)) ∧ ((nk.getD (k) []).length ≤ 140737488355328))) ∧ (∀ v_ V_, G 6 v_ V_ ↔ (v_ = .bool (false) ∧ ((nk.getD (k) []).length ≤ 140737488355328))) ∧ (∀ v_ V_, G 7 v_ V_ ↔ (v_ = .bool (false) ∧ ((nk.getD (k) []).length ≤ 140737488355328))) ∧ (∀ v_ V_, G 8 v_ V_ ↔ (v_ = .int .i64 ((k : Int)))) ∧ (∀ v_ V_, G 9 v_ V_ ↔ (v_ = .bool (false))) ∧ (∀ v_ V_, G 10 v_ V_ ↔ (v_ = .bool (false))) ∧ (∀ v_ V_, G 11 v_ V_ ↔ (v_ = undef)) ∧ (∀ v_ V_, G 12 v_ V_ ↔ (v_ = undef)) ∧ (∀ v_ V_, G 13 v_ V_ ↔ (v_ = undef)) ∧ (∀ v_ V_, G 14 v_ V_ ↔ (v_ = undef)) ∧ (∀ v_ V_, G 15 v_ V_ ↔ (v_ = undef)) ∧ (∀ v_ V_, G 16 v_ V_ ↔ (v_ = undef)) ∧ (∀ v_ V_, G 17 v_ V_ ↔ (v_ = undef)) ∧ (∀ v_ V_, G 18 v_ V_ ↔ (v_ = undef)) ∧ (∀ v_ V_, G 19 v_ V_ ↔ (v_ = undef)) ∧ (∀ v_ V_, G 20 v_ V_ ↔ (v_ = undef)) ∧ (∀ v_ V_, G 21 v_ V_ ↔ (v_ = undef)) ∧ (∀ v_ V_, G 22 v_ V_ ↔ (v_ = undef)) ∧ (∀ v_ V_, G 23 v_ V_ ↔ (v_ = undef)) ∧ (∀ v_ V_, G 24 v_ V_ ↔ (v_ = .bool (false))) ∧ (∀ v_ V_, G 25 v_ V_ ↔ (v_ = .bool (false) ∧ ((nk.getD (k) []).length ≤ 140737488355328))) :=
              ⟨mG [mV (.pointer (some ⟨b2, 1, none⟩)), mV (.slice Ank (nk).length cnk), mV (.int .i64 ((k : Int))), mE fun b75 : Nat => mE fun o76 : Nat => mN (mV (.pointer (some ⟨b75, o76, none⟩))) (mN (mA strK b75 o76 ((nk.getD (k) []))) (mP ((nk.getD (k) []).length ≤ 140737488355328))), mN (mV (bs ((nk.getD (k) [])))) (mP ((nk.getD (k) []).length ≤ 140737488355328)), mN (mV (.int .i64 ((((nk.getD (k) [])).length : Int)))) (mP ((nk.getD (k) []).length ≤ 140737488355328)), mN (mV (.bool (false))) (mP ((nk.getD (k) []).length ≤ 140737488355328)), mN (mV (.bool (false))) (mP ((nk.getD (k) []).length ≤ 140737488355328)), mV (.int .i64 ((k : Int))), mV (.bool (false)), mV (.bool (false)), mV undef, mV undef, mV undef, mV undef, mV undef, mV undef, mV undef, mV undef, mV undef, mV undef, mV undef, mV undef, mV undef, mV (.bool (false)), mN (mV (.bool (false))) (mP ((nk.getD (k) []).length ≤ 140737488355328))], mG_up _, fun _ _ => Iff.rfl, fun _ _ => Iff.rfl, fun _ _ => Iff.rfl, fun _ _ => Iff.rfl, fun _ _ => Iff.rfl, fun _ _ => Iff.rfl, fun _ _ => Iff.rfl, fun _ _ => Iff.rfl, fun _ _ => Iff.rfl, fun _ _ => Iff.rfl, fun _ _ => Iff.rfl, fun _ _ => Iff.rfl, fun _ _ => Iff.rfl, fun _ _ => Iff.rfl, fun _ _ => Iff.rfl, fun _ _ => Iff.rfl, fun _ _ => Iff.rfl, fun _ _ => Iff.rfl, fun _ _ => Iff.rfl, fun _ _ => Iff.rfl, fun _ _ => Iff.rfl, fun _ _ => Iff.rfl, fun _ _ => Iff.rfl, fun _ _ => Iff.rfl, fun _ _ => Iff.rfl, fun _ _ => Iff.rfl⟩
          refine wp_drawG (L0 := [(1, .pointer (some ⟨b2, 0, none⟩)), (3, .int .i64 ((k : Int))), (6, .int .i64 ((k : Int))), (7, .pointer (some ⟨b2, 1, none⟩)), (8, .slice Ank (nk).length cnk), (9, .int .i64 ((nk.length : Int))), (10, .bool (decide (((k : Int)) < ((nk.length : Int)))))]) 26 (by kernel_rfl) (by kernel_rfl) (by kernel_rfl) (by kernel_rfl) (by kernel_rfl) G79 hGm79 [] pre_nil (by kernel_rfl) [] (by kernel_rfl) (fun (S : Nat → Bool) (g : Nat → Value) => ([] : List Ent)) (fun _ _ _ _ _ => rfl) hM16 ?_ ?_
          · -- the operations
            refine all_snoc (.inr ⟨by decide, fun S79_25 g79_25 V79_25 w79_25 F79_25 cx79_25 hM79_25 => ?_⟩) ?_
            · -- op 25
              obtain ⟨hv7_V79_25, l78⟩ : g79_25 20 = .bool (false) ∧ ((nk.getD (k) []).length ≤ 140737488355328) := (hG79_7 _ _).1 (cx79_25.fact 7 20 (by decide) (cx79_25.dep 7 (by kernel_rfl)) (by kernel_rfl))
              obtain hv24_V79_25 : g79_25 37 = .bool (false) := (hG79_24 _ _).1 (cx79_25.fact 24 37 (by decide) (cx79_25.dep 24 (by kernel_rfl)) (by kernel_rfl))
              refine wpF_see 20 (.bool (false)) (Eq.trans (by kernel_rfl) hv7_V79_25) ?_
              refine wpF_see 37 (.bool (false)) (Eq.trans (by kernel_rfl) hv24_V79_25) ?_
              refine wpF_seg 1 (by kernel_rfl) ?_
              refine wpF_end _ (by kernel_rfl) (then_n ?_)
              exact one_in (some 38) (by kernel_rfl) (.bool (false)) _ [(37, .bool (false)), (20, .bool (false))] (seen_cons (Eq.trans (by kernel_rfl) hv24_V79_25) (seen_cons (Eq.trans (by kernel_rfl) hv7_V79_25) seen_nil)) (by kernel_rfl) (VT.le.refl _) hM79_25 ((hG79_25 _ _).2 ⟨rfl, l78⟩)
            refine all_snoc (.inr ⟨by decide, fun S79_24 g79_24 V79_24 w79_24 F79_24 cx79_24 hM79_24 => ?_⟩) ?_
            · -- op 24
              obtain ⟨hv7_V79_24, l78⟩ : g79_24 20 = .bool (false) ∧ ((nk.getD (k) []).length ≤ 140737488355328) := (hG79_7 _ _).1 (cx79_24.fact 7 20 (by decide) (cx79_24.dep 7 (by kernel_rfl)) (by kernel_rfl))
              obtain hv10_V79_24 : g79_24 23 = .bool (false) := (hG79_10 _ _).1 (cx79_24.fact 10 23 (by decide) (cx79_24.dep 10 (by kernel_rfl)) (by kernel_rfl))
              obtain hv23_V79_24 : g79_24 36 = undef := (hG79_23 _ _).1 (cx79_24.fact 23 36 (by decide) (cx79_24.dep 23 (by kernel_rfl)) (by kernel_rfl))
              refine wpF_see 20 (.bool (false)) (Eq.trans (by kernel_rfl) hv7_V79_24) ?_
              refine wpF_see 23 (.bool (false)) (Eq.trans (by kernel_rfl) hv10_V79_24) ?_
              refine wpF_see 36 (undef) (Eq.trans (by kernel_rfl) hv23_V79_24) ?_
              refine wpF_seg 1 (by kernel_rfl) ?_
              refine wpF_end _ (by kernel_rfl) (then_n ?_)
              exact one_in (some 37) (by kernel_rfl) (.bool (false)) _ [(36, undef), (23, .bool (false)), (20, .bool (false))] (seen_cons (Eq.trans (by kernel_rfl) hv23_V79_24) (seen_cons (Eq.trans (by kernel_rfl) hv10_V79_24) (seen_cons (Eq.trans (by kernel_rfl) hv7_V79_24) seen_nil))) (by kernel_rfl) (VT.le.refl _) hM79_24 ((hG79_24 _ _).2 rfl)
            refine all_snoc (.inr ⟨by decide, fun S79_23 g79_23 V79_23 w79_23 F79_23 cx79_23 hM79_23 => ?_⟩) ?_
            · -- op 23
              obtain hv10_V79_23 : g79_23 23 = .bool (false) := (hG79_10 _ _).1 (cx79_23.fact 10 23 (by decide) (cx79_23.dep 10 (by kernel_rfl)) (by kernel_rfl))
              obtain hv22_V79_23 : g79_23 35 = undef := (hG79_22 _ _).1 (cx79_23.fact 22 35 (by decide) (cx79_23.dep 22 (by kernel_rfl)) (by kernel_rfl))
              refine wpF_see 23 (.bool (false)) (Eq.trans (by kernel_rfl) hv10_V79_23) ?_
              refine wpF_see 35 (undef) (Eq.trans (by kernel_rfl) hv22_V79_23) ?_
              refine wpF_seg 1 (by kernel_rfl) ?_
              refine wpF_end _ (by kernel_rfl) (then_n ?_)
              exact one_in (some 36) (by kernel_rfl) (undef) _ [(35, undef), (23, .bool (false))] (seen_cons (Eq.trans (by kernel_rfl) hv22_V79_23) (seen_cons (Eq.trans (by kernel_rfl) hv10_V79_23) seen_nil)) (by kernel_rfl) (VT.le.refl _) hM79_23 ((hG79_23 _ _).2 rfl)
            refine all_snoc (.inr ⟨by decide, fun S79_22 g79_22 V79_22 w79_22 F79_22 cx79_22 hM79_22 => ?_⟩) ?_
            · -- op 22
              obtain hv10_V79_22 : g79_22 23 = .bool (false) := (hG79_10 _ _).1 (cx79_22.fact 10 23 (by decide) (cx79_22.dep 10 (by kernel_rfl)) (by kernel_rfl))
              obtain hv16_V79_22 : g79_22 29 = undef := (hG79_16 _ _).1 (cx79_22.fact 16 29 (by decide) (cx79_22.dep 16 (by kernel_rfl)) (by kernel_rfl))
              obtain hv21_V79_22 : g79_22 34 = undef := (hG79_21 _ _).1 (cx79_22.fact 21 34 (by decide) (cx79_22.dep 21 (by kernel_rfl)) (by kernel_rfl))
              refine wpF_see 23 (.bool (false)) (Eq.trans (by kernel_rfl) hv10_V79_22) ?_
              refine wpF_see 29 (undef) (Eq.trans (by kernel_rfl) hv16_V79_22) ?_
              refine wpF_see 34 (undef) (Eq.trans (by kernel_rfl) hv21_V79_22) ?_
              refine wpF_seg 1 (by kernel_rfl) ?_
              refine wpF_end _ (by kernel_rfl) (then_n ?_)
              exact one_in (some 35) (by kernel_rfl) (undef) _ [(34, undef), (29, undef), (23, .bool (false))] (seen_cons (Eq.trans (by kernel_rfl) hv21_V79_22) (seen_cons (Eq.trans (by kernel_rfl) hv16_V79_22) (seen_cons (Eq.trans (by kernel_rfl) hv10_V79_22) seen_nil))) (by kernel_rfl) (VT.le.refl _) hM79_22 ((hG79_22 _ _).2 rfl)
            refine all_snoc (.inr ⟨by decide, fun S79_21 g79_21 V79_21 w79_21 F79_21 cx79_21 hM79_21 => ?_⟩) ?_
            · -- op 21
              obtain hv10_V79_21 : g79_21 23 = .bool (false) := (hG79_10 _ _).1 (cx79_21.fact 10 23 (by decide) (cx79_21.dep 10 (by kernel_rfl)) (by kernel_rfl))
              obtain hv20_V79_21 : g79_21 33 = undef := (hG79_20 _ _).1 (cx79_21.fact 20 33 (by decide) (cx79_21.dep 20 (by kernel_rfl)) (by kernel_rfl))
              refine wpF_see 23 (.bool (false)) (Eq.trans (by kernel_rfl) hv10_V79_21) ?_
              refine wpF_see 33 (undef) (Eq.trans (by kernel_rfl) hv20_V79_21) ?_
              refine wpF_seg 1 (by kernel_rfl) ?_
              refine wpF_end _ (by kernel_rfl) (then_n ?_)
              exact one_in (some 34) (by kernel_rfl) (undef) _ [(33, undef), (23, .bool (false))] (seen_cons (Eq.trans (by kernel_rfl) hv20_V79_21) (seen_cons (Eq.trans (by kernel_rfl) hv10_V79_21) seen_nil)) (by kernel_rfl) (VT.le.refl _) hM79_21 ((hG79_21 _ _).2 rfl)
            refine all_snoc (.inr ⟨by decide, fun S79_20 g79_20 V79_20 w79_20 F79_20 cx79_20 hM79_20 => ?_⟩) ?_
            · -- op 20
              obtain hv10_V79_20 : g79_20 23 = .bool (false) := (hG79_10 _ _).1 (cx79_20.fact 10 23 (by decide) (cx79_20.dep 10 (by kernel_rfl)) (by kernel_rfl))
              obtain hv18_V79_20 : g79_20 31 = undef := (hG79_18 _ _).1 (cx79_20.fact 18 31 (by decide) (cx79_20.dep 18 (by kernel_rfl)) (by kernel_rfl))
              obtain hv19_V79_20 : g79_20 32 = undef := (hG79_19 _ _).1 (cx79_20.fact 19 32 (by decide) (cx79_20.dep 19 (by kernel_rfl)) (by kernel_rfl))
              refine wpF_see 23 (.bool (false)) (Eq.trans (by kernel_rfl) hv10_V79_20) ?_
              refine wpF_see 31 (undef) (Eq.trans (by kernel_rfl) hv18_V79_20) ?_
              refine wpF_see 32 (undef) (Eq.trans (by kernel_rfl) hv19_V79_20) ?_
              refine wpF_seg 1 (by kernel_rfl) ?_
              refine wpF_end _ (by kernel_rfl) (then_n ?_)
              exact one_in (some 33) (by kernel_rfl) (undef) _ [(32, undef), (31, undef), (23, .bool (false))] (seen_cons (Eq.trans (by kernel_rfl) hv19_V79_20) (seen_cons (Eq.trans (by kernel_rfl) hv18_V79_20) (seen_cons (Eq.trans (by kernel_rfl) hv10_V79_20) seen_nil))) (by kernel_rfl) (VT.le.refl _) hM79_20 ((hG79_20 _ _).2 rfl)
            refine all_snoc (.inr ⟨by decide, fun S79_19 g79_19 V79_19 w79_19 F79_19 cx79_19 hM79_19 => ?_⟩) ?_
            · -- op 19
              obtain hv10_V79_19 : g79_19 23 = .bool (false) := (hG79_10 _ _).1 (cx79_19.fact 10 23 (by decide) (cx79_19.dep 10 (by kernel_rfl)) (by kernel_rfl))
              refine wpF_see 23 (.bool (false)) (Eq.trans (by kernel_rfl) hv10_V79_19) ?_
              refine wpF_seg 1 (by kernel_rfl) ?_
              refine wpF_end _ (by kernel_rfl) (then_n ?_)
              exact one_in (some 32) (by kernel_rfl) (undef) _ [(23, .bool (false))] (seen_cons (Eq.trans (by kernel_rfl) hv10_V79_19) seen_nil) (by kernel_rfl) (VT.le.refl _) hM79_19 ((hG79_19 _ _).2 rfl)
            refine all_snoc (.inr ⟨by decide, fun S79_18 g79_18 V79_18 w79_18 F79_18 cx79_18 hM79_18 => ?_⟩) ?_
            · -- op 18
              obtain hv10_V79_18 : g79_18 23 = .bool (false) := (hG79_10 _ _).1 (cx79_18.fact 10 23 (by decide) (cx79_18.dep 10 (by kernel_rfl)) (by kernel_rfl))
              obtain hv17_V79_18 : g79_18 30 = undef := (hG79_17 _ _).1 (cx79_18.fact 17 30 (by decide) (cx79_18.dep 17 (by kernel_rfl)) (by kernel_rfl))
              refine wpF_see 23 (.bool (false)) (Eq.trans (by kernel_rfl) hv10_V79_18) ?_
              refine wpF_see 30 (undef) (Eq.trans (by kernel_rfl) hv17_V79_18) ?_
              refine wpF_seg 1 (by kernel_rfl) ?_
              refine wpF_end _ (by kernel_rfl) (then_n ?_)
              exact one_in (some 31) (by kernel_rfl) (undef) _ [(30, undef), (23, .bool (false))] (seen_cons (Eq.trans (by kernel_rfl) hv17_V79_18) (seen_cons (Eq.trans (by kernel_rfl) hv10_V79_18) seen_nil)) (by kernel_rfl) (VT.le.refl _) hM79_18 ((hG79_18 _ _).2 rfl)
            refine all_snoc (.inr ⟨by decide, fun S79_17 g79_17 V79_17 w79_17 F79_17 cx79_17 hM79_17 => ?_⟩) ?_
            · -- op 17
              obtain hv10_V79_17 : g79_17 23 = .bool (false) := (hG79_10 _ _).1 (cx79_17.fact 10 23 (by decide) (cx79_17.dep 10 (by kernel_rfl)) (by kernel_rfl))
              refine wpF_see 23 (.bool (false)) (Eq.trans (by kernel_rfl) hv10_V79_17) ?_
              refine wpF_seg 1 (by kernel_rfl) ?_
              refine wpF_end _ (by kernel_rfl) (then_n ?_)
              exact one_in (some 30) (by kernel_rfl) (undef) _ [(23, .bool (false))] (seen_cons (Eq.trans (by kernel_rfl) hv10_V79_17) seen_nil) (by kernel_rfl) (VT.le.refl _) hM79_17 ((hG79_17 _ _).2 rfl)
            refine all_snoc (.inr ⟨by decide, fun S79_16 g79_16 V79_16 w79_16 F79_16 cx79_16 hM79_16 => ?_⟩) ?_
            · -- op 16
              obtain hv10_V79_16 : g79_16 23 = .bool (false) := (hG79_10 _ _).1 (cx79_16.fact 10 23 (by decide) (cx79_16.dep 10 (by kernel_rfl)) (by kernel_rfl))
              obtain hv15_V79_16 : g79_16 28 = undef := (hG79_15 _ _).1 (cx79_16.fact 15 28 (by decide) (cx79_16.dep 15 (by kernel_rfl)) (by kernel_rfl))
              refine wpF_see 23 (.bool (false)) (Eq.trans (by kernel_rfl) hv10_V79_16) ?_
              refine wpF_see 28 (undef) (Eq.trans (by kernel_rfl) hv15_V79_16) ?_
              refine wpF_seg 1 (by kernel_rfl) ?_
              refine wpF_end _ (by kernel_rfl) (then_n ?_)
              exact one_in (some 29) (by kernel_rfl) (undef) _ [(28, undef), (23, .bool (false))] (seen_cons (Eq.trans (by kernel_rfl) hv15_V79_16) (seen_cons (Eq.trans (by kernel_rfl) hv10_V79_16) seen_nil)) (by kernel_rfl) (VT.le.refl _) hM79_16 ((hG79_16 _ _).2 rfl)
            refine all_snoc (.inr ⟨by decide, fun S79_15 g79_15 V79_15 w79_15 F79_15 cx79_15 hM79_15 => ?_⟩) ?_
            · -- op 15
              obtain hv10_V79_15 : g79_15 23 = .bool (false) := (hG79_10 _ _).1 (cx79_15.fact 10 23 (by decide) (cx79_15.dep 10 (by kernel_rfl)) (by kernel_rfl))
              obtain hv12_V79_15 : g79_15 25 = undef := (hG79_12 _ _).1 (cx79_15.fact 12 25 (by decide) (cx79_15.dep 12 (by kernel_rfl)) (by kernel_rfl))
              obtain hv14_V79_15 : g79_15 27 = undef := (hG79_14 _ _).1 (cx79_15.fact 14 27 (by decide) (cx79_15.dep 14 (by kernel_rfl)) (by kernel_rfl))
              refine wpF_see 23 (.bool (false)) (Eq.trans (by kernel_rfl) hv10_V79_15) ?_
              refine wpF_see 25 (undef) (Eq.trans (by kernel_rfl) hv12_V79_15) ?_
              refine wpF_see 27 (undef) (Eq.trans (by kernel_rfl) hv14_V79_15) ?_
              refine wpF_seg 1 (by kernel_rfl) ?_
              refine wpF_end _ (by kernel_rfl) (then_n ?_)
              exact one_in (some 28) (by kernel_rfl) (undef) _ [(27, undef), (25, undef), (23, .bool (false))] (seen_cons (Eq.trans (by kernel_rfl) hv14_V79_15) (seen_cons (Eq.trans (by kernel_rfl) hv12_V79_15) (seen_cons (Eq.trans (by kernel_rfl) hv10_V79_15) seen_nil))) (by kernel_rfl) (VT.le.refl _) hM79_15 ((hG79_15 _ _).2 rfl)
            refine all_snoc (.inr ⟨by decide, fun S79_14 g79_14 V79_14 w79_14 F79_14 cx79_14 hM79_14 => ?_⟩) ?_
            · -- op 14
              obtain hv10_V79_14 : g79_14 23 = .bool (false) := (hG79_10 _ _).1 (cx79_14.fact 10 23 (by decide) (cx79_14.dep 10 (by kernel_rfl)) (by kernel_rfl))
              obtain hv13_V79_14 : g79_14 26 = undef := (hG79_13 _ _).1 (cx79_14.fact 13 26 (by decide) (cx79_14.dep 13 (by kernel_rfl)) (by kernel_rfl))
              refine wpF_see 23 (.bool (false)) (Eq.trans (by kernel_rfl) hv10_V79_14) ?_
              refine wpF_see 26 (undef) (Eq.trans (by kernel_rfl) hv13_V79_14) ?_
              refine wpF_seg 1 (by kernel_rfl) ?_
              refine wpF_end _ (by kernel_rfl) (then_n ?_)
              exact one_in (some 27) (by kernel_rfl) (undef) _ [(26, undef), (23, .bool (false))] (seen_cons (Eq.trans (by kernel_rfl) hv13_V79_14) (seen_cons (Eq.trans (by kernel_rfl) hv10_V79_14) seen_nil)) (by kernel_rfl) (VT.le.refl _) hM79_14 ((hG79_14 _ _).2 rfl)
            refine all_snoc (.inr ⟨by decide, fun S79_13 g79_13 V79_13 w79_13 F79_13 cx79_13 hM79_13 => ?_⟩) ?_
            · -- op 13
              obtain hv10_V79_13 : g79_13 23 = .bool (false) := (hG79_10 _ _).1 (cx79_13.fact 10 23 (by decide) (cx79_13.dep 10 (by kernel_rfl)) (by kernel_rfl))
              refine wpF_see 23 (.bool (false)) (Eq.trans (by kernel_rfl) hv10_V79_13) ?_
              refine wpF_seg 1 (by kernel_rfl) ?_
              refine wpF_end _ (by kernel_rfl) (then_n ?_)
              exact one_in (some 26) (by kernel_rfl) (undef) _ [(23, .bool (false))] (seen_cons (Eq.trans (by kernel_rfl) hv10_V79_13) seen_nil) (by kernel_rfl) (VT.le.refl _) hM79_13 ((hG79_13 _ _).2 rfl)
            refine all_snoc (.inr ⟨by decide, fun S79_12 g79_12 V79_12 w79_12 F79_12 cx79_12 hM79_12 => ?_⟩) ?_
            · -- op 12
              obtain hv10_V79_12 : g79_12 23 = .bool (false) := (hG79_10 _ _).1 (cx79_12.fact 10 23 (by decide) (cx79_12.dep 10 (by kernel_rfl)) (by kernel_rfl))
              obtain hv11_V79_12 : g79_12 24 = undef := (hG79_11 _ _).1 (cx79_12.fact 11 24 (by decide) (cx79_12.dep 11 (by kernel_rfl)) (by kernel_rfl))
              refine wpF_see 23 (.bool (false)) (Eq.trans (by kernel_rfl) hv10_V79_12) ?_
              refine wpF_see 24 (undef) (Eq.trans (by kernel_rfl) hv11_V79_12) ?_
              refine wpF_seg 1 (by kernel_rfl) ?_
              refine wpF_end _ (by kernel_rfl) (then_n ?_)
              exact one_in (some 25) (by kernel_rfl) (undef) _ [(24, undef), (23, .bool (false))] (seen_cons (Eq.trans (by kernel_rfl) hv11_V79_12) (seen_cons (Eq.trans (by kernel_rfl) hv10_V79_12) seen_nil)) (by kernel_rfl) (VT.le.refl _) hM79_12 ((hG79_12 _ _).2 rfl)
            refine all_snoc (.inr ⟨by decide, fun S79_11 g79_11 V79_11 w79_11 F79_11 cx79_11 hM79_11 => ?_⟩) ?_
            · -- op 11
              obtain hv10_V79_11 : g79_11 23 = .bool (false) := (hG79_10 _ _).1 (cx79_11.fact 10 23 (by decide) (cx79_11.dep 10 (by kernel_rfl)) (by kernel_rfl))
              refine wpF_see 23 (.bool (false)) (Eq.trans (by kernel_rfl) hv10_V79_11) ?_
              refine wpF_seg 1 (by kernel_rfl) ?_
              refine wpF_end _ (by kernel_rfl) (then_n ?_)
              exact one_in (some 24) (by kernel_rfl) (undef) _ [(23, .bool (false))] (seen_cons (Eq.trans (by kernel_rfl) hv10_V79_11) seen_nil) (by kernel_rfl) (VT.le.refl _) hM79_11 ((hG79_11 _ _).2 rfl)
            refine all_snoc (.inr ⟨by decide, fun S79_10 g79_10 V79_10 w79_10 F79_10 cx79_10 hM79_10 => ?_⟩) ?_
            · -- op 10
              obtain ⟨hv7_V79_10, l78⟩ : g79_10 20 = .bool (false) ∧ ((nk.getD (k) []).length ≤ 140737488355328) := (hG79_7 _ _).1 (cx79_10.fact 7 20 (by decide) (cx79_10.dep 7 (by kernel_rfl)) (by kernel_rfl))
              obtain hv9_V79_10 : g79_10 22 = .bool (false) := (hG79_9 _ _).1 (cx79_10.fact 9 22 (by decide) (cx79_10.dep 9 (by kernel_rfl)) (by kernel_rfl))
              refine wpF_see 20 (.bool (false)) (Eq.trans (by kernel_rfl) hv7_V79_10) ?_
              refine wpF_see 22 (.bool (false)) (Eq.trans (by kernel_rfl) hv9_V79_10) ?_
              refine wpF_seg 1 (by kernel_rfl) ?_
              refine wpF_end _ (by kernel_rfl) (then_n ?_)
              exact one_in (some 23) (by kernel_rfl) (.bool (false)) _ [(22, .bool (false)), (20, .bool (false))] (seen_cons (Eq.trans (by kernel_rfl) hv9_V79_10) (seen_cons (Eq.trans (by kernel_rfl) hv7_V79_10) seen_nil)) (by kernel_rfl) (VT.le.refl _) hM79_10 ((hG79_10 _ _).2 rfl)
            refine all_snoc (.inr ⟨by decide, fun S79_9 g79_9 V79_9 w79_9 F79_9 cx79_9 hM79_9 => ?_⟩) ?_
            · -- op 9
              obtain ⟨hv7_V79_9, l78⟩ : g79_9 20 = .bool (false) ∧ ((nk.getD (k) []).length ≤ 140737488355328) := (hG79_7 _ _).1 (cx79_9.fact 7 20 (by decide) (cx79_9.dep 7 (by kernel_rfl)) (by kernel_rfl))
              obtain hv8_V79_9 : g79_9 21 = .int .i64 ((k : Int)) := (hG79_8 _ _).1 (cx79_9.fact 8 21 (by decide) (cx79_9.dep 8 (by kernel_rfl)) (by kernel_rfl))
              refine wpF_see 20 (.bool (false)) (Eq.trans (by kernel_rfl) hv7_V79_9) ?_
              refine wpF_see 21 (.int .i64 ((k : Int))) (Eq.trans (by kernel_rfl) hv8_V79_9) ?_
              refine wpF_seg 1 (by kernel_rfl) ?_
              refine wpF_slot 22 (.bool (decide ((0) < ((k : Int))))) (.bool false) (by kernel_rfl) (by kernel_rfl) (by rw [h38]) ?_
              refine wpF_end _ (by kernel_rfl) (then_n ?_)
              exact one_in (some 22) (by kernel_rfl) (.bool (false)) _ [(21, .int .i64 ((k : Int))), (20, .bool (false))] (seen_cons (Eq.trans (by kernel_rfl) hv8_V79_9) (seen_cons (Eq.trans (by kernel_rfl) hv7_V79_9) seen_nil)) (by kernel_rfl) (VT.le.refl _) hM79_9 ((hG79_9 _ _).2 rfl)
            refine all_snoc (.inr ⟨by decide, fun S79_8 g79_8 V79_8 w79_8 F79_8 cx79_8 hM79_8 => ?_⟩) ?_
            · -- op 8
              obtain ⟨hv7_V79_8, l78⟩ : g79_8 20 = .bool (false) ∧ ((nk.getD (k) []).length ≤ 140737488355328) := (hG79_7 _ _).1 (cx79_8.fact 7 20 (by decide) (cx79_8.dep 7 (by kernel_rfl)) (by kernel_rfl))
              refine wpF_see 20 (.bool (false)) (Eq.trans (by kernel_rfl) hv7_V79_8) ?_
              refine wpF_seg 1 (by kernel_rfl) ?_
              refine wpF_end _ (by kernel_rfl) (then_n ?_)
              exact one_in (some 21) (by kernel_rfl) (.int .i64 ((k : Int))) _ [(20, .bool (false))] (seen_cons (Eq.trans (by kernel_rfl) hv7_V79_8) seen_nil) (by kernel_rfl) (VT.le.refl _) hM79_8 ((hG79_8 _ _).2 rfl)
            refine all_snoc (.inr ⟨by decide, fun S79_7 g79_7 V79_7 w79_7 F79_7 cx79_7 hM79_7 => ?_⟩) ?_
            · -- op 7
              obtain ⟨hv6_V79_7, l78⟩ : g79_7 19 = .bool (false) ∧ ((nk.getD (k) []).length ≤ 140737488355328) := (hG79_6 _ _).1 (cx79_7.fact 6 19 (by decide) (cx79_7.dep 6 (by kernel_rfl)) (by kernel_rfl))
              refine wpF_see 19 (.bool (false)) (Eq.trans (by kernel_rfl) hv6_V79_7) ?_
              refine wpF_seg 1 (by kernel_rfl) ?_
              refine wpF_end _ (by kernel_rfl) (then_n ?_)
              exact one_in (some 20) (by kernel_rfl) (.bool (false)) _ [(19, .bool (false))] (seen_cons (Eq.trans (by kernel_rfl) hv6_V79_7) seen_nil) (by kernel_rfl) (VT.le.refl _) hM79_7 ((hG79_7 _ _).2 ⟨rfl, l78⟩)
            refine all_snoc (.inr ⟨by decide, fun S79_6 g79_6 V79_6 w79_6 F79_6 cx79_6 hM79_6 => ?_⟩) ?_
            · -- op 6
              obtain ⟨hv5_V79_6, l78⟩ : g79_6 18 = .int .i64 ((((nk.getD (k) [])).length : Int)) ∧ ((nk.getD (k) []).length ≤ 140737488355328) := (hG79_5 _ _).1 (cx79_6.fact 5 18 (by decide) (cx79_6.dep 5 (by kernel_rfl)) (by kernel_rfl))
              refine wpF_see 18 (.int .i64 ((((nk.getD (k) [])).length : Int))) (Eq.trans (by kernel_rfl) hv5_V79_6) ?_
              refine wpF_seg 1 (by kernel_rfl) ?_
              refine wpF_slot 19 (.bool (decide ((128) < ((((nk.getD (k) [])).length : Int))))) (.bool false) (by kernel_rfl) (by kernel_rfl) (by rw [h25]) ?_
              refine wpF_end _ (by kernel_rfl) (then_n ?_)
              exact one_in (some 19) (by kernel_rfl) (.bool (false)) _ [(18, .int .i64 ((((nk.getD (k) [])).length : Int)))] (seen_cons (Eq.trans (by kernel_rfl) hv5_V79_6) seen_nil) (by kernel_rfl) (VT.le.refl _) hM79_6 ((hG79_6 _ _).2 ⟨rfl, l78⟩)
            refine all_snoc (.inr ⟨by decide, fun S79_5 g79_5 V79_5 w79_5 F79_5 cx79_5 hM79_5 => ?_⟩) ?_
            · -- op 5
              obtain ⟨hv4_V79_5, l78⟩ : g79_5 17 = bs ((nk.getD (k) [])) ∧ ((nk.getD (k) []).length ≤ 140737488355328) := (hG79_4 _ _).1 (cx79_5.fact 4 17 (by decide) (cx79_5.dep 4 (by kernel_rfl)) (by kernel_rfl))
              refine wpF_see 17 (bs ((nk.getD (k) []))) (Eq.trans (by kernel_rfl) hv4_V79_5) ?_
              refine wpF_seg 1 (by kernel_rfl) ?_
              refine wpF_end _ (by kernel_rfl) (then_n ?_)
              exact one_in (some 18) (by kernel_rfl) (.int .i64 ((((nk.getD (k) [])).length : Int))) _ [(17, bs ((nk.getD (k) [])))] (seen_cons (Eq.trans (by kernel_rfl) hv4_V79_5) seen_nil) (by kernel_rfl) (VT.le.refl _) hM79_5 ((hG79_5 _ _).2 ⟨rfl, l78⟩)
            refine all_snoc (.inr ⟨by decide, fun S79_4 g79_4 V79_4 w79_4 F79_4 cx79_4 hM79_4 => ?_⟩) ?_
            · -- op 4
              obtain ⟨b75, o76, hv3_V79_4, at_b75, l78⟩ : ∃ b75 : Nat, ∃ o76 : Nat, g79_4 16 = .pointer (some ⟨b75, o76, none⟩) ∧ (At strK V79_4 b75 o76 ((nk.getD (k) []))) ∧ ((nk.getD (k) []).length ≤ 140737488355328) := (hG79_3 _ _).1 (cx79_4.fact 3 16 (by decide) (cx79_4.dep 3 (by kernel_rfl)) (by kernel_rfl))
              have c904061 : V79_4 b75 o76 = some (bs (nk.getD (k) [])) := (At.str at_b75).1
              have l904062 : (nk.getD (k) []).length ≤ 140737488355328 := (At.str at_b75).2
              refine wpF_see 16 (.pointer (some ⟨b75, o76, none⟩)) (Eq.trans (by kernel_rfl) hv3_V79_4) ?_
              refine wpF_loadV hM79_4 c904061 (h := (by kernel_rfl : opAt _ _ _ _ _ = some (Go.Op.load 9 (Go.Operand.tmp 16), some 17))) (by kernel_rfl) (by kernel_rfl) ?_
              refine wpF_end _ (by kernel_rfl) (then_n ?_)
              exact one_in (some 17) (by kernel_rfl) (bs ((nk.getD (k) []))) _ [(16, .pointer (some ⟨b75, o76, none⟩))] (seen_cons (Eq.trans (by kernel_rfl) hv3_V79_4) seen_nil) (by kernel_rfl) (VT.le.refl _) hM79_4 ((hG79_4 _ _).2 ⟨rfl, l78⟩)
            refine all_snoc (.inr ⟨by decide, fun S79_3 g79_3 V79_3 w79_3 F79_3 cx79_3 hM79_3 => ?_⟩) ?_
            · -- op 3
              obtain hv1_V79_3 : g79_3 14 = .slice Ank (nk).length cnk := (hG79_1 _ _).1 (cx79_3.fact 1 14 (by decide) (cx79_3.dep 1 (by kernel_rfl)) (by kernel_rfl))
              obtain hv2_V79_3 : g79_3 15 = .int .i64 ((k : Int)) := (hG79_2 _ _).1 (cx79_3.fact 2 15 (by decide) (cx79_3.dep 2 (by kernel_rfl)) (by kernel_rfl))
              refine wpF_see 14 (.slice Ank (nk).length cnk) (Eq.trans (by kernel_rfl) hv1_V79_3) ?_
              refine wpF_see 15 (.int .i64 ((k : Int))) (Eq.trans (by kernel_rfl) hv2_V79_3) ?_
              refine wpF_index (A := Ank) (c := cnk) (hnk.up hM79_3.le) .i64 ((k : Int)) (h := (by kernel_rfl : opAt _ _ _ _ _ = some (Go.Op.indexAddr 22 (Go.Operand.tmp 14) (Go.Operand.tmp 15), some 16))) (e := 9) (by kernel_rfl) (by kernel_rfl) (by kernel_rfl) (k) rfl (by omega) (fun b75 o76 at_b75 => ?_)
              have c77 : V79_3 b75 o76 = some (bs (nk.getD (k) [])) := (At.str at_b75).1
              have l78 : (nk.getD (k) []).length ≤ 140737488355328 := (At.str at_b75).2
              refine wpF_end _ (by kernel_rfl) (then_n ?_)
              exact one_in (some 16) (by kernel_rfl) (.pointer (some ⟨b75, o76, none⟩)) _ [(15, .int .i64 ((k : Int))), (14, .slice Ank (nk).length cnk)] (seen_cons (Eq.trans (by kernel_rfl) hv2_V79_3) (seen_cons (Eq.trans (by kernel_rfl) hv1_V79_3) seen_nil)) (by kernel_rfl) (VT.le.refl _) hM79_3 ((hG79_3 _ _).2 ⟨b75, o76, rfl, at_b75, l78⟩)
            refine all_snoc (.inr ⟨by decide, fun S79_2 g79_2 V79_2 w79_2 F79_2 cx79_2 hM79_2 => ?_⟩) ?_
            · -- op 2
              refine wpF_seg 1 (by kernel_rfl) ?_
              refine wpF_end _ (by kernel_rfl) (then_n ?_)
              exact one_in (some 15) (by kernel_rfl) (.int .i64 ((k : Int))) _ [] seen_nil (by kernel_rfl) (VT.le.refl _) hM79_2 ((hG79_2 _ _).2 rfl)
            refine all_snoc (.inr ⟨by decide, fun S79_1 g79_1 V79_1 w79_1 F79_1 cx79_1 hM79_1 => ?_⟩) ?_
            · -- op 1
              obtain hv0_V79_1 : g79_1 13 = .pointer (some ⟨b2, 1, none⟩) := (hG79_0 _ _).1 (cx79_1.fact 0 13 (by decide) (cx79_1.dep 0 (by kernel_rfl)) (by kernel_rfl))
              refine wpF_see 13 (.pointer (some ⟨b2, 1, none⟩)) (Eq.trans (by kernel_rfl) hv0_V79_1) ?_
              refine wpF_loadB hM79_1 #[.bool (false), .slice Ank (nk).length cnk, .slice Anv (nv).length cnv, .slice Anc (nc).length cnc] (fun i v hi => (le17.trans cx79_1.le) _ _ _ (hc8 i v hi)) (h := (by kernel_rfl : opAt _ _ _ _ _ = some (Go.Op.load 22 (Go.Operand.tmp 13), some 14))) (off := 1) (by kernel_rfl) (.slice Ank (nk).length cnk) (by kernel_rfl) ?_
              refine wpF_end _ (by kernel_rfl) (then_n ?_)
              exact one_in (some 14) (by kernel_rfl) (.slice Ank (nk).length cnk) _ [(13, .pointer (some ⟨b2, 1, none⟩))] (seen_cons (Eq.trans (by kernel_rfl) hv0_V79_1) seen_nil) (by kernel_rfl) (VT.le.refl _) hM79_1 ((hG79_1 _ _).2 rfl)
            refine all_snoc (.inr ⟨by decide, fun S79_0 g79_0 V79_0 w79_0 F79_0 cx79_0 hM79_0 => ?_⟩) ?_
            · -- op 0
              refine wpF_seg 1 (by kernel_rfl) ?_
              refine wpF_end _ (by kernel_rfl) (then_n ?_)
              exact one_in (some 13) (by kernel_rfl) (.pointer (some ⟨b2, 1, none⟩)) _ [] seen_nil (by kernel_rfl) (VT.le.refl _) hM79_0 ((hG79_0 _ _).2 rfl)
            exact all_none
          · -- behind it
            intro ge79 Ve79 we79 hMe79 hle79 hf79
            refine wpF_stop (P := Try.prog) (ops := #[]) (i := 0) _ rfl ?_
            obtain hv0_Ve79 : ge79 13 = .pointer (some ⟨b2, 1, none⟩) := (hG79_0 _ _).1 (hf79 0 13 (by decide) (by kernel_rfl))
            obtain hv1_Ve79 : ge79 14 = .slice Ank (nk).length cnk := (hG79_1 _ _).1 (hf79 1 14 (by decide) (by kernel_rfl))
            obtain hv2_Ve79 : ge79 15 = .int .i64 ((k : Int)) := (hG79_2 _ _).1 (hf79 2 15 (by decide) (by kernel_rfl))
            obtain ⟨b75, o76, hv3_Ve79, at_b75, l78⟩ : ∃ b75 : Nat, ∃ o76 : Nat, ge79 16 = .pointer (some ⟨b75, o76, none⟩) ∧ (At strK Ve79 b75 o76 ((nk.getD (k) []))) ∧ ((nk.getD (k) []).length ≤ 140737488355328) := (hG79_3 _ _).1 (hf79 3 16 (by decide) (by kernel_rfl))
            have c81 : Ve79 b75 o76 = some (bs (nk.getD (k) [])) := (At.str at_b75).1
            have l82 : (nk.getD (k) []).length ≤ 140737488355328 := (At.str at_b75).2
            obtain ⟨hv4_Ve79, l78⟩ : ge79 17 = bs ((nk.getD (k) [])) ∧ ((nk.getD (k) []).length ≤ 140737488355328) := (hG79_4 _ _).1 (hf79 4 17 (by decide) (by kernel_rfl))
            obtain ⟨hv5_Ve79, l78⟩ : ge79 18 = .int .i64 ((((nk.getD (k) [])).length : Int)) ∧ ((nk.getD (k) []).length ≤ 140737488355328) := (hG79_5 _ _).1 (hf79 5 18 (by decide) (by kernel_rfl))
            obtain ⟨hv6_Ve79, l78⟩ : ge79 19 = .bool (false) ∧ ((nk.getD (k) []).length ≤ 140737488355328) := (hG79_6 _ _).1 (hf79 6 19 (by decide) (by kernel_rfl))
            obtain ⟨hv7_Ve79, l78⟩ : ge79 20 = .bool (false) ∧ ((nk.getD (k) []).length ≤ 140737488355328) := (hG79_7 _ _).1 (hf79 7 20 (by decide) (by kernel_rfl))
            obtain hv8_Ve79 : ge79 21 = .int .i64 ((k : Int)) := (hG79_8 _ _).1 (hf79 8 21 (by decide) (by kernel_rfl))
            obtain hv9_Ve79 : ge79 22 = .bool (false) := (hG79_9 _ _).1 (hf79 9 22 (by decide) (by kernel_rfl))
            obtain hv10_Ve79 : ge79 23 = .bool (false) := (hG79_10 _ _).1 (hf79 10 23 (by decide) (by kernel_rfl))
            obtain hv24_Ve79 : ge79 37 = .bool (false) := (hG79_24 _ _).1 (hf79 24 37 (by decide) (by kernel_rfl))
            obtain ⟨hv25_Ve79, l78⟩ : ge79 38 = .bool (false) ∧ ((nk.getD (k) []).length ≤ 140737488355328) := (hG79_25 _ _).1 (hf79 25 38 (by decide) (by kernel_rfl))
            refine wpF_see 13 (.pointer (some ⟨b2, 1, none⟩)) (Eq.trans (by kernel_rfl) hv0_Ve79) ?_
            refine wpF_see 14 (.slice Ank (nk).length cnk) (Eq.trans (by kernel_rfl) hv1_Ve79) ?_
            refine wpF_see 15 (.int .i64 ((k : Int))) (Eq.trans (by kernel_rfl) hv2_Ve79) ?_
            refine wpF_see 16 (.pointer (some ⟨b75, o76, none⟩)) (Eq.trans (by kernel_rfl) hv3_Ve79) ?_
            refine wpF_see 17 (bs ((nk.getD (k) []))) (Eq.trans (by kernel_rfl) hv4_Ve79) ?_
            refine wpF_see 18 (.int .i64 ((((nk.getD (k) [])).length : Int))) (Eq.trans (by kernel_rfl) hv5_Ve79) ?_
            refine wpF_see 19 (.bool (false)) (Eq.trans (by kernel_rfl) hv6_Ve79) ?_
            refine wpF_see 20 (.bool (false)) (Eq.trans (by kernel_rfl) hv7_Ve79) ?_
            refine wpF_see 21 (.int .i64 ((k : Int))) (Eq.trans (by kernel_rfl) hv8_Ve79) ?_
            refine wpF_see 22 (.bool (false)) (Eq.trans (by kernel_rfl) hv9_Ve79) ?_
            refine wpF_see 23 (.bool (false)) (Eq.trans (by kernel_rfl) hv10_Ve79) ?_
            refine wpF_see 37 (.bool (false)) (Eq.trans (by kernel_rfl) hv24_Ve79) ?_
            refine wpF_see 38 (.bool (false)) (Eq.trans (by kernel_rfl) hv25_Ve79) ?_
            refine wpF_end _ (by kernel_rfl) (then_n (hK24 _ _ ?_))
            refine wp_cf (by kernel_rfl) ?_
            refine wp_skip (blk_n (then_n (hK23 _ _ ?_)))
            refine wp_reg ?_
            refine wpF_seg 1 (by kernel_rfl) ?_
            refine wpF_add .i64 ((k : Int)) (1) ((k : Int) + 1) (h := (by kernel_rfl : opAt _ _ _ _ _ = some (Go.Op.binOp Go.BinOp.add 3 (Go.Operand.tmp 11) (Go.Operand.const (Go.Value.int Go.IntKind.i64 1)) 3, some 12))) (by kernel_rfl) (by kernel_rfl) (wrap64_ok _ (by omega)) ?_
            refine wpF_seg 1 (by kernel_rfl) ?_
            refine wpF_base [(1, .pointer (some ⟨b2, 0, none⟩)), (3, .int .i64 ((k + 1 : Int)))] (by kernel_rfl) (fun g84 => ?_)
            refine wpF_end _ (by kernel_rfl) (then_n (hK18 _ _ (k + 1) (by omega) ?_))
            refine ⟨g84, Ve79, rfl, hMe79, (le17.trans hle79), ?_, ?_⟩
            · -- FLtff inv 0
              omega
            · -- FLtff inv 1
              exact upTo_step (by assumption) (by assumption) (by first | exact .inl (by omega) | exact .inr (by assumption))
    · -- FLf
      have p85 : ¬ (((k : Int)) < ((nk.length : Int))) := of_decide_eq_false h21
      refine wp_exit (then_x (then_x (blk_hit (then_n (hK10 _ _ ?_)))))
      obtain rfl : k = nk.length := by omega
      refine wp_seq_k (fun K86 hK86 => ?_)
      refine wp_seq_k (fun K87 hK87 => ?_)
      refine wp_reg ?_
      refine wpF_seg 1 (by kernel_rfl) ?_
      refine wpF_loadB hM16 #[.bool (false), .slice Ank (nk).length cnk, .slice Anv (nv).length cnv, .slice Anc (nc).length cnc] (fun i v hi => le17 _ _ _ (hc8 i v hi)) (h := (by kernel_rfl : opAt _ _ _ _ _ = some (Go.Op.load 4 (Go.Operand.tmp 39), some 40))) (off := 0) (by kernel_rfl) (.bool (false)) (by kernel_rfl) ?_
      refine wpF_seg 1 (by kernel_rfl) ?_
      refine wpF_end _ (by kernel_rfl) (then_n (hK87 _ _ ?_))
      refine wp_ct (by kernel_rfl) ?_
      refine wp_seq_k (fun K88 hK88 => ?_)
      refine wp_seq_k (fun K89 hK89 => ?_)
      refine wp_reg ?_
      refine wpF_seg 1 (by kernel_rfl) ?_
      refine wpF_end _ (by kernel_rfl) (then_n (hK89 _ _ ?_))
      refine wp_block ?_
      refine wp_base [(1, .pointer (some ⟨b2, 0, none⟩)), (4, .int .i64 ((0 : Int)))] (by kernel_rfl) (fun g91 => ?_)
      refine wp_loopX (fun (x_ : Nat) a_ w_ => ∃ (g : Nat → Value) (V_ : VT), a_ = env 104 [(1, .pointer (some ⟨b2, 0, none⟩)), (4, .int .i64 ((x_ : Int)))] g ∧ Step V w [] V_ w_ [] ∧ VT.le Vl12 V_ ∧ (x_ ≤ nc.length) ∧ (∀ i, i < x_ → ¬ nc.getD i 0 < 0 ∧ ¬ 16384 ≤ nc.getD i 0)) (fun (x_ : Nat) => nc.length - x_) (0) ⟨g91, Vl12, rfl, hM16, VT.le.refl _, by omega, by (intro i hi; omega)⟩ ?_
      rintro m a_ w93 ⟨g92, Vl90, rfl, hM94, le95, hi96_0, hi96_1⟩ K96 hK96
      refine wp_seq_k (fun K97 hK97 => ?_)
      refine wp_seq_k (fun K98 hK98 => ?_)
      refine wp_reg ?_
      refine wpF_seg 2 (by kernel_rfl) ?_
      refine wpF_loadB hM94 #[.bool (false), .slice Ank (nk).length cnk, .slice Anv (nv).length cnv, .slice Anc (nc).length cnc] (fun i v hi => (le17.trans le95) _ _ _ (hc8 i v hi)) (h := (by kernel_rfl : opAt _ _ _ _ _ = some (Go.Op.load 23 (Go.Operand.tmp 43), some 44))) (off := 3) (by kernel_rfl) (.slice Anc (nc).length cnc) (by kernel_rfl) ?_
      refine wpF_seg 2 (by kernel_rfl) ?_
      refine wpF_end _ (by kernel_rfl) (then_n (hK98 _ _ ?_))
      refine wp_if (decide (((m : Int)) < ((nc.length : Int)))) (by kernel_rfl) (fun h99 => ?_) (fun h99 => ?_)
      · -- FLfLt
        have p100 : (((m : Int)) < ((nc.length : Int))) := of_decide_eq_true h99
        refine wp_skip (then_n (hK97 _ _ ?_))
        refine wp_seq_k (fun K101 hK101 => ?_)
        refine wp_block ?_
        refine wp_seq_k (fun K102 hK102 => ?_)
        refine wp_reg ?_
        refine wpF_seg 1 (by kernel_rfl) ?_
        refine wpF_loadB hM94 #[.bool (false), .slice Ank (nk).length cnk, .slice Anv (nv).length cnv, .slice Anc (nc).length cnc] (fun i v hi => (le17.trans le95) _ _ _ (hc8 i v hi)) (h := (by kernel_rfl : opAt _ _ _ _ _ = some (Go.Op.load 23 (Go.Operand.tmp 49), some 50))) (off := 3) (by kernel_rfl) (.slice Anc (nc).length cnc) (by kernel_rfl) ?_
        refine wpF_seg 1 (by kernel_rfl) ?_
        refine wpF_index (A := Anc) (c := cnc) (hnc.up hM94.le) .i64 ((m : Int)) (h := (by kernel_rfl : opAt _ _ _ _ _ = some (Go.Op.indexAddr 23 (Go.Operand.tmp 50) (Go.Operand.tmp 51), some 52))) (e := 3) (by kernel_rfl) (by kernel_rfl) (by kernel_rfl) (m) rfl (by omega) (fun b103 o104 at_b103 => ?_)
        have c105 : Vl90 b103 o104 = some (.int .i64 (nc.getD (m) 0)) := (At.int at_b103).1
        have l106 : IntKind.i64.min ≤ (nc.getD (m) 0) ∧ (nc.getD (m) 0) ≤ IntKind.i64.max := (At.int at_b103).2
        refine wpF_loadV hM94 c105 (h := (by kernel_rfl : opAt _ _ _ _ _ = some (Go.Op.load 3 (Go.Operand.tmp 52), some 53))) (by kernel_rfl) (by kernel_rfl) ?_
        refine wpF_seg 2 (by kernel_rfl) ?_
        refine wpF_caseB 55 (decide (((nc.getD (m) 0)) < (0))) (by kernel_rfl) (by kernel_rfl) (fun h107 => ?_) (fun h107 => ?_)
        · -- FLfLtt
          have p108 : (((nc.getD (m) 0)) < (0)) := of_decide_eq_true h107
          refine wpF_seg 7 (by kernel_rfl) ?_
          refine wpF_end _ (by kernel_rfl) (then_n (hK102 _ _ ?_))
          refine wp_ct (by kernel_rfl) ?_
          refine wp_seq_k (fun K109 hK109 => ?_)
          refine wp_reg ?_
          refine wpF_seg 1 (by kernel_rfl) ?_
          refine wpF_end _ (by kernel_rfl) (then_n (hK109 _ _ ?_))
          refine wp_ret (blk_r (then_r (then_r (blk_r (then_r (then_r (?_)))))))
          refine retN [.bool (false)] (.bool (false)) Try.results35 (.tmp (by kernel_rfl) (by kernel_rfl) .nil) (by kernel_rfl) (hRet _ _ ⟨_, _, rfl, hM94.clear, ?_⟩)
          -- end FLfLtt
          first | exact congrArg Value.bool (stands_long (k := k) (by omega) (by assumption)).symm | exact congrArg Value.bool (stands_rise (k := k) (by omega) (by omega) (by assumption)).symm | exact congrArg Value.bool (stands_val (k := q) (by omega) (by assumption)).symm | exact congrArg Value.bool (stands_kid (k := m) (by omega) (by omega)).symm | (rw [stands_all (by assumption)]; (first | rw [vals_none (by assumption)] | rw [kids_none (by assumption)]); simp only [h107, h21, h99, cond_true, cond_false, Bool.true_and, Bool.and_true, Bool.false_and, Bool.and_false, Bool.not_true, Bool.not_false])
        · -- FLfLtf
          have p110 : ¬ (((nc.getD (m) 0)) < (0)) := of_decide_eq_false h107
          refine wpF_seg 1 (by kernel_rfl) ?_
          refine wpF_loadB hM94 #[.bool (false), .slice Ank (nk).length cnk, .slice Anv (nv).length cnv, .slice Anc (nc).length cnc] (fun i v hi => (le17.trans le95) _ _ _ (hc8 i v hi)) (h := (by kernel_rfl : opAt _ _ _ _ _ = some (Go.Op.load 23 (Go.Operand.tmp 56), some 57))) (off := 3) (by kernel_rfl) (.slice Anc (nc).length cnc) (by kernel_rfl) ?_
          refine wpF_seg 1 (by kernel_rfl) ?_
          refine wpF_index (A := Anc) (c := cnc) (hnc.up hM94.le) .i64 ((m : Int)) (h := (by kernel_rfl : opAt _ _ _ _ _ = some (Go.Op.indexAddr 23 (Go.Operand.tmp 57) (Go.Operand.tmp 58), some 59))) (e := 3) (by kernel_rfl) (by kernel_rfl) (by kernel_rfl) (m) rfl (by omega) (fun b111 o112 at_b111 => ?_)
          have c113 : Vl90 b111 o112 = some (.int .i64 (nc.getD (m) 0)) := (At.int at_b111).1
          have l114 : IntKind.i64.min ≤ (nc.getD (m) 0) ∧ (nc.getD (m) 0) ≤ IntKind.i64.max := (At.int at_b111).2
          refine wpF_loadV hM94 c113 (h := (by kernel_rfl : opAt _ _ _ _ _ = some (Go.Op.load 3 (Go.Operand.tmp 59), some 60))) (by kernel_rfl) (by kernel_rfl) ?_
          refine wpF_seg 2 (by kernel_rfl) ?_
          refine wpF_end _ (by kernel_rfl) (then_n (hK102 _ _ ?_))
          refine wp_if (decide ((16384) ≤ ((nc.getD (m) 0)))) (by kernel_rfl) (fun h115 => ?_) (fun h115 => ?_)
          · -- FLfLtft
            have p116 : ((16384) ≤ ((nc.getD (m) 0))) := of_decide_eq_true h115
            refine wp_seq_k (fun K117 hK117 => ?_)
            refine wp_reg ?_
            refine wpF_seg 1 (by kernel_rfl) ?_
            refine wpF_end _ (by kernel_rfl) (then_n (hK117 _ _ ?_))
            refine wp_ret (blk_r (then_r (then_r (blk_r (then_r (then_r (?_)))))))
            refine retN [.bool (false)] (.bool (false)) Try.results35 (.tmp (by kernel_rfl) (by kernel_rfl) .nil) (by kernel_rfl) (hRet _ _ ⟨_, _, rfl, hM94.clear, ?_⟩)
            -- end FLfLtft
            first | exact congrArg Value.bool (stands_long (k := k) (by omega) (by assumption)).symm | exact congrArg Value.bool (stands_rise (k := k) (by omega) (by omega) (by assumption)).symm | exact congrArg Value.bool (stands_val (k := q) (by omega) (by assumption)).symm | exact congrArg Value.bool (stands_kid (k := m) (by omega) (by omega)).symm | (rw [stands_all (by assumption)]; (first | rw [vals_none (by assumption)] | rw [kids_none (by assumption)]); simp only [h107, h115, h21, h99, cond_true, cond_false, Bool.true_and, Bool.and_true, Bool.false_and, Bool.and_false, Bool.not_true, Bool.not_false])
          · -- FLfLtff
            have p118 : ¬ ((16384) ≤ ((nc.getD (m) 0))) := of_decide_eq_false h115
            refine wp_skip (blk_n (then_n (hK101 _ _ ?_)))
            refine wp_reg ?_
            refine wpF_seg 1 (by kernel_rfl) ?_
            refine wpF_add .i64 ((m : Int)) (1) ((m : Int) + 1) (h := (by kernel_rfl : opAt _ _ _ _ _ = some (Go.Op.binOp Go.BinOp.add 3 (Go.Operand.tmp 47) (Go.Operand.const (Go.Value.int Go.IntKind.i64 1)) 3, some 48))) (by kernel_rfl) (by kernel_rfl) (wrap64_ok _ (by omega)) ?_
            refine wpF_seg 1 (by kernel_rfl) ?_
            refine wpF_base [(1, .pointer (some ⟨b2, 0, none⟩)), (4, .int .i64 ((m + 1 : Int)))] (by kernel_rfl) (fun g119 => ?_)
            refine wpF_end _ (by kernel_rfl) (then_n (hK96 _ _ (m + 1) (by omega) ?_))
            refine ⟨g119, Vl90, rfl, hM94, le95, ?_, ?_⟩
            · -- FLfLtff inv 0
              omega
            · -- FLfLtff inv 1
              exact all_step (by assumption) (by omega)
      · -- FLfLf
        have p120 : ¬ (((m : Int)) < ((nc.length : Int))) := of_decide_eq_false h99
        refine wp_exit (then_x (then_x (blk_hit (then_n (hK88 _ _ ?_)))))
        obtain rfl : m = nc.length := by omega
        refine wp_seq_k (fun K121 hK121 => ?_)
        refine wp_reg ?_
        refine wpF_seg 1 (by kernel_rfl) ?_
        refine wpF_loadB hM94 #[.bool (false), .slice Ank (nk).length cnk, .slice Anv (nv).length cnv, .slice Anc (nc).length cnc] (fun i v hi => (le17.trans le95) _ _ _ (hc8 i v hi)) (h := (by kernel_rfl : opAt _ _ _ _ _ = some (Go.Op.load 22 (Go.Operand.tmp 63), some 64))) (off := 2) (by kernel_rfl) (.slice Anv (nv).length cnv) (by kernel_rfl) ?_
        refine wpF_seg 3 (by kernel_rfl) ?_
        refine wpF_caseB 67 (decide (((nv.length : Int)) = (0))) (by kernel_rfl) (by kernel_rfl) (fun h122 => ?_) (fun h122 => ?_)
        · -- FLfLft
          have p123 : (((nv.length : Int)) = (0)) := of_decide_eq_true h122
          refine wpF_seg 1 (by kernel_rfl) ?_
          refine wpF_loadB hM94 #[.bool (false), .slice Ank (nk).length cnk, .slice Anv (nv).length cnv, .slice Anc (nc).length cnc] (fun i v hi => (le17.trans le95) _ _ _ (hc8 i v hi)) (h := (by kernel_rfl : opAt _ _ _ _ _ = some (Go.Op.load 23 (Go.Operand.tmp 68), some 69))) (off := 3) (by kernel_rfl) (.slice Anc (nc).length cnc) (by kernel_rfl) ?_
          refine wpF_seg 2 (by kernel_rfl) ?_
          refine wpF_loadB hM94 #[.bool (false), .slice Ank (nk).length cnk, .slice Anv (nv).length cnv, .slice Anc (nc).length cnc] (fun i v hi => (le17.trans le95) _ _ _ (hc8 i v hi)) (h := (by kernel_rfl : opAt _ _ _ _ _ = some (Go.Op.load 22 (Go.Operand.tmp 71), some 72))) (off := 1) (by kernel_rfl) (.slice Ank (nk).length cnk) (by kernel_rfl) ?_
          refine wpF_seg 1 (by kernel_rfl) ?_
          refine wpF_add .i64 ((nk.length : Int)) (1) ((nk.length : Int) + 1) (h := (by kernel_rfl : opAt _ _ _ _ _ = some (Go.Op.binOp Go.BinOp.add 3 (Go.Operand.tmp 73) (Go.Operand.const (Go.Value.int Go.IntKind.i64 1)) 3, some 74))) (by kernel_rfl) (by kernel_rfl) (wrap64_ok _ (by omega)) ?_
          refine wpF_seg 3 (by kernel_rfl) ?_
          refine wpF_end _ (by kernel_rfl) (then_n (hK121 _ _ ?_))
          refine wp_ret (then_r (?_))
          refine retN [.bool (decide (((nc.length : Int)) = ((nk.length : Int) + 1)))] (.bool (decide (((nc.length : Int)) = ((nk.length : Int) + 1)))) Try.results35 (.tmp (by kernel_rfl) (by kernel_rfl) .nil) (by kernel_rfl) (hRet _ _ ⟨_, _, rfl, hM94.clear, ?_⟩)
          -- end FLfLft
          first | exact congrArg Value.bool (stands_long (k := k) (by omega) (by assumption)).symm | exact congrArg Value.bool (stands_rise (k := k) (by omega) (by omega) (by assumption)).symm | exact congrArg Value.bool (stands_val (k := q) (by omega) (by assumption)).symm | exact congrArg Value.bool (stands_kid (k := m) (by omega) (by omega)).symm | (rw [stands_all (by assumption)]; (first | rw [vals_none (by assumption)] | rw [kids_none (by assumption)]); simp only [h122, h21, h99, cond_true, cond_false, Bool.true_and, Bool.and_true, Bool.false_and, Bool.and_false, Bool.not_true, Bool.not_false])
        · -- FLfLff
          have p124 : ¬ (((nv.length : Int)) = (0)) := of_decide_eq_false h122
          refine wpF_seg 10 (by kernel_rfl) ?_
          refine wpF_end _ (by kernel_rfl) (then_n (hK121 _ _ ?_))
          refine wp_ret (then_r (?_))
          refine retN [.bool (false)] (.bool (false)) Try.results35 (.tmp (by kernel_rfl) (by kernel_rfl) .nil) (by kernel_rfl) (hRet _ _ ⟨_, _, rfl, hM94.clear, ?_⟩)
          -- end FLfLff
          first | exact congrArg Value.bool (stands_long (k := k) (by omega) (by assumption)).symm | exact congrArg Value.bool (stands_rise (k := k) (by omega) (by omega) (by assumption)).symm | exact congrArg Value.bool (stands_val (k := q) (by omega) (by assumption)).symm | exact congrArg Value.bool (stands_kid (k := m) (by omega) (by omega)).symm | (rw [stands_all (by assumption)]; (first | rw [vals_none (by assumption)] | rw [kids_none (by assumption)]); simp only [h122, h21, h99, cond_true, cond_false, Bool.true_and, Bool.and_true, Bool.false_and, Bool.and_false, Bool.not_true, Bool.not_false])
  | true =>
    refine wp_seq_k (fun K125 hK125 => ?_)
    refine wp_reg ?_
    refine wpF_box hM0 #[.bool (true), .slice Ank (nk).length cnk, .slice Anv (nv).length cnv, .slice Anc (nc).length cnc] (h := (by kernel_rfl : opAt _ _ _ _ _ = some (Go.Op.box 25 (Go.Operand.tmp 0), some 1))) (by kernel_rfl) (fun b126 w127 hM128 => ?_)
    obtain ⟨V129, le130, hM131, hc132⟩ := hM128.settle 0 rfl
    have hM133 : Step V w [] V129 _ [] := hM131
    refine wpF_seg 1 (by kernel_rfl) ?_
    refine wpF_end _ (by kernel_rfl) (then_n (hK125 _ _ ?_))
    refine wp_seq_k (fun K134 hK134 => ?_)
    refine wp_seq_k (fun K135 hK135 => ?_)
    refine wp_reg ?_
    refine wpF_seg 1 (by kernel_rfl) ?_
    refine wpF_end _ (by kernel_rfl) (then_n (hK135 _ _ ?_))
    refine wp_block ?_
    refine wp_base [(1, .pointer (some ⟨b126, 0, none⟩)), (3, .int .i64 ((0 : Int)))] (by kernel_rfl) (fun g137 => ?_)
    refine wp_loopX (fun (x_ : Nat) a_ w_ => ∃ (g : Nat → Value) (V_ : VT), a_ = env 104 [(1, .pointer (some ⟨b126, 0, none⟩)), (3, .int .i64 ((x_ : Int)))] g ∧ Step V w [] V_ w_ [] ∧ VT.le V129 V_ ∧ (x_ ≤ nk.length) ∧ (upTo nk (x_) = true)) (fun (x_ : Nat) => nk.length - x_) (0) ⟨g137, V129, rfl, hM133, VT.le.refl _, by omega, by rfl⟩ ?_
    rintro k a_ w139 ⟨g138, Vl136, rfl, hM140, le141, hi142_0, hi142_1⟩ K142 hK142
    refine wp_seq_k (fun K143 hK143 => ?_)
    refine wp_seq_k (fun K144 hK144 => ?_)
    refine wp_reg ?_
    refine wpF_seg 2 (by kernel_rfl) ?_
    refine wpF_loadB hM140 #[.bool (true), .slice Ank (nk).length cnk, .slice Anv (nv).length cnv, .slice Anc (nc).length cnc] (fun i v hi => le141 _ _ _ (hc132 i v hi)) (h := (by kernel_rfl : opAt _ _ _ _ _ = some (Go.Op.load 22 (Go.Operand.tmp 7), some 8))) (off := 1) (by kernel_rfl) (.slice Ank (nk).length cnk) (by kernel_rfl) ?_
    refine wpF_seg 2 (by kernel_rfl) ?_
    refine wpF_end _ (by kernel_rfl) (then_n (hK144 _ _ ?_))
    refine wp_if (decide (((k : Int)) < ((nk.length : Int)))) (by kernel_rfl) (fun h145 => ?_) (fun h145 => ?_)
    · -- TLt
      have p146 : (((k : Int)) < ((nk.length : Int))) := of_decide_eq_true h145
      refine wp_skip (then_n (hK143 _ _ ?_))
      refine wp_seq_k (fun K147 hK147 => ?_)
      refine wp_block ?_
      refine wp_seq_k (fun K148 hK148 => ?_)
      refine caseB (decide ((128) < ((((nk.getD (k) [])).length : Int)))) (fun h149 => ?_) (fun h149 => ?_)
      · -- TLtt
        have p150 : ((128) < ((((nk.getD (k) [])).length : Int))) := of_decide_eq_true h149
        refine wp_base [(1, .pointer (some ⟨b126, 0, none⟩)), (3, .int .i64 ((k : Int))), (6, .int .i64 ((k : Int))), (7, .pointer (some ⟨b126, 1, none⟩)), (8, .slice Ank (nk).length cnk), (9, .int .i64 ((nk.length : Int))), (10, .bool (decide (((k : Int)) < ((nk.length : Int)))))] (by kernel_rfl) (fun g0_155 => ?_)
        obtain ⟨G155, hGm155, hG155_0, hG155_1, hG155_2, hG155_3, hG155_4, hG155_5, hG155_6, hG155_7, hG155_8, hG155_9, hG155_10, hG155_11, hG155_12, hG155_13, hG155_14, hG155_15, hG155_16, hG155_17, hG155_18, hG155_19, hG155_20, hG155_21, hG155_22, hG155_23, hG155_24, hG155_25⟩ : ∃ G : Nat → Value → VT → Prop, (∀ j v V V', VT.le V V' → G j v V → G j v V') ∧ (∀ v_ V_, G 0 v_ V_ ↔ (v_ = .pointer (some ⟨b126, 1, none⟩))) ∧ (∀ v_ V_, G 1 v_ V_ ↔ (v_ = .slice Ank (nk).length cnk)) ∧ (∀ v_ V_, G 2 v_ V_ ↔ (v_ = .int .i64 ((k : Int)))) ∧ (∀ v_ V_, G 3 v_ V_ ↔ (∃ b151 : Nat, ∃ o152 : Nat, v_ = .pointer (some ⟨b151, o152, none⟩) ∧ (At strK V_ b151 o152 ((nk.getD (k) []))) ∧ ((nk.getD (k) []).length ≤ 140737488355328))) ∧ (∀ v_ V_, G 4 v_ V_ ↔ (v_ = bs ((nk.getD (k) [])) ∧ ((nk.getD (k) []).length ≤ 140737488355328))) ∧ (∀ v_ V_, G 5 v_ V_ ↔ (v_ = .int .i64 ((((nk.getD (k) [])).length : Int)) ∧ ((nk.getD (k) []).length ≤ 140737488355328))) ∧ (∀ v_ V_, G 6 v_ V_ ↔ (v_ = .bool (true) ∧ ((nk.getD (k) []).length ≤ 140737488355328))) ∧ (∀ v_ V_, G 7 v_ V_ ↔ (v_ = .bool (true) ∧ ((nk.getD (k) []).length ≤ 140737488355328))) ∧ (∀ v_ V_, G 8 v_ V_ ↔ (v_ = undef)) ∧ (∀ v_ V_, G 9 v_ V_ ↔ (v_ = undef)) ∧ (∀ v_ V_, G 10 v_ V_ ↔ (v_ = undef)) ∧ (∀ v_ V_, G 11 v_ V_ ↔ (v_ = undef)) ∧ (∀ v_ V_, G 12 v_ V_ ↔ (v_ = undef)) ∧ (∀ v_ V_, G 13 v_ V_ ↔ (v_ = undef)) ∧ (∀ v_ V_, G 14 v_ V_ ↔ (v_ = undef)) ∧ (∀ v_ V_, G 15 v_ V_ ↔ (v_ = undef)) ∧ (∀ v_ V_, G 16 v_ V_ ↔ (v_ = undef)) ∧ (∀ v_ V_, G 17 v_ V_ ↔ (v_ = undef)) ∧ (∀ v_ V_, G 18 v_ V_ ↔ (v_ = undef)) ∧ (∀ v_ V_, G 19 v_ V_ ↔ (v_ = undef)) ∧ (∀ v_ V_, G 20 v_ V_ ↔ (v_ = undef)) ∧ (∀ v_ V_, G 21 v_ V_ ↔ (v_ = undef)) ∧ (∀ v_ V_, G 22 v_ V_ ↔ (v_ = undef)) ∧ (∀ v_ V_, G 23 v_ V_ ↔ (v_ = undef)) ∧ (∀ v_ V_, G 24 v_ V_ ↔ (v_ = undef)) ∧ (∀ v_ V_, G 25 v_ V_ ↔ (v_ = .bool (true) ∧ ((nk.getD (k) []).length ≤ 140737488355328))) :=
            ⟨mG [mV (.pointer (some ⟨b126, 1, none⟩)), mV (.slice Ank (nk).length cnk), mV (.int .i64 ((k : Int))), mE fun b151 : Nat => mE fun o152 : Nat => mN (mV (.pointer (some ⟨b151, o152, none⟩))) (mN (mA strK b151 o152 ((nk.getD (k) []))) (mP ((nk.getD (k) []).length ≤ 140737488355328))), mN (mV (bs ((nk.getD (k) [])))) (mP ((nk.getD (k) []).length ≤ 140737488355328)), mN (mV (.int .i64 ((((nk.getD (k) [])).length : Int)))) (mP ((nk.getD (k) []).length ≤ 140737488355328)), mN (mV (.bool (true))) (mP ((nk.getD (k) []).length ≤ 140737488355328)), mN (mV (.bool (true))) (mP ((nk.getD (k) []).length ≤ 140737488355328)), mV undef, mV undef, mV undef, mV undef, mV undef, mV undef, mV undef, mV undef, mV undef, mV undef, mV undef, mV undef, mV undef, mV undef, mV undef, mV undef, mV undef, mN (mV (.bool (true))) (mP ((nk.getD (k) []).length ≤ 140737488355328))], mG_up _, fun _ _ => Iff.rfl, fun _ _ => Iff.rfl, fun _ _ => Iff.rfl, fun _ _ => Iff.rfl, fun _ _ => Iff.rfl, fun _ _ => Iff.rfl, fun _ _ => Iff.rfl, fun _ _ => Iff.rfl, fun _ _ => Iff.rfl, fun _ _ => Iff.rfl, fun _ _ => Iff.rfl, fun _ _ => Iff.rfl, fun _ _ => Iff.rfl, fun _ _ => Iff.rfl, fun _ _ => Iff.rfl, fun _ _ => Iff.rfl, fun _ _ => Iff.rfl, fun _ _ => Iff.rfl, fun _ _ => Iff.rfl, fun _ _ => Iff.rfl, fun _ _ => Iff.rfl, fun _ _ => Iff.rfl, fun _ _ => Iff.rfl, fun _ _ => Iff.rfl, fun _ _ => Iff.rfl, fun _ _ => Iff.rfl⟩
        refine wp_drawG (L0 := [(1, .pointer (some ⟨b126, 0, none⟩)), (3, .int .i64 ((k : Int))), (6, .int .i64 ((k : Int))), (7, .pointer (some ⟨b126, 1, none⟩)), (8, .slice Ank (nk).length cnk), (9, .int .i64 ((nk.length : Int))), (10, .bool (decide (((k : Int)) < ((nk.length : Int)))))]) 26 (by kernel_rfl) (by kernel_rfl) (by kernel_rfl) (by kernel_rfl) (by kernel_rfl) G155 hGm155 [] pre_nil (by kernel_rfl) [] (by kernel_rfl) (fun (S : Nat → Bool) (g : Nat → Value) => ([] : List Ent)) (fun _ _ _ _ _ => rfl) hM140 ?_ ?_
        · -- the operations
          refine all_snoc (.inr ⟨by decide, fun S155_25 g155_25 V155_25 w155_25 F155_25 cx155_25 hM155_25 => ?_⟩) ?_
          · -- op 25
            obtain ⟨hv7_V155_25, l154⟩ : g155_25 20 = .bool (true) ∧ ((nk.getD (k) []).length ≤ 140737488355328) := (hG155_7 _ _).1 (cx155_25.fact 7 20 (by decide) (cx155_25.dep 7 (by kernel_rfl)) (by kernel_rfl))
            obtain hv24_V155_25 : g155_25 37 = undef := (hG155_24 _ _).1 (cx155_25.fact 24 37 (by decide) (cx155_25.dep 24 (by kernel_rfl)) (by kernel_rfl))
            refine wpF_see 20 (.bool (true)) (Eq.trans (by kernel_rfl) hv7_V155_25) ?_
            refine wpF_see 37 (undef) (Eq.trans (by kernel_rfl) hv24_V155_25) ?_
            refine wpF_seg 1 (by kernel_rfl) ?_
            refine wpF_end _ (by kernel_rfl) (then_n ?_)
            exact one_in (some 38) (by kernel_rfl) (.bool (true)) _ [(37, undef), (20, .bool (true))] (seen_cons (Eq.trans (by kernel_rfl) hv24_V155_25) (seen_cons (Eq.trans (by kernel_rfl) hv7_V155_25) seen_nil)) (by kernel_rfl) (VT.le.refl _) hM155_25 ((hG155_25 _ _).2 ⟨rfl, l154⟩)
          refine all_snoc (.inr ⟨by decide, fun S155_24 g155_24 V155_24 w155_24 F155_24 cx155_24 hM155_24 => ?_⟩) ?_
          · -- op 24
            obtain ⟨hv7_V155_24, l154⟩ : g155_24 20 = .bool (true) ∧ ((nk.getD (k) []).length ≤ 140737488355328) := (hG155_7 _ _).1 (cx155_24.fact 7 20 (by decide) (cx155_24.dep 7 (by kernel_rfl)) (by kernel_rfl))
            obtain hv10_V155_24 : g155_24 23 = undef := (hG155_10 _ _).1 (cx155_24.fact 10 23 (by decide) (cx155_24.dep 10 (by kernel_rfl)) (by kernel_rfl))
            obtain hv23_V155_24 : g155_24 36 = undef := (hG155_23 _ _).1 (cx155_24.fact 23 36 (by decide) (cx155_24.dep 23 (by kernel_rfl)) (by kernel_rfl))
            refine wpF_see 20 (.bool (true)) (Eq.trans (by kernel_rfl) hv7_V155_24) ?_
            refine wpF_see 23 (undef) (Eq.trans (by kernel_rfl) hv10_V155_24) ?_
            refine wpF_see 36 (undef) (Eq.trans (by kernel_rfl) hv23_V155_24) ?_
            refine wpF_seg 1 (by kernel_rfl) ?_
            refine wpF_end _ (by kernel_rfl) (then_n ?_)
            exact one_in (some 37) (by kernel_rfl) (undef) _ [(36, undef), (23, undef), (20, .bool (true))] (seen_cons (Eq.trans (by kernel_rfl) hv23_V155_24) (seen_cons (Eq.trans (by kernel_rfl) hv10_V155_24) (seen_cons (Eq.trans (by kernel_rfl) hv7_V155_24) seen_nil))) (by kernel_rfl) (VT.le.refl _) hM155_24 ((hG155_24 _ _).2 rfl)
          refine all_snoc (.inr ⟨by decide, fun S155_23 g155_23 V155_23 w155_23 F155_23 cx155_23 hM155_23 => ?_⟩) ?_
          · -- op 23
            obtain hv10_V155_23 : g155_23 23 = undef := (hG155_10 _ _).1 (cx155_23.fact 10 23 (by decide) (cx155_23.dep 10 (by kernel_rfl)) (by kernel_rfl))
            obtain hv22_V155_23 : g155_23 35 = undef := (hG155_22 _ _).1 (cx155_23.fact 22 35 (by decide) (cx155_23.dep 22 (by kernel_rfl)) (by kernel_rfl))
            refine wpF_see 23 (undef) (Eq.trans (by kernel_rfl) hv10_V155_23) ?_
            refine wpF_see 35 (undef) (Eq.trans (by kernel_rfl) hv22_V155_23) ?_
            refine wpF_seg 1 (by kernel_rfl) ?_
            refine wpF_end _ (by kernel_rfl) (then_n ?_)
            exact one_in (some 36) (by kernel_rfl) (undef) _ [(35, undef), (23, undef)] (seen_cons (Eq.trans (by kernel_rfl) hv22_V155_23) (seen_cons (Eq.trans (by kernel_rfl) hv10_V155_23) seen_nil)) (by kernel_rfl) (VT.le.refl _) hM155_23 ((hG155_23 _ _).2 rfl)
          refine all_snoc (.inr ⟨by decide, fun S155_22 g155_22 V155_22 w155_22 F155_22 cx155_22 hM155_22 => ?_⟩) ?_
          · -- op 22
            obtain hv10_V155_22 : g155_22 23 = undef := (hG155_10 _ _).1 (cx155_22.fact 10 23 (by decide) (cx155_22.dep 10 (by kernel_rfl)) (by kernel_rfl))
            obtain hv16_V155_22 : g155_22 29 = undef := (hG155_16 _ _).1 (cx155_22.fact 16 29 (by decide) (cx155_22.dep 16 (by kernel_rfl)) (by kernel_rfl))
            obtain hv21_V155_22 : g155_22 34 = undef := (hG155_21 _ _).1 (cx155_22.fact 21 34 (by decide) (cx155_22.dep 21 (by kernel_rfl)) (by kernel_rfl))
            refine wpF_see 23 (undef) (Eq.trans (by kernel_rfl) hv10_V155_22) ?_
            refine wpF_see 29 (undef) (Eq.trans (by kernel_rfl) hv16_V155_22) ?_
            refine wpF_see 34 (undef) (Eq.trans (by kernel_rfl) hv21_V155_22) ?_
            refine wpF_seg 1 (by kernel_rfl) ?_
            refine wpF_end _ (by kernel_rfl) (then_n ?_)
            exact one_in (some 35) (by kernel_rfl) (undef) _ [(34, undef), (29, undef), (23, undef)] (seen_cons (Eq.trans (by kernel_rfl) hv21_V155_22) (seen_cons (Eq.trans (by kernel_rfl) hv16_V155_22) (seen_cons (Eq.trans (by kernel_rfl) hv10_V155_22) seen_nil))) (by kernel_rfl) (VT.le.refl _) hM155_22 ((hG155_22 _ _).2 rfl)
          refine all_snoc (.inr ⟨by decide, fun S155_21 g155_21 V155_21 w155_21 F155_21 cx155_21 hM155_21 => ?_⟩) ?_
          · -- op 21
            obtain hv10_V155_21 : g155_21 23 = undef := (hG155_10 _ _).1 (cx155_21.fact 10 23 (by decide) (cx155_21.dep 10 (by kernel_rfl)) (by kernel_rfl))
            obtain hv20_V155_21 : g155_21 33 = undef := (hG155_20 _ _).1 (cx155_21.fact 20 33 (by decide) (cx155_21.dep 20 (by kernel_rfl)) (by kernel_rfl))
            refine wpF_see 23 (undef) (Eq.trans (by kernel_rfl) hv10_V155_21) ?_
            refine wpF_see 33 (undef) (Eq.trans (by kernel_rfl) hv20_V155_21) ?_
            refine wpF_seg 1 (by kernel_rfl) ?_
            refine wpF_end _ (by kernel_rfl) (then_n ?_)
            exact one_in (some 34) (by kernel_rfl) (undef) _ [(33, undef), (23, undef)] (seen_cons (Eq.trans (by kernel_rfl) hv20_V155_21) (seen_cons (Eq.trans (by kernel_rfl) hv10_V155_21) seen_nil)) (by kernel_rfl) (VT.le.refl _) hM155_21 ((hG155_21 _ _).2 rfl)
          refine all_snoc (.inr ⟨by decide, fun S155_20 g155_20 V155_20 w155_20 F155_20 cx155_20 hM155_20 => ?_⟩) ?_
          · -- op 20
            obtain hv10_V155_20 : g155_20 23 = undef := (hG155_10 _ _).1 (cx155_20.fact 10 23 (by decide) (cx155_20.dep 10 (by kernel_rfl)) (by kernel_rfl))
            obtain hv18_V155_20 : g155_20 31 = undef := (hG155_18 _ _).1 (cx155_20.fact 18 31 (by decide) (cx155_20.dep 18 (by kernel_rfl)) (by kernel_rfl))
            obtain hv19_V155_20 : g155_20 32 = undef := (hG155_19 _ _).1 (cx155_20.fact 19 32 (by decide) (cx155_20.dep 19 (by kernel_rfl)) (by kernel_rfl))
            refine wpF_see 23 (undef) (Eq.trans (by kernel_rfl) hv10_V155_20) ?_
            refine wpF_see 31 (undef) (Eq.trans (by kernel_rfl) hv18_V155_20) ?_
            refine wpF_see 32 (undef) (Eq.trans (by kernel_rfl) hv19_V155_20) ?_
            refine wpF_seg 1 (by kernel_rfl) ?_
            refine wpF_end _ (by kernel_rfl) (then_n ?_)
            exact one_in (some 33) (by kernel_rfl) (undef) _ [(32, undef), (31, undef), (23, undef)] (seen_cons (Eq.trans (by kernel_rfl) hv19_V155_20) (seen_cons (Eq.trans (by kernel_rfl) hv18_V155_20) (seen_cons (Eq.trans (by kernel_rfl) hv10_V155_20) seen_nil))) (by kernel_rfl) (VT.le.refl _) hM155_20 ((hG155_20 _ _).2 rfl)
          refine all_snoc (.inr ⟨by decide, fun S155_19 g155_19 V155_19 w155_19 F155_19 cx155_19 hM155_19 => ?_⟩) ?_
          · -- op 19
            obtain hv10_V155_19 : g155_19 23 = undef := (hG155_10 _ _).1 (cx155_19.fact 10 23 (by decide) (cx155_19.dep 10 (by kernel_rfl)) (by kernel_rfl))
            refine wpF_see 23 (undef) (Eq.trans (by kernel_rfl) hv10_V155_19) ?_
            refine wpF_seg 1 (by kernel_rfl) ?_
            refine wpF_end _ (by kernel_rfl) (then_n ?_)
            exact one_in (some 32) (by kernel_rfl) (undef) _ [(23, undef)] (seen_cons (Eq.trans (by kernel_rfl) hv10_V155_19) seen_nil) (by kernel_rfl) (VT.le.refl _) hM155_19 ((hG155_19 _ _).2 rfl)
          refine all_snoc (.inr ⟨by decide, fun S155_18 g155_18 V155_18 w155_18 F155_18 cx155_18 hM155_18 => ?_⟩) ?_
          · -- op 18
            obtain hv10_V155_18 : g155_18 23 = undef := (hG155_10 _ _).1 (cx155_18.fact 10 23 (by decide) (cx155_18.dep 10 (by kernel_rfl)) (by kernel_rfl))
            obtain hv17_V155_18 : g155_18 30 = undef := (hG155_17 _ _).1 (cx155_18.fact 17 30 (by decide) (cx155_18.dep 17 (by kernel_rfl)) (by kernel_rfl))
            refine wpF_see 23 (undef) (Eq.trans (by kernel_rfl) hv10_V155_18) ?_
            refine wpF_see 30 (undef) (Eq.trans (by kernel_rfl) hv17_V155_18) ?_
            refine wpF_seg 1 (by kernel_rfl) ?_
            refine wpF_end _ (by kernel_rfl) (then_n ?_)
            exact one_in (some 31) (by kernel_rfl) (undef) _ [(30, undef), (23, undef)] (seen_cons (Eq.trans (by kernel_rfl) hv17_V155_18) (seen_cons (Eq.trans (by kernel_rfl) hv10_V155_18) seen_nil)) (by kernel_rfl) (VT.le.refl _) hM155_18 ((hG155_18 _ _).2 rfl)
          refine all_snoc (.inr ⟨by decide, fun S155_17 g155_17 V155_17 w155_17 F155_17 cx155_17 hM155_17 => ?_⟩) ?_
          · -- op 17
            obtain hv10_V155_17 : g155_17 23 = undef := (hG155_10 _ _).1 (cx155_17.fact 10 23 (by decide) (cx155_17.dep 10 (by kernel_rfl)) (by kernel_rfl))
            refine wpF_see 23 (undef) (Eq.trans (by kernel_rfl) hv10_V155_17) ?_
            refine wpF_seg 1 (by kernel_rfl) ?_
            refine wpF_end _ (by kernel_rfl) (then_n ?_)
            exact one_in (some 30) (by kernel_rfl) (undef) _ [(23, undef)] (seen_cons (Eq.trans (by kernel_rfl) hv10_V155_17) seen_nil) (by kernel_rfl) (VT.le.refl _) hM155_17 ((hG155_17 _ _).2 rfl)
          refine all_snoc (.inr ⟨by decide, fun S155_16 g155_16 V155_16 w155_16 F155_16 cx155_16 hM155_16 => ?_⟩) ?_
          · -- op 16
            obtain hv10_V155_16 : g155_16 23 = undef := (hG155_10 _ _).1 (cx155_16.fact 10 23 (by decide) (cx155_16.dep 10 (by kernel_rfl)) (by kernel_rfl))
            obtain hv15_V155_16 : g155_16 28 = undef := (hG155_15 _ _).1 (cx155_16.fact 15 28 (by decide) (cx155_16.dep 15 (by kernel_rfl)) (by kernel_rfl))
            refine wpF_see 23 (undef) (Eq.trans (by kernel_rfl) hv10_V155_16) ?_
            refine wpF_see 28 (undef) (Eq.trans (by kernel_rfl) hv15_V155_16) ?_
            refine wpF_seg 1 (by kernel_rfl) ?_
            refine wpF_end _ (by kernel_rfl) (then_n ?_)
            exact one_in (some 29) (by kernel_rfl) (undef) _ [(28, undef), (23, undef)] (seen_cons (Eq.trans (by kernel_rfl) hv15_V155_16) (seen_cons (Eq.trans (by kernel_rfl) hv10_V155_16) seen_nil)) (by kernel_rfl) (VT.le.refl _) hM155_16 ((hG155_16 _ _).2 rfl)
          refine all_snoc (.inr ⟨by decide, fun S155_15 g155_15 V155_15 w155_15 F155_15 cx155_15 hM155_15 => ?_⟩) ?_
          · -- op 15
            obtain hv10_V155_15 : g155_15 23 = undef := (hG155_10 _ _).1 (cx155_15.fact 10 23 (by decide) (cx155_15.dep 10 (by kernel_rfl)) (by kernel_rfl))
            obtain hv12_V155_15 : g155_15 25 = undef := (hG155_12 _ _).1 (cx155_15.fact 12 25 (by decide) (cx155_15.dep 12 (by kernel_rfl)) (by kernel_rfl))
            obtain hv14_V155_15 : g155_15 27 = undef := (hG155_14 _ _).1 (cx155_15.fact 14 27 (by decide) (cx155_15.dep 14 (by kernel_rfl)) (by kernel_rfl))
            refine wpF_see 23 (undef) (Eq.trans (by kernel_rfl) hv10_V155_15) ?_
            refine wpF_see 25 (undef) (Eq.trans (by kernel_rfl) hv12_V155_15) ?_
            refine wpF_see 27 (undef) (Eq.trans (by kernel_rfl) hv14_V155_15) ?_
            refine wpF_seg 1 (by kernel_rfl) ?_
            refine wpF_end _ (by kernel_rfl) (then_n ?_)
            exact one_in (some 28) (by kernel_rfl) (undef) _ [(27, undef), (25, undef), (23, undef)] (seen_cons (Eq.trans (by kernel_rfl) hv14_V155_15) (seen_cons (Eq.trans (by kernel_rfl) hv12_V155_15) (seen_cons (Eq.trans (by kernel_rfl) hv10_V155_15) seen_nil))) (by kernel_rfl) (VT.le.refl _) hM155_15 ((hG155_15 _ _).2 rfl)
          refine all_snoc (.inr ⟨by decide, fun S155_14 g155_14 V155_14 w155_14 F155_14 cx155_14 hM155_14 => ?_⟩) ?_
          · -- op 14
            obtain hv10_V155_14 : g155_14 23 = undef := (hG155_10 _ _).1 (cx155_14.fact 10 23 (by decide) (cx155_14.dep 10 (by kernel_rfl)) (by kernel_rfl))
            obtain hv13_V155_14 : g155_14 26 = undef := (hG155_13 _ _).1 (cx155_14.fact 13 26 (by decide) (cx155_14.dep 13 (by kernel_rfl)) (by kernel_rfl))
            refine wpF_see 23 (undef) (Eq.trans (by kernel_rfl) hv10_V155_14) ?_
            refine wpF_see 26 (undef) (Eq.trans (by kernel_rfl) hv13_V155_14) ?_
            refine wpF_seg 1 (by kernel_rfl) ?_
            refine wpF_end _ (by kernel_rfl) (then_n ?_)
            exact one_in (some 27) (by kernel_rfl) (undef) _ [(26, undef), (23, undef)] (seen_cons (Eq.trans (by kernel_rfl) hv13_V155_14) (seen_cons (Eq.trans (by kernel_rfl) hv10_V155_14) seen_nil)) (by kernel_rfl) (VT.le.refl _) hM155_14 ((hG155_14 _ _).2 rfl)
          refine all_snoc (.inr ⟨by decide, fun S155_13 g155_13 V155_13 w155_13 F155_13 cx155_13 hM155_13 => ?_⟩) ?_
          · -- op 13
            obtain hv10_V155_13 : g155_13 23 = undef := (hG155_10 _ _).1 (cx155_13.fact 10 23 (by decide) (cx155_13.dep 10 (by kernel_rfl)) (by kernel_rfl))
            refine wpF_see 23 (undef) (Eq.trans (by kernel_rfl) hv10_V155_13) ?_
            refine wpF_seg 1 (by kernel_rfl) ?_
            refine wpF_end _ (by kernel_rfl) (then_n ?_)
            exact one_in (some 26) (by kernel_rfl) (undef) _ [(23, undef)] (seen_cons (Eq.trans (by kernel_rfl) hv10_V155_13) seen_nil) (by kernel_rfl) (VT.le.refl _) hM155_13 ((hG155_13 _ _).2 rfl)
          refine all_snoc (.inr ⟨by decide, fun S155_12 g155_12 V155_12 w155_12 F155_12 cx155_12 hM155_12 => ?_⟩) ?_
          · -- op 12
            obtain hv10_V155_12 : g155_12 23 = undef := (hG155_10 _ _).1 (cx155_12.fact 10 23 (by decide) (cx155_12.dep 10 (by kernel_rfl)) (by kernel_rfl))
            obtain hv11_V155_12 : g155_12 24 = undef := (hG155_11 _ _).1 (cx155_12.fact 11 24 (by decide) (cx155_12.dep 11 (by kernel_rfl)) (by kernel_rfl))
            refine wpF_see 23 (undef) (Eq.trans (by kernel_rfl) hv10_V155_12) ?_
            refine wpF_see 24 (undef) (Eq.trans (by kernel_rfl) hv11_V155_12) ?_
            refine wpF_seg 1 (by kernel_rfl) ?_
            refine wpF_end _ (by kernel_rfl) (then_n ?_)
            exact one_in (some 25) (by kernel_rfl) (undef) _ [(24, undef), (23, undef)] (seen_cons (Eq.trans (by kernel_rfl) hv11_V155_12) (seen_cons (Eq.trans (by kernel_rfl) hv10_V155_12) seen_nil)) (by kernel_rfl) (VT.le.refl _) hM155_12 ((hG155_12 _ _).2 rfl)
          refine all_snoc (.inr ⟨by decide, fun S155_11 g155_11 V155_11 w155_11 F155_11 cx155_11 hM155_11 => ?_⟩) ?_
          · -- op 11
            obtain hv10_V155_11 : g155_11 23 = undef := (hG155_10 _ _).1 (cx155_11.fact 10 23 (by decide) (cx155_11.dep 10 (by kernel_rfl)) (by kernel_rfl))
            refine wpF_see 23 (undef) (Eq.trans (by kernel_rfl) hv10_V155_11) ?_
            refine wpF_seg 1 (by kernel_rfl) ?_
            refine wpF_end _ (by kernel_rfl) (then_n ?_)
            exact one_in (some 24) (by kernel_rfl) (undef) _ [(23, undef)] (seen_cons (Eq.trans (by kernel_rfl) hv10_V155_11) seen_nil) (by kernel_rfl) (VT.le.refl _) hM155_11 ((hG155_11 _ _).2 rfl)
          refine all_snoc (.inr ⟨by decide, fun S155_10 g155_10 V155_10 w155_10 F155_10 cx155_10 hM155_10 => ?_⟩) ?_
          · -- op 10
            obtain ⟨hv7_V155_10, l154⟩ : g155_10 20 = .bool (true) ∧ ((nk.getD (k) []).length ≤ 140737488355328) := (hG155_7 _ _).1 (cx155_10.fact 7 20 (by decide) (cx155_10.dep 7 (by kernel_rfl)) (by kernel_rfl))
            obtain hv9_V155_10 : g155_10 22 = undef := (hG155_9 _ _).1 (cx155_10.fact 9 22 (by decide) (cx155_10.dep 9 (by kernel_rfl)) (by kernel_rfl))
            refine wpF_see 20 (.bool (true)) (Eq.trans (by kernel_rfl) hv7_V155_10) ?_
            refine wpF_see 22 (undef) (Eq.trans (by kernel_rfl) hv9_V155_10) ?_
            refine wpF_seg 1 (by kernel_rfl) ?_
            refine wpF_end _ (by kernel_rfl) (then_n ?_)
            exact one_in (some 23) (by kernel_rfl) (undef) _ [(22, undef), (20, .bool (true))] (seen_cons (Eq.trans (by kernel_rfl) hv9_V155_10) (seen_cons (Eq.trans (by kernel_rfl) hv7_V155_10) seen_nil)) (by kernel_rfl) (VT.le.refl _) hM155_10 ((hG155_10 _ _).2 rfl)
          refine all_snoc (.inr ⟨by decide, fun S155_9 g155_9 V155_9 w155_9 F155_9 cx155_9 hM155_9 => ?_⟩) ?_
          · -- op 9
            obtain ⟨hv7_V155_9, l154⟩ : g155_9 20 = .bool (true) ∧ ((nk.getD (k) []).length ≤ 140737488355328) := (hG155_7 _ _).1 (cx155_9.fact 7 20 (by decide) (cx155_9.dep 7 (by kernel_rfl)) (by kernel_rfl))
            obtain hv8_V155_9 : g155_9 21 = undef := (hG155_8 _ _).1 (cx155_9.fact 8 21 (by decide) (cx155_9.dep 8 (by kernel_rfl)) (by kernel_rfl))
            refine wpF_see 20 (.bool (true)) (Eq.trans (by kernel_rfl) hv7_V155_9) ?_
            refine wpF_see 21 (undef) (Eq.trans (by kernel_rfl) hv8_V155_9) ?_
            refine wpF_seg 1 (by kernel_rfl) ?_
            refine wpF_end _ (by kernel_rfl) (then_n ?_)
            exact one_in (some 22) (by kernel_rfl) (undef) _ [(21, undef), (20, .bool (true))] (seen_cons (Eq.trans (by kernel_rfl) hv8_V155_9) (seen_cons (Eq.trans (by kernel_rfl) hv7_V155_9) seen_nil)) (by kernel_rfl) (VT.le.refl _) hM155_9 ((hG155_9 _ _).2 rfl)
          refine all_snoc (.inr ⟨by decide, fun S155_8 g155_8 V155_8 w155_8 F155_8 cx155_8 hM155_8 => ?_⟩) ?_
          · -- op 8
            obtain ⟨hv7_V155_8, l154⟩ : g155_8 20 = .bool (true) ∧ ((nk.getD (k) []).length ≤ 140737488355328) := (hG155_7 _ _).1 (cx155_8.fact 7 20 (by decide) (cx155_8.dep 7 (by kernel_rfl)) (by kernel_rfl))
            refine wpF_see 20 (.bool (true)) (Eq.trans (by kernel_rfl) hv7_V155_8) ?_
            refine wpF_seg 1 (by kernel_rfl) ?_
            refine wpF_end _ (by kernel_rfl) (then_n ?_)
            exact one_in (some 21) (by kernel_rfl) (undef) _ [(20, .bool (true))] (seen_cons (Eq.trans (by kernel_rfl) hv7_V155_8) seen_nil) (by kernel_rfl) (VT.le.refl _) hM155_8 ((hG155_8 _ _).2 rfl)
          refine all_snoc (.inr ⟨by decide, fun S155_7 g155_7 V155_7 w155_7 F155_7 cx155_7 hM155_7 => ?_⟩) ?_
          · -- op 7
            obtain ⟨hv6_V155_7, l154⟩ : g155_7 19 = .bool (true) ∧ ((nk.getD (k) []).length ≤ 140737488355328) := (hG155_6 _ _).1 (cx155_7.fact 6 19 (by decide) (cx155_7.dep 6 (by kernel_rfl)) (by kernel_rfl))
            refine wpF_see 19 (.bool (true)) (Eq.trans (by kernel_rfl) hv6_V155_7) ?_
            refine wpF_seg 1 (by kernel_rfl) ?_
            refine wpF_end _ (by kernel_rfl) (then_n ?_)
            exact one_in (some 20) (by kernel_rfl) (.bool (true)) _ [(19, .bool (true))] (seen_cons (Eq.trans (by kernel_rfl) hv6_V155_7) seen_nil) (by kernel_rfl) (VT.le.refl _) hM155_7 ((hG155_7 _ _).2 ⟨rfl, l154⟩)
          refine all_snoc (.inr ⟨by decide, fun S155_6 g155_6 V155_6 w155_6 F155_6 cx155_6 hM155_6 => ?_⟩) ?_
          · -- op 6
            obtain ⟨hv5_V155_6, l154⟩ : g155_6 18 = .int .i64 ((((nk.getD (k) [])).length : Int)) ∧ ((nk.getD (k) []).length ≤ 140737488355328) := (hG155_5 _ _).1 (cx155_6.fact 5 18 (by decide) (cx155_6.dep 5 (by kernel_rfl)) (by kernel_rfl))
            refine wpF_see 18 (.int .i64 ((((nk.getD (k) [])).length : Int))) (Eq.trans (by kernel_rfl) hv5_V155_6) ?_
            refine wpF_seg 1 (by kernel_rfl) ?_
            refine wpF_slot 19 (.bool (decide ((128) < ((((nk.getD (k) [])).length : Int))))) (.bool true) (by kernel_rfl) (by kernel_rfl) (by rw [h149]) ?_
            refine wpF_end _ (by kernel_rfl) (then_n ?_)
            exact one_in (some 19) (by kernel_rfl) (.bool (true)) _ [(18, .int .i64 ((((nk.getD (k) [])).length : Int)))] (seen_cons (Eq.trans (by kernel_rfl) hv5_V155_6) seen_nil) (by kernel_rfl) (VT.le.refl _) hM155_6 ((hG155_6 _ _).2 ⟨rfl, l154⟩)
          refine all_snoc (.inr ⟨by decide, fun S155_5 g155_5 V155_5 w155_5 F155_5 cx155_5 hM155_5 => ?_⟩) ?_
          · -- op 5
            obtain ⟨hv4_V155_5, l154⟩ : g155_5 17 = bs ((nk.getD (k) [])) ∧ ((nk.getD (k) []).length ≤ 140737488355328) := (hG155_4 _ _).1 (cx155_5.fact 4 17 (by decide) (cx155_5.dep 4 (by kernel_rfl)) (by kernel_rfl))
            refine wpF_see 17 (bs ((nk.getD (k) []))) (Eq.trans (by kernel_rfl) hv4_V155_5) ?_
            refine wpF_seg 1 (by kernel_rfl) ?_
            refine wpF_end _ (by kernel_rfl) (then_n ?_)
            exact one_in (some 18) (by kernel_rfl) (.int .i64 ((((nk.getD (k) [])).length : Int))) _ [(17, bs ((nk.getD (k) [])))] (seen_cons (Eq.trans (by kernel_rfl) hv4_V155_5) seen_nil) (by kernel_rfl) (VT.le.refl _) hM155_5 ((hG155_5 _ _).2 ⟨rfl, l154⟩)
          refine all_snoc (.inr ⟨by decide, fun S155_4 g155_4 V155_4 w155_4 F155_4 cx155_4 hM155_4 => ?_⟩) ?_
          · -- op 4
            obtain ⟨b151, o152, hv3_V155_4, at_b151, l154⟩ : ∃ b151 : Nat, ∃ o152 : Nat, g155_4 16 = .pointer (some ⟨b151, o152, none⟩) ∧ (At strK V155_4 b151 o152 ((nk.getD (k) []))) ∧ ((nk.getD (k) []).length ≤ 140737488355328) := (hG155_3 _ _).1 (cx155_4.fact 3 16 (by decide) (cx155_4.dep 3 (by kernel_rfl)) (by kernel_rfl))
            have c904061 : V155_4 b151 o152 = some (bs (nk.getD (k) [])) := (At.str at_b151).1
            have l904062 : (nk.getD (k) []).length ≤ 140737488355328 := (At.str at_b151).2
            refine wpF_see 16 (.pointer (some ⟨b151, o152, none⟩)) (Eq.trans (by kernel_rfl) hv3_V155_4) ?_
            refine wpF_loadV hM155_4 c904061 (h := (by kernel_rfl : opAt _ _ _ _ _ = some (Go.Op.load 9 (Go.Operand.tmp 16), some 17))) (by kernel_rfl) (by kernel_rfl) ?_
            refine wpF_end _ (by kernel_rfl) (then_n ?_)
            exact one_in (some 17) (by kernel_rfl) (bs ((nk.getD (k) []))) _ [(16, .pointer (some ⟨b151, o152, none⟩))] (seen_cons (Eq.trans (by kernel_rfl) hv3_V155_4) seen_nil) (by kernel_rfl) (VT.le.refl _) hM155_4 ((hG155_4 _ _).2 ⟨rfl, l154⟩)
          refine all_snoc (.inr ⟨by decide, fun S155_3 g155_3 V155_3 w155_3 F155_3 cx155_3 hM155_3 => ?_⟩) ?_
          · -- op 3
            obtain hv1_V155_3 : g155_3 14 = .slice Ank (nk).length cnk := (hG155_1 _ _).1 (cx155_3.fact 1 14 (by decide) (cx155_3.dep 1 (by kernel_rfl)) (by kernel_rfl))
            obtain hv2_V155_3 : g155_3 15 = .int .i64 ((k : Int)) := (hG155_2 _ _).1 (cx155_3.fact 2 15 (by decide) (cx155_3.dep 2 (by kernel_rfl)) (by kernel_rfl))
            refine wpF_see 14 (.slice Ank (nk).length cnk) (Eq.trans (by kernel_rfl) hv1_V155_3) ?_
            refine wpF_see 15 (.int .i64 ((k : Int))) (Eq.trans (by kernel_rfl) hv2_V155_3) ?_
            refine wpF_index (A := Ank) (c := cnk) (hnk.up hM155_3.le) .i64 ((k : Int)) (h := (by kernel_rfl : opAt _ _ _ _ _ = some (Go.Op.indexAddr 22 (Go.Operand.tmp 14) (Go.Operand.tmp 15), some 16))) (e := 9) (by kernel_rfl) (by kernel_rfl) (by kernel_rfl) (k) rfl (by omega) (fun b151 o152 at_b151 => ?_)
            have c153 : V155_3 b151 o152 = some (bs (nk.getD (k) [])) := (At.str at_b151).1
            have l154 : (nk.getD (k) []).length ≤ 140737488355328 := (At.str at_b151).2
            refine wpF_end _ (by kernel_rfl) (then_n ?_)
            exact one_in (some 16) (by kernel_rfl) (.pointer (some ⟨b151, o152, none⟩)) _ [(15, .int .i64 ((k : Int))), (14, .slice Ank (nk).length cnk)] (seen_cons (Eq.trans (by kernel_rfl) hv2_V155_3) (seen_cons (Eq.trans (by kernel_rfl) hv1_V155_3) seen_nil)) (by kernel_rfl) (VT.le.refl _) hM155_3 ((hG155_3 _ _).2 ⟨b151, o152, rfl, at_b151, l154⟩)
          refine all_snoc (.inr ⟨by decide, fun S155_2 g155_2 V155_2 w155_2 F155_2 cx155_2 hM155_2 => ?_⟩) ?_
          · -- op 2
            refine wpF_seg 1 (by kernel_rfl) ?_
            refine wpF_end _ (by kernel_rfl) (then_n ?_)
            exact one_in (some 15) (by kernel_rfl) (.int .i64 ((k : Int))) _ [] seen_nil (by kernel_rfl) (VT.le.refl _) hM155_2 ((hG155_2 _ _).2 rfl)
          refine all_snoc (.inr ⟨by decide, fun S155_1 g155_1 V155_1 w155_1 F155_1 cx155_1 hM155_1 => ?_⟩) ?_
          · -- op 1
            obtain hv0_V155_1 : g155_1 13 = .pointer (some ⟨b126, 1, none⟩) := (hG155_0 _ _).1 (cx155_1.fact 0 13 (by decide) (cx155_1.dep 0 (by kernel_rfl)) (by kernel_rfl))
            refine wpF_see 13 (.pointer (some ⟨b126, 1, none⟩)) (Eq.trans (by kernel_rfl) hv0_V155_1) ?_
            refine wpF_loadB hM155_1 #[.bool (true), .slice Ank (nk).length cnk, .slice Anv (nv).length cnv, .slice Anc (nc).length cnc] (fun i v hi => (le141.trans cx155_1.le) _ _ _ (hc132 i v hi)) (h := (by kernel_rfl : opAt _ _ _ _ _ = some (Go.Op.load 22 (Go.Operand.tmp 13), some 14))) (off := 1) (by kernel_rfl) (.slice Ank (nk).length cnk) (by kernel_rfl) ?_
            refine wpF_end _ (by kernel_rfl) (then_n ?_)
            exact one_in (some 14) (by kernel_rfl) (.slice Ank (nk).length cnk) _ [(13, .pointer (some ⟨b126, 1, none⟩))] (seen_cons (Eq.trans (by kernel_rfl) hv0_V155_1) seen_nil) (by kernel_rfl) (VT.le.refl _) hM155_1 ((hG155_1 _ _).2 rfl)
          refine all_snoc (.inr ⟨by decide, fun S155_0 g155_0 V155_0 w155_0 F155_0 cx155_0 hM155_0 => ?_⟩) ?_
          · -- op 0
            refine wpF_seg 1 (by kernel_rfl) ?_
            refine wpF_end _ (by kernel_rfl) (then_n ?_)
            exact one_in (some 13) (by kernel_rfl) (.pointer (some ⟨b126, 1, none⟩)) _ [] seen_nil (by kernel_rfl) (VT.le.refl _) hM155_0 ((hG155_0 _ _).2 rfl)
          exact all_none
        · -- behind it
          intro ge155 Ve155 we155 hMe155 hle155 hf155
          refine wpF_stop (P := Try.prog) (ops := #[]) (i := 0) _ rfl ?_
          obtain hv0_Ve155 : ge155 13 = .pointer (some ⟨b126, 1, none⟩) := (hG155_0 _ _).1 (hf155 0 13 (by decide) (by kernel_rfl))
          obtain hv1_Ve155 : ge155 14 = .slice Ank (nk).length cnk := (hG155_1 _ _).1 (hf155 1 14 (by decide) (by kernel_rfl))
          obtain hv2_Ve155 : ge155 15 = .int .i64 ((k : Int)) := (hG155_2 _ _).1 (hf155 2 15 (by decide) (by kernel_rfl))
          obtain ⟨b151, o152, hv3_Ve155, at_b151, l154⟩ : ∃ b151 : Nat, ∃ o152 : Nat, ge155 16 = .pointer (some ⟨b151, o152, none⟩) ∧ (At strK Ve155 b151 o152 ((nk.getD (k) []))) ∧ ((nk.getD (k) []).length ≤ 140737488355328) := (hG155_3 _ _).1 (hf155 3 16 (by decide) (by kernel_rfl))
          have c157 : Ve155 b151 o152 = some (bs (nk.getD (k) [])) := (At.str at_b151).1
          have l158 : (nk.getD (k) []).length ≤ 140737488355328 := (At.str at_b151).2
          obtain ⟨hv4_Ve155, l154⟩ : ge155 17 = bs ((nk.getD (k) [])) ∧ ((nk.getD (k) []).length ≤ 140737488355328) := (hG155_4 _ _).1 (hf155 4 17 (by decide) (by kernel_rfl))
          obtain ⟨hv5_Ve155, l154⟩ : ge155 18 = .int .i64 ((((nk.getD (k) [])).length : Int)) ∧ ((nk.getD (k) []).length ≤ 140737488355328) := (hG155_5 _ _).1 (hf155 5 18 (by decide) (by kernel_rfl))
          obtain ⟨hv6_Ve155, l154⟩ : ge155 19 = .bool (true) ∧ ((nk.getD (k) []).length ≤ 140737488355328) := (hG155_6 _ _).1 (hf155 6 19 (by decide) (by kernel_rfl))
          obtain ⟨hv7_Ve155, l154⟩ : ge155 20 = .bool (true) ∧ ((nk.getD (k) []).length ≤ 140737488355328) := (hG155_7 _ _).1 (hf155 7 20 (by decide) (by kernel_rfl))
          obtain ⟨hv25_Ve155, l154⟩ : ge155 38 = .bool (true) ∧ ((nk.getD (k) []).length ≤ 140737488355328) := (hG155_25 _ _).1 (hf155 25 38 (by decide) (by kernel_rfl))
          refine wpF_see 13 (.pointer (some ⟨b126, 1, none⟩)) (Eq.trans (by kernel_rfl) hv0_Ve155) ?_
          refine wpF_see 14 (.slice Ank (nk).length cnk) (Eq.trans (by kernel_rfl) hv1_Ve155) ?_
          refine wpF_see 15 (.int .i64 ((k : Int))) (Eq.trans (by kernel_rfl) hv2_Ve155) ?_
          refine wpF_see 16 (.pointer (some ⟨b151, o152, none⟩)) (Eq.trans (by kernel_rfl) hv3_Ve155) ?_
          refine wpF_see 17 (bs ((nk.getD (k) []))) (Eq.trans (by kernel_rfl) hv4_Ve155) ?_
          refine wpF_see 18 (.int .i64 ((((nk.getD (k) [])).length : Int))) (Eq.trans (by kernel_rfl) hv5_Ve155) ?_
          refine wpF_see 19 (.bool (true)) (Eq.trans (by kernel_rfl) hv6_Ve155) ?_
          refine wpF_see 20 (.bool (true)) (Eq.trans (by kernel_rfl) hv7_Ve155) ?_
          refine wpF_see 38 (.bool (true)) (Eq.trans (by kernel_rfl) hv25_Ve155) ?_
          refine wpF_end _ (by kernel_rfl) (then_n (hK148 _ _ ?_))
          refine wp_ct (by kernel_rfl) ?_
          refine wp_seq_k (fun K160 hK160 => ?_)
          refine wp_reg ?_
          refine wpF_seg 1 (by kernel_rfl) ?_
          refine wpF_end _ (by kernel_rfl) (then_n (hK160 _ _ ?_))
          refine wp_ret (blk_r (then_r (then_r (blk_r (then_r (?_))))))
          refine retN [.bool (false)] (.bool (false)) Try.results35 (.tmp (by kernel_rfl) (by kernel_rfl) .nil) (by kernel_rfl) (hRet _ _ ⟨_, _, rfl, hMe155.clear, ?_⟩)
          -- end TLtt
          first | exact congrArg Value.bool (stands_long (k := k) (by omega) (by assumption)).symm | exact congrArg Value.bool (stands_rise (k := k) (by omega) (by omega) (by assumption)).symm | exact congrArg Value.bool (stands_val (k := q) (by omega) (by assumption)).symm | exact congrArg Value.bool (stands_kid (k := m) (by omega) (by omega)).symm | (rw [stands_all (by assumption)]; (first | rw [vals_none (by assumption)] | rw [kids_none (by assumption)]); simp only [h145, h149, cond_true, cond_false, Bool.true_and, Bool.and_true, Bool.false_and, Bool.and_false, Bool.not_true, Bool.not_false])
      · -- TLtf
        have p161 : ¬ ((128) < ((((nk.getD (k) [])).length : Int))) := of_decide_eq_false h149
        refine caseB (decide ((0) < ((k : Int)))) (fun h162 => ?_) (fun h162 => ?_)
        · -- TLtft
          have p163 : ((0) < ((k : Int))) := of_decide_eq_true h162
          refine wp_base [(1, .pointer (some ⟨b126, 0, none⟩)), (3, .int .i64 ((k : Int))), (6, .int .i64 ((k : Int))), (7, .pointer (some ⟨b126, 1, none⟩)), (8, .slice Ank (nk).length cnk), (9, .int .i64 ((nk.length : Int))), (10, .bool (decide (((k : Int)) < ((nk.length : Int)))))] (by kernel_rfl) (fun g0_182 => ?_)
          obtain ⟨G182, hGm182, hG182_0, hG182_1, hG182_2, hG182_3, hG182_4, hG182_5, hG182_6, hG182_7, hG182_8, hG182_9, hG182_10, hG182_11, hG182_12, hG182_13, hG182_14, hG182_15, hG182_16, hG182_17, hG182_18, hG182_19, hG182_20, hG182_21, hG182_22, hG182_23, hG182_24, hG182_25⟩ : ∃ G : Nat → Value → VT → Prop, (∀ j v V V', VT.le V V' → G j v V → G j v V') ∧ (∀ v_ V_, G 0 v_ V_ ↔ (v_ = .pointer (some ⟨b126, 1, none⟩))) ∧ (∀ v_ V_, G 1 v_ V_ ↔ (v_ = .slice Ank (nk).length cnk)) ∧ (∀ v_ V_, G 2 v_ V_ ↔ (v_ = .int .i64 ((k : Int)))) ∧ (∀ v_ V_, G 3 v_ V_ ↔ (∃ b164 : Nat, ∃ o165 : Nat, v_ = .pointer (some ⟨b164, o165, none⟩) ∧ (At strK V_ b164 o165 ((nk.getD (k) []))) ∧ ((nk.getD (k) []).length ≤ 140737488355328))) ∧ (∀ v_ V_, G 4 v_ V_ ↔ (v_ = bs ((nk.getD (k) [])) ∧ ((nk.getD (k) []).length ≤ 140737488355328))) ∧ (∀ v_ V_, G 5 v_ V_ ↔ (v_ = .int .i64 ((((nk.getD (k) [])).length : Int)) ∧ ((nk.getD (k) []).length ≤ 140737488355328))) ∧ (∀ v_ V_, G 6 v_ V_ ↔ (v_ = .bool (false) ∧ ((nk.getD (k) []).length ≤ 140737488355328))) ∧ (∀ v_ V_, G 7 v_ V_ ↔ (v_ = .bool (false) ∧ ((nk.getD (k) []).length ≤ 140737488355328))) ∧ (∀ v_ V_, G 8 v_ V_ ↔ (v_ = .int .i64 ((k : Int)))) ∧ (∀ v_ V_, G 9 v_ V_ ↔ (v_ = .bool (true))) ∧ (∀ v_ V_, G 10 v_ V_ ↔ (v_ = .bool (true))) ∧ (∀ v_ V_, G 11 v_ V_ ↔ (v_ = .pointer (some ⟨b126, 1, none⟩))) ∧ (∀ v_ V_, G 12 v_ V_ ↔ (v_ = .slice Ank (nk).length cnk)) ∧ (∀ v_ V_, G 13 v_ V_ ↔ (v_ = .int .i64 ((k : Int)))) ∧ (∀ v_ V_, G 14 v_ V_ ↔ (v_ = .int .i64 ((k : Int) - 1))) ∧ (∀ v_ V_, G 15 v_ V_ ↔ (∃ b168 : Nat, ∃ o169 : Nat, v_ = .pointer (some ⟨b168, o169, none⟩) ∧ (At strK V_ b168 o169 ((nk.getD (k - 1) []))) ∧ ((nk.getD (k - 1) []).length ≤ 140737488355328))) ∧ (∀ v_ V_, G 16 v_ V_ ↔ (v_ = bs ((nk.getD (k - 1) [])) ∧ ((nk.getD (k - 1) []).length ≤ 140737488355328))) ∧ (∀ v_ V_, G 17 v_ V_ ↔ (v_ = .pointer (some ⟨b126, 1, none⟩))) ∧ (∀ v_ V_, G 18 v_ V_ ↔ (v_ = .slice Ank (nk).length cnk)) ∧ (∀ v_ V_, G 19 v_ V_ ↔ (v_ = .int .i64 ((k : Int)))) ∧ (∀ v_ V_, G 20 v_ V_ ↔ (∃ b172 : Nat, ∃ o173 : Nat, v_ = .pointer (some ⟨b172, o173, none⟩) ∧ (At strK V_ b172 o173 ((nk.getD (k) []))) ∧ ((nk.getD (k) []).length ≤ 140737488355328))) ∧ (∀ v_ V_, G 21 v_ V_ ↔ (v_ = bs ((nk.getD (k) [])) ∧ ((nk.getD (k) []).length ≤ 140737488355328))) ∧ (∀ v_ V_, G 22 v_ V_ ↔ (v_ = .bool (decide (((nk.getD (k - 1) [])) < ((nk.getD (k) [])))))) ∧ (∀ v_ V_, G 23 v_ V_ ↔ (v_ = .bool (!(decide (((nk.getD (k - 1) [])) < ((nk.getD (k) []))))))) ∧ (∀ v_ V_, G 24 v_ V_ ↔ (v_ = .bool (!(decide (((nk.getD (k - 1) [])) < ((nk.getD (k) []))))))) ∧ (∀ v_ V_, G 25 v_ V_ ↔ (v_ = .bool (!(decide (((nk.getD (k - 1) [])) < ((nk.getD (k) []))))) ∧ ((nk.getD (k) []).length ≤ 140737488355328))) :=
              ⟨mG [mV (.pointer (some ⟨b126, 1, none⟩)), mV (.slice Ank (nk).length cnk), mV (.int .i64 ((k : Int))), mE fun b164 : Nat => mE fun o165 : Nat => mN (mV (.pointer (some ⟨b164, o165, none⟩))) (mN (mA strK b164 o165 ((nk.getD (k) []))) (mP ((nk.getD (k) []).length ≤ 140737488355328))), mN (mV (bs ((nk.getD (k) [])))) (mP ((nk.getD (k) []).length ≤ 140737488355328)), mN (mV (.int .i64 ((((nk.getD (k) [])).length : Int)))) (mP ((nk.getD (k) []).length ≤ 140737488355328)), mN (mV (.bool (false))) (mP ((nk.getD (k) []).length ≤ 140737488355328)), mN (mV (.bool (false))) (mP ((nk.getD (k) []).length ≤ 140737488355328)), mV (.int .i64 ((k : Int))), mV (.bool (true)), mV (.bool (true)), mV (.pointer (some ⟨b126, 1, none⟩)), mV (.slice Ank (nk).length cnk), mV (.int .i64 ((k : Int))), mV (.int .i64 ((k : Int) - 1)), mE fun b168 : Nat => mE fun o169 : Nat => mN (mV (.pointer (some ⟨b168, o169, none⟩))) (mN (mA strK b168 o169 ((nk.getD (k - 1) []))) (mP ((nk.getD (k - 1) []).length ≤ 140737488355328))), mN (mV (bs ((nk.getD (k - 1) [])))) (mP ((nk.getD (k - 1) []).length ≤ 140737488355328)), mV (.pointer (some ⟨b126, 1, none⟩)), mV (.slice Ank (nk).length cnk), mV (.int .i64 ((k : Int))), mE fun b172 : Nat => mE fun o173 : Nat => mN (mV (.pointer (some ⟨b172, o173, none⟩))) (mN (mA strK b172 o173 ((nk.getD (k) []))) (mP ((nk.getD (k) []).length ≤ 140737488355328))), mN (mV (bs ((nk.getD (k) [])))) (mP ((nk.getD (k) []).length ≤ 140737488355328)), mV (.bool (decide (((nk.getD (k - 1) [])) < ((nk.getD (k) []))))), mV (.bool (!(decide (((nk.getD (k - 1) [])) < ((nk.getD (k) [])))))), mV (.bool (!(decide (((nk.getD (k - 1) [])) < ((nk.getD (k) [])))))), mN (mV (.bool (!(decide (((nk.getD (k - 1) [])) < ((nk.getD (k) []))))))) (mP ((nk.getD (k) []).length ≤ 140737488355328))], mG_up _, fun _ _ => Iff.rfl, fun _ _ => Iff.rfl, fun _ _ => Iff.rfl, fun _ _ => Iff.rfl, fun _ _ => Iff.rfl, fun _ _ => Iff.rfl, fun _ _ => Iff.rfl, fun _ _ => Iff.rfl, fun _ _ => Iff.rfl, fun _ _ => Iff.rfl, fun _ _ => Iff.rfl, fun _ _ => Iff.rfl, fun _ _ => Iff.rfl, fun _ _ => Iff.rfl, fun _ _ => Iff.rfl, fun _ _ => Iff.rfl, fun _ _ => Iff.rfl, fun _ _ => Iff.rfl, fun _ _ => Iff.rfl, fun _ _ => Iff.rfl, fun _ _ => Iff.rfl, fun _ _ => Iff.rfl, fun _ _ => Iff.rfl, fun _ _ => Iff.rfl, fun _ _ => Iff.rfl, fun _ _ => Iff.rfl⟩
          refine wp_drawG (L0 := [(1, .pointer (some ⟨b126, 0, none⟩)), (3, .int .i64 ((k : Int))), (6, .int .i64 ((k : Int))), (7, .pointer (some ⟨b126, 1, none⟩)), (8, .slice Ank (nk).length cnk), (9, .int .i64 ((nk.length : Int))), (10, .bool (decide (((k : Int)) < ((nk.length : Int)))))]) 26 (by kernel_rfl) (by kernel_rfl) (by kernel_rfl) (by kernel_rfl) (by kernel_rfl) G182 hGm182 [] pre_nil (by kernel_rfl) [] (by kernel_rfl) (fun (S : Nat → Bool) (g : Nat → Value) => ([] : List Ent)) (fun _ _ _ _ _ => rfl) hM140 ?_ ?_
          · -- the operations
            refine all_snoc (.inr ⟨by decide, fun S182_25 g182_25 V182_25 w182_25 F182_25 cx182_25 hM182_25 => ?_⟩) ?_
            · -- op 25
              obtain ⟨hv7_V182_25, l167⟩ : g182_25 20 = .bool (false) ∧ ((nk.getD (k) []).length ≤ 140737488355328) := (hG182_7 _ _).1 (cx182_25.fact 7 20 (by decide) (cx182_25.dep 7 (by kernel_rfl)) (by kernel_rfl))
              obtain hv24_V182_25 : g182_25 37 = .bool (!(decide (((nk.getD (k - 1) [])) < ((nk.getD (k) []))))) := (hG182_24 _ _).1 (cx182_25.fact 24 37 (by decide) (cx182_25.dep 24 (by kernel_rfl)) (by kernel_rfl))
              refine wpF_see 20 (.bool (false)) (Eq.trans (by kernel_rfl) hv7_V182_25) ?_
              refine wpF_see 37 (.bool (!(decide (((nk.getD (k - 1) [])) < ((nk.getD (k) [])))))) (Eq.trans (by kernel_rfl) hv24_V182_25) ?_
              refine wpF_seg 1 (by kernel_rfl) ?_
              refine wpF_end _ (by kernel_rfl) (then_n ?_)
              exact one_in (some 38) (by kernel_rfl) (.bool (!(decide (((nk.getD (k - 1) [])) < ((nk.getD (k) [])))))) _ [(37, .bool (!(decide (((nk.getD (k - 1) [])) < ((nk.getD (k) [])))))), (20, .bool (false))] (seen_cons (Eq.trans (by kernel_rfl) hv24_V182_25) (seen_cons (Eq.trans (by kernel_rfl) hv7_V182_25) seen_nil)) (by kernel_rfl) (VT.le.refl _) hM182_25 ((hG182_25 _ _).2 ⟨rfl, l167⟩)
            refine all_snoc (.inr ⟨by decide, fun S182_24 g182_24 V182_24 w182_24 F182_24 cx182_24 hM182_24 => ?_⟩) ?_
            · -- op 24
              obtain ⟨hv7_V182_24, l167⟩ : g182_24 20 = .bool (false) ∧ ((nk.getD (k) []).length ≤ 140737488355328) := (hG182_7 _ _).1 (cx182_24.fact 7 20 (by decide) (cx182_24.dep 7 (by kernel_rfl)) (by kernel_rfl))
              obtain hv10_V182_24 : g182_24 23 = .bool (true) := (hG182_10 _ _).1 (cx182_24.fact 10 23 (by decide) (cx182_24.dep 10 (by kernel_rfl)) (by kernel_rfl))
              obtain hv23_V182_24 : g182_24 36 = .bool (!(decide (((nk.getD (k - 1) [])) < ((nk.getD (k) []))))) := (hG182_23 _ _).1 (cx182_24.fact 23 36 (by decide) (cx182_24.dep 23 (by kernel_rfl)) (by kernel_rfl))
              refine wpF_see 20 (.bool (false)) (Eq.trans (by kernel_rfl) hv7_V182_24) ?_
              refine wpF_see 23 (.bool (true)) (Eq.trans (by kernel_rfl) hv10_V182_24) ?_
              refine wpF_see 36 (.bool (!(decide (((nk.getD (k - 1) [])) < ((nk.getD (k) [])))))) (Eq.trans (by kernel_rfl) hv23_V182_24) ?_
              refine wpF_seg 1 (by kernel_rfl) ?_
              refine wpF_end _ (by kernel_rfl) (then_n ?_)
              exact one_in (some 37) (by kernel_rfl) (.bool (!(decide (((nk.getD (k - 1) [])) < ((nk.getD (k) [])))))) _ [(36, .bool (!(decide (((nk.getD (k - 1) [])) < ((nk.getD (k) [])))))), (23, .bool (true)), (20, .bool (false))] (seen_cons (Eq.trans (by kernel_rfl) hv23_V182_24) (seen_cons (Eq.trans (by kernel_rfl) hv10_V182_24) (seen_cons (Eq.trans (by kernel_rfl) hv7_V182_24) seen_nil))) (by kernel_rfl) (VT.le.refl _) hM182_24 ((hG182_24 _ _).2 rfl)
            refine all_snoc (.inr ⟨by decide, fun S182_23 g182_23 V182_23 w182_23 F182_23 cx182_23 hM182_23 => ?_⟩) ?_
            · -- op 23
              obtain hv10_V182_23 : g182_23 23 = .bool (true) := (hG182_10 _ _).1 (cx182_23.fact 10 23 (by decide) (cx182_23.dep 10 (by kernel_rfl)) (by kernel_rfl))
              obtain hv22_V182_23 : g182_23 35 = .bool (decide (((nk.getD (k - 1) [])) < ((nk.getD (k) [])))) := (hG182_22 _ _).1 (cx182_23.fact 22 35 (by decide) (cx182_23.dep 22 (by kernel_rfl)) (by kernel_rfl))
              refine wpF_see 23 (.bool (true)) (Eq.trans (by kernel_rfl) hv10_V182_23) ?_
              refine wpF_see 35 (.bool (decide (((nk.getD (k - 1) [])) < ((nk.getD (k) []))))) (Eq.trans (by kernel_rfl) hv22_V182_23) ?_
              refine wpF_seg 1 (by kernel_rfl) ?_
              refine wpF_end _ (by kernel_rfl) (then_n ?_)
              exact one_in (some 36) (by kernel_rfl) (.bool (!(decide (((nk.getD (k - 1) [])) < ((nk.getD (k) [])))))) _ [(35, .bool (decide (((nk.getD (k - 1) [])) < ((nk.getD (k) []))))), (23, .bool (true))] (seen_cons (Eq.trans (by kernel_rfl) hv22_V182_23) (seen_cons (Eq.trans (by kernel_rfl) hv10_V182_23) seen_nil)) (by kernel_rfl) (VT.le.refl _) hM182_23 ((hG182_23 _ _).2 rfl)
            refine all_snoc (.inr ⟨by decide, fun S182_22 g182_22 V182_22 w182_22 F182_22 cx182_22 hM182_22 => ?_⟩) ?_
            · -- op 22
              obtain hv10_V182_22 : g182_22 23 = .bool (true) := (hG182_10 _ _).1 (cx182_22.fact 10 23 (by decide) (cx182_22.dep 10 (by kernel_rfl)) (by kernel_rfl))
              obtain ⟨hv16_V182_22, l171⟩ : g182_22 29 = bs ((nk.getD (k - 1) [])) ∧ ((nk.getD (k - 1) []).length ≤ 140737488355328) := (hG182_16 _ _).1 (cx182_22.fact 16 29 (by decide) (cx182_22.dep 16 (by kernel_rfl)) (by kernel_rfl))
              obtain ⟨hv21_V182_22, l175⟩ : g182_22 34 = bs ((nk.getD (k) [])) ∧ ((nk.getD (k) []).length ≤ 140737488355328) := (hG182_21 _ _).1 (cx182_22.fact 21 34 (by decide) (cx182_22.dep 21 (by kernel_rfl)) (by kernel_rfl))
              refine wpF_see 23 (.bool (true)) (Eq.trans (by kernel_rfl) hv10_V182_22) ?_
              refine wpF_see 29 (bs ((nk.getD (k - 1) []))) (Eq.trans (by kernel_rfl) hv16_V182_22) ?_
              refine wpF_see 34 (bs ((nk.getD (k) []))) (Eq.trans (by kernel_rfl) hv21_V182_22) ?_
              refine wpF_callP hM182_22 (f := 49) (caps := #[]) (h := (by kernel_rfl : opAt _ _ _ _ _ = some (Go.Op.call (Go.Call.mk (Go.Callee.value (Go.Operand.func 49)) #[(Go.Operand.tmp 29), (Go.Operand.tmp 34)] #[9, 9]), some 35))) (by kernel_rfl) (by kernel_rfl) (by kernel_rfl) (f49 _ _ hM182_22.inW ((nk.getD (k - 1) [])) (l171) ((nk.getD (k) [])) (l175)) (fun v176 V177 w178 le179 hM180 hp181 => ?_)
              obtain rfl := hp181
              refine wpF_end _ (by kernel_rfl) (then_n ?_)
              exact one_in (some 35) (by kernel_rfl) (.bool (decide (((nk.getD (k - 1) [])) < ((nk.getD (k) []))))) _ [(34, bs ((nk.getD (k) []))), (29, bs ((nk.getD (k - 1) []))), (23, .bool (true))] (seen_cons (Eq.trans (by kernel_rfl) hv21_V182_22) (seen_cons (Eq.trans (by kernel_rfl) hv16_V182_22) (seen_cons (Eq.trans (by kernel_rfl) hv10_V182_22) seen_nil))) (by kernel_rfl) le179 hM180 ((hG182_22 _ _).2 rfl)
            refine all_snoc (.inr ⟨by decide, fun S182_21 g182_21 V182_21 w182_21 F182_21 cx182_21 hM182_21 => ?_⟩) ?_
            · -- op 21
              obtain hv10_V182_21 : g182_21 23 = .bool (true) := (hG182_10 _ _).1 (cx182_21.fact 10 23 (by decide) (cx182_21.dep 10 (by kernel_rfl)) (by kernel_rfl))
              obtain ⟨b172, o173, hv20_V182_21, at_b172, l175⟩ : ∃ b172 : Nat, ∃ o173 : Nat, g182_21 33 = .pointer (some ⟨b172, o173, none⟩) ∧ (At strK V182_21 b172 o173 ((nk.getD (k) []))) ∧ ((nk.getD (k) []).length ≤ 140737488355328) := (hG182_20 _ _).1 (cx182_21.fact 20 33 (by decide) (cx182_21.dep 20 (by kernel_rfl)) (by kernel_rfl))
              have c921401 : V182_21 b172 o173 = some (bs (nk.getD (k) [])) := (At.str at_b172).1
              have l921402 : (nk.getD (k) []).length ≤ 140737488355328 := (At.str at_b172).2
              refine wpF_see 23 (.bool (true)) (Eq.trans (by kernel_rfl) hv10_V182_21) ?_
              refine wpF_see 33 (.pointer (some ⟨b172, o173, none⟩)) (Eq.trans (by kernel_rfl) hv20_V182_21) ?_
              refine wpF_loadV hM182_21 c921401 (h := (by kernel_rfl : opAt _ _ _ _ _ = some (Go.Op.load 9 (Go.Operand.tmp 33), some 34))) (by kernel_rfl) (by kernel_rfl) ?_
              refine wpF_end _ (by kernel_rfl) (then_n ?_)
              exact one_in (some 34) (by kernel_rfl) (bs ((nk.getD (k) []))) _ [(33, .pointer (some ⟨b172, o173, none⟩)), (23, .bool (true))] (seen_cons (Eq.trans (by kernel_rfl) hv20_V182_21) (seen_cons (Eq.trans (by kernel_rfl) hv10_V182_21) seen_nil)) (by kernel_rfl) (VT.le.refl _) hM182_21 ((hG182_21 _ _).2 ⟨rfl, l175⟩)
            refine all_snoc (.inr ⟨by decide, fun S182_20 g182_20 V182_20 w182_20 F182_20 cx182_20 hM182_20 => ?_⟩) ?_
            · -- op 20
              obtain hv10_V182_20 : g182_20 23 = .bool (true) := (hG182_10 _ _).1 (cx182_20.fact 10 23 (by decide) (cx182_20.dep 10 (by kernel_rfl)) (by kernel_rfl))
              obtain hv18_V182_20 : g182_20 31 = .slice Ank (nk).length cnk := (hG182_18 _ _).1 (cx182_20.fact 18 31 (by decide) (cx182_20.dep 18 (by kernel_rfl)) (by kernel_rfl))
              obtain hv19_V182_20 : g182_20 32 = .int .i64 ((k : Int)) := (hG182_19 _ _).1 (cx182_20.fact 19 32 (by decide) (cx182_20.dep 19 (by kernel_rfl)) (by kernel_rfl))
              refine wpF_see 23 (.bool (true)) (Eq.trans (by kernel_rfl) hv10_V182_20) ?_
              refine wpF_see 31 (.slice Ank (nk).length cnk) (Eq.trans (by kernel_rfl) hv18_V182_20) ?_
              refine wpF_see 32 (.int .i64 ((k : Int))) (Eq.trans (by kernel_rfl) hv19_V182_20) ?_
              refine wpF_index (A := Ank) (c := cnk) (hnk.up hM182_20.le) .i64 ((k : Int)) (h := (by kernel_rfl : opAt _ _ _ _ _ = some (Go.Op.indexAddr 22 (Go.Operand.tmp 31) (Go.Operand.tmp 32), some 33))) (e := 9) (by kernel_rfl) (by kernel_rfl) (by kernel_rfl) (k) rfl (by omega) (fun b172 o173 at_b172 => ?_)
              have c174 : V182_20 b172 o173 = some (bs (nk.getD (k) [])) := (At.str at_b172).1
              have l175 : (nk.getD (k) []).length ≤ 140737488355328 := (At.str at_b172).2
              refine wpF_end _ (by kernel_rfl) (then_n ?_)
              exact one_in (some 33) (by kernel_rfl) (.pointer (some ⟨b172, o173, none⟩)) _ [(32, .int .i64 ((k : Int))), (31, .slice Ank (nk).length cnk), (23, .bool (true))] (seen_cons (Eq.trans (by kernel_rfl) hv19_V182_20) (seen_cons (Eq.trans (by kernel_rfl) hv18_V182_20) (seen_cons (Eq.trans (by kernel_rfl) hv10_V182_20) seen_nil))) (by kernel_rfl) (VT.le.refl _) hM182_20 ((hG182_20 _ _).2 ⟨b172, o173, rfl, at_b172, l175⟩)
            refine all_snoc (.inr ⟨by decide, fun S182_19 g182_19 V182_19 w182_19 F182_19 cx182_19 hM182_19 => ?_⟩) ?_
            · -- op 19
              obtain hv10_V182_19 : g182_19 23 = .bool (true) := (hG182_10 _ _).1 (cx182_19.fact 10 23 (by decide) (cx182_19.dep 10 (by kernel_rfl)) (by kernel_rfl))
              refine wpF_see 23 (.bool (true)) (Eq.trans (by kernel_rfl) hv10_V182_19) ?_
              refine wpF_seg 1 (by kernel_rfl) ?_
              refine wpF_end _ (by kernel_rfl) (then_n ?_)
              exact one_in (some 32) (by kernel_rfl) (.int .i64 ((k : Int))) _ [(23, .bool (true))] (seen_cons (Eq.trans (by kernel_rfl) hv10_V182_19) seen_nil) (by kernel_rfl) (VT.le.refl _) hM182_19 ((hG182_19 _ _).2 rfl)
            refine all_snoc (.inr ⟨by decide, fun S182_18 g182_18 V182_18 w182_18 F182_18 cx182_18 hM182_18 => ?_⟩) ?_
            · -- op 18
              obtain hv10_V182_18 : g182_18 23 = .bool (true) := (hG182_10 _ _).1 (cx182_18.fact 10 23 (by decide) (cx182_18.dep 10 (by kernel_rfl)) (by kernel_rfl))
              obtain hv17_V182_18 : g182_18 30 = .pointer (some ⟨b126, 1, none⟩) := (hG182_17 _ _).1 (cx182_18.fact 17 30 (by decide) (cx182_18.dep 17 (by kernel_rfl)) (by kernel_rfl))
              refine wpF_see 23 (.bool (true)) (Eq.trans (by kernel_rfl) hv10_V182_18) ?_
              refine wpF_see 30 (.pointer (some ⟨b126, 1, none⟩)) (Eq.trans (by kernel_rfl) hv17_V182_18) ?_
              refine wpF_loadB hM182_18 #[.bool (true), .slice Ank (nk).length cnk, .slice Anv (nv).length cnv, .slice Anc (nc).length cnc] (fun i v hi => (le141.trans cx182_18.le) _ _ _ (hc132 i v hi)) (h := (by kernel_rfl : opAt _ _ _ _ _ = some (Go.Op.load 22 (Go.Operand.tmp 30), some 31))) (off := 1) (by kernel_rfl) (.slice Ank (nk).length cnk) (by kernel_rfl) ?_
              refine wpF_end _ (by kernel_rfl) (then_n ?_)
              exact one_in (some 31) (by kernel_rfl) (.slice Ank (nk).length cnk) _ [(30, .pointer (some ⟨b126, 1, none⟩)), (23, .bool (true))] (seen_cons (Eq.trans (by kernel_rfl) hv17_V182_18) (seen_cons (Eq.trans (by kernel_rfl) hv10_V182_18) seen_nil)) (by kernel_rfl) (VT.le.refl _) hM182_18 ((hG182_18 _ _).2 rfl)
            refine all_snoc (.inr ⟨by decide, fun S182_17 g182_17 V182_17 w182_17 F182_17 cx182_17 hM182_17 => ?_⟩) ?_
            · -- op 17
              obtain hv10_V182_17 : g182_17 23 = .bool (true) := (hG182_10 _ _).1 (cx182_17.fact 10 23 (by decide) (cx182_17.dep 10 (by kernel_rfl)) (by kernel_rfl))
              refine wpF_see 23 (.bool (true)) (Eq.trans (by kernel_rfl) hv10_V182_17) ?_
              refine wpF_seg 1 (by kernel_rfl) ?_
              refine wpF_end _ (by kernel_rfl) (then_n ?_)
              exact one_in (some 30) (by kernel_rfl) (.pointer (some ⟨b126, 1, none⟩)) _ [(23, .bool (true))] (seen_cons (Eq.trans (by kernel_rfl) hv10_V182_17) seen_nil) (by kernel_rfl) (VT.le.refl _) hM182_17 ((hG182_17 _ _).2 rfl)
            refine all_snoc (.inr ⟨by decide, fun S182_16 g182_16 V182_16 w182_16 F182_16 cx182_16 hM182_16 => ?_⟩) ?_
            · -- op 16
              obtain hv10_V182_16 : g182_16 23 = .bool (true) := (hG182_10 _ _).1 (cx182_16.fact 10 23 (by decide) (cx182_16.dep 10 (by kernel_rfl)) (by kernel_rfl))
              obtain ⟨b168, o169, hv15_V182_16, at_b168, l171⟩ : ∃ b168 : Nat, ∃ o169 : Nat, g182_16 28 = .pointer (some ⟨b168, o169, none⟩) ∧ (At strK V182_16 b168 o169 ((nk.getD (k - 1) []))) ∧ ((nk.getD (k - 1) []).length ≤ 140737488355328) := (hG182_15 _ _).1 (cx182_16.fact 15 28 (by decide) (cx182_16.dep 15 (by kernel_rfl)) (by kernel_rfl))
              have c916301 : V182_16 b168 o169 = some (bs (nk.getD (k - 1) [])) := (At.str at_b168).1
              have l916302 : (nk.getD (k - 1) []).length ≤ 140737488355328 := (At.str at_b168).2
              refine wpF_see 23 (.bool (true)) (Eq.trans (by kernel_rfl) hv10_V182_16) ?_
              refine wpF_see 28 (.pointer (some ⟨b168, o169, none⟩)) (Eq.trans (by kernel_rfl) hv15_V182_16) ?_
              refine wpF_loadV hM182_16 c916301 (h := (by kernel_rfl : opAt _ _ _ _ _ = some (Go.Op.load 9 (Go.Operand.tmp 28), some 29))) (by kernel_rfl) (by kernel_rfl) ?_
              refine wpF_end _ (by kernel_rfl) (then_n ?_)
              exact one_in (some 29) (by kernel_rfl) (bs ((nk.getD (k - 1) []))) _ [(28, .pointer (some ⟨b168, o169, none⟩)), (23, .bool (true))] (seen_cons (Eq.trans (by kernel_rfl) hv15_V182_16) (seen_cons (Eq.trans (by kernel_rfl) hv10_V182_16) seen_nil)) (by kernel_rfl) (VT.le.refl _) hM182_16 ((hG182_16 _ _).2 ⟨rfl, l171⟩)
            refine all_snoc (.inr ⟨by decide, fun S182_15 g182_15 V182_15 w182_15 F182_15 cx182_15 hM182_15 => ?_⟩) ?_
            · -- op 15
              obtain hv10_V182_15 : g182_15 23 = .bool (true) := (hG182_10 _ _).1 (cx182_15.fact 10 23 (by decide) (cx182_15.dep 10 (by kernel_rfl)) (by kernel_rfl))
              obtain hv12_V182_15 : g182_15 25 = .slice Ank (nk).length cnk := (hG182_12 _ _).1 (cx182_15.fact 12 25 (by decide) (cx182_15.dep 12 (by kernel_rfl)) (by kernel_rfl))
              obtain hv14_V182_15 : g182_15 27 = .int .i64 ((k : Int) - 1) := (hG182_14 _ _).1 (cx182_15.fact 14 27 (by decide) (cx182_15.dep 14 (by kernel_rfl)) (by kernel_rfl))
              refine wpF_see 23 (.bool (true)) (Eq.trans (by kernel_rfl) hv10_V182_15) ?_
              refine wpF_see 25 (.slice Ank (nk).length cnk) (Eq.trans (by kernel_rfl) hv12_V182_15) ?_
              refine wpF_see 27 (.int .i64 ((k : Int) - 1)) (Eq.trans (by kernel_rfl) hv14_V182_15) ?_
              refine wpF_index (A := Ank) (c := cnk) (hnk.up hM182_15.le) .i64 ((k : Int) - 1) (h := (by kernel_rfl : opAt _ _ _ _ _ = some (Go.Op.indexAddr 22 (Go.Operand.tmp 25) (Go.Operand.tmp 27), some 28))) (e := 9) (by kernel_rfl) (by kernel_rfl) (by kernel_rfl) (k - 1) (by omega) (by omega) (fun b168 o169 at_b168 => ?_)
              have c170 : V182_15 b168 o169 = some (bs (nk.getD (k - 1) [])) := (At.str at_b168).1
              have l171 : (nk.getD (k - 1) []).length ≤ 140737488355328 := (At.str at_b168).2
              refine wpF_end _ (by kernel_rfl) (then_n ?_)
              exact one_in (some 28) (by kernel_rfl) (.pointer (some ⟨b168, o169, none⟩)) _ [(27, .int .i64 ((k : Int) - 1)), (25, .slice Ank (nk).length cnk), (23, .bool (true))] (seen_cons (Eq.trans (by kernel_rfl) hv14_V182_15) (seen_cons (Eq.trans (by kernel_rfl) hv12_V182_15) (seen_cons (Eq.trans (by kernel_rfl) hv10_V182_15) seen_nil))) (by kernel_rfl) (VT.le.refl _) hM182_15 ((hG182_15 _ _).2 ⟨b168, o169, rfl, at_b168, l171⟩)
            refine all_snoc (.inr ⟨by decide, fun S182_14 g182_14 V182_14 w182_14 F182_14 cx182_14 hM182_14 => ?_⟩) ?_
            · -- op 14
              obtain hv10_V182_14 : g182_14 23 = .bool (true) := (hG182_10 _ _).1 (cx182_14.fact 10 23 (by decide) (cx182_14.dep 10 (by kernel_rfl)) (by kernel_rfl))
              obtain hv13_V182_14 : g182_14 26 = .int .i64 ((k : Int)) := (hG182_13 _ _).1 (cx182_14.fact 13 26 (by decide) (cx182_14.dep 13 (by kernel_rfl)) (by kernel_rfl))
              refine wpF_see 23 (.bool (true)) (Eq.trans (by kernel_rfl) hv10_V182_14) ?_
              refine wpF_see 26 (.int .i64 ((k : Int))) (Eq.trans (by kernel_rfl) hv13_V182_14) ?_
              refine wpF_sub .i64 ((k : Int)) (1) ((k : Int) - 1) (h := (by kernel_rfl : opAt _ _ _ _ _ = some (Go.Op.binOp Go.BinOp.sub 3 (Go.Operand.tmp 26) (Go.Operand.const (Go.Value.int Go.IntKind.i64 1)) 3, some 27))) (by kernel_rfl) (by kernel_rfl) (wrap64_ok _ (by omega)) ?_
              refine wpF_end _ (by kernel_rfl) (then_n ?_)
              exact one_in (some 27) (by kernel_rfl) (.int .i64 ((k : Int) - 1)) _ [(26, .int .i64 ((k : Int))), (23, .bool (true))] (seen_cons (Eq.trans (by kernel_rfl) hv13_V182_14) (seen_cons (Eq.trans (by kernel_rfl) hv10_V182_14) seen_nil)) (by kernel_rfl) (VT.le.refl _) hM182_14 ((hG182_14 _ _).2 rfl)
            refine all_snoc (.inr ⟨by decide, fun S182_13 g182_13 V182_13 w182_13 F182_13 cx182_13 hM182_13 => ?_⟩) ?_
            · -- op 13
              obtain hv10_V182_13 : g182_13 23 = .bool (true) := (hG182_10 _ _).1 (cx182_13.fact 10 23 (by decide) (cx182_13.dep 10 (by kernel_rfl)) (by kernel_rfl))
              refine wpF_see 23 (.bool (true)) (Eq.trans (by kernel_rfl) hv10_V182_13) ?_
              refine wpF_seg 1 (by kernel_rfl) ?_
              refine wpF_end _ (by kernel_rfl) (then_n ?_)
              exact one_in (some 26) (by kernel_rfl) (.int .i64 ((k : Int))) _ [(23, .bool (true))] (seen_cons (Eq.trans (by kernel_rfl) hv10_V182_13) seen_nil) (by kernel_rfl) (VT.le.refl _) hM182_13 ((hG182_13 _ _).2 rfl)
            refine all_snoc (.inr ⟨by decide, fun S182_12 g182_12 V182_12 w182_12 F182_12 cx182_12 hM182_12 => ?_⟩) ?_
            · -- op 12
              obtain hv10_V182_12 : g182_12 23 = .bool (true) := (hG182_10 _ _).1 (cx182_12.fact 10 23 (by decide) (cx182_12.dep 10 (by kernel_rfl)) (by kernel_rfl))
              obtain hv11_V182_12 : g182_12 24 = .pointer (some ⟨b126, 1, none⟩) := (hG182_11 _ _).1 (cx182_12.fact 11 24 (by decide) (cx182_12.dep 11 (by kernel_rfl)) (by kernel_rfl))
              refine wpF_see 23 (.bool (true)) (Eq.trans (by kernel_rfl) hv10_V182_12) ?_
              refine wpF_see 24 (.pointer (some ⟨b126, 1, none⟩)) (Eq.trans (by kernel_rfl) hv11_V182_12) ?_
              refine wpF_loadB hM182_12 #[.bool (true), .slice Ank (nk).length cnk, .slice Anv (nv).length cnv, .slice Anc (nc).length cnc] (fun i v hi => (le141.trans cx182_12.le) _ _ _ (hc132 i v hi)) (h := (by kernel_rfl : opAt _ _ _ _ _ = some (Go.Op.load 22 (Go.Operand.tmp 24), some 25))) (off := 1) (by kernel_rfl) (.slice Ank (nk).length cnk) (by kernel_rfl) ?_
              refine wpF_end _ (by kernel_rfl) (then_n ?_)
              exact one_in (some 25) (by kernel_rfl) (.slice Ank (nk).length cnk) _ [(24, .pointer (some ⟨b126, 1, none⟩)), (23, .bool (true))] (seen_cons (Eq.trans (by kernel_rfl) hv11_V182_12) (seen_cons (Eq.trans (by kernel_rfl) hv10_V182_12) seen_nil)) (by kernel_rfl) (VT.le.refl _) hM182_12 ((hG182_12 _ _).2 rfl)
            refine all_snoc (.inr ⟨by decide, fun S182_11 g182_11 V182_11 w182_11 F182_11 cx182_11 hM182_11 => ?_⟩) ?_
            · -- op 11
              obtain hv10_V182_11 : g182_11 23 = .bool (true) := (hG182_10 _ _).1 (cx182_11.fact 10 23 (by decide) (cx182_11.dep 10 (by kernel_rfl)) (by kernel_rfl))
              refine wpF_see 23 (.bool (true)) (Eq.trans (by kernel_rfl) hv10_V182_11) ?_
              refine wpF_seg 1 (by kernel_rfl) ?_
              refine wpF_end _ (by kernel_rfl) (then_n ?_)
              exact one_in (some 24) (by kernel_rfl) (.pointer (some ⟨b126, 1, none⟩)) _ [(23, .bool (true))] (seen_cons (Eq.trans (by kernel_rfl) hv10_V182_11) seen_nil) (by kernel_rfl) (VT.le.refl _) hM182_11 ((hG182_11 _ _).2 rfl)
            refine all_snoc (.inr ⟨by decide, fun S182_10 g182_10 V182_10 w182_10 F182_10 cx182_10 hM182_10 => ?_⟩) ?_
            · -- op 10
              obtain ⟨hv7_V182_10, l167⟩ : g182_10 20 = .bool (false) ∧ ((nk.getD (k) []).length ≤ 140737488355328) := (hG182_7 _ _).1 (cx182_10.fact 7 20 (by decide) (cx182_10.dep 7 (by kernel_rfl)) (by kernel_rfl))
              obtain hv9_V182_10 : g182_10 22 = .bool (true) := (hG182_9 _ _).1 (cx182_10.fact 9 22 (by decide) (cx182_10.dep 9 (by kernel_rfl)) (by kernel_rfl))
              refine wpF_see 20 (.bool (false)) (Eq.trans (by kernel_rfl) hv7_V182_10) ?_
              refine wpF_see 22 (.bool (true)) (Eq.trans (by kernel_rfl) hv9_V182_10) ?_
              refine wpF_seg 1 (by kernel_rfl) ?_
              refine wpF_end _ (by kernel_rfl) (then_n ?_)
              exact one_in (some 23) (by kernel_rfl) (.bool (true)) _ [(22, .bool (true)), (20, .bool (false))] (seen_cons (Eq.trans (by kernel_rfl) hv9_V182_10) (seen_cons (Eq.trans (by kernel_rfl) hv7_V182_10) seen_nil)) (by kernel_rfl) (VT.le.refl _) hM182_10 ((hG182_10 _ _).2 rfl)
            refine all_snoc (.inr ⟨by decide, fun S182_9 g182_9 V182_9 w182_9 F182_9 cx182_9 hM182_9 => ?_⟩) ?_
            · -- op 9
              obtain ⟨hv7_V182_9, l167⟩ : g182_9 20 = .bool (false) ∧ ((nk.getD (k) []).length ≤ 140737488355328) := (hG182_7 _ _).1 (cx182_9.fact 7 20 (by decide) (cx182_9.dep 7 (by kernel_rfl)) (by kernel_rfl))
              obtain hv8_V182_9 : g182_9 21 = .int .i64 ((k : Int)) := (hG182_8 _ _).1 (cx182_9.fact 8 21 (by decide) (cx182_9.dep 8 (by kernel_rfl)) (by kernel_rfl))
              refine wpF_see 20 (.bool (false)) (Eq.trans (by kernel_rfl) hv7_V182_9) ?_
              refine wpF_see 21 (.int .i64 ((k : Int))) (Eq.trans (by kernel_rfl) hv8_V182_9) ?_
              refine wpF_seg 1 (by kernel_rfl) ?_
              refine wpF_slot 22 (.bool (decide ((0) < ((k : Int))))) (.bool true) (by kernel_rfl) (by kernel_rfl) (by rw [h162]) ?_
              refine wpF_end _ (by kernel_rfl) (then_n ?_)
              exact one_in (some 22) (by kernel_rfl) (.bool (true)) _ [(21, .int .i64 ((k : Int))), (20, .bool (false))] (seen_cons (Eq.trans (by kernel_rfl) hv8_V182_9) (seen_cons (Eq.trans (by kernel_rfl) hv7_V182_9) seen_nil)) (by kernel_rfl) (VT.le.refl _) hM182_9 ((hG182_9 _ _).2 rfl)
            refine all_snoc (.inr ⟨by decide, fun S182_8 g182_8 V182_8 w182_8 F182_8 cx182_8 hM182_8 => ?_⟩) ?_
            · -- op 8
              obtain ⟨hv7_V182_8, l167⟩ : g182_8 20 = .bool (false) ∧ ((nk.getD (k) []).length ≤ 140737488355328) := (hG182_7 _ _).1 (cx182_8.fact 7 20 (by decide) (cx182_8.dep 7 (by kernel_rfl)) (by kernel_rfl))
              refine wpF_see 20 (.bool (false)) (Eq.trans (by kernel_rfl) hv7_V182_8) ?_
              refine wpF_seg 1 (by kernel_rfl) ?_
              refine wpF_end _ (by kernel_rfl) (then_n ?_)
              exact one_in (some 21) (by kernel_rfl) (.int .i64 ((k : Int))) _ [(20, .bool (false))] (seen_cons (Eq.trans (by kernel_rfl) hv7_V182_8) seen_nil) (by kernel_rfl) (VT.le.refl _) hM182_8 ((hG182_8 _ _).2 rfl)
            refine all_snoc (.inr ⟨by decide, fun S182_7 g182_7 V182_7 w182_7 F182_7 cx182_7 hM182_7 => ?_⟩) ?_
            · -- op 7
              obtain ⟨hv6_V182_7, l167⟩ : g182_7 19 = .bool (false) ∧ ((nk.getD (k) []).length ≤ 140737488355328) := (hG182_6 _ _).1 (cx182_7.fact 6 19 (by decide) (cx182_7.dep 6 (by kernel_rfl)) (by kernel_rfl))
              refine wpF_see 19 (.bool (false)) (Eq.trans (by kernel_rfl) hv6_V182_7) ?_
              refine wpF_seg 1 (by kernel_rfl) ?_
              refine wpF_end _ (by kernel_rfl) (then_n ?_)
              exact one_in (some 20) (by kernel_rfl) (.bool (false)) _ [(19, .bool (false))] (seen_cons (Eq.trans (by kernel_rfl) hv6_V182_7) seen_nil) (by kernel_rfl) (VT.le.refl _) hM182_7 ((hG182_7 _ _).2 ⟨rfl, l167⟩)
            refine all_snoc (.inr ⟨by decide, fun S182_6 g182_6 V182_6 w182_6 F182_6 cx182_6 hM182_6 => ?_⟩) ?_
            · -- op 6
              obtain ⟨hv5_V182_6, l167⟩ : g182_6 18 = .int .i64 ((((nk.getD (k) [])).length : Int)) ∧ ((nk.getD (k) []).length ≤ 140737488355328) := (hG182_5 _ _).1 (cx182_6.fact 5 18 (by decide) (cx182_6.dep 5 (by kernel_rfl)) (by kernel_rfl))
              refine wpF_see 18 (.int .i64 ((((nk.getD (k) [])).length : Int))) (Eq.trans (by kernel_rfl) hv5_V182_6) ?_
              refine wpF_seg 1 (by kernel_rfl) ?_
              refine wpF_slot 19 (.bool (decide ((128) < ((((nk.getD (k) [])).length : Int))))) (.bool false) (by kernel_rfl) (by kernel_rfl) (by rw [h149]) ?_
              refine wpF_end _ (by kernel_rfl) (then_n ?_)
              exact one_in (some 19) (by kernel_rfl) (.bool (false)) _ [(18, .int .i64 ((((nk.getD (k) [])).length : Int)))] (seen_cons (Eq.trans (by kernel_rfl) hv5_V182_6) seen_nil) (by kernel_rfl) (VT.le.refl _) hM182_6 ((hG182_6 _ _).2 ⟨rfl, l167⟩)
            refine all_snoc (.inr ⟨by decide, fun S182_5 g182_5 V182_5 w182_5 F182_5 cx182_5 hM182_5 => ?_⟩) ?_
            · -- op 5
              obtain ⟨hv4_V182_5, l167⟩ : g182_5 17 = bs ((nk.getD (k) [])) ∧ ((nk.getD (k) []).length ≤ 140737488355328) := (hG182_4 _ _).1 (cx182_5.fact 4 17 (by decide) (cx182_5.dep 4 (by kernel_rfl)) (by kernel_rfl))
              refine wpF_see 17 (bs ((nk.getD (k) []))) (Eq.trans (by kernel_rfl) hv4_V182_5) ?_
              refine wpF_seg 1 (by kernel_rfl) ?_
              refine wpF_end _ (by kernel_rfl) (then_n ?_)
              exact one_in (some 18) (by kernel_rfl) (.int .i64 ((((nk.getD (k) [])).length : Int))) _ [(17, bs ((nk.getD (k) [])))] (seen_cons (Eq.trans (by kernel_rfl) hv4_V182_5) seen_nil) (by kernel_rfl) (VT.le.refl _) hM182_5 ((hG182_5 _ _).2 ⟨rfl, l167⟩)
            refine all_snoc (.inr ⟨by decide, fun S182_4 g182_4 V182_4 w182_4 F182_4 cx182_4 hM182_4 => ?_⟩) ?_
            · -- op 4
              obtain ⟨b164, o165, hv3_V182_4, at_b164, l167⟩ : ∃ b164 : Nat, ∃ o165 : Nat, g182_4 16 = .pointer (some ⟨b164, o165, none⟩) ∧ (At strK V182_4 b164 o165 ((nk.getD (k) []))) ∧ ((nk.getD (k) []).length ≤ 140737488355328) := (hG182_3 _ _).1 (cx182_4.fact 3 16 (by decide) (cx182_4.dep 3 (by kernel_rfl)) (by kernel_rfl))
              have c904061 : V182_4 b164 o165 = some (bs (nk.getD (k) [])) := (At.str at_b164).1
              have l904062 : (nk.getD (k) []).length ≤ 140737488355328 := (At.str at_b164).2
              refine wpF_see 16 (.pointer (some ⟨b164, o165, none⟩)) (Eq.trans (by kernel_rfl) hv3_V182_4) ?_
              refine wpF_loadV hM182_4 c904061 (h := (by kernel_rfl : opAt _ _ _ _ _ = some (Go.Op.load 9 (Go.Operand.tmp 16), some 17))) (by kernel_rfl) (by kernel_rfl) ?_
              refine wpF_end _ (by kernel_rfl) (then_n ?_)
              exact one_in (some 17) (by kernel_rfl) (bs ((nk.getD (k) []))) _ [(16, .pointer (some ⟨b164, o165, none⟩))] (seen_cons (Eq.trans (by kernel_rfl) hv3_V182_4) seen_nil) (by kernel_rfl) (VT.le.refl _) hM182_4 ((hG182_4 _ _).2 ⟨rfl, l167⟩)
            refine all_snoc (.inr ⟨by decide, fun S182_3 g182_3 V182_3 w182_3 F182_3 cx182_3 hM182_3 => ?_⟩) ?_
            · -- op 3
              obtain hv1_V182_3 : g182_3 14 = .slice Ank (nk).length cnk := (hG182_1 _ _).1 (cx182_3.fact 1 14 (by decide) (cx182_3.dep 1 (by kernel_rfl)) (by kernel_rfl))
              obtain hv2_V182_3 : g182_3 15 = .int .i64 ((k : Int)) := (hG182_2 _ _).1 (cx182_3.fact 2 15 (by decide) (cx182_3.dep 2 (by kernel_rfl)) (by kernel_rfl))
              refine wpF_see 14 (.slice Ank (nk).length cnk) (Eq.trans (by kernel_rfl) hv1_V182_3) ?_
              refine wpF_see 15 (.int .i64 ((k : Int))) (Eq.trans (by kernel_rfl) hv2_V182_3) ?_
              refine wpF_index (A := Ank) (c := cnk) (hnk.up hM182_3.le) .i64 ((k : Int)) (h := (by kernel_rfl : opAt _ _ _ _ _ = some (Go.Op.indexAddr 22 (Go.Operand.tmp 14) (Go.Operand.tmp 15), some 16))) (e := 9) (by kernel_rfl) (by kernel_rfl) (by kernel_rfl) (k) rfl (by omega) (fun b164 o165 at_b164 => ?_)
              have c166 : V182_3 b164 o165 = some (bs (nk.getD (k) [])) := (At.str at_b164).1
              have l167 : (nk.getD (k) []).length ≤ 140737488355328 := (At.str at_b164).2
              refine wpF_end _ (by kernel_rfl) (then_n ?_)
              exact one_in (some 16) (by kernel_rfl) (.pointer (some ⟨b164, o165, none⟩)) _ [(15, .int .i64 ((k : Int))), (14, .slice Ank (nk).length cnk)] (seen_cons (Eq.trans (by kernel_rfl) hv2_V182_3) (seen_cons (Eq.trans (by kernel_rfl) hv1_V182_3) seen_nil)) (by kernel_rfl) (VT.le.refl _) hM182_3 ((hG182_3 _ _).2 ⟨b164, o165, rfl, at_b164, l167⟩)
            refine all_snoc (.inr ⟨by decide, fun S182_2 g182_2 V182_2 w182_2 F182_2 cx182_2 hM182_2 => ?_⟩) ?_
            · -- op 2
              refine wpF_seg 1 (by kernel_rfl) ?_
              refine wpF_end _ (by kernel_rfl) (then_n ?_)
              exact one_in (some 15) (by kernel_rfl) (.int .i64 ((k : Int))) _ [] seen_nil (by kernel_rfl) (VT.le.refl _) hM182_2 ((hG182_2 _ _).2 rfl)
            refine all_snoc (.inr ⟨by decide, fun S182_1 g182_1 V182_1 w182_1 F182_1 cx182_1 hM182_1 => ?_⟩) ?_
            · -- op 1
              obtain hv0_V182_1 : g182_1 13 = .pointer (some ⟨b126, 1, none⟩) := (hG182_0 _ _).1 (cx182_1.fact 0 13 (by decide) (cx182_1.dep 0 (by kernel_rfl)) (by kernel_rfl))
              refine wpF_see 13 (.pointer (some ⟨b126, 1, none⟩)) (Eq.trans (by kernel_rfl) hv0_V182_1) ?_
              refine wpF_loadB hM182_1 #[.bool (true), .slice Ank (nk).length cnk, .slice Anv (nv).length cnv, .slice Anc (nc).length cnc] (fun i v hi => (le141.trans cx182_1.le) _ _ _ (hc132 i v hi)) (h := (by kernel_rfl : opAt _ _ _ _ _ = some (Go.Op.load 22 (Go.Operand.tmp 13), some 14))) (off := 1) (by kernel_rfl) (.slice Ank (nk).length cnk) (by kernel_rfl) ?_
              refine wpF_end _ (by kernel_rfl) (then_n ?_)
              exact one_in (some 14) (by kernel_rfl) (.slice Ank (nk).length cnk) _ [(13, .pointer (some ⟨b126, 1, none⟩))] (seen_cons (Eq.trans (by kernel_rfl) hv0_V182_1) seen_nil) (by kernel_rfl) (VT.le.refl _) hM182_1 ((hG182_1 _ _).2 rfl)
            refine all_snoc (.inr ⟨by decide, fun S182_0 g182_0 V182_0 w182_0 F182_0 cx182_0 hM182_0 => ?_⟩) ?_
            · -- op 0
              refine wpF_seg 1 (by kernel_rfl) ?_
              refine wpF_end _ (by kernel_rfl) (then_n ?_)
              exact one_in (some 13) (by kernel_rfl) (.pointer (some ⟨b126, 1, none⟩)) _ [] seen_nil (by kernel_rfl) (VT.le.refl _) hM182_0 ((hG182_0 _ _).2 rfl)
            exact all_none
          · -- behind it
            intro ge182 Ve182 we182 hMe182 hle182 hf182
            refine wpF_stop (P := Try.prog) (ops := #[]) (i := 0) _ rfl ?_
            obtain hv0_Ve182 : ge182 13 = .pointer (some ⟨b126, 1, none⟩) := (hG182_0 _ _).1 (hf182 0 13 (by decide) (by kernel_rfl))
            obtain hv1_Ve182 : ge182 14 = .slice Ank (nk).length cnk := (hG182_1 _ _).1 (hf182 1 14 (by decide) (by kernel_rfl))
            obtain hv2_Ve182 : ge182 15 = .int .i64 ((k : Int)) := (hG182_2 _ _).1 (hf182 2 15 (by decide) (by kernel_rfl))
            obtain ⟨b164, o165, hv3_Ve182, at_b164, l167⟩ : ∃ b164 : Nat, ∃ o165 : Nat, ge182 16 = .pointer (some ⟨b164, o165, none⟩) ∧ (At strK Ve182 b164 o165 ((nk.getD (k) []))) ∧ ((nk.getD (k) []).length ≤ 140737488355328) := (hG182_3 _ _).1 (hf182 3 16 (by decide) (by kernel_rfl))
            have c184 : Ve182 b164 o165 = some (bs (nk.getD (k) [])) := (At.str at_b164).1
            have l185 : (nk.getD (k) []).length ≤ 140737488355328 := (At.str at_b164).2
            obtain ⟨hv4_Ve182, l167⟩ : ge182 17 = bs ((nk.getD (k) [])) ∧ ((nk.getD (k) []).length ≤ 140737488355328) := (hG182_4 _ _).1 (hf182 4 17 (by decide) (by kernel_rfl))
            obtain ⟨hv5_Ve182, l167⟩ : ge182 18 = .int .i64 ((((nk.getD (k) [])).length : Int)) ∧ ((nk.getD (k) []).length ≤ 140737488355328) := (hG182_5 _ _).1 (hf182 5 18 (by decide) (by kernel_rfl))
            obtain ⟨hv6_Ve182, l167⟩ : ge182 19 = .bool (false) ∧ ((nk.getD (k) []).length ≤ 140737488355328) := (hG182_6 _ _).1 (hf182 6 19 (by decide) (by kernel_rfl))
            obtain ⟨hv7_Ve182, l167⟩ : ge182 20 = .bool (false) ∧ ((nk.getD (k) []).length ≤ 140737488355328) := (hG182_7 _ _).1 (hf182 7 20 (by decide) (by kernel_rfl))
            obtain hv8_Ve182 : ge182 21 = .int .i64 ((k : Int)) := (hG182_8 _ _).1 (hf182 8 21 (by decide) (by kernel_rfl))
            obtain hv9_Ve182 : ge182 22 = .bool (true) := (hG182_9 _ _).1 (hf182 9 22 (by decide) (by kernel_rfl))
            obtain hv10_Ve182 : ge182 23 = .bool (true) := (hG182_10 _ _).1 (hf182 10 23 (by decide) (by kernel_rfl))
            obtain hv11_Ve182 : ge182 24 = .pointer (some ⟨b126, 1, none⟩) := (hG182_11 _ _).1 (hf182 11 24 (by decide) (by kernel_rfl))
            obtain hv12_Ve182 : ge182 25 = .slice Ank (nk).length cnk := (hG182_12 _ _).1 (hf182 12 25 (by decide) (by kernel_rfl))
            obtain hv13_Ve182 : ge182 26 = .int .i64 ((k : Int)) := (hG182_13 _ _).1 (hf182 13 26 (by decide) (by kernel_rfl))
            obtain hv14_Ve182 : ge182 27 = .int .i64 ((k : Int) - 1) := (hG182_14 _ _).1 (hf182 14 27 (by decide) (by kernel_rfl))
            obtain ⟨b168, o169, hv15_Ve182, at_b168, l171⟩ : ∃ b168 : Nat, ∃ o169 : Nat, ge182 28 = .pointer (some ⟨b168, o169, none⟩) ∧ (At strK Ve182 b168 o169 ((nk.getD (k - 1) []))) ∧ ((nk.getD (k - 1) []).length ≤ 140737488355328) := (hG182_15 _ _).1 (hf182 15 28 (by decide) (by kernel_rfl))
            have c186 : Ve182 b168 o169 = some (bs (nk.getD (k - 1) [])) := (At.str at_b168).1
            have l187 : (nk.getD (k - 1) []).length ≤ 140737488355328 := (At.str at_b168).2
            obtain ⟨hv16_Ve182, l171⟩ : ge182 29 = bs ((nk.getD (k - 1) [])) ∧ ((nk.getD (k - 1) []).length ≤ 140737488355328) := (hG182_16 _ _).1 (hf182 16 29 (by decide) (by kernel_rfl))
            obtain hv17_Ve182 : ge182 30 = .pointer (some ⟨b126, 1, none⟩) := (hG182_17 _ _).1 (hf182 17 30 (by decide) (by kernel_rfl))
            obtain hv18_Ve182 : ge182 31 = .slice Ank (nk).length cnk := (hG182_18 _ _).1 (hf182 18 31 (by decide) (by kernel_rfl))
            obtain hv19_Ve182 : ge182 32 = .int .i64 ((k : Int)) := (hG182_19 _ _).1 (hf182 19 32 (by decide) (by kernel_rfl))
            obtain ⟨b172, o173, hv20_Ve182, at_b172, l175⟩ : ∃ b172 : Nat, ∃ o173 : Nat, ge182 33 = .pointer (some ⟨b172, o173, none⟩) ∧ (At strK Ve182 b172 o173 ((nk.getD (k) []))) ∧ ((nk.getD (k) []).length ≤ 140737488355328) := (hG182_20 _ _).1 (hf182 20 33 (by decide) (by kernel_rfl))
            have c188 : Ve182 b172 o173 = some (bs (nk.getD (k) [])) := (At.str at_b172).1
            have l189 : (nk.getD (k) []).length ≤ 140737488355328 := (At.str at_b172).2
            obtain ⟨hv21_Ve182, l175⟩ : ge182 34 = bs ((nk.getD (k) [])) ∧ ((nk.getD (k) []).length ≤ 140737488355328) := (hG182_21 _ _).1 (hf182 21 34 (by decide) (by kernel_rfl))
            obtain hv22_Ve182 : ge182 35 = .bool (decide (((nk.getD (k - 1) [])) < ((nk.getD (k) [])))) := (hG182_22 _ _).1 (hf182 22 35 (by decide) (by kernel_rfl))
            obtain hv23_Ve182 : ge182 36 = .bool (!(decide (((nk.getD (k - 1) [])) < ((nk.getD (k) []))))) := (hG182_23 _ _).1 (hf182 23 36 (by decide) (by kernel_rfl))
            obtain hv24_Ve182 : ge182 37 = .bool (!(decide (((nk.getD (k - 1) [])) < ((nk.getD (k) []))))) := (hG182_24 _ _).1 (hf182 24 37 (by decide) (by kernel_rfl))
            obtain ⟨hv25_Ve182, l167⟩ : ge182 38 = .bool (!(decide (((nk.getD (k - 1) [])) < ((nk.getD (k) []))))) ∧ ((nk.getD (k) []).length ≤ 140737488355328) := (hG182_25 _ _).1 (hf182 25 38 (by decide) (by kernel_rfl))
            refine wpF_see 13 (.pointer (some ⟨b126, 1, none⟩)) (Eq.trans (by kernel_rfl) hv0_Ve182) ?_
            refine wpF_see 14 (.slice Ank (nk).length cnk) (Eq.trans (by kernel_rfl) hv1_Ve182) ?_
            refine wpF_see 15 (.int .i64 ((k : Int))) (Eq.trans (by kernel_rfl) hv2_Ve182) ?_
            refine wpF_see 16 (.pointer (some ⟨b164, o165, none⟩)) (Eq.trans (by kernel_rfl) hv3_Ve182) ?_
            refine wpF_see 17 (bs ((nk.getD (k) []))) (Eq.trans (by kernel_rfl) hv4_Ve182) ?_
            refine wpF_see 18 (.int .i64 ((((nk.getD (k) [])).length : Int))) (Eq.trans (by kernel_rfl) hv5_Ve182) ?_
            refine wpF_see 19 (.bool (false)) (Eq.trans (by kernel_rfl) hv6_Ve182) ?_
            refine wpF_see 20 (.bool (false)) (Eq.trans (by kernel_rfl) hv7_Ve182) ?_
            refine wpF_see 21 (.int .i64 ((k : Int))) (Eq.trans (by kernel_rfl) hv8_Ve182) ?_
            refine wpF_see 22 (.bool (true)) (Eq.trans (by kernel_rfl) hv9_Ve182) ?_
            refine wpF_see 23 (.bool (true)) (Eq.trans (by kernel_rfl) hv10_Ve182) ?_
            refine wpF_see 24 (.pointer (some ⟨b126, 1, none⟩)) (Eq.trans (by kernel_rfl) hv11_Ve182) ?_
            refine wpF_see 25 (.slice Ank (nk).length cnk) (Eq.trans (by kernel_rfl) hv12_Ve182) ?_
            refine wpF_see 26 (.int .i64 ((k : Int))) (Eq.trans (by kernel_rfl) hv13_Ve182) ?_
            refine wpF_see 27 (.int .i64 ((k : Int) - 1)) (Eq.trans (by kernel_rfl) hv14_Ve182) ?_
            refine wpF_see 28 (.pointer (some ⟨b168, o169, none⟩)) (Eq.trans (by kernel_rfl) hv15_Ve182) ?_
            refine wpF_see 29 (bs ((nk.getD (k - 1) []))) (Eq.trans (by kernel_rfl) hv16_Ve182) ?_
            refine wpF_see 30 (.pointer (some ⟨b126, 1, none⟩)) (Eq.trans (by kernel_rfl) hv17_Ve182) ?_
            refine wpF_see 31 (.slice Ank (nk).length cnk) (Eq.trans (by kernel_rfl) hv18_Ve182) ?_
            refine wpF_see 32 (.int .i64 ((k : Int))) (Eq.trans (by kernel_rfl) hv19_Ve182) ?_
            refine wpF_see 33 (.pointer (some ⟨b172, o173, none⟩)) (Eq.trans (by kernel_rfl) hv20_Ve182) ?_
            refine wpF_see 34 (bs ((nk.getD (k) []))) (Eq.trans (by kernel_rfl) hv21_Ve182) ?_
            refine wpF_see 35 (.bool (decide (((nk.getD (k - 1) [])) < ((nk.getD (k) []))))) (Eq.trans (by kernel_rfl) hv22_Ve182) ?_
            refine wpF_see 36 (.bool (!(decide (((nk.getD (k - 1) [])) < ((nk.getD (k) [])))))) (Eq.trans (by kernel_rfl) hv23_Ve182) ?_
            refine wpF_see 37 (.bool (!(decide (((nk.getD (k - 1) [])) < ((nk.getD (k) [])))))) (Eq.trans (by kernel_rfl) hv24_Ve182) ?_
            refine wpF_see 38 (.bool (!(decide (((nk.getD (k - 1) [])) < ((nk.getD (k) [])))))) (Eq.trans (by kernel_rfl) hv25_Ve182) ?_
            refine wpF_end _ (by kernel_rfl) (then_n (hK148 _ _ ?_))
            refine wp_if (!(decide (((nk.getD (k - 1) [])) < ((nk.getD (k) []))))) (by kernel_rfl) (fun h191 => ?_) (fun h191 => ?_)
            · -- TLtftt
              have h192 : decide (((nk.getD (k - 1) [])) < ((nk.getD (k) []))) = false := by rw [← Bool.not_not (decide _), h191]; rfl
              have p193 : ¬ (((nk.getD (k - 1) [])) < ((nk.getD (k) []))) := of_decide_eq_false h192
              refine wp_seq_k (fun K194 hK194 => ?_)
              refine wp_reg ?_
              refine wpF_seg 1 (by kernel_rfl) ?_
              refine wpF_end _ (by kernel_rfl) (then_n (hK194 _ _ ?_))
              refine wp_ret (blk_r (then_r (then_r (blk_r (then_r (?_))))))
              refine retN [.bool (false)] (.bool (false)) Try.results35 (.tmp (by kernel_rfl) (by kernel_rfl) .nil) (by kernel_rfl) (hRet _ _ ⟨_, _, rfl, hMe182.clear, ?_⟩)
              -- end TLtftt
              first | exact congrArg Value.bool (stands_long (k := k) (by omega) (by assumption)).symm | exact congrArg Value.bool (stands_rise (k := k) (by omega) (by omega) (by assumption)).symm | exact congrArg Value.bool (stands_val (k := q) (by omega) (by assumption)).symm | exact congrArg Value.bool (stands_kid (k := m) (by omega) (by omega)).symm | (rw [stands_all (by assumption)]; (first | rw [vals_none (by assumption)] | rw [kids_none (by assumption)]); simp only [h145, h149, h162, h191, h192, cond_true, cond_false, Bool.true_and, Bool.and_true, Bool.false_and, Bool.and_false, Bool.not_true, Bool.not_false])
            · -- TLtftf
              have h195 : decide (((nk.getD (k - 1) [])) < ((nk.getD (k) []))) = true := by rw [← Bool.not_not (decide _), h191]; rfl
              have p196 : (((nk.getD (k - 1) [])) < ((nk.getD (k) []))) := of_decide_eq_true h195
              refine wp_skip (blk_n (then_n (hK147 _ _ ?_)))
              refine wp_reg ?_
              refine wpF_seg 1 (by kernel_rfl) ?_
              refine wpF_add .i64 ((k : Int)) (1) ((k : Int) + 1) (h := (by kernel_rfl : opAt _ _ _ _ _ = some (Go.Op.binOp Go.BinOp.add 3 (Go.Operand.tmp 11) (Go.Operand.const (Go.Value.int Go.IntKind.i64 1)) 3, some 12))) (by kernel_rfl) (by kernel_rfl) (wrap64_ok _ (by omega)) ?_
              refine wpF_seg 1 (by kernel_rfl) ?_
              refine wpF_base [(1, .pointer (some ⟨b126, 0, none⟩)), (3, .int .i64 ((k + 1 : Int)))] (by kernel_rfl) (fun g197 => ?_)
              refine wpF_end _ (by kernel_rfl) (then_n (hK142 _ _ (k + 1) (by omega) ?_))
              refine ⟨g197, Ve182, rfl, hMe182, (le141.trans hle182), ?_, ?_⟩
              · -- TLtftf inv 0
                omega
              · -- TLtftf inv 1
                exact upTo_step (by assumption) (by assumption) (by first | exact .inl (by omega) | exact .inr (by assumption))
        · -- TLtff
          have p198 : ¬ ((0) < ((k : Int))) := of_decide_eq_false h162
          refine wp_base [(1, .pointer (some ⟨b126, 0, none⟩)), (3, .int .i64 ((k : Int))), (6, .int .i64 ((k : Int))), (7, .pointer (some ⟨b126, 1, none⟩)), (8, .slice Ank (nk).length cnk), (9, .int .i64 ((nk.length : Int))), (10, .bool (decide (((k : Int)) < ((nk.length : Int)))))] (by kernel_rfl) (fun g0_203 => ?_)
          obtain ⟨G203, hGm203, hG203_0, hG203_1, hG203_2, hG203_3, hG203_4, hG203_5, hG203_6, hG203_7, hG203_8, hG203_9, hG203_10, hG203_11, hG203_12, hG203_13, hG203_14, hG203_15, hG203_16, hG203_17, hG203_18, hG203_19, hG203_20, hG203_21, hG203_22, hG203_23, hG203_24, hG203_25⟩ : ∃ G : Nat → Value → VT → Prop, (∀ j v V V', VT.le V V' → G j v V → G j v V') ∧ (∀ v_ V_, G 0 v_ V_ ↔ (v_ = .pointer (some ⟨b126, 1, none⟩))) ∧ (∀ v_ V_, G 1 v_ V_ ↔ (v_ = .slice Ank (nk).length cnk)) ∧ (∀ v_ V_, G 2 v_ V_ ↔ (v_ = .int .i64 ((k : Int)))) ∧ (∀ v_ V_, G 3 v_ V_ ↔ (∃ b199 : Nat, ∃ o200 : Nat, v_ = .pointer (some ⟨b199, o200, none⟩) ∧ (At strK V_ b199 o200 ((nk.getD (k) []))) ∧ ((nk.getD (k) []).length ≤ 140737488355328))) ∧ (∀ v_ V_, G 4 v_ V_ ↔ (v_ = bs ((nk.getD (k) [])) ∧ ((nk.getD (k) []).length ≤ 140737488355328))) ∧ (∀ v_ V_, G 5 v_ V_ ↔ (v_ = .int .i64 ((((nk.getD (k) [])).length : Int)) ∧ ((nk.getD (k) []).length ≤ 140737488355328))) ∧ (∀ v_ V_, G 6 v_ V_ ↔ (v_ = .bool (false) ∧ ((nk.getD (k) []).length ≤ 140737488355328))) ∧ (∀ v_ V_, G 7 v_ V_ ↔ (v_ = .bool (false) ∧ ((nk.getD (k) []).length ≤ 140737488355328))) ∧ (∀ v_ V_, G 8 v_ V_ ↔ (v_ = .int .i64 ((k : Int)))) ∧ (∀ v_ V_, G 9 v_ V_ ↔ (v_ = .bool (false))) ∧ (∀ v_ V_, G 10 v_ V_ ↔ (v_ = .bool (false))) ∧ (∀ v_ V_, G 11 v_ V_ ↔ (v_ = undef)) ∧ (∀ v_ V_, G 12 v_ V_ ↔ (v_ = undef)) ∧ (∀ v_ V_, G 13 v_ V_ ↔ (v_ = undef)) ∧ (∀ v_ V_, G 14 v_ V_ ↔ (v_ = undef)) ∧ (∀ v_ V_, G 15 v_ V_ ↔ (v_ = undef)) ∧ (∀ v_ V_, G 16 v_ V_ ↔ (v_ = undef)) ∧ (∀ v_ V_, G 17 v_ V_ ↔ (v_ = undef)) ∧ (∀ v_ V_, G 18 v_ V_ ↔ (v_ = undef)) ∧ (∀ v_ V_, G 19 v_ V_ ↔ (v_ = undef)) ∧ (∀ v_ V_, G 20 v_ V_ ↔ (v_ = undef)) ∧ (∀ v_ V_, G 21 v_ V_ ↔ (v_ = undef)) ∧ (∀ v_ V_, G 22 v_ V_ ↔ (v_ = undef)) ∧ (∀ v_ V_, G 23 v_ V_ ↔ (v_ = undef)) ∧ (∀ v_ V_, G 24 v_ V_ ↔ (v_ = .bool (false))) ∧ (∀ v_ V_, G 25 v_ V_ ↔ (v_ = .bool (false) ∧ ((nk.getD (k) []).length ≤ 140737488355328))) :=
              ⟨mG [mV (.pointer (some ⟨b126, 1, none⟩)), mV (.slice Ank (nk).length cnk), mV (.int .i64 ((k : Int))), mE fun b199 : Nat => mE fun o200 : Nat => mN (mV (.pointer (some ⟨b199, o200, none⟩))) (mN (mA strK b199 o200 ((nk.getD (k) []))) (mP ((nk.getD (k) []).length ≤ 140737488355328))), mN (mV (bs ((nk.getD (k) [])))) (mP ((nk.getD (k) []).length ≤ 140737488355328)), mN (mV (.int .i64 ((((nk.getD (k) [])).length : Int)))) (mP ((nk.getD (k) []).length ≤ 140737488355328)), mN (mV (.bool (false))) (mP ((nk.getD (k) []).length ≤ 140737488355328)), mN (mV (.bool (false))) (mP ((nk.getD (k) []).length ≤ 140737488355328)), mV (.int .i64 ((k : Int))), mV (.bool (false)), mV (.bool (false)), mV undef, mV undef, mV undef, mV undef, mV undef, mV undef, mV undef, mV undef, mV undef, mV undef, mV undef, mV undef, mV undef, mV (.bool (false)), mN (mV (.bool (false))) (mP ((nk.getD (k) []).length ≤ 140737488355328))], mG_up _, fun _ _ => Iff.rfl, fun _ _ => Iff.rfl, fun _ _ => Iff.rfl, fun _ _ => Iff.rfl, fun _ _ => Iff.rfl, fun _ _ => Iff.rfl, fun _ _ => Iff.rfl, fun _ _ => Iff.rfl, fun _ _ => Iff.rfl, fun _ _ => Iff.rfl, fun _ _ => Iff.rfl, fun _ _ => Iff.rfl, fun _ _ => Iff.rfl, fun _ _ => Iff.rfl, fun _ _ => Iff.rfl, fun _ _ => Iff.rfl, fun _ _ => Iff.rfl, fun _ _ => Iff.rfl, fun _ _ => Iff.rfl, fun _ _ => Iff.rfl, fun _ _ => Iff.rfl, fun _ _ => Iff.rfl, fun _ _ => Iff.rfl, fun _ _ => Iff.rfl, fun _ _ => Iff.rfl, fun _ _ => Iff.rfl⟩
          refine wp_drawG (L0 := [(1, .pointer (some ⟨b126, 0, none⟩)), (3, .int .i64 ((k : Int))), (6, .int .i64 ((k : Int))), (7, .pointer (some ⟨b126, 1, none⟩)), (8, .slice Ank (nk).length cnk), (9, .int .i64 ((nk.length : Int))), (10, .bool (decide (((k : Int)) < ((nk.length : Int)))))]) 26 (by kernel_rfl) (by kernel_rfl) (by kernel_rfl) (by kernel_rfl) (by kernel_rfl) G203 hGm203 [] pre_nil (by kernel_rfl) [] (by kernel_rfl) (fun (S : Nat → Bool) (g : Nat → Value) => ([] : List Ent)) (fun _ _ _ _ _ => rfl) hM140 ?_ ?_
          · -- the operations
            refine all_snoc (.inr ⟨by decide, fun S203_25 g203_25 V203_25 w203_25 F203_25 cx203_25 hM203_25 => ?_⟩) ?_
            · -- op 25
              obtain ⟨hv7_V203_25, l202⟩ : g203_25 20 = .bool (false) ∧ ((nk.getD (k) []).length ≤ 140737488355328) := (hG203_7 _ _).1 (cx203_25.fact 7 20 (by decide) (cx203_25.dep 7 (by kernel_rfl)) (by kernel_rfl))
              obtain hv24_V203_25 : g203_25 37 = .bool (false) := (hG203_24 _ _).1 (cx203_25.fact 24 37 (by decide) (cx203_25.dep 24 (by kernel_rfl)) (by kernel_rfl))
              refine wpF_see 20 (.bool (false)) (Eq.trans (by kernel_rfl) hv7_V203_25) ?_
              refine wpF_see 37 (.bool (false)) (Eq.trans (by kernel_rfl) hv24_V203_25) ?_
              refine wpF_seg 1 (by kernel_rfl) ?_
              refine wpF_end _ (by kernel_rfl) (then_n ?_)
              exact one_in (some 38) (by kernel_rfl) (.bool (false)) _ [(37, .bool (false)), (20, .bool (false))] (seen_cons (Eq.trans (by kernel_rfl) hv24_V203_25) (seen_cons (Eq.trans (by kernel_rfl) hv7_V203_25) seen_nil)) (by kernel_rfl) (VT.le.refl _) hM203_25 ((hG203_25 _ _).2 ⟨rfl, l202⟩)
            refine all_snoc (.inr ⟨by decide, fun S203_24 g203_24 V203_24 w203_24 F203_24 cx203_24 hM203_24 => ?_⟩) ?_
            · -- op 24
              obtain ⟨hv7_V203_24, l202⟩ : g203_24 20 = .bool (false) ∧ ((nk.getD (k) []).length ≤ 140737488355328) := (hG203_7 _ _).1 (cx203_24.fact 7 20 (by decide) (cx203_24.dep 7 (by kernel_rfl)) (by kernel_rfl))
              obtain hv10_V203_24 : g203_24 23 = .bool (false) := (hG203_10 _ _).1 (cx203_24.fact 10 23 (by decide) (cx203_24.dep 10 (by kernel_rfl)) (by kernel_rfl))
              obtain hv23_V203_24 : g203_24 36 = undef := (hG203_23 _ _).1 (cx203_24.fact 23 36 (by decide) (cx203_24.dep 23 (by kernel_rfl)) (by kernel_rfl))
              refine wpF_see 20 (.bool (false)) (Eq.trans (by kernel_rfl) hv7_V203_24) ?_
              refine wpF_see 23 (.bool (false)) (Eq.trans (by kernel_rfl) hv10_V203_24) ?_
              refine wpF_see 36 (undef) (Eq.trans (by kernel_rfl) hv23_V203_24) ?_
              refine wpF_seg 1 (by kernel_rfl) ?_
              refine wpF_end _ (by kernel_rfl) (then_n ?_)
              exact one_in (some 37) (by kernel_rfl) (.bool (false)) _ [(36, undef), (23, .bool (false)), (20, .bool (false))] (seen_cons (Eq.trans (by kernel_rfl) hv23_V203_24) (seen_cons (Eq.trans (by kernel_rfl) hv10_V203_24) (seen_cons (Eq.trans (by kernel_rfl) hv7_V203_24) seen_nil))) (by kernel_rfl) (VT.le.refl _) hM203_24 ((hG203_24 _ _).2 rfl)
            refine all_snoc (.inr ⟨by decide, fun S203_23 g203_23 V203_23 w203_23 F203_23 cx203_23 hM203_23 => ?_⟩) ?_
            · -- op 23
              obtain hv10_V203_23 : g203_23 23 = .bool (false) := (hG203_10 _ _).1 (cx203_23.fact 10 23 (by decide) (cx203_23.dep 10 (by kernel_rfl)) (by kernel_rfl))
              obtain hv22_V203_23 : g203_23 35 = undef := (hG203_22 _ _).1 (cx203_23.fact 22 35 (by decide) (cx203_23.dep 22 (by kernel_rfl)) (by kernel_rfl))
              refine wpF_see 23 (.bool (false)) (Eq.trans (by kernel_rfl) hv10_V203_23) ?_
              refine wpF_see 35 (undef) (Eq.trans (by kernel_rfl) hv22_V203_23) ?_
              refine wpF_seg 1 (by kernel_rfl) ?_
              refine wpF_end _ (by kernel_rfl) (then_n ?_)
              exact one_in (some 36) (by kernel_rfl) (undef) _ [(35, undef), (23, .bool (false))] (seen_cons (Eq.trans (by kernel_rfl) hv22_V203_23) (seen_cons (Eq.trans (by kernel_rfl) hv10_V203_23) seen_nil)) (by kernel_rfl) (VT.le.refl _) hM203_23 ((hG203_23 _ _).2 rfl)
            refine all_snoc (.inr ⟨by decide, fun S203_22 g203_22 V203_22 w203_22 F203_22 cx203_22 hM203_22 => ?_⟩) ?_
            · -- op 22
              obtain hv10_V203_22 : g203_22 23 = .bool (false) := (hG203_10 _ _).1 (cx203_22.fact 10 23 (by decide) (cx203_22.dep 10 (by kernel_rfl)) (by kernel_rfl))
              obtain hv16_V203_22 : g203_22 29 = undef := (hG203_16 _ _).1 (cx203_22.fact 16 29 (by decide) (cx203_22.dep 16 (by kernel_rfl)) (by kernel_rfl))
              obtain hv21_V203_22 : g203_22 34 = undef := (hG203_21 _ _).1 (cx203_22.fact 21 34 (by decide) (cx203_22.dep 21 (by kernel_rfl)) (by kernel_rfl))
              refine wpF_see 23 (.bool (false)) (Eq.trans (by kernel_rfl) hv10_V203_22) ?_
              refine wpF_see 29 (undef) (Eq.trans (by kernel_rfl) hv16_V203_22) ?_
              refine wpF_see 34 (undef) (Eq.trans (by kernel_rfl) hv21_V203_22) ?_
              refine wpF_seg 1 (by kernel_rfl) ?_
              refine wpF_end _ (by kernel_rfl) (then_n ?_)
              exact one_in (some 35) (by kernel_rfl) (undef) _ [(34, undef), (29, undef), (23, .bool (false))] (seen_cons (Eq.trans (by kernel_rfl) hv21_V203_22) (seen_cons (Eq.trans (by kernel_rfl) hv16_V203_22) (seen_cons (Eq.trans (by kernel_rfl) hv10_V203_22) seen_nil))) (by kernel_rfl) (VT.le.refl _) hM203_22 ((hG203_22 _ _).2 rfl)
            refine all_snoc (.inr ⟨by decide, fun S203_21 g203_21 V203_21 w203_21 F203_21 cx203_21 hM203_21 => ?_⟩) ?_
            · -- op 21
              obtain hv10_V203_21 : g203_21 23 = .bool (false) := (hG203_10 _ _).1 (cx203_21.fact 10 23 (by decide) (cx203_21.dep 10 (by kernel_rfl)) (by kernel_rfl))
              obtain hv20_V203_21 : g203_21 33 = undef := (hG203_20 _ _).1 (cx203_21.fact 20 33 (by decide) (cx203_21.dep 20 (by kernel_rfl)) (by kernel_rfl))
              refine wpF_see 23 (.bool (false)) (Eq.trans (by kernel_rfl) hv10_V203_21) ?_
              refine wpF_see 33 (undef) (Eq.trans (by kernel_rfl) hv20_V203_21) ?_
              refine wpF_seg 1 (by kernel_rfl) ?_
              refine wpF_end _ (by kernel_rfl) (then_n ?_)
              exact one_in (some 34) (by kernel_rfl) (undef) _ [(33, undef), (23, .bool (false))] (seen_cons (Eq.trans (by kernel_rfl) hv20_V203_21) (seen_cons (Eq.trans (by kernel_rfl) hv10_V203_21) seen_nil)) (by kernel_rfl) (VT.le.refl _) hM203_21 ((hG203_21 _ _).2 rfl)
            refine all_snoc (.inr ⟨by decide, fun S203_20 g203_20 V203_20 w203_20 F203_20 cx203_20 hM203_20 => ?_⟩) ?_
            · -- op 20
              obtain hv10_V203_20 : g203_20 23 = .bool (false) := (hG203_10 _ _).1 (cx203_20.fact 10 23 (by decide) (cx203_20.dep 10 (by kernel_rfl)) (by kernel_rfl))
              obtain hv18_V203_20 : g203_20 31 = undef := (hG203_18 _ _).1 (cx203_20.fact 18 31 (by decide) (cx203_20.dep 18 (by kernel_rfl)) (by kernel_rfl))
              obtain hv19_V203_20 : g203_20 32 = undef := (hG203_19 _ _).1 (cx203_20.fact 19 32 (by decide) (cx203_20.dep 19 (by kernel_rfl)) (by kernel_rfl))
              refine wpF_see 23 (.bool (false)) (Eq.trans (by kernel_rfl) hv10_V203_20) ?_
              refine wpF_see 31 (undef) (Eq.trans (by kernel_rfl) hv18_V203_20) ?_
              refine wpF_see 32 (undef) (Eq.trans (by kernel_rfl) hv19_V203_20) ?_
              refine wpF_seg 1 (by kernel_rfl) ?_
              refine wpF_end _ (by kernel_rfl) (then_n ?_)
              exact one_in (some 33) (by kernel_rfl) (undef) _ [(32, undef), (31, undef), (23, .bool (false))] (seen_cons (Eq.trans (by kernel_rfl) hv19_V203_20) (seen_cons (Eq.trans (by kernel_rfl) hv18_V203_20) (seen_cons (Eq.trans (by kernel_rfl) hv10_V203_20) seen_nil))) (by kernel_rfl) (VT.le.refl _) hM203_20 ((hG203_20 _ _).2 rfl)
            refine all_snoc (.inr ⟨by decide, fun S203_19 g203_19 V203_19 w203_19 F203_19 cx203_19 hM203_19 => ?_⟩) ?_
            · -- op 19
              obtain hv10_V203_19 : g203_19 23 = .bool (false) := (hG203_10 _ _).1 (cx203_19.fact 10 23 (by decide) (cx203_19.dep 10 (by kernel_rfl)) (by kernel_rfl))
              refine wpF_see 23 (.bool (false)) (Eq.trans (by kernel_rfl) hv10_V203_19) ?_
              refine wpF_seg 1 (by kernel_rfl) ?_
              refine wpF_end _ (by kernel_rfl) (then_n ?_)
              exact one_in (some 32) (by kernel_rfl) (undef) _ [(23, .bool (false))] (seen_cons (Eq.trans (by kernel_rfl) hv10_V203_19) seen_nil) (by kernel_rfl) (VT.le.refl _) hM203_19 ((hG203_19 _ _).2 rfl)
            refine all_snoc (.inr ⟨by decide, fun S203_18 g203_18 V203_18 w203_18 F203_18 cx203_18 hM203_18 => ?_⟩) ?_
            · -- op 18
              obtain hv10_V203_18 : g203_18 23 = .bool (false) := (hG203_10 _ _).1 (cx203_18.fact 10 23 (by decide) (cx203_18.dep 10 (by kernel_rfl)) (by kernel_rfl))
              obtain hv17_V203_18 : g203_18 30 = undef := (hG203_17 _ _).1 (cx203_18.fact 17 30 (by decide) (cx203_18.dep 17 (by kernel_rfl)) (by kernel_rfl))
              refine wpF_see 23 (.bool (false)) (Eq.trans (by kernel_rfl) hv10_V203_18) ?_
              refine wpF_see 30 (undef) (Eq.trans (by kernel_rfl) hv17_V203_18) ?_
              refine wpF_seg 1 (by kernel_rfl) ?_
              refine wpF_end _ (by kernel_rfl) (then_n ?_)
              exact one_in (some 31) (by kernel_rfl) (undef) _ [(30, undef), (23, .bool (false))] (seen_cons (Eq.trans (by kernel_rfl) hv17_V203_18) (seen_cons (Eq.trans (by kernel_rfl) hv10_V203_18) seen_nil)) (by kernel_rfl) (VT.le.refl _) hM203_18 ((hG203_18 _ _).2 rfl)
            refine all_snoc (.inr ⟨by decide, fun S203_17 g203_17 V203_17 w203_17 F203_17 cx203_17 hM203_17 => ?_⟩) ?_
            · -- op 17
              obtain hv10_V203_17 : g203_17 23 = .bool (false) := (hG203_10 _ _).1 (cx203_17.fact 10 23 (by decide) (cx203_17.dep 10 (by kernel_rfl)) (by kernel_rfl))
              refine wpF_see 23 (.bool (false)) (Eq.trans (by kernel_rfl) hv10_V203_17) ?_
              refine wpF_seg 1 (by kernel_rfl) ?_
              refine wpF_end _ (by kernel_rfl) (then_n ?_)
              exact one_in (some 30) (by kernel_rfl) (undef) _ [(23, .bool (false))] (seen_cons (Eq.trans (by kernel_rfl) hv10_V203_17) seen_nil) (by kernel_rfl) (VT.le.refl _) hM203_17 ((hG203_17 _ _).2 rfl)
            refine all_snoc (.inr ⟨by decide, fun S203_16 g203_16 V203_16 w203_16 F203_16 cx203_16 hM203_16 => ?_⟩) ?_
            · -- op 16
              obtain hv10_V203_16 : g203_16 23 = .bool (false) := (hG203_10 _ _).1 (cx203_16.fact 10 23 (by decide) (cx203_16.dep 10 (by kernel_rfl)) (by kernel_rfl))
              obtain hv15_V203_16 : g203_16 28 = undef := (hG203_15 _ _).1 (cx203_16.fact 15 28 (by decide) (cx203_16.dep 15 (by kernel_rfl)) (by kernel_rfl))
              refine wpF_see 23 (.bool (false)) (Eq.trans (by kernel_rfl) hv10_V203_16) ?_
              refine wpF_see 28 (undef) (Eq.trans (by kernel_rfl) hv15_V203_16) ?_
              refine wpF_seg 1 (by kernel_rfl) ?_
              refine wpF_end _ (by kernel_rfl) (then_n ?_)
              exact one_in (some 29) (by kernel_rfl) (undef) _ [(28, undef), (23, .bool (false))] (seen_cons (Eq.trans (by kernel_rfl) hv15_V203_16) (seen_cons (Eq.trans (by kernel_rfl) hv10_V203_16) seen_nil)) (by kernel_rfl) (VT.le.refl _) hM203_16 ((hG203_16 _ _).2 rfl)
            refine all_snoc (.inr ⟨by decide, fun S203_15 g203_15 V203_15 w203_15 F203_15 cx203_15 hM203_15 => ?_⟩) ?_
            · -- op 15
              obtain hv10_V203_15 : g203_15 23 = .bool (false) := (hG203_10 _ _).1 (cx203_15.fact 10 23 (by decide) (cx203_15.dep 10 (by kernel_rfl)) (by kernel_rfl))
              obtain hv12_V203_15 : g203_15 25 = undef := (hG203_12 _ _).1 (cx203_15.fact 12 25 (by decide) (cx203_15.dep 12 (by kernel_rfl)) (by kernel_rfl))
              obtain hv14_V203_15 : g203_15 27 = undef := (hG203_14 _ _).1 (cx203_15.fact 14 27 (by decide) (cx203_15.dep 14 (by kernel_rfl)) (by kernel_rfl))
              refine wpF_see 23 (.bool (false)) (Eq.trans (by kernel_rfl) hv10_V203_15) ?_
              refine wpF_see 25 (undef) (Eq.trans (by kernel_rfl) hv12_V203_15) ?_
              refine wpF_see 27 (undef) (Eq.trans (by kernel_rfl) hv14_V203_15) ?_
              refine wpF_seg 1 (by kernel_rfl) ?_
              refine wpF_end _ (by kernel_rfl) (then_n ?_)
              exact one_in (some 28) (by kernel_rfl) (undef) _ [(27, undef), (25, undef), (23, .bool (false))] (seen_cons (Eq.trans (by kernel_rfl) hv14_V203_15) (seen_cons (Eq.trans (by kernel_rfl) hv12_V203_15) (seen_cons (Eq.trans (by kernel_rfl) hv10_V203_15) seen_nil))) (by kernel_rfl) (VT.le.refl _) hM203_15 ((hG203_15 _ _).2 rfl)
            refine all_snoc (.inr ⟨by decide, fun S203_14 g203_14 V203_14 w203_14 F203_14 cx203_14 hM203_14 => ?_⟩) ?_
            · -- op 14
              obtain hv10_V203_14 : g203_14 23 = .bool (false) := (hG203_10 _ _).1 (cx203_14.fact 10 23 (by decide) (cx203_14.dep 10 (by kernel_rfl)) (by kernel_rfl))
              obtain hv13_V203_14 : g203_14 26 = undef := (hG203_13 _ _).1 (cx203_14.fact 13 26 (by decide) (cx203_14.dep 13 (by kernel_rfl)) (by kernel_rfl))
              refine wpF_see 23 (.bool (false)) (Eq.trans (by kernel_rfl) hv10_V203_14) ?_
              refine wpF_see 26 (undef) (Eq.trans (by kernel_rfl) hv13_V203_14) ?_
              refine wpF_seg 1 (by kernel_rfl) ?_
              refine wpF_end _ (by kernel_rfl) (then_n ?_)
              exact one_in (some 27) (by kernel_rfl) (undef) _ [(26, undef), (23, .bool (false))] (seen_cons (Eq.trans (by kernel_rfl) hv13_V203_14) (seen_cons (Eq.trans (by kernel_rfl) hv10_V203_14) seen_nil)) (by kernel_rfl) (VT.le.refl _) hM203_14 ((hG203_14 _ _).2 rfl)
            refine all_snoc (.inr ⟨by decide, fun S203_13 g203_13 V203_13 w203_13 F203_13 cx203_13 hM203_13 => ?_⟩) ?_
            · -- op 13
              obtain hv10_V203_13 : g203_13 23 = .bool (false) := (hG203_10 _ _).1 (cx203_13.fact 10 23 (by decide) (cx203_13.dep 10 (by kernel_rfl)) (by kernel_rfl))
              refine wpF_see 23 (.bool (false)) (Eq.trans (by kernel_rfl) hv10_V203_13) ?_
              refine wpF_seg 1 (by kernel_rfl) ?_
              refine wpF_end _ (by kernel_rfl) (then_n ?_)
              exact one_in (some 26) (by kernel_rfl) (undef) _ [(23, .bool (false))] (seen_cons (Eq.trans (by kernel_rfl) hv10_V203_13) seen_nil) (by kernel_rfl) (VT.le.refl _) hM203_13 ((hG203_13 _ _).2 rfl)
            refine all_snoc (.inr ⟨by decide, fun S203_12 g203_12 V203_12 w203_12 F203_12 cx203_12 hM203_12 => ?_⟩) ?_
            · -- op 12
              obtain hv10_V203_12 : g203_12 23 = .bool (false) := (hG203_10 _ _).1 (cx203_12.fact 10 23 (by decide) (cx203_12.dep 10 (by kernel_rfl)) (by kernel_rfl))
              obtain hv11_V203_12 : g203_12 24 = undef := (hG203_11 _ _).1 (cx203_12.fact 11 24 (by decide) (cx203_12.dep 11 (by kernel_rfl)) (by kernel_rfl))
              refine wpF_see 23 (.bool (false)) (Eq.trans (by kernel_rfl) hv10_V203_12) ?_
              refine wpF_see 24 (undef) (Eq.trans (by kernel_rfl) hv11_V203_12) ?_
              refine wpF_seg 1 (by kernel_rfl) ?_
              refine wpF_end _ (by kernel_rfl) (then_n ?_)
              exact one_in (some 25) (by kernel_rfl) (undef) _ [(24, undef), (23, .bool (false))] (seen_cons (Eq.trans (by kernel_rfl) hv11_V203_12) (seen_cons (Eq.trans (by kernel_rfl) hv10_V203_12) seen_nil)) (by kernel_rfl) (VT.le.refl _) hM203_12 ((hG203_12 _ _).2 rfl)
            refine all_snoc (.inr ⟨by decide, fun S203_11 g203_11 V203_11 w203_11 F203_11 cx203_11 hM203_11 => ?_⟩) ?_
            · -- op 11
              obtain hv10_V203_11 : g203_11 23 = .bool (false) := (hG203_10 _ _).1 (cx203_11.fact 10 23 (by decide) (cx203_11.dep 10 (by kernel_rfl)) (by kernel_rfl))
              refine wpF_see 23 (.bool (false)) (Eq.trans (by kernel_rfl) hv10_V203_11) ?_
              refine wpF_seg 1 (by kernel_rfl) ?_
              refine wpF_end _ (by kernel_rfl) (then_n ?_)
              exact one_in (some 24) (by kernel_rfl) (undef) _ [(23, .bool (false))] (seen_cons (Eq.trans (by kernel_rfl) hv10_V203_11) seen_nil) (by kernel_rfl) (VT.le.refl _) hM203_11 ((hG203_11 _ _).2 rfl)
            refine all_snoc (.inr ⟨by decide, fun S203_10 g203_10 V203_10 w203_10 F203_10 cx203_10 hM203_10 => ?_⟩) ?_
            · -- op 10
              obtain ⟨hv7_V203_10, l202⟩ : g203_10 20 = .bool (false) ∧ ((nk.getD (k) []).length ≤ 140737488355328) := (hG203_7 _ _).1 (cx203_10.fact 7 20 (by decide) (cx203_10.dep 7 (by kernel_rfl)) (by kernel_rfl))
              obtain hv9_V203_10 : g203_10 22 = .bool (false) := (hG203_9 _ _).1 (cx203_10.fact 9 22 (by decide) (cx203_10.dep 9 (by kernel_rfl)) (by kernel_rfl))
              refine wpF_see 20 (.bool (false)) (Eq.trans (by kernel_rfl) hv7_V203_10) ?_
              refine wpF_see 22 (.bool (false)) (Eq.trans (by kernel_rfl) hv9_V203_10) ?_
              refine wpF_seg 1 (by kernel_rfl) ?_
              refine wpF_end _ (by kernel_rfl) (then_n ?_)
              exact one_in (some 23) (by kernel_rfl) (.bool (false)) _ [(22, .bool (false)), (20, .bool (false))] (seen_cons (Eq.trans (by kernel_rfl) hv9_V203_10) (seen_cons (Eq.trans (by kernel_rfl) hv7_V203_10) seen_nil)) (by kernel_rfl) (VT.le.refl _) hM203_10 ((hG203_10 _ _).2 rfl)
            refine all_snoc (.inr ⟨by decide, fun S203_9 g203_9 V203_9 w203_9 F203_9 cx203_9 hM203_9 => ?_⟩) ?_
            · -- op 9
              obtain ⟨hv7_V203_9, l202⟩ : g203_9 20 = .bool (false) ∧ ((nk.getD (k) []).length ≤ 140737488355328) := (hG203_7 _ _).1 (cx203_9.fact 7 20 (by decide) (cx203_9.dep 7 (by kernel_rfl)) (by kernel_rfl))
              obtain hv8_V203_9 : g203_9 21 = .int .i64 ((k : Int)) := (hG203_8 _ _).1 (cx203_9.fact 8 21 (by decide) (cx203_9.dep 8 (by kernel_rfl)) (by kernel_rfl))
              refine wpF_see 20 (.bool (false)) (Eq.trans (by kernel_rfl) hv7_V203_9) ?_
              refine wpF_see 21 (.int .i64 ((k : Int))) (Eq.trans (by kernel_rfl) hv8_V203_9) ?_
              refine wpF_seg 1 (by kernel_rfl) ?_
              refine wpF_slot 22 (.bool (decide ((0) < ((k : Int))))) (.bool false) (by kernel_rfl) (by kernel_rfl) (by rw [h162]) ?_
              refine wpF_end _ (by kernel_rfl) (then_n ?_)
              exact one_in (some 22) (by kernel_rfl) (.bool (false)) _ [(21, .int .i64 ((k : Int))), (20, .bool (false))] (seen_cons (Eq.trans (by kernel_rfl) hv8_V203_9) (seen_cons (Eq.trans (by kernel_rfl) hv7_V203_9) seen_nil)) (by kernel_rfl) (VT.le.refl _) hM203_9 ((hG203_9 _ _).2 rfl)
            refine all_snoc (.inr ⟨by decide, fun S203_8 g203_8 V203_8 w203_8 F203_8 cx203_8 hM203_8 => ?_⟩) ?_
            · -- op 8
              obtain ⟨hv7_V203_8, l202⟩ : g203_8 20 = .bool (false) ∧ ((nk.getD (k) []).length ≤ 140737488355328) := (hG203_7 _ _).1 (cx203_8.fact 7 20 (by decide) (cx203_8.dep 7 (by kernel_rfl)) (by kernel_rfl))
              refine wpF_see 20 (.bool (false)) (Eq.trans (by kernel_rfl) hv7_V203_8) ?_
              refine wpF_seg 1 (by kernel_rfl) ?_
              refine wpF_end _ (by kernel_rfl) (then_n ?_)
              exact one_in (some 21) (by kernel_rfl) (.int .i64 ((k : Int))) _ [(20, .bool (false))] (seen_cons (Eq.trans (by kernel_rfl) hv7_V203_8) seen_nil) (by kernel_rfl) (VT.le.refl _) hM203_8 ((hG203_8 _ _).2 rfl)
            refine all_snoc (.inr ⟨by decide, fun S203_7 g203_7 V203_7 w203_7 F203_7 cx203_7 hM203_7 => ?_⟩) ?_
            · -- op 7
              obtain ⟨hv6_V203_7, l202⟩ : g203_7 19 = .bool (false) ∧ ((nk.getD (k) []).length ≤ 140737488355328) := (hG203_6 _ _).1 (cx203_7.fact 6 19 (by decide) (cx203_7.dep 6 (by kernel_rfl)) (by kernel_rfl))
              refine wpF_see 19 (.bool (false)) (Eq.trans (by kernel_rfl) hv6_V203_7) ?_
              refine wpF_seg 1 (by kernel_rfl) ?_
              refine wpF_end _ (by kernel_rfl) (then_n ?_)
              exact one_in (some 20) (by kernel_rfl) (.bool (false)) _ [(19, .bool (false))] (seen_cons (Eq.trans (by kernel_rfl) hv6_V203_7) seen_nil) (by kernel_rfl) (VT.le.refl _) hM203_7 ((hG203_7 _ _).2 ⟨rfl, l202⟩)
            refine all_snoc (.inr ⟨by decide, fun S203_6 g203_6 V203_6 w203_6 F203_6 cx203_6 hM203_6 => ?_⟩) ?_
            · -- op 6
              obtain ⟨hv5_V203_6, l202⟩ : g203_6 18 = .int .i64 ((((nk.getD (k) [])).length : Int)) ∧ ((nk.getD (k) []).length ≤ 140737488355328) := (hG203_5 _ _).1 (cx203_6.fact 5 18 (by decide) (cx203_6.dep 5 (by kernel_rfl)) (by kernel_rfl))
              refine wpF_see 18 (.int .i64 ((((nk.getD (k) [])).length : Int))) (Eq.trans (by kernel_rfl) hv5_V203_6) ?_
              refine wpF_seg 1 (by kernel_rfl) ?_
              refine wpF_slot 19 (.bool (decide ((128) < ((((nk.getD (k) [])).length : Int))))) (.bool false) (by kernel_rfl) (by kernel_rfl) (by rw [h149]) ?_
              refine wpF_end _ (by kernel_rfl) (then_n ?_)
              exact one_in (some 19) (by kernel_rfl) (.bool (false)) _ [(18, .int .i64 ((((nk.getD (k) [])).length : Int)))] (seen_cons (Eq.trans (by kernel_rfl) hv5_V203_6) seen_nil) (by kernel_rfl) (VT.le.refl _) hM203_6 ((hG203_6 _ _).2 ⟨rfl, l202⟩)
            refine all_snoc (.inr ⟨by decide, fun S203_5 g203_5 V203_5 w203_5 F203_5 cx203_5 hM203_5 => ?_⟩) ?_
            · -- op 5
              obtain ⟨hv4_V203_5, l202⟩ : g203_5 17 = bs ((nk.getD (k) [])) ∧ ((nk.getD (k) []).length ≤ 140737488355328) := (hG203_4 _ _).1 (cx203_5.fact 4 17 (by decide) (cx203_5.dep 4 (by kernel_rfl)) (by kernel_rfl))
              refine wpF_see 17 (bs ((nk.getD (k) []))) (Eq.trans (by kernel_rfl) hv4_V203_5) ?_
              refine wpF_seg 1 (by kernel_rfl) ?_
              refine wpF_end _ (by kernel_rfl) (then_n ?_)
              exact one_in (some 18) (by kernel_rfl) (.int .i64 ((((nk.getD (k) [])).length : Int))) _ [(17, bs ((nk.getD (k) [])))] (seen_cons (Eq.trans (by kernel_rfl) hv4_V203_5) seen_nil) (by kernel_rfl) (VT.le.refl _) hM203_5 ((hG203_5 _ _).2 ⟨rfl, l202⟩)
            refine all_snoc (.inr ⟨by decide, fun S203_4 g203_4 V203_4 w203_4 F203_4 cx203_4 hM203_4 => ?_⟩) ?_
            · -- op 4
              obtain ⟨b199, o200, hv3_V203_4, at_b199, l202⟩ : ∃ b199 : Nat, ∃ o200 : Nat, g203_4 16 = .pointer (some ⟨b199, o200, none⟩) ∧ (At strK V203_4 b199 o200 ((nk.getD (k) []))) ∧ ((nk.getD (k) []).length ≤ 140737488355328) := (hG203_3 _ _).1 (cx203_4.fact 3 16 (by decide) (cx203_4.dep 3 (by kernel_rfl)) (by kernel_rfl))
              have c904061 : V203_4 b199 o200 = some (bs (nk.getD (k) [])) := (At.str at_b199).1
              have l904062 : (nk.getD (k) []).length ≤ 140737488355328 := (At.str at_b199).2
              refine wpF_see 16 (.pointer (some ⟨b199, o200, none⟩)) (Eq.trans (by kernel_rfl) hv3_V203_4) ?_
              refine wpF_loadV hM203_4 c904061 (h := (by kernel_rfl : opAt _ _ _ _ _ = some (Go.Op.load 9 (Go.Operand.tmp 16), some 17))) (by kernel_rfl) (by kernel_rfl) ?_
              refine wpF_end _ (by kernel_rfl) (then_n ?_)
              exact one_in (some 17) (by kernel_rfl) (bs ((nk.getD (k) []))) _ [(16, .pointer (some ⟨b199, o200, none⟩))] (seen_cons (Eq.trans (by kernel_rfl) hv3_V203_4) seen_nil) (by kernel_rfl) (VT.le.refl _) hM203_4 ((hG203_4 _ _).2 ⟨rfl, l202⟩)
            refine all_snoc (.inr ⟨by decide, fun S203_3 g203_3 V203_3 w203_3 F203_3 cx203_3 hM203_3 => ?_⟩) ?_
            · -- op 3
              obtain hv1_V203_3 : g203_3 14 = .slice Ank (nk).length cnk := (hG203_1 _ _).1 (cx203_3.fact 1 14 (by decide) (cx203_3.dep 1 (by kernel_rfl)) (by kernel_rfl))
              obtain hv2_V203_3 : g203_3 15 = .int .i64 ((k : Int)) := (hG203_2 _ _).1 (cx203_3.fact 2 15 (by decide) (cx203_3.dep 2 (by kernel_rfl)) (by kernel_rfl))
              refine wpF_see 14 (.slice Ank (nk).length cnk) (Eq.trans (by kernel_rfl) hv1_V203_3) ?_
              refine wpF_see 15 (.int .i64 ((k : Int))) (Eq.trans (by kernel_rfl) hv2_V203_3) ?_
              refine wpF_index (A := Ank) (c := cnk) (hnk.up hM203_3.le) .i64 ((k : Int)) (h := (by kernel_rfl : opAt _ _ _ _ _ = some (Go.Op.indexAddr 22 (Go.Operand.tmp 14) (Go.Operand.tmp 15), some 16))) (e := 9) (by kernel_rfl) (by kernel_rfl) (by kernel_rfl) (k) rfl (by omega) (fun b199 o200 at_b199 => ?_)
              have c201 : V203_3 b199 o200 = some (bs (nk.getD (k) [])) := (At.str at_b199).1
              have l202 : (nk.getD (k) []).length ≤ 140737488355328 := (At.str at_b199).2
              refine wpF_end _ (by kernel_rfl) (then_n ?_)
              exact one_in (some 16) (by kernel_rfl) (.pointer (some ⟨b199, o200, none⟩)) _ [(15, .int .i64 ((k : Int))), (14, .slice Ank (nk).length cnk)] (seen_cons (Eq.trans (by kernel_rfl) hv2_V203_3) (seen_cons (Eq.trans (by kernel_rfl) hv1_V203_3) seen_nil)) (by kernel_rfl) (VT.le.refl _) hM203_3 ((hG203_3 _ _).2 ⟨b199, o200, rfl, at_b199, l202⟩)
            refine all_snoc (.inr ⟨by decide, fun S203_2 g203_2 V203_2 w203_2 F203_2 cx203_2 hM203_2 => ?_⟩) ?_
            · -- op 2
              refine wpF_seg 1 (by kernel_rfl) ?_
              refine wpF_end _ (by kernel_rfl) (then_n ?_)
              exact one_in (some 15) (by kernel_rfl) (.int .i64 ((k : Int))) _ [] seen_nil (by kernel_rfl) (VT.le.refl _) hM203_2 ((hG203_2 _ _).2 rfl)
            refine all_snoc (.inr ⟨by decide, fun S203_1 g203_1 V203_1 w203_1 F203_1 cx203_1 hM203_1 => ?_⟩) ?_
            · -- op 1
              obtain hv0_V203_1 : g203_1 13 = .pointer (some ⟨b126, 1, none⟩) := (hG203_0 _ _).1 (cx203_1.fact 0 13 (by decide) (cx203_1.dep 0 (by kernel_rfl)) (by kernel_rfl))
              refine wpF_see 13 (.pointer (some ⟨b126, 1, none⟩)) (Eq.trans (by kernel_rfl) hv0_V203_1) ?_
              refine wpF_loadB hM203_1 #[.bool (true), .slice Ank (nk).length cnk, .slice Anv (nv).length cnv, .slice Anc (nc).length cnc] (fun i v hi => (le141.trans cx203_1.le) _ _ _ (hc132 i v hi)) (h := (by kernel_rfl : opAt _ _ _ _ _ = some (Go.Op.load 22 (Go.Operand.tmp 13), some 14))) (off := 1) (by kernel_rfl) (.slice Ank (nk).length cnk) (by kernel_rfl) ?_
              refine wpF_end _ (by kernel_rfl) (then_n ?_)
              exact one_in (some 14) (by kernel_rfl) (.slice Ank (nk).length cnk) _ [(13, .pointer (some ⟨b126, 1, none⟩))] (seen_cons (Eq.trans (by kernel_rfl) hv0_V203_1) seen_nil) (by kernel_rfl) (VT.le.refl _) hM203_1 ((hG203_1 _ _).2 rfl)
            refine all_snoc (.inr ⟨by decide, fun S203_0 g203_0 V203_0 w203_0 F203_0 cx203_0 hM203_0 => ?_⟩) ?_
            · -- op 0
              refine wpF_seg 1 (by kernel_rfl) ?_
              refine wpF_end _ (by kernel_rfl) (then_n ?_)
              exact one_in (some 13) (by kernel_rfl) (.pointer (some ⟨b126, 1, none⟩)) _ [] seen_nil (by kernel_rfl) (VT.le.refl _) hM203_0 ((hG203_0 _ _).2 rfl)
            exact all_none
          · -- behind it
            intro ge203 Ve203 we203 hMe203 hle203 hf203
            refine wpF_stop (P := Try.prog) (ops := #[]) (i := 0) _ rfl ?_
            obtain hv0_Ve203 : ge203 13 = .pointer (some ⟨b126, 1, none⟩) := (hG203_0 _ _).1 (hf203 0 13 (by decide) (by kernel_rfl))
            obtain hv1_Ve203 : ge203 14 = .slice Ank (nk).length cnk := (hG203_1 _ _).1 (hf203 1 14 (by decide) (by kernel_rfl))
            obtain hv2_Ve203 : ge203 15 = .int .i64 ((k : Int)) := (hG203_2 _ _).1 (hf203 2 15 (by decide) (by kernel_rfl))
            obtain ⟨b199, o200, hv3_Ve203, at_b199, l202⟩ : ∃ b199 : Nat, ∃ o200 : Nat, ge203 16 = .pointer (some ⟨b199, o200, none⟩) ∧ (At strK Ve203 b199 o200 ((nk.getD (k) []))) ∧ ((nk.getD (k) []).length ≤ 140737488355328) := (hG203_3 _ _).1 (hf203 3 16 (by decide) (by kernel_rfl))
            have c205 : Ve203 b199 o200 = some (bs (nk.getD (k) [])) := (At.str at_b199).1
            have l206 : (nk.getD (k) []).length ≤ 140737488355328 := (At.str at_b199).2
            obtain ⟨hv4_Ve203, l202⟩ : ge203 17 = bs ((nk.getD (k) [])) ∧ ((nk.getD (k) []).length ≤ 140737488355328) := (hG203_4 _ _).1 (hf203 4 17 (by decide) (by kernel_rfl))
            obtain ⟨hv5_Ve203, l202⟩ : ge203 18 = .int .i64 ((((nk.getD (k) [])).length : Int)) ∧ ((nk.getD (k) []).length ≤ 140737488355328) := (hG203_5 _ _).1 (hf203 5 18 (by decide) (by kernel_rfl))
            obtain ⟨hv6_Ve203, l202⟩ : ge203 19 = .bool (false) ∧ ((nk.getD (k) []).length ≤ 140737488355328) := (hG203_6 _ _).1 (hf203 6 19 (by decide) (by kernel_rfl))
            obtain ⟨hv7_Ve203, l202⟩ : ge203 20 = .bool (false) ∧ ((nk.getD (k) []).length ≤ 140737488355328) := (hG203_7 _ _).1 (hf203 7 20 (by decide) (by kernel_rfl))
            obtain hv8_Ve203 : ge203 21 = .int .i64 ((k : Int)) := (hG203_8 _ _).1 (hf203 8 21 (by decide) (by kernel_rfl))
            obtain hv9_Ve203 : ge203 22 = .bool (false) := (hG203_9 _ _).1 (hf203 9 22 (by decide) (by kernel_rfl))
            obtain hv10_Ve203 : ge203 23 = .bool (false) := (hG203_10 _ _).1 (hf203 10 23 (by decide) (by kernel_rfl))
            obtain hv24_Ve203 : ge203 37 = .bool (false) := (hG203_24 _ _).1 (hf203 24 37 (by decide) (by kernel_rfl))
            obtain ⟨hv25_Ve203, l202⟩ : ge203 38 = .bool (false) ∧ ((nk.getD (k) []).length ≤ 140737488355328) := (hG203_25 _ _).1 (hf203 25 38 (by decide) (by kernel_rfl))
            refine wpF_see 13 (.pointer (some ⟨b126, 1, none⟩)) (Eq.trans (by kernel_rfl) hv0_Ve203) ?_
            refine wpF_see 14 (.slice Ank (nk).length cnk) (Eq.trans (by kernel_rfl) hv1_Ve203) ?_
            refine wpF_see 15 (.int .i64 ((k : Int))) (Eq.trans (by kernel_rfl) hv2_Ve203) ?_
            refine wpF_see 16 (.pointer (some ⟨b199, o200, none⟩)) (Eq.trans (by kernel_rfl) hv3_Ve203) ?_
            refine wpF_see 17 (bs ((nk.getD (k) []))) (Eq.trans (by kernel_rfl) hv4_Ve203) ?_
            refine wpF_see 18 (.int .i64 ((((nk.getD (k) [])).length : Int))) (Eq.trans (by kernel_rfl) hv5_Ve203) ?_
            refine wpF_see 19 (.bool (false)) (Eq.trans (by kernel_rfl) hv6_Ve203) ?_
            refine wpF_see 20 (.bool (false)) (Eq.trans (by kernel_rfl) hv7_Ve203) ?_
            refine wpF_see 21 (.int .i64 ((k : Int))) (Eq.trans (by kernel_rfl) hv8_Ve203) ?_
            refine wpF_see 22 (.bool (false)) (Eq.trans (by kernel_rfl) hv9_Ve203) ?_
            refine wpF_see 23 (.bool (false)) (Eq.trans (by kernel_rfl) hv10_Ve203) ?_
            refine wpF_see 37 (.bool (false)) (Eq.trans (by kernel_rfl) hv24_Ve203) ?_
            refine wpF_see 38 (.bool (false)) (Eq.trans (by kernel_rfl) hv25_Ve203) ?_
            refine wpF_end _ (by kernel_rfl) (then_n (hK148 _ _ ?_))
            refine wp_cf (by kernel_rfl) ?_
            refine wp_skip (blk_n (then_n (hK147 _ _ ?_)))
            refine wp_reg ?_
            refine wpF_seg 1 (by kernel_rfl) ?_
            refine wpF_add .i64 ((k : Int)) (1) ((k : Int) + 1) (h := (by kernel_rfl : opAt _ _ _ _ _ = some (Go.Op.binOp Go.BinOp.add 3 (Go.Operand.tmp 11) (Go.Operand.const (Go.Value.int Go.IntKind.i64 1)) 3, some 12))) (by kernel_rfl) (by kernel_rfl) (wrap64_ok _ (by omega)) ?_
            refine wpF_seg 1 (by kernel_rfl) ?_
            refine wpF_base [(1, .pointer (some ⟨b126, 0, none⟩)), (3, .int .i64 ((k + 1 : Int)))] (by kernel_rfl) (fun g208 => ?_)
            refine wpF_end _ (by kernel_rfl) (then_n (hK142 _ _ (k + 1) (by omega) ?_))
            refine ⟨g208, Ve203, rfl, hMe203, (le141.trans hle203), ?_, ?_⟩
            · -- TLtff inv 0
              omega
            · -- TLtff inv 1
              exact upTo_step (by assumption) (by assumption) (by first | exact .inl (by omega) | exact .inr (by assumption))
    · -- TLf
      have p209 : ¬ (((k : Int)) < ((nk.length : Int))) := of_decide_eq_false h145
      refine wp_exit (then_x (then_x (blk_hit (then_n (hK134 _ _ ?_)))))
      obtain rfl : k = nk.length := by omega
      refine wp_seq_k (fun K210 hK210 => ?_)
      refine wp_seq_k (fun K211 hK211 => ?_)
      refine wp_reg ?_
      refine wpF_seg 1 (by kernel_rfl) ?_
      refine wpF_loadB hM140 #[.bool (true), .slice Ank (nk).length cnk, .slice Anv (nv).length cnv, .slice Anc (nc).length cnc] (fun i v hi => le141 _ _ _ (hc132 i v hi)) (h := (by kernel_rfl : opAt _ _ _ _ _ = some (Go.Op.load 4 (Go.Operand.tmp 39), some 40))) (off := 0) (by kernel_rfl) (.bool (true)) (by kernel_rfl) ?_
      refine wpF_seg 1 (by kernel_rfl) ?_
      refine wpF_end _ (by kernel_rfl) (then_n (hK211 _ _ ?_))
      refine wp_cf (by kernel_rfl) ?_
      refine wp_skip (then_n (hK210 _ _ ?_))
      refine wp_seq_k (fun K212 hK212 => ?_)
      refine wp_seq_k (fun K213 hK213 => ?_)
      refine wp_reg ?_
      refine wpF_seg 1 (by kernel_rfl) ?_
      refine wpF_end _ (by kernel_rfl) (then_n (hK213 _ _ ?_))
      refine wp_block ?_
      refine wp_base [(1, .pointer (some ⟨b126, 0, none⟩)), (5, .int .i64 ((0 : Int)))] (by kernel_rfl) (fun g215 => ?_)
      refine wp_loopX (fun (x_ : Nat) a_ w_ => ∃ (g : Nat → Value) (V_ : VT), a_ = env 104 [(1, .pointer (some ⟨b126, 0, none⟩)), (5, .int .i64 ((x_ : Int)))] g ∧ Step V w [] V_ w_ [] ∧ VT.le Vl136 V_ ∧ (x_ ≤ nv.length) ∧ (∀ i, i < x_ → ¬ (200 : Int) < ((nv.getD i []).length : Int))) (fun (x_ : Nat) => nv.length - x_) (0) ⟨g215, Vl136, rfl, hM140, VT.le.refl _, by omega, by (intro i hi; omega)⟩ ?_
      rintro q a_ w217 ⟨g216, Vl214, rfl, hM218, le219, hi220_0, hi220_1⟩ K220 hK220
      refine wp_seq_k (fun K221 hK221 => ?_)
      refine wp_seq_k (fun K222 hK222 => ?_)
      refine wp_reg ?_
      refine wpF_seg 2 (by kernel_rfl) ?_
      refine wpF_loadB hM218 #[.bool (true), .slice Ank (nk).length cnk, .slice Anv (nv).length cnv, .slice Anc (nc).length cnc] (fun i v hi => (le141.trans le219) _ _ _ (hc132 i v hi)) (h := (by kernel_rfl : opAt _ _ _ _ _ = some (Go.Op.load 22 (Go.Operand.tmp 78), some 79))) (off := 2) (by kernel_rfl) (.slice Anv (nv).length cnv) (by kernel_rfl) ?_
      refine wpF_seg 2 (by kernel_rfl) ?_
      refine wpF_end _ (by kernel_rfl) (then_n (hK222 _ _ ?_))
      refine wp_if (decide (((q : Int)) < ((nv.length : Int)))) (by kernel_rfl) (fun h223 => ?_) (fun h223 => ?_)
      · -- TLfLt
        have p224 : (((q : Int)) < ((nv.length : Int))) := of_decide_eq_true h223
        refine wp_skip (then_n (hK221 _ _ ?_))
        refine wp_seq_k (fun K225 hK225 => ?_)
        refine wp_block ?_
        refine wp_seq_k (fun K226 hK226 => ?_)
        refine wp_reg ?_
        refine wpF_seg 1 (by kernel_rfl) ?_
        refine wpF_loadB hM218 #[.bool (true), .slice Ank (nk).length cnk, .slice Anv (nv).length cnv, .slice Anc (nc).length cnc] (fun i v hi => (le141.trans le219) _ _ _ (hc132 i v hi)) (h := (by kernel_rfl : opAt _ _ _ _ _ = some (Go.Op.load 22 (Go.Operand.tmp 84), some 85))) (off := 2) (by kernel_rfl) (.slice Anv (nv).length cnv) (by kernel_rfl) ?_
        refine wpF_seg 1 (by kernel_rfl) ?_
        refine wpF_index (A := Anv) (c := cnv) (hnv.up hM218.le) .i64 ((q : Int)) (h := (by kernel_rfl : opAt _ _ _ _ _ = some (Go.Op.indexAddr 22 (Go.Operand.tmp 85) (Go.Operand.tmp 86), some 87))) (e := 9) (by kernel_rfl) (by kernel_rfl) (by kernel_rfl) (q) rfl (by omega) (fun b227 o228 at_b227 => ?_)
        have c229 : Vl214 b227 o228 = some (bs (nv.getD (q) [])) := (At.str at_b227).1
        have l230 : (nv.getD (q) []).length ≤ 140737488355328 := (At.str at_b227).2
        refine wpF_loadV hM218 c229 (h := (by kernel_rfl : opAt _ _ _ _ _ = some (Go.Op.load 9 (Go.Operand.tmp 87), some 88))) (by kernel_rfl) (by kernel_rfl) ?_
        refine wpF_seg 2 (by kernel_rfl) ?_
        refine wpF_end _ (by kernel_rfl) (then_n (hK226 _ _ ?_))
        refine wp_if (decide ((200) < ((((nv.getD (q) [])).length : Int)))) (by kernel_rfl) (fun h231 => ?_) (fun h231 => ?_)
        · -- TLfLtt
          have p232 : ((200) < ((((nv.getD (q) [])).length : Int))) := of_decide_eq_true h231
          refine wp_seq_k (fun K233 hK233 => ?_)
          refine wp_reg ?_
          refine wpF_seg 1 (by kernel_rfl) ?_
          refine wpF_end _ (by kernel_rfl) (then_n (hK233 _ _ ?_))
          refine wp_ret (blk_r (then_r (then_r (blk_r (then_r (?_))))))
          refine retN [.bool (false)] (.bool (false)) Try.results35 (.tmp (by kernel_rfl) (by kernel_rfl) .nil) (by kernel_rfl) (hRet _ _ ⟨_, _, rfl, hM218.clear, ?_⟩)
          -- end TLfLtt
          first | exact congrArg Value.bool (stands_long (k := k) (by omega) (by assumption)).symm | exact congrArg Value.bool (stands_rise (k := k) (by omega) (by omega) (by assumption)).symm | exact congrArg Value.bool (stands_val (k := q) (by omega) (by assumption)).symm | exact congrArg Value.bool (stands_kid (k := m) (by omega) (by omega)).symm | (rw [stands_all (by assumption)]; (first | rw [vals_none (by assumption)] | rw [kids_none (by assumption)]); simp only [h145, h223, h231, cond_true, cond_false, Bool.true_and, Bool.and_true, Bool.false_and, Bool.and_false, Bool.not_true, Bool.not_false])
        · -- TLfLtf
          have p234 : ¬ ((200) < ((((nv.getD (q) [])).length : Int))) := of_decide_eq_false h231
          refine wp_skip (blk_n (then_n (hK225 _ _ ?_)))
          refine wp_reg ?_
          refine wpF_seg 1 (by kernel_rfl) ?_
          refine wpF_add .i64 ((q : Int)) (1) ((q : Int) + 1) (h := (by kernel_rfl : opAt _ _ _ _ _ = some (Go.Op.binOp Go.BinOp.add 3 (Go.Operand.tmp 82) (Go.Operand.const (Go.Value.int Go.IntKind.i64 1)) 3, some 83))) (by kernel_rfl) (by kernel_rfl) (wrap64_ok _ (by omega)) ?_
          refine wpF_seg 1 (by kernel_rfl) ?_
          refine wpF_base [(1, .pointer (some ⟨b126, 0, none⟩)), (5, .int .i64 ((q + 1 : Int)))] (by kernel_rfl) (fun g235 => ?_)
          refine wpF_end _ (by kernel_rfl) (then_n (hK220 _ _ (q + 1) (by omega) ?_))
          refine ⟨g235, Vl214, rfl, hM218, le219, ?_, ?_⟩
          · -- TLfLtf inv 0
            omega
          · -- TLfLtf inv 1
            exact all_step (by assumption) (by omega)
      · -- TLfLf
        have p236 : ¬ (((q : Int)) < ((nv.length : Int))) := of_decide_eq_false h223
        refine wp_exit (then_x (then_x (blk_hit (then_n (hK212 _ _ ?_)))))
        obtain rfl : q = nv.length := by omega
        refine wp_seq_k (fun K237 hK237 => ?_)
        refine wp_reg ?_
        refine wpF_seg 1 (by kernel_rfl) ?_
        refine wpF_loadB hM218 #[.bool (true), .slice Ank (nk).length cnk, .slice Anv (nv).length cnv, .slice Anc (nc).length cnc] (fun i v hi => (le141.trans le219) _ _ _ (hc132 i v hi)) (h := (by kernel_rfl : opAt _ _ _ _ _ = some (Go.Op.load 22 (Go.Operand.tmp 91), some 92))) (off := 2) (by kernel_rfl) (.slice Anv (nv).length cnv) (by kernel_rfl) ?_
        refine wpF_seg 2 (by kernel_rfl) ?_
        refine wpF_loadB hM218 #[.bool (true), .slice Ank (nk).length cnk, .slice Anv (nv).length cnv, .slice Anc (nc).length cnc] (fun i v hi => (le141.trans le219) _ _ _ (hc132 i v hi)) (h := (by kernel_rfl : opAt _ _ _ _ _ = some (Go.Op.load 22 (Go.Operand.tmp 94), some 95))) (off := 1) (by kernel_rfl) (.slice Ank (nk).length cnk) (by kernel_rfl) ?_
        refine wpF_seg 3 (by kernel_rfl) ?_
        refine wpF_caseB 98 (decide (((nv.length : Int)) = ((nk.length : Int)))) (by kernel_rfl) (by kernel_rfl) (fun h238 => ?_) (fun h238 => ?_)
        · -- TLfLft
          have p239 : (((nv.length : Int)) = ((nk.length : Int))) := of_decide_eq_true h238
          refine wpF_seg 1 (by kernel_rfl) ?_
          refine wpF_loadB hM218 #[.bool (true), .slice Ank (nk).length cnk, .slice Anv (nv).length cnv, .slice Anc (nc).length cnc] (fun i v hi => (le141.trans le219) _ _ _ (hc132 i v hi)) (h := (by kernel_rfl : opAt _ _ _ _ _ = some (Go.Op.load 23 (Go.Operand.tmp 99), some 100))) (off := 3) (by kernel_rfl) (.slice Anc (nc).length cnc) (by kernel_rfl) ?_
          refine wpF_seg 4 (by kernel_rfl) ?_
          refine wpF_end _ (by kernel_rfl) (then_n (hK237 _ _ ?_))
          refine wp_ret ?_
          refine retN [.bool (decide (((nc.length : Int)) = (0)))] (.bool (decide (((nc.length : Int)) = (0)))) Try.results35 (.tmp (by kernel_rfl) (by kernel_rfl) .nil) (by kernel_rfl) (hRet _ _ ⟨_, _, rfl, hM218.clear, ?_⟩)
          -- end TLfLft
          first | exact congrArg Value.bool (stands_long (k := k) (by omega) (by assumption)).symm | exact congrArg Value.bool (stands_rise (k := k) (by omega) (by omega) (by assumption)).symm | exact congrArg Value.bool (stands_val (k := q) (by omega) (by assumption)).symm | exact congrArg Value.bool (stands_kid (k := m) (by omega) (by omega)).symm | (rw [stands_all (by assumption)]; (first | rw [vals_none (by assumption)] | rw [kids_none (by assumption)]); simp only [h145, h223, h238, cond_true, cond_false, Bool.true_and, Bool.and_true, Bool.false_and, Bool.and_false, Bool.not_true, Bool.not_false])
        · -- TLfLff
          have p240 : ¬ (((nv.length : Int)) = ((nk.length : Int))) := of_decide_eq_false h238
          refine wpF_seg 6 (by kernel_rfl) ?_
          refine wpF_end _ (by kernel_rfl) (then_n (hK237 _ _ ?_))
          refine wp_ret ?_
          refine retN [.bool (false)] (.bool (false)) Try.results35 (.tmp (by kernel_rfl) (by kernel_rfl) .nil) (by kernel_rfl) (hRet _ _ ⟨_, _, rfl, hM218.clear, ?_⟩)
          -- end TLfLff
          first | exact congrArg Value.bool (stands_long (k := k) (by omega) (by assumption)).symm | exact congrArg Value.bool (stands_rise (k := k) (by omega) (by omega) (by assumption)).symm | exact congrArg Value.bool (stands_val (k := q) (by omega) (by assumption)).symm | exact congrArg Value.bool (stands_kid (k := m) (by omega) (by omega)).symm | (rw [stands_all (by assumption)]; (first | rw [vals_none (by assumption)] | rw [kids_none (by assumption)]); simp only [h145, h223, h238, cond_true, cond_false, Bool.true_and, Bool.and_true, Bool.false_and, Bool.and_false, Bool.not_true, Bool.not_false])

end Go.Vk
