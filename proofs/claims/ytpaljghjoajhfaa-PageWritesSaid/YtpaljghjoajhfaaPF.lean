/- Contracts of the page's functions, part F: printed by wip/tools/p8.py. -/
import Derived.Test.YtpaljghjoajhfaaPE
set_option linter.unusedVariables false
set_option linter.unusedSimpArgs false
namespace Go.Vk
open Go.Proofs
set_option maxRecDepth 100000 in
theorem f49 (V : VT) (w : World) (hV : V.inW w) (a : Str) (ha : a.length ≤ maxL) (b : Str) (hb : b.length ≤ maxL) :
    Calls Try.prog 49 #[bs (a), bs (b)] w (RetP V w fun rv V' => rv = .bool (decide (a < b))) := by
  have mxa : a.length ≤ 140737488355328 := ha
  have mxb : b.length ≤ 140737488355328 := hb
  refine calls_env (n := 37) Try.func49 (c := _) rfl Try.ntmps49 (by kernel_rfl) (fun R hRet => ?_)
  have hM0 : Step V w [] V w [] := Step.refl (St.nilE hV)
  refine wp_seq_k (fun K1 hK1 => ?_)
  refine wp_reg ?_
  refine wpF_seg 1 (by kernel_rfl) ?_
  refine wpF_end _ (by kernel_rfl) (then_n (hK1 _ _ ?_))
  refine wp_seq_k (fun K2 hK2 => ?_)
  refine wp_seq_k (fun K3 hK3 => ?_)
  refine wp_reg ?_
  refine wpF_seg 1 (by kernel_rfl) ?_
  refine wpF_end _ (by kernel_rfl) (then_n (hK3 _ _ ?_))
  refine wp_block ?_
  refine wp_base [(0, bs (a)), (1, bs (b)), (5, .int .i64 ((0 : Int)))] (by kernel_rfl) (fun g5 => ?_)
  refine wp_loopX (fun (x_ : Nat) a_ w_ => ∃ (g : Nat → Value) (V_ : VT), a_ = env 37 [(0, bs (a)), (1, bs (b)), (5, .int .i64 ((x_ : Int)))] g ∧ Step V w [] V_ w_ [] ∧ VT.le V V_ ∧ (x_ ≤ a.length ∧ x_ ≤ b.length) ∧ (∀ j, j < x_ → a.getD j 0 = b.getD j 0)) (fun (x_ : Nat) => a.length - x_) (0) ⟨g5, V, rfl, hM0, VT.le.refl _, by omega, by (intro j hj; omega)⟩ ?_
  rintro k a_ w7 ⟨g6, Vl4, rfl, hM8, le9, hi10_0, hi10_1⟩ K10 hK10
  refine wp_seq_k (fun K11 hK11 => ?_)
  refine wp_seq_k (fun K12 hK12 => ?_)
  refine wp_reg ?_
  refine wpF_seg 5 (by kernel_rfl) ?_
  refine wpF_caseB 10 (decide (((k : Int)) < ((a.length : Int)))) (by kernel_rfl) (by kernel_rfl) (fun h13 => ?_) (fun h13 => ?_)
  · -- Lt
    have p14 : (((k : Int)) < ((a.length : Int))) := of_decide_eq_true h13
    refine wpF_seg 5 (by kernel_rfl) ?_
    refine wpF_end _ (by kernel_rfl) (then_n (hK12 _ _ ?_))
    refine wp_if (decide (((k : Int)) < ((b.length : Int)))) (by kernel_rfl) (fun h15 => ?_) (fun h15 => ?_)
    · -- Ltt
      have p16 : (((k : Int)) < ((b.length : Int))) := of_decide_eq_true h15
      refine wp_skip (then_n (hK11 _ _ ?_))
      refine wp_seq_k (fun K17 hK17 => ?_)
      refine wp_block ?_
      refine wp_seq_k (fun K18 hK18 => ?_)
      refine wp_base [(0, bs (a)), (1, bs (b)), (5, .int .i64 ((k : Int))), (6, .int .i64 ((k : Int))), (7, bs (a)), (8, .int .i64 ((a.length : Int))), (9, .bool (decide (((k : Int)) < ((a.length : Int))))), (10, .bool (true)), (11, .int .i64 ((k : Int))), (12, bs (b)), (13, .int .i64 ((b.length : Int))), (14, .bool (decide (((k : Int)) < ((b.length : Int))))), (15, .bool (decide (((k : Int)) < ((b.length : Int)))))] (by kernel_rfl) (fun g0_19 => ?_)
      obtain ⟨G19, hGm19, hG19_0, hG19_1, hG19_2, hG19_3, hG19_4, hG19_5, hG19_6⟩ : ∃ G : Nat → Value → VT → Prop, (∀ j v V V', VT.le V V' → G j v V → G j v V') ∧ (∀ v_ V_, G 0 v_ V_ ↔ (v_ = bs (a))) ∧ (∀ v_ V_, G 1 v_ V_ ↔ (v_ = .int .i64 ((k : Int)))) ∧ (∀ v_ V_, G 2 v_ V_ ↔ (v_ = .int .u8 (((a.getD (k) 0).toNat : Int)))) ∧ (∀ v_ V_, G 3 v_ V_ ↔ (v_ = bs (b))) ∧ (∀ v_ V_, G 4 v_ V_ ↔ (v_ = .int .i64 ((k : Int)))) ∧ (∀ v_ V_, G 5 v_ V_ ↔ (v_ = .int .u8 (((b.getD (k) 0).toNat : Int)))) ∧ (∀ v_ V_, G 6 v_ V_ ↔ (v_ = .bool (!(decide ((((a.getD (k) 0).toNat : Int)) = (((b.getD (k) 0).toNat : Int))))))) :=
          ⟨mG [mV (bs (a)), mV (.int .i64 ((k : Int))), mV (.int .u8 (((a.getD (k) 0).toNat : Int))), mV (bs (b)), mV (.int .i64 ((k : Int))), mV (.int .u8 (((b.getD (k) 0).toNat : Int))), mV (.bool (!(decide ((((a.getD (k) 0).toNat : Int)) = (((b.getD (k) 0).toNat : Int))))))], mG_up _, fun _ _ => Iff.rfl, fun _ _ => Iff.rfl, fun _ _ => Iff.rfl, fun _ _ => Iff.rfl, fun _ _ => Iff.rfl, fun _ _ => Iff.rfl, fun _ _ => Iff.rfl⟩
      refine wp_drawG (L0 := [(0, bs (a)), (1, bs (b)), (5, .int .i64 ((k : Int))), (6, .int .i64 ((k : Int))), (7, bs (a)), (8, .int .i64 ((a.length : Int))), (9, .bool (decide (((k : Int)) < ((a.length : Int))))), (10, .bool (true)), (11, .int .i64 ((k : Int))), (12, bs (b)), (13, .int .i64 ((b.length : Int))), (14, .bool (decide (((k : Int)) < ((b.length : Int))))), (15, .bool (decide (((k : Int)) < ((b.length : Int)))))]) 7 (by kernel_rfl) (by kernel_rfl) (by kernel_rfl) (by kernel_rfl) (by kernel_rfl) G19 hGm19 [] pre_nil (by kernel_rfl) [] (by kernel_rfl) (fun (S : Nat → Bool) (g : Nat → Value) => ([] : List Ent)) (fun _ _ _ _ _ => rfl) hM8 ?_ ?_
      · -- the operations
        refine all_snoc (.inr ⟨by decide, fun S19_6 g19_6 V19_6 w19_6 F19_6 cx19_6 hM19_6 => ?_⟩) ?_
        · -- op 6
          obtain hv2_V19_6 : g19_6 20 = .int .u8 (((a.getD (k) 0).toNat : Int)) := (hG19_2 _ _).1 (cx19_6.fact 2 20 (by decide) (cx19_6.dep 2 (by kernel_rfl)) (by kernel_rfl))
          obtain hv5_V19_6 : g19_6 23 = .int .u8 (((b.getD (k) 0).toNat : Int)) := (hG19_5 _ _).1 (cx19_6.fact 5 23 (by decide) (cx19_6.dep 5 (by kernel_rfl)) (by kernel_rfl))
          refine wpF_see 20 (.int .u8 (((a.getD (k) 0).toNat : Int))) (Eq.trans (by kernel_rfl) hv2_V19_6) ?_
          refine wpF_see 23 (.int .u8 (((b.getD (k) 0).toNat : Int))) (Eq.trans (by kernel_rfl) hv5_V19_6) ?_
          refine wpF_seg 1 (by kernel_rfl) ?_
          refine wpF_end _ (by kernel_rfl) (then_n ?_)
          exact one_in (some 24) (by kernel_rfl) (.bool (!(decide ((((a.getD (k) 0).toNat : Int)) = (((b.getD (k) 0).toNat : Int)))))) _ [(23, .int .u8 (((b.getD (k) 0).toNat : Int))), (20, .int .u8 (((a.getD (k) 0).toNat : Int)))] (seen_cons (Eq.trans (by kernel_rfl) hv5_V19_6) (seen_cons (Eq.trans (by kernel_rfl) hv2_V19_6) seen_nil)) (by kernel_rfl) (VT.le.refl _) hM19_6 ((hG19_6 _ _).2 rfl)
        refine all_snoc (.inr ⟨by decide, fun S19_5 g19_5 V19_5 w19_5 F19_5 cx19_5 hM19_5 => ?_⟩) ?_
        · -- op 5
          obtain hv3_V19_5 : g19_5 21 = bs (b) := (hG19_3 _ _).1 (cx19_5.fact 3 21 (by decide) (cx19_5.dep 3 (by kernel_rfl)) (by kernel_rfl))
          obtain hv4_V19_5 : g19_5 22 = .int .i64 ((k : Int)) := (hG19_4 _ _).1 (cx19_5.fact 4 22 (by decide) (cx19_5.dep 4 (by kernel_rfl)) (by kernel_rfl))
          refine wpF_see 21 (bs (b)) (Eq.trans (by kernel_rfl) hv3_V19_5) ?_
          refine wpF_see 22 (.int .i64 ((k : Int))) (Eq.trans (by kernel_rfl) hv4_V19_5) ?_
          refine wpF_strIndex (b) .i64 ((k : Int)) (h := (by kernel_rfl : opAt _ _ _ _ _ = some (Go.Op.index 9 (Go.Operand.tmp 21) (Go.Operand.tmp 22), some 23))) (by kernel_rfl) (by kernel_rfl) (by kernel_rfl) (k) rfl (by omega) ?_
          refine wpF_end _ (by kernel_rfl) (then_n ?_)
          exact one_in (some 23) (by kernel_rfl) (.int .u8 (((b.getD (k) 0).toNat : Int))) _ [(22, .int .i64 ((k : Int))), (21, bs (b))] (seen_cons (Eq.trans (by kernel_rfl) hv4_V19_5) (seen_cons (Eq.trans (by kernel_rfl) hv3_V19_5) seen_nil)) (by kernel_rfl) (VT.le.refl _) hM19_5 ((hG19_5 _ _).2 rfl)
        refine all_snoc (.inr ⟨by decide, fun S19_4 g19_4 V19_4 w19_4 F19_4 cx19_4 hM19_4 => ?_⟩) ?_
        · -- op 4
          refine wpF_seg 1 (by kernel_rfl) ?_
          refine wpF_end _ (by kernel_rfl) (then_n ?_)
          exact one_in (some 22) (by kernel_rfl) (.int .i64 ((k : Int))) _ [] seen_nil (by kernel_rfl) (VT.le.refl _) hM19_4 ((hG19_4 _ _).2 rfl)
        refine all_snoc (.inr ⟨by decide, fun S19_3 g19_3 V19_3 w19_3 F19_3 cx19_3 hM19_3 => ?_⟩) ?_
        · -- op 3
          refine wpF_seg 1 (by kernel_rfl) ?_
          refine wpF_end _ (by kernel_rfl) (then_n ?_)
          exact one_in (some 21) (by kernel_rfl) (bs (b)) _ [] seen_nil (by kernel_rfl) (VT.le.refl _) hM19_3 ((hG19_3 _ _).2 rfl)
        refine all_snoc (.inr ⟨by decide, fun S19_2 g19_2 V19_2 w19_2 F19_2 cx19_2 hM19_2 => ?_⟩) ?_
        · -- op 2
          obtain hv0_V19_2 : g19_2 18 = bs (a) := (hG19_0 _ _).1 (cx19_2.fact 0 18 (by decide) (cx19_2.dep 0 (by kernel_rfl)) (by kernel_rfl))
          obtain hv1_V19_2 : g19_2 19 = .int .i64 ((k : Int)) := (hG19_1 _ _).1 (cx19_2.fact 1 19 (by decide) (cx19_2.dep 1 (by kernel_rfl)) (by kernel_rfl))
          refine wpF_see 18 (bs (a)) (Eq.trans (by kernel_rfl) hv0_V19_2) ?_
          refine wpF_see 19 (.int .i64 ((k : Int))) (Eq.trans (by kernel_rfl) hv1_V19_2) ?_
          refine wpF_strIndex (a) .i64 ((k : Int)) (h := (by kernel_rfl : opAt _ _ _ _ _ = some (Go.Op.index 9 (Go.Operand.tmp 18) (Go.Operand.tmp 19), some 20))) (by kernel_rfl) (by kernel_rfl) (by kernel_rfl) (k) rfl (by omega) ?_
          refine wpF_end _ (by kernel_rfl) (then_n ?_)
          exact one_in (some 20) (by kernel_rfl) (.int .u8 (((a.getD (k) 0).toNat : Int))) _ [(19, .int .i64 ((k : Int))), (18, bs (a))] (seen_cons (Eq.trans (by kernel_rfl) hv1_V19_2) (seen_cons (Eq.trans (by kernel_rfl) hv0_V19_2) seen_nil)) (by kernel_rfl) (VT.le.refl _) hM19_2 ((hG19_2 _ _).2 rfl)
        refine all_snoc (.inr ⟨by decide, fun S19_1 g19_1 V19_1 w19_1 F19_1 cx19_1 hM19_1 => ?_⟩) ?_
        · -- op 1
          refine wpF_seg 1 (by kernel_rfl) ?_
          refine wpF_end _ (by kernel_rfl) (then_n ?_)
          exact one_in (some 19) (by kernel_rfl) (.int .i64 ((k : Int))) _ [] seen_nil (by kernel_rfl) (VT.le.refl _) hM19_1 ((hG19_1 _ _).2 rfl)
        refine all_snoc (.inr ⟨by decide, fun S19_0 g19_0 V19_0 w19_0 F19_0 cx19_0 hM19_0 => ?_⟩) ?_
        · -- op 0
          refine wpF_seg 1 (by kernel_rfl) ?_
          refine wpF_end _ (by kernel_rfl) (then_n ?_)
          exact one_in (some 18) (by kernel_rfl) (bs (a)) _ [] seen_nil (by kernel_rfl) (VT.le.refl _) hM19_0 ((hG19_0 _ _).2 rfl)
        exact all_none
      · -- behind it
        intro ge19 Ve19 we19 hMe19 hle19 hf19
        refine wpF_stop (P := Try.prog) (ops := #[]) (i := 0) _ rfl ?_
        obtain hv0_Ve19 : ge19 18 = bs (a) := (hG19_0 _ _).1 (hf19 0 18 (by decide) (by kernel_rfl))
        obtain hv1_Ve19 : ge19 19 = .int .i64 ((k : Int)) := (hG19_1 _ _).1 (hf19 1 19 (by decide) (by kernel_rfl))
        obtain hv2_Ve19 : ge19 20 = .int .u8 (((a.getD (k) 0).toNat : Int)) := (hG19_2 _ _).1 (hf19 2 20 (by decide) (by kernel_rfl))
        obtain hv3_Ve19 : ge19 21 = bs (b) := (hG19_3 _ _).1 (hf19 3 21 (by decide) (by kernel_rfl))
        obtain hv4_Ve19 : ge19 22 = .int .i64 ((k : Int)) := (hG19_4 _ _).1 (hf19 4 22 (by decide) (by kernel_rfl))
        obtain hv5_Ve19 : ge19 23 = .int .u8 (((b.getD (k) 0).toNat : Int)) := (hG19_5 _ _).1 (hf19 5 23 (by decide) (by kernel_rfl))
        obtain hv6_Ve19 : ge19 24 = .bool (!(decide ((((a.getD (k) 0).toNat : Int)) = (((b.getD (k) 0).toNat : Int))))) := (hG19_6 _ _).1 (hf19 6 24 (by decide) (by kernel_rfl))
        refine wpF_see 18 (bs (a)) (Eq.trans (by kernel_rfl) hv0_Ve19) ?_
        refine wpF_see 19 (.int .i64 ((k : Int))) (Eq.trans (by kernel_rfl) hv1_Ve19) ?_
        refine wpF_see 20 (.int .u8 (((a.getD (k) 0).toNat : Int))) (Eq.trans (by kernel_rfl) hv2_Ve19) ?_
        refine wpF_see 21 (bs (b)) (Eq.trans (by kernel_rfl) hv3_Ve19) ?_
        refine wpF_see 22 (.int .i64 ((k : Int))) (Eq.trans (by kernel_rfl) hv4_Ve19) ?_
        refine wpF_see 23 (.int .u8 (((b.getD (k) 0).toNat : Int))) (Eq.trans (by kernel_rfl) hv5_Ve19) ?_
        refine wpF_see 24 (.bool (!(decide ((((a.getD (k) 0).toNat : Int)) = (((b.getD (k) 0).toNat : Int)))))) (Eq.trans (by kernel_rfl) hv6_Ve19) ?_
        refine wpF_end _ (by kernel_rfl) (then_n (hK18 _ _ ?_))
        refine wp_if (!(decide ((((a.getD (k) 0).toNat : Int)) = (((b.getD (k) 0).toNat : Int))))) (by kernel_rfl) (fun h22 => ?_) (fun h22 => ?_)
        · -- Lttt
          have h23 : decide ((((a.getD (k) 0).toNat : Int)) = (((b.getD (k) 0).toNat : Int))) = false := by rw [← Bool.not_not (decide _), h22]; rfl
          have p24 : ¬ ((((a.getD (k) 0).toNat : Int)) = (((b.getD (k) 0).toNat : Int))) := of_decide_eq_false h23
          refine wp_seq_k (fun K25 hK25 => ?_)
          refine wp_base [(0, bs (a)), (1, bs (b)), (5, .int .i64 ((k : Int))), (6, .int .i64 ((k : Int))), (7, bs (a)), (8, .int .i64 ((a.length : Int))), (9, .bool (decide (((k : Int)) < ((a.length : Int))))), (10, .bool (true)), (11, .int .i64 ((k : Int))), (12, bs (b)), (13, .int .i64 ((b.length : Int))), (14, .bool (decide (((k : Int)) < ((b.length : Int))))), (15, .bool (decide (((k : Int)) < ((b.length : Int))))), (18, bs (a)), (19, .int .i64 ((k : Int))), (20, .int .u8 (((a.getD (k) 0).toNat : Int))), (21, bs (b)), (22, .int .i64 ((k : Int))), (23, .int .u8 (((b.getD (k) 0).toNat : Int))), (24, .bool (!(decide ((((a.getD (k) 0).toNat : Int)) = (((b.getD (k) 0).toNat : Int))))))] (by kernel_rfl) (fun g0_26 => ?_)
          obtain ⟨G26, hGm26, hG26_0, hG26_1, hG26_2, hG26_3, hG26_4, hG26_5, hG26_6, hG26_7⟩ : ∃ G : Nat → Value → VT → Prop, (∀ j v V V', VT.le V V' → G j v V → G j v V') ∧ (∀ v_ V_, G 0 v_ V_ ↔ (v_ = bs (a))) ∧ (∀ v_ V_, G 1 v_ V_ ↔ (v_ = .int .i64 ((k : Int)))) ∧ (∀ v_ V_, G 2 v_ V_ ↔ (v_ = .int .u8 (((a.getD (k) 0).toNat : Int)))) ∧ (∀ v_ V_, G 3 v_ V_ ↔ (v_ = bs (b))) ∧ (∀ v_ V_, G 4 v_ V_ ↔ (v_ = .int .i64 ((k : Int)))) ∧ (∀ v_ V_, G 5 v_ V_ ↔ (v_ = .int .u8 (((b.getD (k) 0).toNat : Int)))) ∧ (∀ v_ V_, G 6 v_ V_ ↔ (v_ = .bool (decide ((((a.getD (k) 0).toNat : Int)) < (((b.getD (k) 0).toNat : Int)))))) ∧ (∀ v_ V_, G 7 v_ V_ ↔ (v_ = .bool (decide ((((a.getD (k) 0).toNat : Int)) < (((b.getD (k) 0).toNat : Int)))))) :=
              ⟨mG [mV (bs (a)), mV (.int .i64 ((k : Int))), mV (.int .u8 (((a.getD (k) 0).toNat : Int))), mV (bs (b)), mV (.int .i64 ((k : Int))), mV (.int .u8 (((b.getD (k) 0).toNat : Int))), mV (.bool (decide ((((a.getD (k) 0).toNat : Int)) < (((b.getD (k) 0).toNat : Int))))), mV (.bool (decide ((((a.getD (k) 0).toNat : Int)) < (((b.getD (k) 0).toNat : Int)))))], mG_up _, fun _ _ => Iff.rfl, fun _ _ => Iff.rfl, fun _ _ => Iff.rfl, fun _ _ => Iff.rfl, fun _ _ => Iff.rfl, fun _ _ => Iff.rfl, fun _ _ => Iff.rfl, fun _ _ => Iff.rfl⟩
          refine wp_drawG (L0 := [(0, bs (a)), (1, bs (b)), (5, .int .i64 ((k : Int))), (6, .int .i64 ((k : Int))), (7, bs (a)), (8, .int .i64 ((a.length : Int))), (9, .bool (decide (((k : Int)) < ((a.length : Int))))), (10, .bool (true)), (11, .int .i64 ((k : Int))), (12, bs (b)), (13, .int .i64 ((b.length : Int))), (14, .bool (decide (((k : Int)) < ((b.length : Int))))), (15, .bool (decide (((k : Int)) < ((b.length : Int))))), (18, bs (a)), (19, .int .i64 ((k : Int))), (20, .int .u8 (((a.getD (k) 0).toNat : Int))), (21, bs (b)), (22, .int .i64 ((k : Int))), (23, .int .u8 (((b.getD (k) 0).toNat : Int))), (24, .bool (!(decide ((((a.getD (k) 0).toNat : Int)) = (((b.getD (k) 0).toNat : Int))))))]) 8 (by kernel_rfl) (by kernel_rfl) (by kernel_rfl) (by kernel_rfl) (by kernel_rfl) G26 hGm26 [] pre_nil (by kernel_rfl) [] (by kernel_rfl) (fun (S : Nat → Bool) (g : Nat → Value) => ([] : List Ent)) (fun _ _ _ _ _ => rfl) hMe19 ?_ ?_
          · -- the operations
            refine all_snoc (.inr ⟨by decide, fun S26_7 g26_7 V26_7 w26_7 F26_7 cx26_7 hM26_7 => ?_⟩) ?_
            · -- op 7
              obtain hv6_V26_7 : g26_7 31 = .bool (decide ((((a.getD (k) 0).toNat : Int)) < (((b.getD (k) 0).toNat : Int)))) := (hG26_6 _ _).1 (cx26_7.fact 6 31 (by decide) (cx26_7.dep 6 (by kernel_rfl)) (by kernel_rfl))
              refine wpF_see 31 (.bool (decide ((((a.getD (k) 0).toNat : Int)) < (((b.getD (k) 0).toNat : Int))))) (Eq.trans (by kernel_rfl) hv6_V26_7) ?_
              refine wpF_seg 1 (by kernel_rfl) ?_
              refine wpF_end _ (by kernel_rfl) (then_n ?_)
              exact one_in (some 4) (by kernel_rfl) (.bool (decide ((((a.getD (k) 0).toNat : Int)) < (((b.getD (k) 0).toNat : Int))))) _ [(31, .bool (decide ((((a.getD (k) 0).toNat : Int)) < (((b.getD (k) 0).toNat : Int)))))] (seen_cons (Eq.trans (by kernel_rfl) hv6_V26_7) seen_nil) (by kernel_rfl) (VT.le.refl _) hM26_7 ((hG26_7 _ _).2 rfl)
            refine all_snoc (.inr ⟨by decide, fun S26_6 g26_6 V26_6 w26_6 F26_6 cx26_6 hM26_6 => ?_⟩) ?_
            · -- op 6
              obtain hv2_V26_6 : g26_6 27 = .int .u8 (((a.getD (k) 0).toNat : Int)) := (hG26_2 _ _).1 (cx26_6.fact 2 27 (by decide) (cx26_6.dep 2 (by kernel_rfl)) (by kernel_rfl))
              obtain hv5_V26_6 : g26_6 30 = .int .u8 (((b.getD (k) 0).toNat : Int)) := (hG26_5 _ _).1 (cx26_6.fact 5 30 (by decide) (cx26_6.dep 5 (by kernel_rfl)) (by kernel_rfl))
              refine wpF_see 27 (.int .u8 (((a.getD (k) 0).toNat : Int))) (Eq.trans (by kernel_rfl) hv2_V26_6) ?_
              refine wpF_see 30 (.int .u8 (((b.getD (k) 0).toNat : Int))) (Eq.trans (by kernel_rfl) hv5_V26_6) ?_
              refine wpF_seg 1 (by kernel_rfl) ?_
              refine wpF_end _ (by kernel_rfl) (then_n ?_)
              exact one_in (some 31) (by kernel_rfl) (.bool (decide ((((a.getD (k) 0).toNat : Int)) < (((b.getD (k) 0).toNat : Int))))) _ [(30, .int .u8 (((b.getD (k) 0).toNat : Int))), (27, .int .u8 (((a.getD (k) 0).toNat : Int)))] (seen_cons (Eq.trans (by kernel_rfl) hv5_V26_6) (seen_cons (Eq.trans (by kernel_rfl) hv2_V26_6) seen_nil)) (by kernel_rfl) (VT.le.refl _) hM26_6 ((hG26_6 _ _).2 rfl)
            refine all_snoc (.inr ⟨by decide, fun S26_5 g26_5 V26_5 w26_5 F26_5 cx26_5 hM26_5 => ?_⟩) ?_
            · -- op 5
              obtain hv3_V26_5 : g26_5 28 = bs (b) := (hG26_3 _ _).1 (cx26_5.fact 3 28 (by decide) (cx26_5.dep 3 (by kernel_rfl)) (by kernel_rfl))
              obtain hv4_V26_5 : g26_5 29 = .int .i64 ((k : Int)) := (hG26_4 _ _).1 (cx26_5.fact 4 29 (by decide) (cx26_5.dep 4 (by kernel_rfl)) (by kernel_rfl))
              refine wpF_see 28 (bs (b)) (Eq.trans (by kernel_rfl) hv3_V26_5) ?_
              refine wpF_see 29 (.int .i64 ((k : Int))) (Eq.trans (by kernel_rfl) hv4_V26_5) ?_
              refine wpF_strIndex (b) .i64 ((k : Int)) (h := (by kernel_rfl : opAt _ _ _ _ _ = some (Go.Op.index 9 (Go.Operand.tmp 28) (Go.Operand.tmp 29), some 30))) (by kernel_rfl) (by kernel_rfl) (by kernel_rfl) (k) rfl (by omega) ?_
              refine wpF_end _ (by kernel_rfl) (then_n ?_)
              exact one_in (some 30) (by kernel_rfl) (.int .u8 (((b.getD (k) 0).toNat : Int))) _ [(29, .int .i64 ((k : Int))), (28, bs (b))] (seen_cons (Eq.trans (by kernel_rfl) hv4_V26_5) (seen_cons (Eq.trans (by kernel_rfl) hv3_V26_5) seen_nil)) (by kernel_rfl) (VT.le.refl _) hM26_5 ((hG26_5 _ _).2 rfl)
            refine all_snoc (.inr ⟨by decide, fun S26_4 g26_4 V26_4 w26_4 F26_4 cx26_4 hM26_4 => ?_⟩) ?_
            · -- op 4
              refine wpF_seg 1 (by kernel_rfl) ?_
              refine wpF_end _ (by kernel_rfl) (then_n ?_)
              exact one_in (some 29) (by kernel_rfl) (.int .i64 ((k : Int))) _ [] seen_nil (by kernel_rfl) (VT.le.refl _) hM26_4 ((hG26_4 _ _).2 rfl)
            refine all_snoc (.inr ⟨by decide, fun S26_3 g26_3 V26_3 w26_3 F26_3 cx26_3 hM26_3 => ?_⟩) ?_
            · -- op 3
              refine wpF_seg 1 (by kernel_rfl) ?_
              refine wpF_end _ (by kernel_rfl) (then_n ?_)
              exact one_in (some 28) (by kernel_rfl) (bs (b)) _ [] seen_nil (by kernel_rfl) (VT.le.refl _) hM26_3 ((hG26_3 _ _).2 rfl)
            refine all_snoc (.inr ⟨by decide, fun S26_2 g26_2 V26_2 w26_2 F26_2 cx26_2 hM26_2 => ?_⟩) ?_
            · -- op 2
              obtain hv0_V26_2 : g26_2 25 = bs (a) := (hG26_0 _ _).1 (cx26_2.fact 0 25 (by decide) (cx26_2.dep 0 (by kernel_rfl)) (by kernel_rfl))
              obtain hv1_V26_2 : g26_2 26 = .int .i64 ((k : Int)) := (hG26_1 _ _).1 (cx26_2.fact 1 26 (by decide) (cx26_2.dep 1 (by kernel_rfl)) (by kernel_rfl))
              refine wpF_see 25 (bs (a)) (Eq.trans (by kernel_rfl) hv0_V26_2) ?_
              refine wpF_see 26 (.int .i64 ((k : Int))) (Eq.trans (by kernel_rfl) hv1_V26_2) ?_
              refine wpF_strIndex (a) .i64 ((k : Int)) (h := (by kernel_rfl : opAt _ _ _ _ _ = some (Go.Op.index 9 (Go.Operand.tmp 25) (Go.Operand.tmp 26), some 27))) (by kernel_rfl) (by kernel_rfl) (by kernel_rfl) (k) rfl (by omega) ?_
              refine wpF_end _ (by kernel_rfl) (then_n ?_)
              exact one_in (some 27) (by kernel_rfl) (.int .u8 (((a.getD (k) 0).toNat : Int))) _ [(26, .int .i64 ((k : Int))), (25, bs (a))] (seen_cons (Eq.trans (by kernel_rfl) hv1_V26_2) (seen_cons (Eq.trans (by kernel_rfl) hv0_V26_2) seen_nil)) (by kernel_rfl) (VT.le.refl _) hM26_2 ((hG26_2 _ _).2 rfl)
            refine all_snoc (.inr ⟨by decide, fun S26_1 g26_1 V26_1 w26_1 F26_1 cx26_1 hM26_1 => ?_⟩) ?_
            · -- op 1
              refine wpF_seg 1 (by kernel_rfl) ?_
              refine wpF_end _ (by kernel_rfl) (then_n ?_)
              exact one_in (some 26) (by kernel_rfl) (.int .i64 ((k : Int))) _ [] seen_nil (by kernel_rfl) (VT.le.refl _) hM26_1 ((hG26_1 _ _).2 rfl)
            refine all_snoc (.inr ⟨by decide, fun S26_0 g26_0 V26_0 w26_0 F26_0 cx26_0 hM26_0 => ?_⟩) ?_
            · -- op 0
              refine wpF_seg 1 (by kernel_rfl) ?_
              refine wpF_end _ (by kernel_rfl) (then_n ?_)
              exact one_in (some 25) (by kernel_rfl) (bs (a)) _ [] seen_nil (by kernel_rfl) (VT.le.refl _) hM26_0 ((hG26_0 _ _).2 rfl)
            exact all_none
          · -- behind it
            intro ge26 Ve26 we26 hMe26 hle26 hf26
            refine wpF_stop (P := Try.prog) (ops := #[]) (i := 0) _ rfl ?_
            obtain hv7_Ve26 : ge26 4 = .bool (decide ((((a.getD (k) 0).toNat : Int)) < (((b.getD (k) 0).toNat : Int)))) := (hG26_7 _ _).1 (hf26 7 4 (by decide) (by kernel_rfl))
            obtain hv0_Ve26 : ge26 25 = bs (a) := (hG26_0 _ _).1 (hf26 0 25 (by decide) (by kernel_rfl))
            obtain hv1_Ve26 : ge26 26 = .int .i64 ((k : Int)) := (hG26_1 _ _).1 (hf26 1 26 (by decide) (by kernel_rfl))
            obtain hv2_Ve26 : ge26 27 = .int .u8 (((a.getD (k) 0).toNat : Int)) := (hG26_2 _ _).1 (hf26 2 27 (by decide) (by kernel_rfl))
            obtain hv3_Ve26 : ge26 28 = bs (b) := (hG26_3 _ _).1 (hf26 3 28 (by decide) (by kernel_rfl))
            obtain hv4_Ve26 : ge26 29 = .int .i64 ((k : Int)) := (hG26_4 _ _).1 (hf26 4 29 (by decide) (by kernel_rfl))
            obtain hv5_Ve26 : ge26 30 = .int .u8 (((b.getD (k) 0).toNat : Int)) := (hG26_5 _ _).1 (hf26 5 30 (by decide) (by kernel_rfl))
            obtain hv6_Ve26 : ge26 31 = .bool (decide ((((a.getD (k) 0).toNat : Int)) < (((b.getD (k) 0).toNat : Int)))) := (hG26_6 _ _).1 (hf26 6 31 (by decide) (by kernel_rfl))
            refine wpF_see 4 (.bool (decide ((((a.getD (k) 0).toNat : Int)) < (((b.getD (k) 0).toNat : Int))))) (Eq.trans (by kernel_rfl) hv7_Ve26) ?_
            refine wpF_see 25 (bs (a)) (Eq.trans (by kernel_rfl) hv0_Ve26) ?_
            refine wpF_see 26 (.int .i64 ((k : Int))) (Eq.trans (by kernel_rfl) hv1_Ve26) ?_
            refine wpF_see 27 (.int .u8 (((a.getD (k) 0).toNat : Int))) (Eq.trans (by kernel_rfl) hv2_Ve26) ?_
            refine wpF_see 28 (bs (b)) (Eq.trans (by kernel_rfl) hv3_Ve26) ?_
            refine wpF_see 29 (.int .i64 ((k : Int))) (Eq.trans (by kernel_rfl) hv4_Ve26) ?_
            refine wpF_see 30 (.int .u8 (((b.getD (k) 0).toNat : Int))) (Eq.trans (by kernel_rfl) hv5_Ve26) ?_
            refine wpF_see 31 (.bool (decide ((((a.getD (k) 0).toNat : Int)) < (((b.getD (k) 0).toNat : Int))))) (Eq.trans (by kernel_rfl) hv6_Ve26) ?_
            refine wpF_end _ (by kernel_rfl) (then_n (hK25 _ _ ?_))
            refine wp_ret (blk_r (then_r (then_r (blk_r (then_r (?_))))))
            refine retN [.bool (decide ((((a.getD (k) 0).toNat : Int)) < (((b.getD (k) 0).toNat : Int))))] (.bool (decide ((((a.getD (k) 0).toNat : Int)) < (((b.getD (k) 0).toNat : Int))))) Try.results49 (.tmp (by kernel_rfl) (by kernel_rfl) .nil) (by kernel_rfl) (hRet _ _ ⟨_, _, rfl, hMe26.clear, ?_⟩)
            -- end Lttt
            first | exact congrArg Value.bool (below_at (by omega) (by omega) (by assumption) (by assumption)) | exact congrArg Value.bool (below_end (k := k) (by omega) (by omega) (by omega) (by assumption))
        · -- Lttf
          have h29 : decide ((((a.getD (k) 0).toNat : Int)) = (((b.getD (k) 0).toNat : Int))) = true := by rw [← Bool.not_not (decide _), h22]; rfl
          have p30 : ((((a.getD (k) 0).toNat : Int)) = (((b.getD (k) 0).toNat : Int))) := of_decide_eq_true h29
          refine wp_skip (blk_n (then_n (hK17 _ _ ?_)))
          refine wp_reg ?_
          refine wpF_seg 1 (by kernel_rfl) ?_
          refine wpF_add .i64 ((k : Int)) (1) ((k : Int) + 1) (h := (by kernel_rfl : opAt _ _ _ _ _ = some (Go.Op.binOp Go.BinOp.add 3 (Go.Operand.tmp 16) (Go.Operand.const (Go.Value.int Go.IntKind.i64 1)) 3, some 17))) (by kernel_rfl) (by kernel_rfl) (wrap64_ok _ (by omega)) ?_
          refine wpF_seg 1 (by kernel_rfl) ?_
          refine wpF_base [(0, bs (a)), (1, bs (b)), (5, .int .i64 ((k + 1 : Int)))] (by kernel_rfl) (fun g31 => ?_)
          refine wpF_end _ (by kernel_rfl) (then_n (hK10 _ _ (k + 1) (by omega) ?_))
          refine ⟨g31, Ve19, rfl, hMe19, hMe19.le, ?_, ?_⟩
          · -- Lttf inv 0
            omega
          · -- Lttf inv 1
            exact all_step (by assumption) (UInt8.toNat_inj.1 (by omega))
    · -- Ltf
      have p32 : ¬ (((k : Int)) < ((b.length : Int))) := of_decide_eq_false h15
      refine wp_exit (then_x (then_x (blk_hit (then_n (hK2 _ _ ?_)))))
      refine wp_seq_k (fun K33 hK33 => ?_)
      refine wp_reg ?_
      refine wpF_seg 6 (by kernel_rfl) ?_
      refine wpF_end _ (by kernel_rfl) (then_n (hK33 _ _ ?_))
      refine wp_ret ?_
      refine retN [.bool (decide (((a.length : Int)) < ((b.length : Int))))] (.bool (decide (((a.length : Int)) < ((b.length : Int))))) Try.results49 (.tmp (by kernel_rfl) (by kernel_rfl) .nil) (by kernel_rfl) (hRet _ _ ⟨_, _, rfl, hM8.clear, ?_⟩)
      -- end Ltf
      first | exact congrArg Value.bool (below_at (by omega) (by omega) (by assumption) (by assumption)) | exact congrArg Value.bool (below_end (k := k) (by omega) (by omega) (by omega) (by assumption))
  · -- Lf
    have p34 : ¬ (((k : Int)) < ((a.length : Int))) := of_decide_eq_false h13
    refine wpF_seg 5 (by kernel_rfl) ?_
    refine wpF_end _ (by kernel_rfl) (then_n (hK12 _ _ ?_))
    refine wp_cf (by kernel_rfl) ?_
    refine wp_exit (then_x (then_x (blk_hit (then_n (hK2 _ _ ?_)))))
    refine wp_seq_k (fun K35 hK35 => ?_)
    refine wp_reg ?_
    refine wpF_seg 6 (by kernel_rfl) ?_
    refine wpF_end _ (by kernel_rfl) (then_n (hK35 _ _ ?_))
    refine wp_ret ?_
    refine retN [.bool (decide (((a.length : Int)) < ((b.length : Int))))] (.bool (decide (((a.length : Int)) < ((b.length : Int))))) Try.results49 (.tmp (by kernel_rfl) (by kernel_rfl) .nil) (by kernel_rfl) (hRet _ _ ⟨_, _, rfl, hM8.clear, ?_⟩)
    -- end Lf
    first | exact congrArg Value.bool (below_at (by omega) (by omega) (by assumption) (by assumption)) | exact congrArg Value.bool (below_end (k := k) (by omega) (by omega) (by omega) (by assumption))

end Go.Vk
