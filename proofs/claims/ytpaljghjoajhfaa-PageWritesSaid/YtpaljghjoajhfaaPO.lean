/- Contracts of the page's functions, part O: printed by wip/tools/p8.py. -/
import Derived.Test.YtpaljghjoajhfaaPN
set_option linter.unusedVariables false
set_option linter.unusedSimpArgs false
namespace Go.Vk
open Go.Proofs
set_option maxRecDepth 100000 in
theorem f3 (V : VT) (w : World) (hV : V.inW w) (nl : Bool) (Ank : Option Addr) (cnk : Nat) (nk : List Str) (hnk : Rd strK V Ank cnk nk) (Anv : Option Addr) (cnv : Nat) (nv : List Str) (hnv : Rd strK V Anv cnv nv) (Anc : Option Addr) (cnc : Nat) (nc : List Int) (hnc : Rd (intK .i64) V Anc cnc nc) :
    Calls Try.prog 3 #[.agg #[.bool (nl), .slice Ank (nk).length cnk, .slice Anv (nv).length cnv, .slice Anc (nc).length cnc]] w (RetP V w fun rv V' => rv = .bool (true)) := by
  have mxnk : nk.length ≤ 140737488355328 := hnk.max
  have mxnv : nv.length ≤ 140737488355328 := hnv.max
  have mxnc : nc.length ≤ 140737488355328 := hnc.max
  refine calls_env (n := 47) Try.func3 (c := _) rfl Try.ntmps3 (by kernel_rfl) (fun R hRet => ?_)
  have hM0 : Step V w [] V w [] := Step.refl (St.nilE hV)
  refine wp_seq_k (fun K1 hK1 => ?_)
  refine wp_reg ?_
  refine wpF_box hM0 #[.bool (nl), .slice Ank (nk).length cnk, .slice Anv (nv).length cnv, .slice Anc (nc).length cnc] (h := (by kernel_rfl : opAt _ _ _ _ _ = some (Go.Op.box 25 (Go.Operand.tmp 0), some 1))) (by kernel_rfl) (fun b2 w3 hM4 => ?_)
  obtain ⟨V5, le6, hM7, hc8⟩ := hM4.settle 0 rfl
  have hM9 : Step V w [] V5 _ [] := hM7
  refine wpF_seg 1 (by kernel_rfl) ?_
  refine wpF_end _ (by kernel_rfl) (then_n (hK1 _ _ ?_))
  refine wp_seq_k (fun K10 hK10 => ?_)
  refine wp_seq_k (fun K11 hK11 => ?_)
  refine wp_reg ?_
  refine wpF_loadB hM9 #[.bool (nl), .slice Ank (nk).length cnk, .slice Anv (nv).length cnv, .slice Anc (nc).length cnc] hc8 (h := (by kernel_rfl : opAt _ _ _ _ _ = some (Go.Op.load 25 (Go.Operand.tmp 1), some 7))) (off := 0) (by kernel_rfl) (.agg #[.bool (nl), .slice Ank (nk).length cnk, .slice Anv (nv).length cnv, .slice Anc (nc).length cnc]) (by kernel_rfl) ?_
  refine wpF_callP hM9 (f := 11) (caps := #[]) (h := (by kernel_rfl : opAt _ _ _ _ _ = some (Go.Op.call (Go.Call.mk (Go.Callee.value (Go.Operand.func 11)) #[(Go.Operand.tmp 7)] #[25]), some 8))) (by kernel_rfl) (by kernel_rfl) (by kernel_rfl) (f11 _ _ hM9.inW (nl) Ank cnk (nk) (hnk.up hM9.le) Anv cnv (nv) (hnv.up hM9.le) Anc cnc (nc) (hnc.up hM9.le)) (fun v12 V13 w14 le15 hM16 hp17 => ?_)
  obtain rfl := hp17
  refine wpF_seg 1 (by kernel_rfl) ?_
  refine wpF_end _ (by kernel_rfl) (then_n (hK11 _ _ ?_))
  refine wp_if (!(fewM (nk) (nv) (nc))) (by kernel_rfl) (fun h18 => ?_) (fun h18 => ?_)
  · -- t
    have h19 : (fewM (nk) (nv) (nc)) = false := by simpa using h18
    skip
    refine wp_seq_k (fun K20 hK20 => ?_)
    refine wp_reg ?_
    refine wpF_callP hM16 (f := 12) (caps := #[]) (h := (by kernel_rfl : opAt _ _ _ _ _ = some (Go.Op.call (Go.Call.mk (Go.Callee.value (Go.Operand.func 12)) #[] #[]), some 10))) (by kernel_rfl) (by kernel_rfl) (by kernel_rfl) (f12 _ _ hM16.inW ) (fun v21 V22 w23 le24 hM25 hp26 => ?_)
    obtain rfl := hp26
    refine wpF_seg 1 (by kernel_rfl) ?_
    refine wpF_end _ (by kernel_rfl) (then_n (hK20 _ _ ?_))
    refine wp_ret (then_r (?_))
    refine retN [.bool (true)] (.bool (true)) Try.results3 (.tmp (by kernel_rfl) (by kernel_rfl) .nil) (by kernel_rfl) (hRet _ _ ⟨_, _, rfl, hM25.clear, ?_⟩)
    -- end t
    rfl
  · -- f
    have h27 : (fewM (nk) (nv) (nc)) = true := by simpa using h18
    have hf := few_le (by assumption : fewM nk nv nc = true)
    refine wp_skip (then_n (hK10 _ _ ?_))
    refine wp_seq_k (fun K28 hK28 => ?_)
    refine wp_reg ?_
    refine wpF_loadB hM16 #[.bool (nl), .slice Ank (nk).length cnk, .slice Anv (nv).length cnv, .slice Anc (nc).length cnc] (fun i v hi => le15 _ _ _ (hc8 i v hi)) (h := (by kernel_rfl : opAt _ _ _ _ _ = some (Go.Op.load 25 (Go.Operand.tmp 1), some 12))) (off := 0) (by kernel_rfl) (.agg #[.bool (nl), .slice Ank (nk).length cnk, .slice Anv (nv).length cnv, .slice Anc (nc).length cnc]) (by kernel_rfl) ?_
    refine wpF_callP hM16 (f := 13) (caps := #[]) (h := (by kernel_rfl : opAt _ _ _ _ _ = some (Go.Op.call (Go.Call.mk (Go.Callee.value (Go.Operand.func 13)) #[(Go.Operand.tmp 12)] #[25]), some 13))) (by kernel_rfl) (by kernel_rfl) (by kernel_rfl) (f13 _ _ hM16.inW (nl) Ank cnk (nk) (hnk.up hM16.le) Anv cnv (nv) (hnv.up hM16.le) Anc cnc (nc) (hnc.up hM16.le) (by omega) (by omega)) (fun v29 V30 w31 le32 hM33 hp34 => ?_)
    obtain ⟨Ar34_1, cr34_1, rfl, r35⟩ := hp34
    have l36 : (bytesM (nl) (nk) (nv) (nc)).length ≤ 140737488355328 := r35.max
    refine wpF_seg 5 (by kernel_rfl) ?_
    refine wpF_end _ (by kernel_rfl) (then_n (hK28 _ _ ?_))
    refine wp_seq_k (fun K37 hK37 => ?_)
    refine wp_reg ?_
    refine wpF_loadB hM33 #[.bool (nl), .slice Ank (nk).length cnk, .slice Anv (nv).length cnv, .slice Anc (nc).length cnc] (fun i v hi => (le15.trans le32) _ _ _ (hc8 i v hi)) (h := (by kernel_rfl : opAt _ _ _ _ _ = some (Go.Op.load 25 (Go.Operand.tmp 1), some 17))) (off := 0) (by kernel_rfl) (.agg #[.bool (nl), .slice Ank (nk).length cnk, .slice Anv (nv).length cnv, .slice Anc (nc).length cnc]) (by kernel_rfl) ?_
    refine wpF_callP hM33 (f := 14) (caps := #[]) (h := (by kernel_rfl : opAt _ _ _ _ _ = some (Go.Op.call (Go.Call.mk (Go.Callee.value (Go.Operand.func 14)) #[(Go.Operand.tmp 17)] #[25]), some 18))) (by kernel_rfl) (by kernel_rfl) (by kernel_rfl) (f14 _ _ hM33.inW (nl) Ank cnk (nk) (hnk.up hM33.le) Anv cnv (nv) (hnv.up hM33.le) Anc cnc (nc) (hnc.up hM33.le) (by omega) (by omega)) (fun v38 V39 w40 le41 hM42 hp43 => ?_)
    obtain ⟨rfl, x44⟩ := hp43
    have x44 : (bytesM (nl) (nk) (nv) (nc)).length ≤ 140737488355328 := x44
    refine wpF_seg 5 (by kernel_rfl) ?_
    refine wpF_end _ (by kernel_rfl) (then_n (hK37 _ _ ?_))
    refine wp_seq_k (fun K45 hK45 => ?_)
    refine wp_base [(1, .pointer (some ⟨b2, 0, none⟩)), (3, .slice Ar34_1 (bytesM (nl) (nk) (nv) (nc)).length cr34_1), (4, .int .i64 (checkM (nl) (nk) (nv) (nc))), (5, bs (bytesM (nl) (nk) (nv) (nc))), (6, .int .i64 (checkM (nl) (nk) (nv) (nc)))] (by kernel_rfl) (fun g0_76 => ?_)
    obtain ⟨G76, hGm76, hG76_0, hG76_1, hG76_2, hG76_3, hG76_4, hG76_5, hG76_6, hG76_7, hG76_8, hG76_9, hG76_10, hG76_11, hG76_12, hG76_13, hG76_14, hG76_15, hG76_16, hG76_17, hG76_18, hG76_19, hG76_20, hG76_21, hG76_22, hG76_23, hG76_24, hG76_25, hG76_26⟩ : ∃ G : Nat → Value → VT → Prop, (∀ j v V V', VT.le V V' → G j v V → G j v V') ∧ (∀ v_ V_, G 0 v_ V_ ↔ (v_ = .agg #[.bool (nl), .slice Ank (nk).length cnk, .slice Anv (nv).length cnv, .slice Anc (nc).length cnc])) ∧ (∀ v_ V_, G 1 v_ V_ ↔ (v_ = .int .i64 (sizeM (nl) (nk) (nv)))) ∧ (∀ v_ V_, G 2 v_ V_ ↔ (v_ = .agg #[.bool (nl), .slice Ank (nk).length cnk, .slice Anv (nv).length cnv, .slice Anc (nc).length cnc])) ∧ (∀ v_ V_, G 3 v_ V_ ↔ (v_ = .int .i64 (sizeM (nl) (nk) (nv)))) ∧ (∀ v_ V_, G 4 v_ V_ ↔ (v_ = .bool (true))) ∧ (∀ v_ V_, G 5 v_ V_ ↔ (v_ = .bool (true))) ∧ (∀ v_ V_, G 6 v_ V_ ↔ (v_ = .agg #[.bool (nl), .slice Ank (nk).length cnk, .slice Anv (nv).length cnv, .slice Anc (nc).length cnc])) ∧ (∀ v_ V_, G 7 v_ V_ ↔ (v_ = .int .i64 (checkM (nl) (nk) (nv) (nc)))) ∧ (∀ v_ V_, G 8 v_ V_ ↔ (v_ = .agg #[.bool (nl), .slice Ank (nk).length cnk, .slice Anv (nv).length cnv, .slice Anc (nc).length cnc])) ∧ (∀ v_ V_, G 9 v_ V_ ↔ (v_ = .int .i64 (checkM (nl) (nk) (nv) (nc)))) ∧ (∀ v_ V_, G 10 v_ V_ ↔ (v_ = .bool (true))) ∧ (∀ v_ V_, G 11 v_ V_ ↔ (v_ = .bool (true))) ∧ (∀ v_ V_, G 12 v_ V_ ↔ (v_ = .bool (true))) ∧ (∀ v_ V_, G 13 v_ V_ ↔ (v_ = .slice Ar34_1 (bytesM (nl) (nk) (nv) (nc)).length cr34_1)) ∧ (∀ v_ V_, G 14 v_ V_ ↔ (v_ = bs (bytesM (nl) (nk) (nv) (nc)))) ∧ (∀ v_ V_, G 15 v_ V_ ↔ (v_ = bs (bytesM (nl) (nk) (nv) (nc)))) ∧ (∀ v_ V_, G 16 v_ V_ ↔ (v_ = .bool (true))) ∧ (∀ v_ V_, G 17 v_ V_ ↔ (v_ = .bool (true))) ∧ (∀ v_ V_, G 18 v_ V_ ↔ (v_ = .bool (true))) ∧ (∀ v_ V_, G 19 v_ V_ ↔ (v_ = .int .i64 (checkM (nl) (nk) (nv) (nc)))) ∧ (∀ v_ V_, G 20 v_ V_ ↔ (v_ = .int .i64 (checkM (nl) (nk) (nv) (nc)))) ∧ (∀ v_ V_, G 21 v_ V_ ↔ (v_ = .bool (true))) ∧ (∀ v_ V_, G 22 v_ V_ ↔ (v_ = .bool (true))) ∧ (∀ v_ V_, G 23 v_ V_ ↔ (v_ = .bool (true))) ∧ (∀ v_ V_, G 24 v_ V_ ↔ (v_ = .bool (true))) ∧ (∀ v_ V_, G 25 v_ V_ ↔ (v_ = .bool (true))) ∧ (∀ v_ V_, G 26 v_ V_ ↔ (v_ = .bool (true))) :=
        ⟨mG [mV (.agg #[.bool (nl), .slice Ank (nk).length cnk, .slice Anv (nv).length cnv, .slice Anc (nc).length cnc]), mV (.int .i64 (sizeM (nl) (nk) (nv))), mV (.agg #[.bool (nl), .slice Ank (nk).length cnk, .slice Anv (nv).length cnv, .slice Anc (nc).length cnc]), mV (.int .i64 (sizeM (nl) (nk) (nv))), mV (.bool (true)), mV (.bool (true)), mV (.agg #[.bool (nl), .slice Ank (nk).length cnk, .slice Anv (nv).length cnv, .slice Anc (nc).length cnc]), mV (.int .i64 (checkM (nl) (nk) (nv) (nc))), mV (.agg #[.bool (nl), .slice Ank (nk).length cnk, .slice Anv (nv).length cnv, .slice Anc (nc).length cnc]), mV (.int .i64 (checkM (nl) (nk) (nv) (nc))), mV (.bool (true)), mV (.bool (true)), mV (.bool (true)), mV (.slice Ar34_1 (bytesM (nl) (nk) (nv) (nc)).length cr34_1), mV (bs (bytesM (nl) (nk) (nv) (nc))), mV (bs (bytesM (nl) (nk) (nv) (nc))), mV (.bool (true)), mV (.bool (true)), mV (.bool (true)), mV (.int .i64 (checkM (nl) (nk) (nv) (nc))), mV (.int .i64 (checkM (nl) (nk) (nv) (nc))), mV (.bool (true)), mV (.bool (true)), mV (.bool (true)), mV (.bool (true)), mV (.bool (true)), mV (.bool (true))], mG_up _, fun _ _ => Iff.rfl, fun _ _ => Iff.rfl, fun _ _ => Iff.rfl, fun _ _ => Iff.rfl, fun _ _ => Iff.rfl, fun _ _ => Iff.rfl, fun _ _ => Iff.rfl, fun _ _ => Iff.rfl, fun _ _ => Iff.rfl, fun _ _ => Iff.rfl, fun _ _ => Iff.rfl, fun _ _ => Iff.rfl, fun _ _ => Iff.rfl, fun _ _ => Iff.rfl, fun _ _ => Iff.rfl, fun _ _ => Iff.rfl, fun _ _ => Iff.rfl, fun _ _ => Iff.rfl, fun _ _ => Iff.rfl, fun _ _ => Iff.rfl, fun _ _ => Iff.rfl, fun _ _ => Iff.rfl, fun _ _ => Iff.rfl, fun _ _ => Iff.rfl, fun _ _ => Iff.rfl, fun _ _ => Iff.rfl, fun _ _ => Iff.rfl⟩
    refine wp_drawG (L0 := [(1, .pointer (some ⟨b2, 0, none⟩)), (3, .slice Ar34_1 (bytesM (nl) (nk) (nv) (nc)).length cr34_1), (4, .int .i64 (checkM (nl) (nk) (nv) (nc))), (5, bs (bytesM (nl) (nk) (nv) (nc))), (6, .int .i64 (checkM (nl) (nk) (nv) (nc)))]) 27 (by kernel_rfl) (by kernel_rfl) (by kernel_rfl) (by kernel_rfl) (by kernel_rfl) G76 hGm76 [] pre_nil (by kernel_rfl) [] (by kernel_rfl) (fun (S : Nat → Bool) (g : Nat → Value) => ([] : List Ent)) (fun _ _ _ _ _ => rfl) hM42 ?_ ?_
    · -- the operations
      refine all_snoc (.inr ⟨by decide, fun S76_26 g76_26 V76_26 w76_26 F76_26 cx76_26 hM76_26 => ?_⟩) ?_
      · -- op 26
        obtain hv25_V76_26 : g76_26 46 = .bool (true) := (hG76_25 _ _).1 (cx76_26.fact 25 46 (by decide) (cx76_26.dep 25 (by kernel_rfl)) (by kernel_rfl))
        refine wpF_see 46 (.bool (true)) (Eq.trans (by kernel_rfl) hv25_V76_26) ?_
        refine wpF_seg 1 (by kernel_rfl) ?_
        refine wpF_end _ (by kernel_rfl) (then_n ?_)
        exact one_in (some 2) (by kernel_rfl) (.bool (true)) _ [(46, .bool (true))] (seen_cons (Eq.trans (by kernel_rfl) hv25_V76_26) seen_nil) (by kernel_rfl) (VT.le.refl _) hM76_26 ((hG76_26 _ _).2 rfl)
      refine all_snoc (.inr ⟨by decide, fun S76_25 g76_25 V76_25 w76_25 F76_25 cx76_25 hM76_25 => ?_⟩) ?_
      · -- op 25
        obtain hv23_V76_25 : g76_25 44 = .bool (true) := (hG76_23 _ _).1 (cx76_25.fact 23 44 (by decide) (cx76_25.dep 23 (by kernel_rfl)) (by kernel_rfl))
        obtain hv24_V76_25 : g76_25 45 = .bool (true) := (hG76_24 _ _).1 (cx76_25.fact 24 45 (by decide) (cx76_25.dep 24 (by kernel_rfl)) (by kernel_rfl))
        refine wpF_see 44 (.bool (true)) (Eq.trans (by kernel_rfl) hv23_V76_25) ?_
        refine wpF_see 45 (.bool (true)) (Eq.trans (by kernel_rfl) hv24_V76_25) ?_
        refine wpF_seg 1 (by kernel_rfl) ?_
        refine wpF_end _ (by kernel_rfl) (then_n ?_)
        exact one_in (some 46) (by kernel_rfl) (.bool (true)) _ [(45, .bool (true)), (44, .bool (true))] (seen_cons (Eq.trans (by kernel_rfl) hv24_V76_25) (seen_cons (Eq.trans (by kernel_rfl) hv23_V76_25) seen_nil)) (by kernel_rfl) (VT.le.refl _) hM76_25 ((hG76_25 _ _).2 rfl)
      refine all_snoc (.inr ⟨by decide, fun S76_24 g76_24 V76_24 w76_24 F76_24 cx76_24 hM76_24 => ?_⟩) ?_
      · -- op 24
        obtain hv23_V76_24 : g76_24 44 = .bool (true) := (hG76_23 _ _).1 (cx76_24.fact 23 44 (by decide) (cx76_24.dep 23 (by kernel_rfl)) (by kernel_rfl))
        refine wpF_see 44 (.bool (true)) (Eq.trans (by kernel_rfl) hv23_V76_24) ?_
        refine wpF_callP hM76_24 (f := 12) (caps := #[]) (h := (by kernel_rfl : opAt _ _ _ _ _ = some (Go.Op.call (Go.Call.mk (Go.Callee.value (Go.Operand.func 12)) #[] #[]), some 45))) (by kernel_rfl) (by kernel_rfl) (by kernel_rfl) (f12 _ _ hM76_24.inW ) (fun v70 V71 w72 le73 hM74 hp75 => ?_)
        obtain rfl := hp75
        refine wpF_end _ (by kernel_rfl) (then_n ?_)
        exact one_in (some 45) (by kernel_rfl) (.bool (true)) _ [(44, .bool (true))] (seen_cons (Eq.trans (by kernel_rfl) hv23_V76_24) seen_nil) (by kernel_rfl) le73 hM74 ((hG76_24 _ _).2 rfl)
      refine all_snoc (.inr ⟨by decide, fun S76_23 g76_23 V76_23 w76_23 F76_23 cx76_23 hM76_23 => ?_⟩) ?_
      · -- op 23
        obtain hv22_V76_23 : g76_23 43 = .bool (true) := (hG76_22 _ _).1 (cx76_23.fact 22 43 (by decide) (cx76_23.dep 22 (by kernel_rfl)) (by kernel_rfl))
        refine wpF_see 43 (.bool (true)) (Eq.trans (by kernel_rfl) hv22_V76_23) ?_
        refine wpF_seg 1 (by kernel_rfl) ?_
        refine wpF_end _ (by kernel_rfl) (then_n ?_)
        exact one_in (some 44) (by kernel_rfl) (.bool (true)) _ [(43, .bool (true))] (seen_cons (Eq.trans (by kernel_rfl) hv22_V76_23) seen_nil) (by kernel_rfl) (VT.le.refl _) hM76_23 ((hG76_23 _ _).2 rfl)
      refine all_snoc (.inr ⟨by decide, fun S76_22 g76_22 V76_22 w76_22 F76_22 cx76_22 hM76_22 => ?_⟩) ?_
      · -- op 22
        obtain hv18_V76_22 : g76_22 39 = .bool (true) := (hG76_18 _ _).1 (cx76_22.fact 18 39 (by decide) (cx76_22.dep 18 (by kernel_rfl)) (by kernel_rfl))
        obtain hv21_V76_22 : g76_22 42 = .bool (true) := (hG76_21 _ _).1 (cx76_22.fact 21 42 (by decide) (cx76_22.dep 21 (by kernel_rfl)) (by kernel_rfl))
        refine wpF_see 39 (.bool (true)) (Eq.trans (by kernel_rfl) hv18_V76_22) ?_
        refine wpF_see 42 (.bool (true)) (Eq.trans (by kernel_rfl) hv21_V76_22) ?_
        refine wpF_seg 1 (by kernel_rfl) ?_
        refine wpF_end _ (by kernel_rfl) (then_n ?_)
        exact one_in (some 43) (by kernel_rfl) (.bool (true)) _ [(42, .bool (true)), (39, .bool (true))] (seen_cons (Eq.trans (by kernel_rfl) hv21_V76_22) (seen_cons (Eq.trans (by kernel_rfl) hv18_V76_22) seen_nil)) (by kernel_rfl) (VT.le.refl _) hM76_22 ((hG76_22 _ _).2 rfl)
      refine all_snoc (.inr ⟨by decide, fun S76_21 g76_21 V76_21 w76_21 F76_21 cx76_21 hM76_21 => ?_⟩) ?_
      · -- op 21
        obtain hv18_V76_21 : g76_21 39 = .bool (true) := (hG76_18 _ _).1 (cx76_21.fact 18 39 (by decide) (cx76_21.dep 18 (by kernel_rfl)) (by kernel_rfl))
        obtain hv19_V76_21 : g76_21 40 = .int .i64 (checkM (nl) (nk) (nv) (nc)) := (hG76_19 _ _).1 (cx76_21.fact 19 40 (by decide) (cx76_21.dep 19 (by kernel_rfl)) (by kernel_rfl))
        obtain hv20_V76_21 : g76_21 41 = .int .i64 (checkM (nl) (nk) (nv) (nc)) := (hG76_20 _ _).1 (cx76_21.fact 20 41 (by decide) (cx76_21.dep 20 (by kernel_rfl)) (by kernel_rfl))
        refine wpF_see 39 (.bool (true)) (Eq.trans (by kernel_rfl) hv18_V76_21) ?_
        refine wpF_see 40 (.int .i64 (checkM (nl) (nk) (nv) (nc))) (Eq.trans (by kernel_rfl) hv19_V76_21) ?_
        refine wpF_see 41 (.int .i64 (checkM (nl) (nk) (nv) (nc))) (Eq.trans (by kernel_rfl) hv20_V76_21) ?_
        refine wpF_seg 1 (by kernel_rfl) ?_
        refine wpF_slot 42 (.bool (decide ((checkM (nl) (nk) (nv) (nc)) = (checkM (nl) (nk) (nv) (nc))))) (.bool true) (by kernel_rfl) (by kernel_rfl) (by rw [(decide_eq_true rfl : (decide ((checkM (nl) (nk) (nv) (nc)) = (checkM (nl) (nk) (nv) (nc)))) = true)]) ?_
        refine wpF_end _ (by kernel_rfl) (then_n ?_)
        exact one_in (some 42) (by kernel_rfl) (.bool (true)) _ [(41, .int .i64 (checkM (nl) (nk) (nv) (nc))), (40, .int .i64 (checkM (nl) (nk) (nv) (nc))), (39, .bool (true))] (seen_cons (Eq.trans (by kernel_rfl) hv20_V76_21) (seen_cons (Eq.trans (by kernel_rfl) hv19_V76_21) (seen_cons (Eq.trans (by kernel_rfl) hv18_V76_21) seen_nil))) (by kernel_rfl) (VT.le.refl _) hM76_21 ((hG76_21 _ _).2 rfl)
      refine all_snoc (.inr ⟨by decide, fun S76_20 g76_20 V76_20 w76_20 F76_20 cx76_20 hM76_20 => ?_⟩) ?_
      · -- op 20
        obtain hv18_V76_20 : g76_20 39 = .bool (true) := (hG76_18 _ _).1 (cx76_20.fact 18 39 (by decide) (cx76_20.dep 18 (by kernel_rfl)) (by kernel_rfl))
        refine wpF_see 39 (.bool (true)) (Eq.trans (by kernel_rfl) hv18_V76_20) ?_
        refine wpF_seg 1 (by kernel_rfl) ?_
        refine wpF_end _ (by kernel_rfl) (then_n ?_)
        exact one_in (some 41) (by kernel_rfl) (.int .i64 (checkM (nl) (nk) (nv) (nc))) _ [(39, .bool (true))] (seen_cons (Eq.trans (by kernel_rfl) hv18_V76_20) seen_nil) (by kernel_rfl) (VT.le.refl _) hM76_20 ((hG76_20 _ _).2 rfl)
      refine all_snoc (.inr ⟨by decide, fun S76_19 g76_19 V76_19 w76_19 F76_19 cx76_19 hM76_19 => ?_⟩) ?_
      · -- op 19
        obtain hv18_V76_19 : g76_19 39 = .bool (true) := (hG76_18 _ _).1 (cx76_19.fact 18 39 (by decide) (cx76_19.dep 18 (by kernel_rfl)) (by kernel_rfl))
        refine wpF_see 39 (.bool (true)) (Eq.trans (by kernel_rfl) hv18_V76_19) ?_
        refine wpF_seg 1 (by kernel_rfl) ?_
        refine wpF_end _ (by kernel_rfl) (then_n ?_)
        exact one_in (some 40) (by kernel_rfl) (.int .i64 (checkM (nl) (nk) (nv) (nc))) _ [(39, .bool (true))] (seen_cons (Eq.trans (by kernel_rfl) hv18_V76_19) seen_nil) (by kernel_rfl) (VT.le.refl _) hM76_19 ((hG76_19 _ _).2 rfl)
      refine all_snoc (.inr ⟨by decide, fun S76_18 g76_18 V76_18 w76_18 F76_18 cx76_18 hM76_18 => ?_⟩) ?_
      · -- op 18
        obtain hv17_V76_18 : g76_18 38 = .bool (true) := (hG76_17 _ _).1 (cx76_18.fact 17 38 (by decide) (cx76_18.dep 17 (by kernel_rfl)) (by kernel_rfl))
        refine wpF_see 38 (.bool (true)) (Eq.trans (by kernel_rfl) hv17_V76_18) ?_
        refine wpF_seg 1 (by kernel_rfl) ?_
        refine wpF_end _ (by kernel_rfl) (then_n ?_)
        exact one_in (some 39) (by kernel_rfl) (.bool (true)) _ [(38, .bool (true))] (seen_cons (Eq.trans (by kernel_rfl) hv17_V76_18) seen_nil) (by kernel_rfl) (VT.le.refl _) hM76_18 ((hG76_18 _ _).2 rfl)
      refine all_snoc (.inr ⟨by decide, fun S76_17 g76_17 V76_17 w76_17 F76_17 cx76_17 hM76_17 => ?_⟩) ?_
      · -- op 17
        obtain hv12_V76_17 : g76_17 33 = .bool (true) := (hG76_12 _ _).1 (cx76_17.fact 12 33 (by decide) (cx76_17.dep 12 (by kernel_rfl)) (by kernel_rfl))
        obtain hv16_V76_17 : g76_17 37 = .bool (true) := (hG76_16 _ _).1 (cx76_17.fact 16 37 (by decide) (cx76_17.dep 16 (by kernel_rfl)) (by kernel_rfl))
        refine wpF_see 33 (.bool (true)) (Eq.trans (by kernel_rfl) hv12_V76_17) ?_
        refine wpF_see 37 (.bool (true)) (Eq.trans (by kernel_rfl) hv16_V76_17) ?_
        refine wpF_seg 1 (by kernel_rfl) ?_
        refine wpF_end _ (by kernel_rfl) (then_n ?_)
        exact one_in (some 38) (by kernel_rfl) (.bool (true)) _ [(37, .bool (true)), (33, .bool (true))] (seen_cons (Eq.trans (by kernel_rfl) hv16_V76_17) (seen_cons (Eq.trans (by kernel_rfl) hv12_V76_17) seen_nil)) (by kernel_rfl) (VT.le.refl _) hM76_17 ((hG76_17 _ _).2 rfl)
      refine all_snoc (.inr ⟨by decide, fun S76_16 g76_16 V76_16 w76_16 F76_16 cx76_16 hM76_16 => ?_⟩) ?_
      · -- op 16
        obtain hv12_V76_16 : g76_16 33 = .bool (true) := (hG76_12 _ _).1 (cx76_16.fact 12 33 (by decide) (cx76_16.dep 12 (by kernel_rfl)) (by kernel_rfl))
        obtain hv14_V76_16 : g76_16 35 = bs (bytesM (nl) (nk) (nv) (nc)) := (hG76_14 _ _).1 (cx76_16.fact 14 35 (by decide) (cx76_16.dep 14 (by kernel_rfl)) (by kernel_rfl))
        obtain hv15_V76_16 : g76_16 36 = bs (bytesM (nl) (nk) (nv) (nc)) := (hG76_15 _ _).1 (cx76_16.fact 15 36 (by decide) (cx76_16.dep 15 (by kernel_rfl)) (by kernel_rfl))
        refine wpF_see 33 (.bool (true)) (Eq.trans (by kernel_rfl) hv12_V76_16) ?_
        refine wpF_see 35 (bs (bytesM (nl) (nk) (nv) (nc))) (Eq.trans (by kernel_rfl) hv14_V76_16) ?_
        refine wpF_see 36 (bs (bytesM (nl) (nk) (nv) (nc))) (Eq.trans (by kernel_rfl) hv15_V76_16) ?_
        refine wpF_seg 1 (by kernel_rfl) ?_
        refine wpF_slot 37 (.bool (decide ((bytesM (nl) (nk) (nv) (nc)) = (bytesM (nl) (nk) (nv) (nc))))) (.bool true) (by kernel_rfl) (by kernel_rfl) (by rw [(decide_eq_true rfl : (decide ((bytesM (nl) (nk) (nv) (nc)) = (bytesM (nl) (nk) (nv) (nc)))) = true)]) ?_
        refine wpF_end _ (by kernel_rfl) (then_n ?_)
        exact one_in (some 37) (by kernel_rfl) (.bool (true)) _ [(36, bs (bytesM (nl) (nk) (nv) (nc))), (35, bs (bytesM (nl) (nk) (nv) (nc))), (33, .bool (true))] (seen_cons (Eq.trans (by kernel_rfl) hv15_V76_16) (seen_cons (Eq.trans (by kernel_rfl) hv14_V76_16) (seen_cons (Eq.trans (by kernel_rfl) hv12_V76_16) seen_nil))) (by kernel_rfl) (VT.le.refl _) hM76_16 ((hG76_16 _ _).2 rfl)
      refine all_snoc (.inr ⟨by decide, fun S76_15 g76_15 V76_15 w76_15 F76_15 cx76_15 hM76_15 => ?_⟩) ?_
      · -- op 15
        obtain hv12_V76_15 : g76_15 33 = .bool (true) := (hG76_12 _ _).1 (cx76_15.fact 12 33 (by decide) (cx76_15.dep 12 (by kernel_rfl)) (by kernel_rfl))
        refine wpF_see 33 (.bool (true)) (Eq.trans (by kernel_rfl) hv12_V76_15) ?_
        refine wpF_seg 1 (by kernel_rfl) ?_
        refine wpF_end _ (by kernel_rfl) (then_n ?_)
        exact one_in (some 36) (by kernel_rfl) (bs (bytesM (nl) (nk) (nv) (nc))) _ [(33, .bool (true))] (seen_cons (Eq.trans (by kernel_rfl) hv12_V76_15) seen_nil) (by kernel_rfl) (VT.le.refl _) hM76_15 ((hG76_15 _ _).2 rfl)
      refine all_snoc (.inr ⟨by decide, fun S76_14 g76_14 V76_14 w76_14 F76_14 cx76_14 hM76_14 => ?_⟩) ?_
      · -- op 14
        obtain hv12_V76_14 : g76_14 33 = .bool (true) := (hG76_12 _ _).1 (cx76_14.fact 12 33 (by decide) (cx76_14.dep 12 (by kernel_rfl)) (by kernel_rfl))
        obtain hv13_V76_14 : g76_14 34 = .slice Ar34_1 (bytesM (nl) (nk) (nv) (nc)).length cr34_1 := (hG76_13 _ _).1 (cx76_14.fact 13 34 (by decide) (cx76_14.dep 13 (by kernel_rfl)) (by kernel_rfl))
        refine wpF_see 33 (.bool (true)) (Eq.trans (by kernel_rfl) hv12_V76_14) ?_
        refine wpF_see 34 (.slice Ar34_1 (bytesM (nl) (nk) (nv) (nc)).length cr34_1) (Eq.trans (by kernel_rfl) hv13_V76_14) ?_
        refine wpF_toStr hM76_14 (A := Ar34_1) (c := cr34_1) (r35.up (le41.trans cx76_14.le)) (h := (by kernel_rfl : opAt _ _ _ _ _ = some (Go.Op.convert 28 9 (Go.Operand.tmp 34), some 35))) (e := 5) (by kernel_rfl) (by kernel_rfl) (by kernel_rfl) ?_
        refine wpF_end _ (by kernel_rfl) (then_n ?_)
        exact one_in (some 35) (by kernel_rfl) (bs (bytesM (nl) (nk) (nv) (nc))) _ [(34, .slice Ar34_1 (bytesM (nl) (nk) (nv) (nc)).length cr34_1), (33, .bool (true))] (seen_cons (Eq.trans (by kernel_rfl) hv13_V76_14) (seen_cons (Eq.trans (by kernel_rfl) hv12_V76_14) seen_nil)) (by kernel_rfl) (VT.le.refl _) hM76_14 ((hG76_14 _ _).2 rfl)
      refine all_snoc (.inr ⟨by decide, fun S76_13 g76_13 V76_13 w76_13 F76_13 cx76_13 hM76_13 => ?_⟩) ?_
      · -- op 13
        obtain hv12_V76_13 : g76_13 33 = .bool (true) := (hG76_12 _ _).1 (cx76_13.fact 12 33 (by decide) (cx76_13.dep 12 (by kernel_rfl)) (by kernel_rfl))
        refine wpF_see 33 (.bool (true)) (Eq.trans (by kernel_rfl) hv12_V76_13) ?_
        refine wpF_seg 1 (by kernel_rfl) ?_
        refine wpF_end _ (by kernel_rfl) (then_n ?_)
        exact one_in (some 34) (by kernel_rfl) (.slice Ar34_1 (bytesM (nl) (nk) (nv) (nc)).length cr34_1) _ [(33, .bool (true))] (seen_cons (Eq.trans (by kernel_rfl) hv12_V76_13) seen_nil) (by kernel_rfl) (VT.le.refl _) hM76_13 ((hG76_13 _ _).2 rfl)
      refine all_snoc (.inr ⟨by decide, fun S76_12 g76_12 V76_12 w76_12 F76_12 cx76_12 hM76_12 => ?_⟩) ?_
      · -- op 12
        obtain hv11_V76_12 : g76_12 32 = .bool (true) := (hG76_11 _ _).1 (cx76_12.fact 11 32 (by decide) (cx76_12.dep 11 (by kernel_rfl)) (by kernel_rfl))
        refine wpF_see 32 (.bool (true)) (Eq.trans (by kernel_rfl) hv11_V76_12) ?_
        refine wpF_seg 1 (by kernel_rfl) ?_
        refine wpF_end _ (by kernel_rfl) (then_n ?_)
        exact one_in (some 33) (by kernel_rfl) (.bool (true)) _ [(32, .bool (true))] (seen_cons (Eq.trans (by kernel_rfl) hv11_V76_12) seen_nil) (by kernel_rfl) (VT.le.refl _) hM76_12 ((hG76_12 _ _).2 rfl)
      refine all_snoc (.inr ⟨by decide, fun S76_11 g76_11 V76_11 w76_11 F76_11 cx76_11 hM76_11 => ?_⟩) ?_
      · -- op 11
        obtain hv5_V76_11 : g76_11 26 = .bool (true) := (hG76_5 _ _).1 (cx76_11.fact 5 26 (by decide) (cx76_11.dep 5 (by kernel_rfl)) (by kernel_rfl))
        obtain hv10_V76_11 : g76_11 31 = .bool (true) := (hG76_10 _ _).1 (cx76_11.fact 10 31 (by decide) (cx76_11.dep 10 (by kernel_rfl)) (by kernel_rfl))
        refine wpF_see 26 (.bool (true)) (Eq.trans (by kernel_rfl) hv5_V76_11) ?_
        refine wpF_see 31 (.bool (true)) (Eq.trans (by kernel_rfl) hv10_V76_11) ?_
        refine wpF_seg 1 (by kernel_rfl) ?_
        refine wpF_end _ (by kernel_rfl) (then_n ?_)
        exact one_in (some 32) (by kernel_rfl) (.bool (true)) _ [(31, .bool (true)), (26, .bool (true))] (seen_cons (Eq.trans (by kernel_rfl) hv10_V76_11) (seen_cons (Eq.trans (by kernel_rfl) hv5_V76_11) seen_nil)) (by kernel_rfl) (VT.le.refl _) hM76_11 ((hG76_11 _ _).2 rfl)
      refine all_snoc (.inr ⟨by decide, fun S76_10 g76_10 V76_10 w76_10 F76_10 cx76_10 hM76_10 => ?_⟩) ?_
      · -- op 10
        obtain hv5_V76_10 : g76_10 26 = .bool (true) := (hG76_5 _ _).1 (cx76_10.fact 5 26 (by decide) (cx76_10.dep 5 (by kernel_rfl)) (by kernel_rfl))
        obtain hv7_V76_10 : g76_10 28 = .int .i64 (checkM (nl) (nk) (nv) (nc)) := (hG76_7 _ _).1 (cx76_10.fact 7 28 (by decide) (cx76_10.dep 7 (by kernel_rfl)) (by kernel_rfl))
        obtain hv9_V76_10 : g76_10 30 = .int .i64 (checkM (nl) (nk) (nv) (nc)) := (hG76_9 _ _).1 (cx76_10.fact 9 30 (by decide) (cx76_10.dep 9 (by kernel_rfl)) (by kernel_rfl))
        refine wpF_see 26 (.bool (true)) (Eq.trans (by kernel_rfl) hv5_V76_10) ?_
        refine wpF_see 28 (.int .i64 (checkM (nl) (nk) (nv) (nc))) (Eq.trans (by kernel_rfl) hv7_V76_10) ?_
        refine wpF_see 30 (.int .i64 (checkM (nl) (nk) (nv) (nc))) (Eq.trans (by kernel_rfl) hv9_V76_10) ?_
        refine wpF_seg 1 (by kernel_rfl) ?_
        refine wpF_slot 31 (.bool (decide ((checkM (nl) (nk) (nv) (nc)) = (checkM (nl) (nk) (nv) (nc))))) (.bool true) (by kernel_rfl) (by kernel_rfl) (by rw [(decide_eq_true rfl : (decide ((checkM (nl) (nk) (nv) (nc)) = (checkM (nl) (nk) (nv) (nc)))) = true)]) ?_
        refine wpF_end _ (by kernel_rfl) (then_n ?_)
        exact one_in (some 31) (by kernel_rfl) (.bool (true)) _ [(30, .int .i64 (checkM (nl) (nk) (nv) (nc))), (28, .int .i64 (checkM (nl) (nk) (nv) (nc))), (26, .bool (true))] (seen_cons (Eq.trans (by kernel_rfl) hv9_V76_10) (seen_cons (Eq.trans (by kernel_rfl) hv7_V76_10) (seen_cons (Eq.trans (by kernel_rfl) hv5_V76_10) seen_nil))) (by kernel_rfl) (VT.le.refl _) hM76_10 ((hG76_10 _ _).2 rfl)
      refine all_snoc (.inr ⟨by decide, fun S76_9 g76_9 V76_9 w76_9 F76_9 cx76_9 hM76_9 => ?_⟩) ?_
      · -- op 9
        obtain hv5_V76_9 : g76_9 26 = .bool (true) := (hG76_5 _ _).1 (cx76_9.fact 5 26 (by decide) (cx76_9.dep 5 (by kernel_rfl)) (by kernel_rfl))
        obtain hv8_V76_9 : g76_9 29 = .agg #[.bool (nl), .slice Ank (nk).length cnk, .slice Anv (nv).length cnv, .slice Anc (nc).length cnc] := (hG76_8 _ _).1 (cx76_9.fact 8 29 (by decide) (cx76_9.dep 8 (by kernel_rfl)) (by kernel_rfl))
        refine wpF_see 26 (.bool (true)) (Eq.trans (by kernel_rfl) hv5_V76_9) ?_
        refine wpF_see 29 (.agg #[.bool (nl), .slice Ank (nk).length cnk, .slice Anv (nv).length cnv, .slice Anc (nc).length cnc]) (Eq.trans (by kernel_rfl) hv8_V76_9) ?_
        refine wpF_callP hM76_9 (f := 18) (caps := #[]) (h := (by kernel_rfl : opAt _ _ _ _ _ = some (Go.Op.call (Go.Call.mk (Go.Callee.value (Go.Operand.func 18)) #[(Go.Operand.tmp 29)] #[25]), some 30))) (by kernel_rfl) (by kernel_rfl) (by kernel_rfl) (f18 _ _ hM76_9.inW (nl) Ank cnk (nk) (hnk.up hM76_9.le) Anv cnv (nv) (hnv.up hM76_9.le) Anc cnc (nc) (hnc.up hM76_9.le) (by omega) (by omega)) (fun v64 V65 w66 le67 hM68 hp69 => ?_)
        obtain rfl := hp69
        refine wpF_end _ (by kernel_rfl) (then_n ?_)
        exact one_in (some 30) (by kernel_rfl) (.int .i64 (checkM (nl) (nk) (nv) (nc))) _ [(29, .agg #[.bool (nl), .slice Ank (nk).length cnk, .slice Anv (nv).length cnv, .slice Anc (nc).length cnc]), (26, .bool (true))] (seen_cons (Eq.trans (by kernel_rfl) hv8_V76_9) (seen_cons (Eq.trans (by kernel_rfl) hv5_V76_9) seen_nil)) (by kernel_rfl) le67 hM68 ((hG76_9 _ _).2 rfl)
      refine all_snoc (.inr ⟨by decide, fun S76_8 g76_8 V76_8 w76_8 F76_8 cx76_8 hM76_8 => ?_⟩) ?_
      · -- op 8
        obtain hv5_V76_8 : g76_8 26 = .bool (true) := (hG76_5 _ _).1 (cx76_8.fact 5 26 (by decide) (cx76_8.dep 5 (by kernel_rfl)) (by kernel_rfl))
        refine wpF_see 26 (.bool (true)) (Eq.trans (by kernel_rfl) hv5_V76_8) ?_
        refine wpF_loadB hM76_8 #[.bool (nl), .slice Ank (nk).length cnk, .slice Anv (nv).length cnv, .slice Anc (nc).length cnc] (fun i v hi => (((le15.trans le32).trans le41).trans cx76_8.le) _ _ _ (hc8 i v hi)) (h := (by kernel_rfl : opAt _ _ _ _ _ = some (Go.Op.load 25 (Go.Operand.tmp 1), some 29))) (off := 0) (by kernel_rfl) (.agg #[.bool (nl), .slice Ank (nk).length cnk, .slice Anv (nv).length cnv, .slice Anc (nc).length cnc]) (by kernel_rfl) ?_
        refine wpF_end _ (by kernel_rfl) (then_n ?_)
        exact one_in (some 29) (by kernel_rfl) (.agg #[.bool (nl), .slice Ank (nk).length cnk, .slice Anv (nv).length cnv, .slice Anc (nc).length cnc]) _ [(26, .bool (true))] (seen_cons (Eq.trans (by kernel_rfl) hv5_V76_8) seen_nil) (by kernel_rfl) (VT.le.refl _) hM76_8 ((hG76_8 _ _).2 rfl)
      refine all_snoc (.inr ⟨by decide, fun S76_7 g76_7 V76_7 w76_7 F76_7 cx76_7 hM76_7 => ?_⟩) ?_
      · -- op 7
        obtain hv5_V76_7 : g76_7 26 = .bool (true) := (hG76_5 _ _).1 (cx76_7.fact 5 26 (by decide) (cx76_7.dep 5 (by kernel_rfl)) (by kernel_rfl))
        obtain hv6_V76_7 : g76_7 27 = .agg #[.bool (nl), .slice Ank (nk).length cnk, .slice Anv (nv).length cnv, .slice Anc (nc).length cnc] := (hG76_6 _ _).1 (cx76_7.fact 6 27 (by decide) (cx76_7.dep 6 (by kernel_rfl)) (by kernel_rfl))
        refine wpF_see 26 (.bool (true)) (Eq.trans (by kernel_rfl) hv5_V76_7) ?_
        refine wpF_see 27 (.agg #[.bool (nl), .slice Ank (nk).length cnk, .slice Anv (nv).length cnv, .slice Anc (nc).length cnc]) (Eq.trans (by kernel_rfl) hv6_V76_7) ?_
        refine wpF_callP hM76_7 (f := 17) (caps := #[]) (h := (by kernel_rfl : opAt _ _ _ _ _ = some (Go.Op.call (Go.Call.mk (Go.Callee.value (Go.Operand.func 17)) #[(Go.Operand.tmp 27)] #[25]), some 28))) (by kernel_rfl) (by kernel_rfl) (by kernel_rfl) (f17 _ _ hM76_7.inW (nl) Ank cnk (nk) (hnk.up hM76_7.le) Anv cnv (nv) (hnv.up hM76_7.le) Anc cnc (nc) (hnc.up hM76_7.le) (by omega) (by omega)) (fun v58 V59 w60 le61 hM62 hp63 => ?_)
        obtain rfl := hp63
        refine wpF_end _ (by kernel_rfl) (then_n ?_)
        exact one_in (some 28) (by kernel_rfl) (.int .i64 (checkM (nl) (nk) (nv) (nc))) _ [(27, .agg #[.bool (nl), .slice Ank (nk).length cnk, .slice Anv (nv).length cnv, .slice Anc (nc).length cnc]), (26, .bool (true))] (seen_cons (Eq.trans (by kernel_rfl) hv6_V76_7) (seen_cons (Eq.trans (by kernel_rfl) hv5_V76_7) seen_nil)) (by kernel_rfl) le61 hM62 ((hG76_7 _ _).2 rfl)
      refine all_snoc (.inr ⟨by decide, fun S76_6 g76_6 V76_6 w76_6 F76_6 cx76_6 hM76_6 => ?_⟩) ?_
      · -- op 6
        obtain hv5_V76_6 : g76_6 26 = .bool (true) := (hG76_5 _ _).1 (cx76_6.fact 5 26 (by decide) (cx76_6.dep 5 (by kernel_rfl)) (by kernel_rfl))
        refine wpF_see 26 (.bool (true)) (Eq.trans (by kernel_rfl) hv5_V76_6) ?_
        refine wpF_loadB hM76_6 #[.bool (nl), .slice Ank (nk).length cnk, .slice Anv (nv).length cnv, .slice Anc (nc).length cnc] (fun i v hi => (((le15.trans le32).trans le41).trans cx76_6.le) _ _ _ (hc8 i v hi)) (h := (by kernel_rfl : opAt _ _ _ _ _ = some (Go.Op.load 25 (Go.Operand.tmp 1), some 27))) (off := 0) (by kernel_rfl) (.agg #[.bool (nl), .slice Ank (nk).length cnk, .slice Anv (nv).length cnv, .slice Anc (nc).length cnc]) (by kernel_rfl) ?_
        refine wpF_end _ (by kernel_rfl) (then_n ?_)
        exact one_in (some 27) (by kernel_rfl) (.agg #[.bool (nl), .slice Ank (nk).length cnk, .slice Anv (nv).length cnv, .slice Anc (nc).length cnc]) _ [(26, .bool (true))] (seen_cons (Eq.trans (by kernel_rfl) hv5_V76_6) seen_nil) (by kernel_rfl) (VT.le.refl _) hM76_6 ((hG76_6 _ _).2 rfl)
      refine all_snoc (.inr ⟨by decide, fun S76_5 g76_5 V76_5 w76_5 F76_5 cx76_5 hM76_5 => ?_⟩) ?_
      · -- op 5
        obtain hv4_V76_5 : g76_5 25 = .bool (true) := (hG76_4 _ _).1 (cx76_5.fact 4 25 (by decide) (cx76_5.dep 4 (by kernel_rfl)) (by kernel_rfl))
        refine wpF_see 25 (.bool (true)) (Eq.trans (by kernel_rfl) hv4_V76_5) ?_
        refine wpF_seg 1 (by kernel_rfl) ?_
        refine wpF_end _ (by kernel_rfl) (then_n ?_)
        exact one_in (some 26) (by kernel_rfl) (.bool (true)) _ [(25, .bool (true))] (seen_cons (Eq.trans (by kernel_rfl) hv4_V76_5) seen_nil) (by kernel_rfl) (VT.le.refl _) hM76_5 ((hG76_5 _ _).2 rfl)
      refine all_snoc (.inr ⟨by decide, fun S76_4 g76_4 V76_4 w76_4 F76_4 cx76_4 hM76_4 => ?_⟩) ?_
      · -- op 4
        obtain hv1_V76_4 : g76_4 22 = .int .i64 (sizeM (nl) (nk) (nv)) := (hG76_1 _ _).1 (cx76_4.fact 1 22 (by decide) (cx76_4.dep 1 (by kernel_rfl)) (by kernel_rfl))
        obtain hv3_V76_4 : g76_4 24 = .int .i64 (sizeM (nl) (nk) (nv)) := (hG76_3 _ _).1 (cx76_4.fact 3 24 (by decide) (cx76_4.dep 3 (by kernel_rfl)) (by kernel_rfl))
        refine wpF_see 22 (.int .i64 (sizeM (nl) (nk) (nv))) (Eq.trans (by kernel_rfl) hv1_V76_4) ?_
        refine wpF_see 24 (.int .i64 (sizeM (nl) (nk) (nv))) (Eq.trans (by kernel_rfl) hv3_V76_4) ?_
        refine wpF_seg 1 (by kernel_rfl) ?_
        refine wpF_slot 25 (.bool (decide ((sizeM (nl) (nk) (nv)) = (sizeM (nl) (nk) (nv))))) (.bool true) (by kernel_rfl) (by kernel_rfl) (by rw [(decide_eq_true rfl : (decide ((sizeM (nl) (nk) (nv)) = (sizeM (nl) (nk) (nv)))) = true)]) ?_
        refine wpF_end _ (by kernel_rfl) (then_n ?_)
        exact one_in (some 25) (by kernel_rfl) (.bool (true)) _ [(24, .int .i64 (sizeM (nl) (nk) (nv))), (22, .int .i64 (sizeM (nl) (nk) (nv)))] (seen_cons (Eq.trans (by kernel_rfl) hv3_V76_4) (seen_cons (Eq.trans (by kernel_rfl) hv1_V76_4) seen_nil)) (by kernel_rfl) (VT.le.refl _) hM76_4 ((hG76_4 _ _).2 rfl)
      refine all_snoc (.inr ⟨by decide, fun S76_3 g76_3 V76_3 w76_3 F76_3 cx76_3 hM76_3 => ?_⟩) ?_
      · -- op 3
        obtain hv2_V76_3 : g76_3 23 = .agg #[.bool (nl), .slice Ank (nk).length cnk, .slice Anv (nv).length cnv, .slice Anc (nc).length cnc] := (hG76_2 _ _).1 (cx76_3.fact 2 23 (by decide) (cx76_3.dep 2 (by kernel_rfl)) (by kernel_rfl))
        refine wpF_see 23 (.agg #[.bool (nl), .slice Ank (nk).length cnk, .slice Anv (nv).length cnv, .slice Anc (nc).length cnc]) (Eq.trans (by kernel_rfl) hv2_V76_3) ?_
        refine wpF_callP hM76_3 (f := 16) (caps := #[]) (h := (by kernel_rfl : opAt _ _ _ _ _ = some (Go.Op.call (Go.Call.mk (Go.Callee.value (Go.Operand.func 16)) #[(Go.Operand.tmp 23)] #[25]), some 24))) (by kernel_rfl) (by kernel_rfl) (by kernel_rfl) (f16 _ _ hM76_3.inW (nl) Ank cnk (nk) (hnk.up hM76_3.le) Anv cnv (nv) (hnv.up hM76_3.le) Anc cnc (nc) (hnc.up hM76_3.le) (by omega) (by omega)) (fun v52 V53 w54 le55 hM56 hp57 => ?_)
        obtain rfl := hp57
        refine wpF_end _ (by kernel_rfl) (then_n ?_)
        exact one_in (some 24) (by kernel_rfl) (.int .i64 (sizeM (nl) (nk) (nv))) _ [(23, .agg #[.bool (nl), .slice Ank (nk).length cnk, .slice Anv (nv).length cnv, .slice Anc (nc).length cnc])] (seen_cons (Eq.trans (by kernel_rfl) hv2_V76_3) seen_nil) (by kernel_rfl) le55 hM56 ((hG76_3 _ _).2 rfl)
      refine all_snoc (.inr ⟨by decide, fun S76_2 g76_2 V76_2 w76_2 F76_2 cx76_2 hM76_2 => ?_⟩) ?_
      · -- op 2
        refine wpF_loadB hM76_2 #[.bool (nl), .slice Ank (nk).length cnk, .slice Anv (nv).length cnv, .slice Anc (nc).length cnc] (fun i v hi => (((le15.trans le32).trans le41).trans cx76_2.le) _ _ _ (hc8 i v hi)) (h := (by kernel_rfl : opAt _ _ _ _ _ = some (Go.Op.load 25 (Go.Operand.tmp 1), some 23))) (off := 0) (by kernel_rfl) (.agg #[.bool (nl), .slice Ank (nk).length cnk, .slice Anv (nv).length cnv, .slice Anc (nc).length cnc]) (by kernel_rfl) ?_
        refine wpF_end _ (by kernel_rfl) (then_n ?_)
        exact one_in (some 23) (by kernel_rfl) (.agg #[.bool (nl), .slice Ank (nk).length cnk, .slice Anv (nv).length cnv, .slice Anc (nc).length cnc]) _ [] seen_nil (by kernel_rfl) (VT.le.refl _) hM76_2 ((hG76_2 _ _).2 rfl)
      refine all_snoc (.inr ⟨by decide, fun S76_1 g76_1 V76_1 w76_1 F76_1 cx76_1 hM76_1 => ?_⟩) ?_
      · -- op 1
        obtain hv0_V76_1 : g76_1 21 = .agg #[.bool (nl), .slice Ank (nk).length cnk, .slice Anv (nv).length cnv, .slice Anc (nc).length cnc] := (hG76_0 _ _).1 (cx76_1.fact 0 21 (by decide) (cx76_1.dep 0 (by kernel_rfl)) (by kernel_rfl))
        refine wpF_see 21 (.agg #[.bool (nl), .slice Ank (nk).length cnk, .slice Anv (nv).length cnv, .slice Anc (nc).length cnc]) (Eq.trans (by kernel_rfl) hv0_V76_1) ?_
        refine wpF_callP hM76_1 (f := 15) (caps := #[]) (h := (by kernel_rfl : opAt _ _ _ _ _ = some (Go.Op.call (Go.Call.mk (Go.Callee.value (Go.Operand.func 15)) #[(Go.Operand.tmp 21)] #[25]), some 22))) (by kernel_rfl) (by kernel_rfl) (by kernel_rfl) (f15 _ _ hM76_1.inW (nl) Ank cnk (nk) (hnk.up hM76_1.le) Anv cnv (nv) (hnv.up hM76_1.le) Anc cnc (nc) (hnc.up hM76_1.le) (by omega) (by omega)) (fun v46 V47 w48 le49 hM50 hp51 => ?_)
        obtain rfl := hp51
        refine wpF_end _ (by kernel_rfl) (then_n ?_)
        exact one_in (some 22) (by kernel_rfl) (.int .i64 (sizeM (nl) (nk) (nv))) _ [(21, .agg #[.bool (nl), .slice Ank (nk).length cnk, .slice Anv (nv).length cnv, .slice Anc (nc).length cnc])] (seen_cons (Eq.trans (by kernel_rfl) hv0_V76_1) seen_nil) (by kernel_rfl) le49 hM50 ((hG76_1 _ _).2 rfl)
      refine all_snoc (.inr ⟨by decide, fun S76_0 g76_0 V76_0 w76_0 F76_0 cx76_0 hM76_0 => ?_⟩) ?_
      · -- op 0
        refine wpF_loadB hM76_0 #[.bool (nl), .slice Ank (nk).length cnk, .slice Anv (nv).length cnv, .slice Anc (nc).length cnc] (fun i v hi => (((le15.trans le32).trans le41).trans cx76_0.le) _ _ _ (hc8 i v hi)) (h := (by kernel_rfl : opAt _ _ _ _ _ = some (Go.Op.load 25 (Go.Operand.tmp 1), some 21))) (off := 0) (by kernel_rfl) (.agg #[.bool (nl), .slice Ank (nk).length cnk, .slice Anv (nv).length cnv, .slice Anc (nc).length cnc]) (by kernel_rfl) ?_
        refine wpF_end _ (by kernel_rfl) (then_n ?_)
        exact one_in (some 21) (by kernel_rfl) (.agg #[.bool (nl), .slice Ank (nk).length cnk, .slice Anv (nv).length cnv, .slice Anc (nc).length cnc]) _ [] seen_nil (by kernel_rfl) (VT.le.refl _) hM76_0 ((hG76_0 _ _).2 rfl)
      exact all_none
    · -- behind it
      intro ge76 Ve76 we76 hMe76 hle76 hf76
      refine wpF_stop (P := Try.prog) (ops := #[]) (i := 0) _ rfl ?_
      obtain hv26_Ve76 : ge76 2 = .bool (true) := (hG76_26 _ _).1 (hf76 26 2 (by decide) (by kernel_rfl))
      obtain hv0_Ve76 : ge76 21 = .agg #[.bool (nl), .slice Ank (nk).length cnk, .slice Anv (nv).length cnv, .slice Anc (nc).length cnc] := (hG76_0 _ _).1 (hf76 0 21 (by decide) (by kernel_rfl))
      obtain hv1_Ve76 : ge76 22 = .int .i64 (sizeM (nl) (nk) (nv)) := (hG76_1 _ _).1 (hf76 1 22 (by decide) (by kernel_rfl))
      obtain hv2_Ve76 : ge76 23 = .agg #[.bool (nl), .slice Ank (nk).length cnk, .slice Anv (nv).length cnv, .slice Anc (nc).length cnc] := (hG76_2 _ _).1 (hf76 2 23 (by decide) (by kernel_rfl))
      obtain hv3_Ve76 : ge76 24 = .int .i64 (sizeM (nl) (nk) (nv)) := (hG76_3 _ _).1 (hf76 3 24 (by decide) (by kernel_rfl))
      obtain hv4_Ve76 : ge76 25 = .bool (true) := (hG76_4 _ _).1 (hf76 4 25 (by decide) (by kernel_rfl))
      obtain hv5_Ve76 : ge76 26 = .bool (true) := (hG76_5 _ _).1 (hf76 5 26 (by decide) (by kernel_rfl))
      obtain hv6_Ve76 : ge76 27 = .agg #[.bool (nl), .slice Ank (nk).length cnk, .slice Anv (nv).length cnv, .slice Anc (nc).length cnc] := (hG76_6 _ _).1 (hf76 6 27 (by decide) (by kernel_rfl))
      obtain hv7_Ve76 : ge76 28 = .int .i64 (checkM (nl) (nk) (nv) (nc)) := (hG76_7 _ _).1 (hf76 7 28 (by decide) (by kernel_rfl))
      obtain hv8_Ve76 : ge76 29 = .agg #[.bool (nl), .slice Ank (nk).length cnk, .slice Anv (nv).length cnv, .slice Anc (nc).length cnc] := (hG76_8 _ _).1 (hf76 8 29 (by decide) (by kernel_rfl))
      obtain hv9_Ve76 : ge76 30 = .int .i64 (checkM (nl) (nk) (nv) (nc)) := (hG76_9 _ _).1 (hf76 9 30 (by decide) (by kernel_rfl))
      obtain hv10_Ve76 : ge76 31 = .bool (true) := (hG76_10 _ _).1 (hf76 10 31 (by decide) (by kernel_rfl))
      obtain hv11_Ve76 : ge76 32 = .bool (true) := (hG76_11 _ _).1 (hf76 11 32 (by decide) (by kernel_rfl))
      obtain hv12_Ve76 : ge76 33 = .bool (true) := (hG76_12 _ _).1 (hf76 12 33 (by decide) (by kernel_rfl))
      obtain hv13_Ve76 : ge76 34 = .slice Ar34_1 (bytesM (nl) (nk) (nv) (nc)).length cr34_1 := (hG76_13 _ _).1 (hf76 13 34 (by decide) (by kernel_rfl))
      obtain hv14_Ve76 : ge76 35 = bs (bytesM (nl) (nk) (nv) (nc)) := (hG76_14 _ _).1 (hf76 14 35 (by decide) (by kernel_rfl))
      obtain hv15_Ve76 : ge76 36 = bs (bytesM (nl) (nk) (nv) (nc)) := (hG76_15 _ _).1 (hf76 15 36 (by decide) (by kernel_rfl))
      obtain hv16_Ve76 : ge76 37 = .bool (true) := (hG76_16 _ _).1 (hf76 16 37 (by decide) (by kernel_rfl))
      obtain hv17_Ve76 : ge76 38 = .bool (true) := (hG76_17 _ _).1 (hf76 17 38 (by decide) (by kernel_rfl))
      obtain hv18_Ve76 : ge76 39 = .bool (true) := (hG76_18 _ _).1 (hf76 18 39 (by decide) (by kernel_rfl))
      obtain hv19_Ve76 : ge76 40 = .int .i64 (checkM (nl) (nk) (nv) (nc)) := (hG76_19 _ _).1 (hf76 19 40 (by decide) (by kernel_rfl))
      obtain hv20_Ve76 : ge76 41 = .int .i64 (checkM (nl) (nk) (nv) (nc)) := (hG76_20 _ _).1 (hf76 20 41 (by decide) (by kernel_rfl))
      obtain hv21_Ve76 : ge76 42 = .bool (true) := (hG76_21 _ _).1 (hf76 21 42 (by decide) (by kernel_rfl))
      obtain hv22_Ve76 : ge76 43 = .bool (true) := (hG76_22 _ _).1 (hf76 22 43 (by decide) (by kernel_rfl))
      obtain hv23_Ve76 : ge76 44 = .bool (true) := (hG76_23 _ _).1 (hf76 23 44 (by decide) (by kernel_rfl))
      obtain hv24_Ve76 : ge76 45 = .bool (true) := (hG76_24 _ _).1 (hf76 24 45 (by decide) (by kernel_rfl))
      obtain hv25_Ve76 : ge76 46 = .bool (true) := (hG76_25 _ _).1 (hf76 25 46 (by decide) (by kernel_rfl))
      refine wpF_see 2 (.bool (true)) (Eq.trans (by kernel_rfl) hv26_Ve76) ?_
      refine wpF_see 21 (.agg #[.bool (nl), .slice Ank (nk).length cnk, .slice Anv (nv).length cnv, .slice Anc (nc).length cnc]) (Eq.trans (by kernel_rfl) hv0_Ve76) ?_
      refine wpF_see 22 (.int .i64 (sizeM (nl) (nk) (nv))) (Eq.trans (by kernel_rfl) hv1_Ve76) ?_
      refine wpF_see 23 (.agg #[.bool (nl), .slice Ank (nk).length cnk, .slice Anv (nv).length cnv, .slice Anc (nc).length cnc]) (Eq.trans (by kernel_rfl) hv2_Ve76) ?_
      refine wpF_see 24 (.int .i64 (sizeM (nl) (nk) (nv))) (Eq.trans (by kernel_rfl) hv3_Ve76) ?_
      refine wpF_see 25 (.bool (true)) (Eq.trans (by kernel_rfl) hv4_Ve76) ?_
      refine wpF_see 26 (.bool (true)) (Eq.trans (by kernel_rfl) hv5_Ve76) ?_
      refine wpF_see 27 (.agg #[.bool (nl), .slice Ank (nk).length cnk, .slice Anv (nv).length cnv, .slice Anc (nc).length cnc]) (Eq.trans (by kernel_rfl) hv6_Ve76) ?_
      refine wpF_see 28 (.int .i64 (checkM (nl) (nk) (nv) (nc))) (Eq.trans (by kernel_rfl) hv7_Ve76) ?_
      refine wpF_see 29 (.agg #[.bool (nl), .slice Ank (nk).length cnk, .slice Anv (nv).length cnv, .slice Anc (nc).length cnc]) (Eq.trans (by kernel_rfl) hv8_Ve76) ?_
      refine wpF_see 30 (.int .i64 (checkM (nl) (nk) (nv) (nc))) (Eq.trans (by kernel_rfl) hv9_Ve76) ?_
      refine wpF_see 31 (.bool (true)) (Eq.trans (by kernel_rfl) hv10_Ve76) ?_
      refine wpF_see 32 (.bool (true)) (Eq.trans (by kernel_rfl) hv11_Ve76) ?_
      refine wpF_see 33 (.bool (true)) (Eq.trans (by kernel_rfl) hv12_Ve76) ?_
      refine wpF_see 34 (.slice Ar34_1 (bytesM (nl) (nk) (nv) (nc)).length cr34_1) (Eq.trans (by kernel_rfl) hv13_Ve76) ?_
      refine wpF_see 35 (bs (bytesM (nl) (nk) (nv) (nc))) (Eq.trans (by kernel_rfl) hv14_Ve76) ?_
      refine wpF_see 36 (bs (bytesM (nl) (nk) (nv) (nc))) (Eq.trans (by kernel_rfl) hv15_Ve76) ?_
      refine wpF_see 37 (.bool (true)) (Eq.trans (by kernel_rfl) hv16_Ve76) ?_
      refine wpF_see 38 (.bool (true)) (Eq.trans (by kernel_rfl) hv17_Ve76) ?_
      refine wpF_see 39 (.bool (true)) (Eq.trans (by kernel_rfl) hv18_Ve76) ?_
      refine wpF_see 40 (.int .i64 (checkM (nl) (nk) (nv) (nc))) (Eq.trans (by kernel_rfl) hv19_Ve76) ?_
      refine wpF_see 41 (.int .i64 (checkM (nl) (nk) (nv) (nc))) (Eq.trans (by kernel_rfl) hv20_Ve76) ?_
      refine wpF_see 42 (.bool (true)) (Eq.trans (by kernel_rfl) hv21_Ve76) ?_
      refine wpF_see 43 (.bool (true)) (Eq.trans (by kernel_rfl) hv22_Ve76) ?_
      refine wpF_see 44 (.bool (true)) (Eq.trans (by kernel_rfl) hv23_Ve76) ?_
      refine wpF_see 45 (.bool (true)) (Eq.trans (by kernel_rfl) hv24_Ve76) ?_
      refine wpF_see 46 (.bool (true)) (Eq.trans (by kernel_rfl) hv25_Ve76) ?_
      refine wpF_end _ (by kernel_rfl) (then_n (hK45 _ _ ?_))
      refine wp_ret ?_
      refine retN [.bool (true)] (.bool (true)) Try.results3 (.tmp (by kernel_rfl) (by kernel_rfl) .nil) (by kernel_rfl) (hRet _ _ ⟨_, _, rfl, hMe76.clear, ?_⟩)
      -- end f
      rfl

end Go.Vk
