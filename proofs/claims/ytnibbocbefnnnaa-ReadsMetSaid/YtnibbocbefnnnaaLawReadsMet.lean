import Derived.Test.YtnibbocbefnnnaaRows
import Derived.Test.YtnibbocbefnnnaaRUf
import Derived.Test.YtnibbocbefnnnaaVk24
set_option linter.unusedVariables false
namespace Go.Proofs.Ytnibbocbefnnnaa.readsMet
open Go.ChangeShapes Go.WideShapes Go.ChangeAt Go.RowKit Go.Vk
open Go.ChangeMaps (open_string shut_string)
theorem own : ownKnob Try.prog.godebug = none := by kernel_rfl
theorem laidOut : laidOutB Try.prog = true := by kernel_rfl
set_option maxHeartbeats 2000000 in
set_option maxRecDepth 100000 in
theorem lifted (os : Os) (started : os.Started) (H : Type) (enc : TypeId × Value → H) :
    ReturnsInHanded {} Try.checked os 13 .any (Rows.readsMetSpec.pre6 enc Try.prog Try.f13 Rows.readsMetRow.domain false) (Rows.readsMetSpec.post enc Try.prog Try.f13 false true false false) := by
  refine returnsInHanded_of_change_sized (C := Try.checked) own started (by kernel_rfl) Try.func13
    (ChangeSpec.witness6 (enc := enc) (C := Try.checked) false ⟨#[], #[.agg #[.slice none 0 0, .slice none 0 0], .slice none 0 0, .int .i64 0, .int .i64 0, .slice none 0 0], []⟩ 8 (by kernel_rfl) (by kernel_rfl) (by kernel_rfl) (by kernel_rfl)) ?_
  intro W base args ds gs before hval0 hW hcnd hsz0 _
  have hsz : (DataW.weightsEach Try.prog (Try.f13.params.toList ++ Rows.readsMetSpec.plain.varTypes Try.prog) (ds ++ gs)).all (· ≤ reachBytes) = true := hsz0
  have hval : ∀ (j : Nat) t v, Try.f13.params[j]? = some t → args[j]? = some v → Value.okWide Try.prog W .any base t v := hval0
  have hW' := hW
  obtain ⟨p, q, hA0, hV, rfl, hfz, hnd⟩ := hW
  have hA : DataW.TrodAll enc Try.prog W 0 (fun _ => true) true Try.f13.params.toList args.toList ds p := hA0
  rw [Try.params13] at hA hval hsz
  obtain ⟨v0, vs0, d0, ds0, p0, q0, hargs, rfl, rfl, h0, r0⟩ := trodAll_cons hA
  obtain ⟨v1, vs1, d1, ds1, p1, q1, rfl, rfl, rfl, h1, r1⟩ := trodAll_cons r0
  obtain ⟨v2, vs2, d2, ds2, p2, q2, rfl, rfl, rfl, h2, r2⟩ := trodAll_cons r1
  obtain ⟨v3, vs3, d3, ds3, p3, q3, rfl, rfl, rfl, h3, r3⟩ := trodAll_cons r2
  obtain ⟨v4, vs4, d4, ds4, p4, q4, rfl, rfl, rfl, h4, r4⟩ := trodAll_cons r3
  obtain ⟨rfl, rfl, rfl⟩ := trodAll_nil r4
  obtain rfl : args = #[v0, v1, v2, v3, v4] := by cases args; simp_all
  obtain ⟨rfl, rfl⟩ := trodVars_none hV
  have k0 := h0
  have lt0 : ∀ x ∈ p0, x.block < W.heap.size := by obtain ⟨m, hm⟩ := k0; exact DataW.trod_lt m _ _ _ hm
  have hw0 : ∀ n ∈ d0.weights Try.prog 25, n ≤ reachBytes := fun n hn => of_decide_eq_true (List.all_eq_true.1 hsz _ (DataW.weights_mem_each (j := 0) rfl rfl n hn))
  obtain ⟨cs0, rfl, hcz0⟩ := okWide_struct Try.underlying25 (hval 0 25 v0 rfl rfl)
  obtain ⟨fuel0, hf0⟩ := h0
  obtain ⟨A0a, c0a, ks0, A0b, c0b, sp0, hcs0, ra0, rb0, P0, Q0⟩ := open_two (opens_struct Try.underlying25 (by kernel_rfl) (opensF_cons (opens_sl (opens_strB Try.underlying9) Try.underlying22 (by kernel_rfl) (of_decide_eq_true (by kernel_rfl))) rfl (by kernel_rfl) (opensF_one (opens_sl (opens_struct Try.underlying40 (by kernel_rfl) (opensF_cons (opens_strB Try.underlying9) rfl (by kernel_rfl) (opensF_one (opens_strB Try.underlying9) rfl (by kernel_rfl)))) Try.underlying23 (by kernel_rfl) (of_decide_eq_true (by kernel_rfl))) rfl (by kernel_rfl)))) hf0 hw0
  obtain rfl : cs0 = #[.slice A0a ks0.length c0a, .slice A0b sp0.length c0b] := Array.ext' hcs0
  have k1 := h1
  have lt1 : ∀ x ∈ p1, x.block < W.heap.size := by obtain ⟨m, hm⟩ := k1; exact DataW.trod_lt m _ _ _ hm
  have hw1 : ∀ n ∈ d1.weights Try.prog 46, n ≤ reachBytes := fun n hn => of_decide_eq_true (List.all_eq_true.1 hsz _ (DataW.weights_mem_each (j := 1) rfl rfl n hn))
  obtain ⟨sa1, sn1, sc1, rfl⟩ := okWide_slice Try.underlying46 (hval 1 46 v1 rfl rfl)
  obtain ⟨A1, c1, x1, e1, r1_, P1⟩ := open_sl (opens_sl (opens_struct Try.underlying80 (by kernel_rfl) (opensF_cons (opens_strB Try.underlying9) rfl (by kernel_rfl) (opensF_one (opens_sl (opens_struct Try.underlying126 (by kernel_rfl) (opensF_cons (opens_int Try.underlying3) rfl (by kernel_rfl) (opensF_cons (opens_strB Try.underlying9) rfl (by kernel_rfl) (opensF_one (opens_bool Try.underlying4) rfl (by kernel_rfl))))) Try.underlying78 (by kernel_rfl) (of_decide_eq_true (by kernel_rfl))) rfl (by kernel_rfl)))) Try.underlying46 (by kernel_rfl) (of_decide_eq_true (by kernel_rfl))) h1 hw1
  cases e1
  obtain ⟨a2, rfl, rfl, rfl, w2⟩ := open_int Try.underlying3 (hval 2 3 v2 rfl rfl) h2
  obtain ⟨a3, rfl, rfl, rfl, w3⟩ := open_int Try.underlying3 (hval 3 3 v3 rfl rfl) h3
  have k4 := h4
  have lt4 : ∀ x ∈ p4, x.block < W.heap.size := by obtain ⟨m, hm⟩ := k4; exact DataW.trod_lt m _ _ _ hm
  have hw4 : ∀ n ∈ d4.weights Try.prog 45, n ≤ reachBytes := fun n hn => of_decide_eq_true (List.all_eq_true.1 hsz _ (DataW.weights_mem_each (j := 4) rfl rfl n hn))
  obtain ⟨sa4, sn4, sc4, rfl⟩ := okWide_slice Try.underlying45 (hval 4 45 v4 rfl rfl)
  obtain ⟨A4, c4, x4, e4, r4_, P4⟩ := open_sl (opens_sl (opens_struct Try.underlying105 (by kernel_rfl) (opensF_cons (opens_strB Try.underlying9) rfl (by kernel_rfl) (opensF_cons (opens_strB Try.underlying9) rfl (by kernel_rfl) (opensF_one (opens_bool Try.underlying4) rfl (by kernel_rfl))))) Try.underlying45 (by kernel_rfl) (of_decide_eq_true (by kernel_rfl))) h4 hw4
  cases e4
  clear hA0 hval0 hsz0
  refine (f13 (ofW W) W (ofW_in W) A0a c0a ks0 ra0 A0b c0b sp0 rb0 sa1 sc1 x1 r1_ a2 a3 sa4 sc4 x4 r4_ P0.2 (fun i hi => big32b (P1.2 _ (getD_mem (d := ([], [])) hi)).2.1 (by kernel_rfl))).mono fun e W' hr => ?_
  obtain ⟨v, V', rfl, hs, rfl⟩ := hr
  have bel := below_of hs
  exact ⟨_, rfl, _, _, _, [], _, [], hW', trodAll_mk1 (shut_bool Try.underlying4 _), (trodAll_cons_mk (Below.trod laidOut (by kernel_rfl) (of_decide_eq_true (by kernel_rfl)) k0 bel lt0) (trodAll_cons_mk (Below.trod laidOut (by kernel_rfl) (of_decide_eq_true (by kernel_rfl)) k1 bel lt1) (trodAll_cons_mk (shut_int Try.underlying3 w2) (trodAll_cons_mk (shut_int Try.underlying3 w3) (trodAll_cons_mk (Below.trod laidOut (by kernel_rfl) (of_decide_eq_true (by kernel_rfl)) k4 bel lt4) trodAll_mk0))))), rfl, bel.frame _, fun h => by cases h⟩
theorem over : Rows.readsMetRow.holds Try.pinned (OpenSpec.ofChange Rows.readsMetSpec) :=
  OpenClaim.holds_of_wide 13 Try.f13 rfl rfl rfl rfl rfl rfl rfl ⟨rfl, rfl, rfl, rfl, rfl⟩ rfl rfl rfl rfl rfl (by kernel_rfl) Try.func13 (by kernel_rfl)
    (of_decide_eq_true (by kernel_rfl)) (by unfold Func.isWrapper; first | (rw [if_pos (by decide +kernel)]; kernel_rfl) | (rw [if_neg (by decide +kernel)]; exact ⟨rfl, rfl⟩))
    (fun os started H enc _ => lifted os started H enc)
theorem proved : Rows.ReadsMetSaid := over
#print axioms proved
end Go.Proofs.Ytnibbocbefnnnaa.readsMet
namespace Go.Proofs.Ytnibbocbefnnnaa
/-- The row, under a short name, for the claim. -/
theorem readsMet_holds : Rows.ReadsMetSaid := readsMet.proved
end Go.Proofs.Ytnibbocbefnnnaa
