import Derived.Test.YtnibbocbefnnnaaRows
import Derived.Test.YtnibbocbefnnnaaRSy
import Derived.Test.YtnibbocbefnnnaaVk22
set_option linter.unusedVariables false
namespace Go.Proofs.Ytnibbocbefnnnaa.spaceStays
open Go.ChangeShapes Go.WideShapes Go.ChangeAt Go.RowKit Go.Vk
open Go.ChangeMaps (open_string shut_string)
theorem own : ownKnob Try.prog.godebug = none := by kernel_rfl
theorem laidOut : laidOutB Try.prog = true := by kernel_rfl
set_option maxHeartbeats 2000000 in
set_option maxRecDepth 100000 in
theorem lifted (os : Os) (started : os.Started) (H : Type) (enc : TypeId × Value → H) :
    ReturnsInHanded {} Try.checked os 11 .any (Rows.spaceStaysSpec.pre6 enc Try.prog Try.f11 Rows.spaceStaysRow.domain false) (Rows.spaceStaysSpec.post enc Try.prog Try.f11 false true false false) := by
  refine returnsInHanded_of_change_sized (C := Try.checked) own started (by kernel_rfl) Try.func11
    (ChangeSpec.witness6 (enc := enc) (C := Try.checked) false ⟨#[], #[.slice none 0 0, .slice none 0 0, .int .i64 0, .string ByteArray.empty, .string ByteArray.empty], []⟩ 8 (by kernel_rfl) (by kernel_rfl) (by kernel_rfl) (by kernel_rfl)) ?_
  intro W base args ds gs before hval0 hW hcnd hsz0 _
  have hsz : (DataW.weightsEach Try.prog (Try.f11.params.toList ++ Rows.spaceStaysSpec.plain.varTypes Try.prog) (ds ++ gs)).all (· ≤ reachBytes) = true := hsz0
  have hval : ∀ (j : Nat) t v, Try.f11.params[j]? = some t → args[j]? = some v → Value.okWide Try.prog W .any base t v := hval0
  have hW' := hW
  obtain ⟨p, q, hA0, hV, rfl, hfz, hnd⟩ := hW
  have hA : DataW.TrodAll enc Try.prog W 0 (fun _ => true) true Try.f11.params.toList args.toList ds p := hA0
  rw [Try.params11] at hA hval hsz
  obtain ⟨v0, vs0, d0, ds0, p0, q0, hargs, rfl, rfl, h0, r0⟩ := trodAll_cons hA
  obtain ⟨v1, vs1, d1, ds1, p1, q1, rfl, rfl, rfl, h1, r1⟩ := trodAll_cons r0
  obtain ⟨v2, vs2, d2, ds2, p2, q2, rfl, rfl, rfl, h2, r2⟩ := trodAll_cons r1
  obtain ⟨v3, vs3, d3, ds3, p3, q3, rfl, rfl, rfl, h3, r3⟩ := trodAll_cons r2
  obtain ⟨v4, vs4, d4, ds4, p4, q4, rfl, rfl, rfl, h4, r4⟩ := trodAll_cons r3
  obtain ⟨rfl, rfl, rfl⟩ := trodAll_nil r4
  obtain rfl : args = #[v0, v1, v2, v3, v4] := by cases args; simp_all
  obtain ⟨rfl, rfl⟩ := trodVars_none hV
  have k0 := h0
  have lt0 : ∀ x ∈ p0, x.block < W.heap.size := by obtain ⟨m, hm⟩ := k0; exact DataW.trod_lt m _ _ _ hm
  have hw0 : ∀ n ∈ d0.weights Try.prog 84, n ≤ reachBytes := fun n hn => of_decide_eq_true (List.all_eq_true.1 hsz _ (DataW.weights_mem_each (j := 0) rfl rfl n hn))
  obtain ⟨sa0, sn0, sc0, rfl⟩ := okWide_slice Try.underlying84 (hval 0 84 v0 rfl rfl)
  obtain ⟨A0, c0, x0, e0, r0_, P0⟩ := open_sl (opens_sl (opens_struct Try.underlying89 (by kernel_rfl) (opensF_cons (opens_int Try.underlying3) rfl (by kernel_rfl) (opensF_cons (opens_int Try.underlying3) rfl (by kernel_rfl) (opensF_one (opens_sl (opens_struct Try.underlying105 (by kernel_rfl) (opensF_cons (opens_str Try.underlying9) rfl (by kernel_rfl) (opensF_cons (opens_str Try.underlying9) rfl (by kernel_rfl) (opensF_one (opens_bool Try.underlying4) rfl (by kernel_rfl))))) Try.underlying45 (by kernel_rfl) (of_decide_eq_true (by kernel_rfl))) rfl (by kernel_rfl))))) Try.underlying84 (by kernel_rfl) (of_decide_eq_true (by kernel_rfl))) h0 hw0
  cases e0
  have k1 := h1
  have lt1 : ∀ x ∈ p1, x.block < W.heap.size := by obtain ⟨m, hm⟩ := k1; exact DataW.trod_lt m _ _ _ hm
  have hw1 : ∀ n ∈ d1.weights Try.prog 84, n ≤ reachBytes := fun n hn => of_decide_eq_true (List.all_eq_true.1 hsz _ (DataW.weights_mem_each (j := 1) rfl rfl n hn))
  obtain ⟨sa1, sn1, sc1, rfl⟩ := okWide_slice Try.underlying84 (hval 1 84 v1 rfl rfl)
  obtain ⟨A1, c1, x1, e1, r1_, P1⟩ := open_sl (opens_sl (opens_struct Try.underlying89 (by kernel_rfl) (opensF_cons (opens_int Try.underlying3) rfl (by kernel_rfl) (opensF_cons (opens_int Try.underlying3) rfl (by kernel_rfl) (opensF_one (opens_sl (opens_struct Try.underlying105 (by kernel_rfl) (opensF_cons (opens_str Try.underlying9) rfl (by kernel_rfl) (opensF_cons (opens_str Try.underlying9) rfl (by kernel_rfl) (opensF_one (opens_bool Try.underlying4) rfl (by kernel_rfl))))) Try.underlying45 (by kernel_rfl) (of_decide_eq_true (by kernel_rfl))) rfl (by kernel_rfl))))) Try.underlying84 (by kernel_rfl) (of_decide_eq_true (by kernel_rfl))) h1 hw1
  cases e1
  obtain ⟨a2, rfl, rfl, rfl, w2⟩ := open_int Try.underlying3 (hval 2 3 v2 rfl rfl) h2
  obtain ⟨a3, rfl, rfl, rfl, y3⟩ := open_string Try.underlying9 (hval 3 9 v3 rfl rfl) h3
  have w3 : a3.data.toList.length ≤ maxL := by
    have z := sized_string hsz (j := 3) (t := 9) rfl rfl
    exact Nat.le_trans z reach_maxL
  obtain ⟨a4, rfl, rfl, rfl, y4⟩ := open_string Try.underlying9 (hval 4 9 v4 rfl rfl) h4
  have w4 : a4.data.toList.length ≤ maxL := by
    have z := sized_string hsz (j := 4) (t := 9) rfl rfl
    exact Nat.le_trans z reach_maxL
  clear hA0 hval0 hsz0
  refine (f11 (ofW W) W (ofW_in W) sa0 sc0 x0 r0_ sa1 sc1 x1 r1_ a2 a3.data.toList w3 a4.data.toList w4).mono fun e W' hr => ?_
  obtain ⟨v, V', rfl, hs, rfl⟩ := hr
  have bel := below_of hs
  exact ⟨_, rfl, _, _, _, [], _, [], hW', trodAll_mk1 (shut_bool Try.underlying4 _), (trodAll_cons_mk (Below.trod laidOut (by kernel_rfl) (of_decide_eq_true (by kernel_rfl)) k0 bel lt0) (trodAll_cons_mk (Below.trod laidOut (by kernel_rfl) (of_decide_eq_true (by kernel_rfl)) k1 bel lt1) (trodAll_cons_mk (shut_int Try.underlying3 w2) (trodAll_cons_mk (shut_string Try.underlying9 y3) (trodAll_cons_mk (shut_string Try.underlying9 y4) trodAll_mk0))))), rfl, bel.frame _, fun h => by cases h⟩
theorem over : Rows.spaceStaysRow.holds Try.pinned (OpenSpec.ofChange Rows.spaceStaysSpec) :=
  OpenClaim.holds_of_wide 11 Try.f11 rfl rfl rfl rfl rfl rfl rfl ⟨rfl, rfl, rfl, rfl, rfl⟩ rfl rfl rfl rfl rfl (by kernel_rfl) Try.func11 (by kernel_rfl)
    (of_decide_eq_true (by kernel_rfl)) (by unfold Func.isWrapper; first | (rw [if_pos (by decide +kernel)]; kernel_rfl) | (rw [if_neg (by decide +kernel)]; exact ⟨rfl, rfl⟩))
    (fun os started H enc _ => lifted os started H enc)
theorem proved : Rows.SpaceStaysSaid := over
#print axioms proved
end Go.Proofs.Ytnibbocbefnnnaa.spaceStays
namespace Go.Proofs.Ytnibbocbefnnnaa
/-- The row, under a short name, for the claim. -/
theorem spaceStays_holds : Rows.SpaceStaysSaid := spaceStays.proved
end Go.Proofs.Ytnibbocbefnnnaa
