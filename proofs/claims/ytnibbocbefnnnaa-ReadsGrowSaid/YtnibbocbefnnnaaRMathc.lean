/- The document's own ways of adding a key and a span. -/
import Derived.Test.YtnibbocbefnnnaaRMathb
set_option linter.unusedVariables false
set_option linter.unusedSimpArgs false
namespace Go.Vk
/-! ### ambryref16's ways come to the same -/
def KeyI (ks : List Str) (y : Str) (k : Nat) (r : List Str × Bool) : Prop :=
  (r.2 = false → r.1 = ks.take k ∧ ∀ j, j < k → ks.getD j [] < y) ∧
  (r.2 = true → UP r.1 ∧ (∀ z, z ∈ r.1 ↔ z ∈ ks.take k ∨ z = y) ∧ ∀ z, z ∈ r.1 → ∀ j, k ≤ j → j < ks.length → z < ks.getD j [])
theorem UP_snoc {l : List Str} {x : Str} (h : UP l) (h1 : ∀ z, z ∈ l → z < x) : UP (l ++ [x]) :=
  List.pairwise_append.2 ⟨h, List.pairwise_singleton _ _, fun a ha b hb => by rw [List.mem_singleton.1 hb]; exact h1 a ha⟩
theorem key_inv {ks : List Str} (h : UP ks) (y : Str) : ∀ k, k ≤ ks.length → KeyI ks y k (runK ks y k)
  | 0, _ => ⟨fun _ => ⟨rfl, fun j hj => by omega⟩, fun h => (by cases h)⟩
  | k + 1, hk => by
    have hkl : k < ks.length := by omega
    obtain ⟨i1, i2⟩ := key_inv h y k (by omega)
    have hup := (pair_getD []).1 h
    have htk : ks.take (k + 1) = ks.take k ++ [ks.getD k []] := take_snoc hkl
    have hlow : ∀ z, z ∈ ks.take k → z < ks.getD k [] := fun z hz => by
      obtain ⟨j, hj, rfl⟩ := mem_getD [] hz
      simp only [List.length_take] at hj
      have : (ks.take k).getD j [] = ks.getD j [] := by simp only [List.getD_eq_getElem?_getD, List.getElem?_take, if_pos (show j < k by omega)]
      rw [this]; exact hup j k (by omega) hkl
    have hhi : ∀ z, z < ks.getD k [] ∨ z = ks.getD k [] → ∀ j, k + 1 ≤ j → j < ks.length → z < ks.getD j [] := fun z hz j hj1 hj2 => by
      have h3 := hup k j (by omega) hj2
      rcases hz with hz | hz
      · exact List.lt_trans hz h3
      · rw [hz]; exact h3
    have hupk : UP (ks.take k) := h.sublist (List.take_sublist _ _)
    simp only [runK]
    generalize runK ks y k = r at *
    generalize hx : ks.getD k [] = x at *
    obtain ⟨o, ld⟩ := r
    simp only at i1 i2
    cases ld with
    | false =>
      obtain ⟨rfl, a2⟩ := i1 rfl
      by_cases h1 : x < y
      · have hne : ¬ x = y := fun e => by rw [e] at h1; exact List.lt_irrefl _ h1
        simp only [stepK, decide_eq_true h1, decide_eq_false hne, Bool.not_true, Bool.not_false, Bool.and_false, cond_false]
        refine ⟨fun _ => ⟨htk.symm, fun j hj => ?_⟩, fun h => (by cases h)⟩
        by_cases e : j = k
        · rw [e, hx]; exact h1
        · exact a2 j (by omega)
      · have hlt : ∀ z, z ∈ ks.take k → z < y := fun z hz => by
          obtain ⟨j, hj, rfl⟩ := mem_getD [] hz
          simp only [List.length_take] at hj
          have : (ks.take k).getD j [] = ks.getD j [] := by simp only [List.getD_eq_getElem?_getD, List.getElem?_take, if_pos (show j < k by omega)]
          rw [this]; exact a2 j (by omega)
        by_cases h2 : x = y
        · simp only [stepK, decide_eq_false h1, decide_eq_true h2, Bool.not_false, Bool.and_self, cond_true]
          refine ⟨fun h => (by cases h), fun _ => ⟨UP_snoc hupk hlt, fun z => ?_, fun z hz => ?_⟩⟩
          · rw [htk]; simp [h2]
          · refine hhi z ?_
            rcases List.mem_append.1 hz with hz | hz
            · exact .inl (hlow z hz)
            · exact .inr (by rw [List.mem_singleton.1 hz, h2])
        · have h3 : y < x := tri h1 h2
          simp only [stepK, decide_eq_false h1, decide_eq_false h2, Bool.not_false, Bool.and_self, cond_true, cond_false]
          refine ⟨fun h => (by cases h), fun _ => ⟨UP_snoc (UP_snoc hupk hlt) fun z hz => ?_, fun z => ?_, fun z hz => ?_⟩⟩
          · rcases List.mem_append.1 hz with hz | hz
            · exact hlow z hz
            · rw [List.mem_singleton.1 hz]; exact h3
          · rw [htk]; simp [or_comm, or_assoc, or_left_comm]
          · refine hhi z ?_
            rcases List.mem_append.1 hz with hz | hz
            · rcases List.mem_append.1 hz with hz | hz
              · exact .inl (hlow z hz)
              · exact .inl (by rw [List.mem_singleton.1 hz]; exact h3)
            · exact .inr (List.mem_singleton.1 hz)
    | true =>
      obtain ⟨a1, a2, a3⟩ := i2 rfl
      have hox : ∀ z, z ∈ o → z < x := fun z hz => by rw [← hx]; exact a3 z hz k (Nat.le_refl _) hkl
      have hne : ¬ x = y := fun e => by
        have := hox y ((a2 y).2 (.inr rfl))
        rw [e] at this; exact List.lt_irrefl _ this
      simp only [stepK, Bool.not_true, Bool.false_and, decide_eq_false hne, cond_false]
      refine ⟨fun h => (by cases h), fun _ => ⟨UP_snoc a1 hox, fun z => ?_, fun z hz => ?_⟩⟩
      · rw [htk, List.mem_append, List.mem_append, a2 z]
        simp only [List.mem_singleton]
        constructor
        · rintro ((h | h) | h)
          · exact .inl (.inl h)
          · exact .inr h
          · exact .inl (.inr h)
        · rintro ((h | h) | h)
          · exact .inl (.inl h)
          · exact .inr h
          · exact .inl (.inr h)
      · refine hhi z ?_
        rcases List.mem_append.1 hz with hz | hz
        · exact .inl (hox z hz)
        · exact .inr (List.mem_singleton.1 hz)
theorem refK_is {ks : List Str} (h : UP ks) (y : Str) : refK ks y = insK ks y := by
  obtain ⟨i1, i2⟩ := key_inv h y ks.length (Nat.le_refl _)
  obtain ⟨n1, n2, _⟩ := insK_facts h y
  unfold refK
  generalize runK ks y ks.length = r at *
  obtain ⟨o, ld⟩ := r
  simp only [List.take_length] at i1 i2
  cases ld with
  | true =>
    obtain ⟨a1, a2, _⟩ := i2 rfl
    show o = insK ks y
    exact UP_same a1 n1 fun z => by rw [a2, n2]
  | false =>
    obtain ⟨rfl, a2⟩ := i1 rfl
    show o ++ [y] = insK o y
    refine UP_same (UP_snoc h fun z hz => ?_) n1 fun z => by rw [n2]; simp
    obtain ⟨j, hj, rfl⟩ := mem_getD [] hz
    exact a2 j hj
theorem joinR (f t a b : Str) : (bif decide (a < f) then a else f) = minS f a ∧ (bif decide (b = []) || (!decide (t = []) && decide (t < b)) then b else t) = jnT t b := by
  refine ⟨rfl, ?_⟩
  unfold jnT maxS
  by_cases h1 : b = []
  · rw [decide_eq_true h1, h1, Bool.or_true]; simp
  · by_cases h2 : t = []
    · rw [h2]; simp [h1]
    · simp [h1, h2]
theorem run_same {sp : List Spn} {f t : Str} (hc : CN sp) (hx : hasB f t = true) : ∀ k, k ≤ sp.length → ((runP sp f t k).2.1 = false ∧ runR sp f t k = ((runP sp f t k).1, [], (runP sp f t k).2.2.1, (runP sp f t k).2.2.2)) ∨ ((runP sp f t k).2.1 = true ∧ ∃ ah be, runR sp f t k = (ah, be, (runP sp f t k).2.2.1, (runP sp f t k).2.2.2) ∧ (runP sp f t k).1 = ah ++ [((runP sp f t k).2.2.1, (runP sp f t k).2.2.2)] ++ be)
  | 0, _ => .inl ⟨rfl, rfl⟩
  | k + 1, hk => by
    have hkl : k < sp.length := by omega
    have hi := run_inv hc hx k (by omega)
    have ih := run_same hc hx k (by omega)
    have hs := hc.1 _ (getD_mem (d := ([], [])) hkl)
    simp only [runP, runR]
    generalize runP sp f t k = r at *
    generalize runR sp f t k = q at *
    obtain ⟨o, ld, f', t'⟩ := r
    obtain ⟨i1, i2, i3, i4⟩ := hi
    have hsk : ∀ z : Spn, (∀ j, k ≤ j → j < sp.length → apB z.2 (sp.getD j ([], [])).1 = true) → apB z.2 (sp.getD k ([], [])).1 = true := fun z h => h k (Nat.le_refl _) hkl
    generalize sp.getD k ([], []) = s at *
    simp only at ih i1 i2 i3 i4
    rcases ih with ⟨rfl, rfl⟩ | ⟨rfl, ah, be, rfl, e⟩
    · cases h1 : apB s.2 f' with
      | true => exact .inl ⟨by simp only [stepP, h1, cond_true], by simp only [stepP, stepR, h1, cond_true]⟩
      | false =>
        cases h2 : apB t' s.1 with
        | true => exact .inr ⟨by simp only [stepP, h1, h2, cond_true, cond_false], o, [s], by simp only [stepP, stepR, h1, h2, cond_true, cond_false, List.nil_append], by simp only [stepP, h1, h2, cond_true, cond_false]⟩
        | false => exact .inl ⟨by simp only [stepP, h1, h2, cond_false], by simp only [stepP, stepR, h1, h2, cond_false, (joinR f' t' s.1 s.2).1, (joinR f' t' s.1 s.2).2]⟩
    · obtain ⟨a1, a2, _⟩ := i4 rfl
      have h2 : apB t' s.1 = true := hsk _ (a1 _ a2)
      have hx' : hasB f' t' = true := i1.1 _ a2
      have h1 : apB s.2 f' = false := by
        cases h1 : apB s.2 f' with
        | false => rfl
        | true =>
          have b1 := ap_iff.1 h1
          have b2 := ap_iff.1 h2
          have b3 := (has_iff.1 hx').resolve_left b2.1
          have b4 := (has_iff.1 hs).resolve_left b1.1
          exact absurd (List.lt_trans (List.lt_trans b3 b2.2) (List.lt_trans b4 b1.2)) (List.lt_irrefl _)
      refine .inr ⟨by simp only [stepP, h1, h2, cond_true, cond_false], ah, be ++ [s], by simp only [stepP, stepR, h1, h2, cond_true, cond_false], ?_⟩
      simp only [stepP, h1, h2, cond_true, cond_false, e, List.append_assoc]
theorem refO_is {sp : List Spn} {f t : Str} (hc : CN sp) (hx : hasB f t = true) : refO sp f t = spO sp f t := by
  unfold refO spO
  rcases run_same hc hx sp.length (Nat.le_refl _) with ⟨h1, h2⟩ | ⟨h1, ah, be, h2, h3⟩
  · rw [h1, h2]; simp
  · rw [h1, h2, cond_true, h3]
theorem mk_all {ks : List Str} {sp : List Spn} (h : ∀ k, k ∈ ks → spB sp k = false) : mkK ks sp = ks := by
  unfold mkK
  rw [List.filter_eq_self]
  intro k hk
  rw [h k hk]; rfl
/-- What the document's way makes is what the program makes. -/
theorem key_same (ks : List Str) (sp : List Spn) (y : Str) : kyK ks sp y = rkK ks sp y ∧ kyS ks sp y = rkS ks sp y ∧ kyE ks sp y = rkE ks sp y := by
  cases hr : rightB ks sp with
  | false => simp only [kyK, kyS, kyE, rkK, rkS, rkE, hr, cond_false, and_self]
  | true =>
    have := refK_is (right_iff.1 hr).2.2.2.1 y
    simp only [kyK, kyS, kyE, rkK, rkS, rkE, hr, cond_true, this, and_self]
theorem span_same (ks : List Str) (sp : List Spn) (f t : Str) : snK ks sp f t = rsK ks sp f t ∧ snQ ks sp f t = rsS ks sp f t ∧ snE ks sp f t = rsE ks sp f t := by
  cases hr : rightB ks sp with
  | false => simp only [snK, snQ, snE, rsK, rsS, rsE, hr, cond_false, and_self]
  | true =>
    obtain ⟨r1, r2, r3, r4, r5⟩ := right_iff.1 hr
    cases hx : hasB f t with
    | true => simp only [snK, snQ, snE, rsK, rsS, rsE, snS, hr, hx, cond_true, refO_is r3 hx, and_self]
    | false =>
      have hm := mk_all r5
      have hok : mkOk ks sp = true := mk_room r1 r2
      simp only [snK, snQ, snE, rsK, rsS, rsE, snS, hr, hx, cond_true, cond_false, mdK, mdS, mdE, hok, hm, and_self]
end Go.Vk
