/- Rising spans, and what is read: the laws' mathematics. -/
import Derived.Test.YtnibbocbefnnnaaRPlain
set_option linter.unusedVariables false
set_option linter.unusedSimpArgs false
set_option linter.unnecessarySimpa false
namespace Go.Vk
/-! ### Finitely many texts are ordered as numbers -/
def rkIn (L : List Str) (x : Str) : Nat := L.countP (fun y => decide (y < x))
theorem rkIn_le {L : List Str} {x y : Str} (h : x < y) : rkIn L x ≤ rkIn L y := List.countP_mono_left fun z _ hz => by
  simp only [decide_eq_true_eq] at hz ⊢
  exact List.lt_trans hz h
theorem rkIn_lt : ∀ {L : List Str} {x y : Str}, x ∈ L → x < y → rkIn L x < rkIn L y
  | z :: L, x, y, hm, h => by
    have hle := rkIn_le (L := L) h
    simp only [rkIn, List.countP_cons] at hle ⊢
    by_cases e : z = x
    · subst e
      rw [if_neg (by simp [List.lt_irrefl]), if_pos (by simpa using h)]
      omega
    · have ih := rkIn_lt (L := L) ((List.mem_cons.1 hm).resolve_left (fun h' => e h'.symm)) h
      simp only [rkIn] at ih
      by_cases hz : z < x
      · rw [if_pos (by simpa using hz), if_pos (by simpa using List.lt_trans hz h)]; omega
      · rw [if_neg (by simpa using hz)]; split <;> omega
theorem rk_lt (L : List Str) : ∀ x y, x ∈ L → y ∈ L → (x < y ↔ rkIn L x < rkIn L y) := fun x y hx hy => by
  refine ⟨rkIn_lt hx, fun h => ?_⟩
  refine Classical.byContradiction fun hn => ?_
  by_cases e : x = y
  · subst e; omega
  · have := rkIn_lt hy (tri hn e); omega
theorem rk_eq (L : List Str) : ∀ x y, x ∈ L → y ∈ L → (x = y ↔ rkIn L x = rkIn L y) := fun x y hx hy => by
  refine ⟨fun h => by rw [h], fun h => ?_⟩
  refine Classical.byContradiction fun hn => ?_
  by_cases h2 : x < y
  · have := rkIn_lt hx h2; omega
  · have := rkIn_lt hy (tri h2 hn); omega
theorem nil_le (x : Str) : ¬ x < [] := by intro h; cases h
theorem rk_nil (L : List Str) : rkIn L [] = 0 := by
  unfold rkIn
  rw [List.countP_eq_zero]
  intro x _
  simpa using nil_le x
theorem within_iff {f t k : Str} : withinB f t k = true ↔ ¬ k < f ∧ (t = [] ∨ k < t) := by simp [withinB]
theorem has_iff {f t : Str} : hasB f t = true ↔ t = [] ∨ f < t := by simp [hasB]
theorem ap_iff {t f : Str} : apB t f = true ↔ t ≠ [] ∧ t < f := by simp [apB]
theorem ap_niff {t f : Str} : apB t f = false ↔ t = [] ∨ ¬ t < f := by
  rw [← Bool.not_eq_true, ap_iff]
  constructor
  · intro h
    by_cases e : t = []
    · exact .inl e
    · exact .inr fun h2 => h ⟨e, h2⟩
  · rintro (h | h) ⟨h1, h2⟩
    · exact h1 h
    · exact h h2
theorem minS_cases (a b : Str) : (¬ b < a ∧ minS a b = a) ∨ (b < a ∧ minS a b = b) := by
  by_cases h : b < a
  · exact .inr ⟨h, by simp [minS, h]⟩
  · exact .inl ⟨h, by simp [minS, h]⟩
theorem jnT_cases (a b : Str) : ((a = [] ∨ b = []) ∧ jnT a b = []) ∨ (a ≠ [] ∧ b ≠ [] ∧ ¬ a < b ∧ jnT a b = a) ∨ (a ≠ [] ∧ b ≠ [] ∧ a < b ∧ jnT a b = b) := by
  by_cases ha : a = []
  · exact .inl ⟨.inl ha, by simp [jnT, ha]⟩
  · by_cases hb : b = []
    · exact .inl ⟨.inr hb, by simp [jnT, hb]⟩
    · by_cases h : a < b
      · exact .inr (.inr ⟨ha, hb, h, by simp [jnT, maxS, ha, hb, h]⟩)
      · exact .inr (.inl ⟨ha, hb, h, by simp [jnT, maxS, ha, hb, h]⟩)
/-- Two spans that touch, as one. -/
theorem join_has {f t a b : Str} (h1 : hasB f t = true) (h2 : hasB a b = true) (h3 : apB b f = false) (h4 : apB t a = false) : hasB (minS f a) (jnT t b) = true := by
  rw [has_iff] at *
  rw [ap_niff] at *
  have hr := rk_lt [f, t, a, b, []]
  have he := rk_eq [f, t, a, b, []]
  have h0 := rk_nil [f, t, a, b, []]
  have hm := minS_cases f a
  have hj := jnT_cases t b
  rcases hm with ⟨m1, m2⟩ | ⟨m1, m2⟩ <;> rcases hj with ⟨j1, j2⟩ | ⟨j0, j1, j2, j3⟩ | ⟨j0, j1, j2, j3⟩ <;> simp only [m2, *] <;> simp only [hr, he, h0, ne_eq, List.mem_cons, true_or, or_true] at * <;> omega
theorem join_within {f t a b : Str} (h1 : hasB f t = true) (h2 : hasB a b = true) (h3 : apB b f = false) (h4 : apB t a = false) (k : Str) : withinB (minS f a) (jnT t b) k = (withinB f t k || withinB a b k) := by
  rw [Bool.eq_iff_iff, Bool.or_eq_true, within_iff, within_iff, within_iff]
  rw [has_iff] at h1 h2
  rw [ap_niff] at h3 h4
  have hr := rk_lt [f, t, a, b, k, []]
  have he := rk_eq [f, t, a, b, k, []]
  have h0 := rk_nil [f, t, a, b, k, []]
  have hm := minS_cases f a
  have hj := jnT_cases t b
  rcases hm with ⟨m1, m2⟩ | ⟨m1, m2⟩ <;> rcases hj with ⟨j1 | j1, j2⟩ | ⟨j0, j1, j2, j3⟩ | ⟨j0, j1, j2, j3⟩ <;> (first | rw [m2, j3] | rw [m2, j2]) <;> simp only [hr, he, h0, ne_eq, List.mem_cons, true_or, or_true, and_true, true_and, not_true, not_false_eq_true, false_and, and_false] at * <;> omega
/-! ### Rising spans -/
abbrev Spn := Str × Str
def CN (l : List Spn) : Prop := (∀ s, s ∈ l → hasB s.1 s.2 = true) ∧ l.Pairwise (fun a b => apB a.2 b.1 = true)
theorem ap_trans {t1 f2 t2 f3 : Str} (h1 : apB t1 f2 = true) (h2 : hasB f2 t2 = true) (h3 : apB t2 f3 = true) : apB t1 f3 = true := by
  rw [ap_iff] at *
  rw [has_iff] at h2
  exact ⟨h1.1, List.lt_trans h1.2 (List.lt_trans (h2.resolve_left h3.1) h3.2)⟩
theorem upS_iff {sp : List Spn} : ∀ {n : Nat}, upS sp n = true ↔ ∀ k, k < n → hasB (sp.getD k ([], [])).1 (sp.getD k ([], [])).2 = true ∧ (k = 0 ∨ apB (sp.getD (k - 1) ([], [])).2 (sp.getD k ([], [])).1 = true)
  | 0 => by simp [upS]
  | n + 1 => by
    simp only [upS, Bool.and_eq_true, upS_iff (n := n), Bool.or_eq_true, decide_eq_true_eq]
    constructor
    · rintro ⟨h1, h2, h3⟩ k hk
      rcases Nat.lt_or_ge k n with h | h
      · exact h1 k h
      · obtain rfl : k = n := by omega
        exact ⟨h2, h3⟩
    · intro h
      exact ⟨fun k hk => h k (by omega), (h n (by omega)).1, (h n (by omega)).2⟩
theorem getD_mem {α : Type} {l : List α} {d : α} {i : Nat} (h : i < l.length) : l.getD i d ∈ l := by
  rw [List.getD_eq_getElem?_getD, List.getElem?_eq_getElem h]; exact List.getElem_mem h
theorem mem_getD {α : Type} {l : List α} (d : α) {x : α} (h : x ∈ l) : ∃ i, i < l.length ∧ l.getD i d = x := by
  obtain ⟨i, hi, rfl⟩ := List.getElem_of_mem h
  exact ⟨i, hi, by rw [List.getD_eq_getElem?_getD, List.getElem?_eq_getElem hi]; rfl⟩
theorem pair_getD {α : Type} {R : α → α → Prop} {l : List α} (d : α) : l.Pairwise R ↔ ∀ i j, i < j → j < l.length → R (l.getD i d) (l.getD j d) := by
  rw [List.pairwise_iff_getElem]
  constructor
  · intro h i j hij hj
    have := h i j (by omega) hj hij
    simpa only [List.getD_eq_getElem?_getD, List.getElem?_eq_getElem hj, List.getElem?_eq_getElem (show i < l.length by omega), Option.getD_some] using this
  · intro h i j hi hj hij
    have := h i j hij hj
    simpa only [List.getD_eq_getElem?_getD, List.getElem?_eq_getElem hj, List.getElem?_eq_getElem hi, Option.getD_some] using this
theorem CN_iff {sp : List Spn} : upS sp sp.length = true ↔ CN sp := by
  rw [upS_iff]
  constructor
  · intro h
    refine ⟨fun s hs => ?_, (pair_getD ([], [])).2 fun i j hij hj => ?_⟩
    · obtain ⟨i, hi, rfl⟩ := mem_getD ([], []) hs
      exact (h i hi).1
    · induction j with
      | zero => omega
      | succ j ih =>
        have h1 := (h (j + 1) hj).2.resolve_left (by omega)
        rw [Nat.add_sub_cancel] at h1
        by_cases e : i = j
        · rw [e]; exact h1
        · exact ap_trans (ih (by omega) (by omega)) (h j (by omega)).1 h1
  · rintro ⟨h1, h2⟩ k hk
    refine ⟨h1 _ (getD_mem hk), ?_⟩
    by_cases e : k = 0
    · exact .inl e
    · exact .inr ((pair_getD ([], [])).1 h2 (k - 1) k (by omega) hk)
theorem spB_iff {l : List Spn} {k : Str} : spB l k = true ↔ ∃ s, s ∈ l ∧ withinB s.1 s.2 k = true := by simp only [spB, List.any_eq_true]
theorem spB_app (l m : List Spn) (k : Str) : spB (l ++ m) k = (spB l k || spB m k) := by simp only [spB, List.any_append]
theorem spB_one (f t k : Str) : spB [(f, t)] k = withinB f t k := by simp [spB]
theorem spB_cons (s : Spn) (l : List Spn) (k : Str) : spB (s :: l) k = (withinB s.1 s.2 k || spB l k) := by simp only [spB, List.any_cons]
theorem first_in {f t : Str} (h : hasB f t = true) : withinB f t f = true := by
  rw [has_iff] at h
  rw [within_iff]
  exact ⟨List.lt_irrefl _, h⟩
/-- Behind a span that ends, what stands further on does not have its end. -/
theorem end_out {t : Str} {l : List Spn} {k : Str} (hk : ¬ t < k) (h : ∀ s, s ∈ l → apB t s.1 = true) : spB l k = false := by
  cases e : spB l k with
  | false => rfl
  | true =>
    obtain ⟨s, hs, hw⟩ := spB_iff.1 e
    have h1 := ap_iff.1 (h s hs)
    have h2 := within_iff.1 hw
    by_cases e2 : k = t
    · subst e2; exact absurd h1.2 h2.1
    · exact absurd (List.lt_trans (tri hk (fun e3 => e2 e3.symm)) h1.2) h2.1
/-- Rising spans that have the same keys are the same. -/
theorem CN_same : ∀ {l m : List Spn}, CN l → CN m → (∀ k, spB l k = spB m k) → l = m
  | [], [], _, _, _ => rfl
  | [], s :: m, _, hm, h => by
    have := h s.1
    rw [spB_cons, first_in (hm.1 s (by simp))] at this
    simp [spB] at this
  | s :: l, [], hl, _, h => by
    have := h s.1
    rw [spB_cons, first_in (hl.1 s (by simp))] at this
    simp [spB] at this
  | a :: l, b :: m, hl, hm, h => by
    have la : ∀ s, s ∈ l → apB a.2 s.1 = true := (List.pairwise_cons.1 hl.2).1
    have mb : ∀ s, s ∈ m → apB b.2 s.1 = true := (List.pairwise_cons.1 hm.2).1
    have ha := hl.1 a (by simp)
    have hb := hm.1 b (by simp)
    -- nothing ahead of the first
    have lo : ∀ {c d : Spn} {r : List Spn} {k : Str}, hasB c.1 c.2 = true → (∀ s, s ∈ r → apB c.2 s.1 = true) → k < c.1 → spB (c :: r) k = false := by
      intro c d r k hc hr hk
      rw [spB_cons, Bool.or_eq_false_iff]
      refine ⟨?_, ?_⟩
      · cases e : withinB c.1 c.2 k with
        | false => rfl
        | true => exact absurd hk (within_iff.1 e).1
      · cases e : spB r k with
        | false => rfl
        | true =>
          obtain ⟨s, hs, hw⟩ := spB_iff.1 e
          have h1 := ap_iff.1 (hr s hs)
          exact absurd (List.lt_trans (List.lt_trans hk ((has_iff.1 hc).resolve_left h1.1)) h1.2) (within_iff.1 hw).1
    have e1 : a.1 = b.1 := by
      refine Classical.byContradiction fun hne => ?_
      by_cases hlt : a.1 < b.1
      · have h1 := h a.1
        rw [lo (d := a) hb mb hlt, spB_cons, first_in ha] at h1
        cases h1
      · have h1 := h b.1
        rw [lo (d := a) ha la (tri hlt hne), spB_cons, first_in hb] at h1
        cases h1
    -- the end of the first is not within
    have en : ∀ {c : Spn} {r : List Spn}, c.2 ≠ [] → (∀ s, s ∈ r → apB c.2 s.1 = true) → spB (c :: r) c.2 = false := by
      intro c r hc hr
      rw [spB_cons, Bool.or_eq_false_iff]
      refine ⟨?_, end_out (List.lt_irrefl _) hr⟩
      cases e : withinB c.1 c.2 c.2 with
      | false => rfl
      | true => exact absurd ((within_iff.1 e).2.resolve_left hc) (List.lt_irrefl _)
    have wi : ∀ {c d : Spn}, c.1 = d.1 → hasB c.1 c.2 = true → c.2 ≠ [] → (d.2 = [] ∨ c.2 < d.2) → withinB d.1 d.2 c.2 = true := by
      intro c d he hc hn hd
      rw [within_iff, ← he]
      exact ⟨fun hx => List.lt_irrefl _ (List.lt_trans hx ((has_iff.1 hc).resolve_left hn)), hd⟩
    have e2 : a.2 = b.2 := by
      refine Classical.byContradiction fun hne => ?_
      by_cases ha0 : a.2 = []
      · have hb0 : b.2 ≠ [] := fun e => hne (by rw [ha0, e])
        have h1 := h b.2
        rw [en hb0 mb, spB_cons, wi e1.symm hb hb0 (.inl ha0)] at h1
        cases h1
      · by_cases hb0 : b.2 = []
        · have h1 := h a.2
          rw [en ha0 la, spB_cons, wi e1 ha ha0 (.inl hb0)] at h1
          cases h1
        · by_cases hlt : a.2 < b.2
          · have h1 := h a.2
            rw [en ha0 la, spB_cons, wi e1 ha ha0 (.inr hlt)] at h1
            cases h1
          · have h1 := h b.2
            rw [en hb0 mb, spB_cons, wi e1.symm hb hb0 (.inr (tri hlt hne))] at h1
            cases h1
    have e3 : a = b := Prod.ext e1 e2
    subst e3
    have hno : ∀ {r : List Spn} {k : Str}, (∀ s, s ∈ r → apB a.2 s.1 = true) → withinB a.1 a.2 k = true → spB r k = false := by
      intro r k hr hk
      cases r with
      | nil => rfl
      | cons s r =>
        have h1 := (ap_iff.1 (hr s (by simp))).1
        exact end_out (fun hx => List.lt_irrefl _ (List.lt_trans hx ((within_iff.1 hk).2.resolve_left h1))) hr
    have e4 : l = m := CN_same ⟨fun s hs => hl.1 s (List.mem_cons_of_mem _ hs), (List.pairwise_cons.1 hl.2).2⟩ ⟨fun s hs => hm.1 s (List.mem_cons_of_mem _ hs), (List.pairwise_cons.1 hm.2).2⟩ fun k => by
      cases hk : withinB a.1 a.2 k with
      | true => rw [hno la hk, hno mb hk]
      | false =>
        have h1 := h k
        rw [spB_cons, spB_cons, hk, Bool.false_or, Bool.false_or] at h1
        exact h1
    rw [e4]
end Go.Vk
