import Derived.Test.YtnibbocbefnnnaaRPlain
set_option linter.unusedVariables false
set_option linter.unusedSimpArgs false
set_option linter.unnecessarySimpa false
namespace Go.Vk
theorem has_iff {f t : Str} : hasB f t = true ↔ t = [] ∨ f < t := by simp [hasB]
theorem ap_iff {t f : Str} : apB t f = true ↔ t ≠ [] ∧ t < f := by simp [apB]
abbrev Spn := Str × Str
def CN (l : List Spn) : Prop := (∀ s, s ∈ l → hasB s.1 s.2 = true) ∧ l.Pairwise (fun a b => apB a.2 b.1 = true)
theorem ap_trans {t1 f2 t2 f3 : Str} (h1 : apB t1 f2 = true) (h2 : hasB f2 t2 = true) (h3 : apB t2 f3 = true) : apB t1 f3 = true := by
  rw [ap_iff] at *
  rw [has_iff] at h2
  exact ⟨h1.1, List.lt_trans h1.2 (List.lt_trans (h2.resolve_left h3.1) h3.2)⟩
theorem upS_iff {sp : List Spn} : ∀ {n : Nat}, upS sp n = true ↔ ∀ k, k < n → hasB (sp.getD k ([], [])).1 (sp.getD k ([], [])).2 = true ∧ (k = 0 ∨ apB (sp.getD (k - 1) ([], [])).2 (sp.getD k ([], [])).1 = true)
  | 0 => by simp [upS]
  | n + 1 => by
    simp only [upS, Bool.and_eq_true, upS_iff (n := n), Bool.or_eq_true, decide_eq_true_eq]
    constructor
    · rintro ⟨h1, h2, h3⟩ k hk
      rcases Nat.lt_or_ge k n with h | h
      · exact h1 k h
      · obtain rfl : k = n := by omega
        exact ⟨h2, h3⟩
    · intro h
      exact ⟨fun k hk => h k (by omega), (h n (by omega)).1, (h n (by omega)).2⟩
theorem getD_mem {α : Type} {l : List α} {d : α} {i : Nat} (h : i < l.length) : l.getD i d ∈ l := by
  rw [List.getD_eq_getElem?_getD, List.getElem?_eq_getElem h]; exact List.getElem_mem h
theorem mem_getD {α : Type} {l : List α} (d : α) {x : α} (h : x ∈ l) : ∃ i, i < l.length ∧ l.getD i d = x := by
  obtain ⟨i, hi, rfl⟩ := List.getElem_of_mem h
  exact ⟨i, hi, by rw [List.getD_eq_getElem?_getD, List.getElem?_eq_getElem hi]; rfl⟩
theorem pair_getD {α : Type} {R : α → α → Prop} {l : List α} (d : α) : l.Pairwise R ↔ ∀ i j, i < j → j < l.length → R (l.getD i d) (l.getD j d) := by
  rw [List.pairwise_iff_getElem]
  constructor
  · intro h i j hij hj
    have := h i j (by omega) hj hij
    simpa only [List.getD_eq_getElem?_getD, List.getElem?_eq_getElem hj, List.getElem?_eq_getElem (show i < l.length by omega), Option.getD_some] using this
  · intro h i j hi hj hij
    have := h i j hij hj
    simpa only [List.getD_eq_getElem?_getD, List.getElem?_eq_getElem hj, List.getElem?_eq_getElem hi, Option.getD_some] using this
theorem CN_iff {sp : List Spn} : upS sp sp.length = true ↔ CN sp := by
  rw [upS_iff]
  constructor
  · intro h
    refine ⟨fun s hs => ?_, (pair_getD ([], [])).2 fun i j hij hj => ?_⟩
    · obtain ⟨i, hi, rfl⟩ := mem_getD ([], []) hs
      exact (h i hi).1
    · induction j with
      | zero => omega
      | succ j ih =>
        have h1 := (h (j + 1) hj).2.resolve_left (by omega)
        rw [Nat.add_sub_cancel] at h1
        by_cases e : i = j
        · rw [e]; exact h1
        · exact ap_trans (ih (by omega) (by omega)) (h j (by omega)).1 h1
  · rintro ⟨h1, h2⟩ k hk
    refine ⟨h1 _ (getD_mem hk), ?_⟩
    by_cases e : k = 0
    · exact .inl e
    · exact .inr ((pair_getD ([], [])).1 h2 (k - 1) k (by omega) hk)
end Go.Vk
