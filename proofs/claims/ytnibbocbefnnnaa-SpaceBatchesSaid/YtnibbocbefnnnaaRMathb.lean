import Derived.Test.YtnibbocbefnnnaaRMath
set_option linter.unusedVariables false
set_option linter.unusedSimpArgs false
set_option linter.unnecessarySimpa false
namespace Go.Vk
theorem bsN_spec {l : List Str} (h : UP l) (y : Str) : (∀ j, j < bsN l y → l.getD j [] < y) ∧ (bsN l y = l.length ∨ ¬ l.getD (bsN l y) [] < y) := by
  have := srch_spec (φ := fun j => !decide (l.getD j [] < y)) (n := l.length) (fun a b hab hb ha => by
    rcases Nat.lt_or_ge a b with h' | h'
    · simp only [Bool.not_eq_true', decide_eq_false_iff_not] at ha ⊢
      exact fun h2 => ha (List.lt_trans ((pair_getD []).1 h a b h' hb) h2)
    · obtain rfl : a = b := by omega
      exact ha) _ 0 l.length (Nat.le_refl _) (by omega) (Nat.le_refl _) (fun k hk => by omega) (.inl rfl)
  simp only [Bool.not_eq_false', decide_eq_true_eq, Bool.not_eq_true', decide_eq_false_iff_not] at this
  exact this
theorem bsB_iff {l : List Str} (h : UP l) {y : Str} : bsB l y = true ↔ y ∈ l := by
  obtain ⟨h1, h2⟩ := bsN_spec h y
  have hle := bsN_le l y
  simp only [bsB, Bool.and_eq_true, decide_eq_true_eq]
  constructor
  · rintro ⟨h3, h4⟩
    rw [← h4]; exact getD_mem (by omega)
  · intro hy
    obtain ⟨i, hi, rfl⟩ := mem_getD [] hy
    have e : bsN l (l.getD i []) = i := by
      rcases Nat.lt_trichotomy (bsN l (l.getD i [])) i with hlt | e | hlt
      · rcases h2 with h2 | h2
        · omega
        · exact absurd ((pair_getD []).1 h _ i hlt hi) h2
      · exact e
      · exact absurd (h1 i hlt) (List.lt_irrefl _)
    rw [e]
    exact ⟨by omega, rfl⟩
end Go.Vk
