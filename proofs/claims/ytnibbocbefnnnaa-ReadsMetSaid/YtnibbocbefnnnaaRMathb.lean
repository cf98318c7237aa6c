import Derived.Test.YtnibbocbefnnnaaRMath
set_option linter.unusedVariables false
set_option linter.unusedSimpArgs false
set_option linter.unnecessarySimpa false
namespace Go.Vk
theorem upK_iff {ks : List Str} {sp : List Spn} : ∀ {n : Nat}, upK ks sp n = true ↔ ∀ k, k < n → (k = 0 ∨ ks.getD (k - 1) [] < ks.getD k []) ∧ spB sp (ks.getD k []) = false
  | 0 => by simp [upK]
  | n + 1 => by
    simp only [upK, Bool.and_eq_true, upK_iff (n := n), Bool.or_eq_true, decide_eq_true_eq, Bool.not_eq_true']
    constructor
    · rintro ⟨h1, h2, h3⟩ k hk
      rcases Nat.lt_or_ge k n with h | h
      · exact h1 k h
      · obtain rfl : k = n := by omega
        exact ⟨h2, h3⟩
    · intro h
      exact ⟨fun k hk => h k (by omega), (h n (by omega)).1, (h n (by omega)).2⟩

theorem keys_iff {ks : List Str} {sp : List Spn} : upK ks sp ks.length = true ↔ UP ks ∧ ∀ k, k ∈ ks → spB sp k = false := by
  rw [upK_iff]
  constructor
  · intro h
    refine ⟨(pair_getD []).2 fun i j hij hj => ?_, fun k hk => ?_⟩
    · induction j with
      | zero => omega
      | succ j ih =>
        have h1 := (h (j + 1) hj).1.resolve_left (by omega)
        rw [Nat.add_sub_cancel] at h1
        by_cases e : i = j
        · rw [e]; exact h1
        · exact List.lt_trans (ih (by omega) (by omega)) h1
    · obtain ⟨i, hi, rfl⟩ := mem_getD [] hk
      exact (h i hi).2
  · rintro ⟨h1, h2⟩ k hk
    refine ⟨?_, h2 _ (getD_mem hk)⟩
    by_cases e : k = 0
    · exact .inl e
    · exact .inr ((pair_getD []).1 h1 (k - 1) k (by omega) hk)
theorem right_iff {ks : List Str} {sp : List Spn} : rightB ks sp = true ↔ ks.length ≤ 64 ∧ sp.length ≤ 64 ∧ CN sp ∧ UP ks ∧ ∀ k, k ∈ ks → spB sp k = false := by
  simp only [rightB, Bool.and_eq_true, Bool.not_eq_true', decide_eq_false_iff_not, CN_iff, keys_iff]
  constructor
  · rintro ⟨⟨⟨h1, h2⟩, h3⟩, h4, h5⟩
    exact ⟨by omega, by omega, h3, h4, h5⟩
  · rintro ⟨h1, h2, h3, h4, h5⟩
    exact ⟨⟨⟨by omega, by omega⟩, h3⟩, h4, h5⟩
theorem bsN_spec {l : List Str} (h : UP l) (y : Str) : (∀ j, j < bsN l y → l.getD j [] < y) ∧ (bsN l y = l.length ∨ ¬ l.getD (bsN l y) [] < y) := by
  have := srch_spec (φ := fun j => !decide (l.getD j [] < y)) (n := l.length) (fun a b hab hb ha => by
    rcases Nat.lt_or_ge a b with h' | h'
    · simp only [Bool.not_eq_true', decide_eq_false_iff_not] at ha ⊢
      exact fun h2 => ha (List.lt_trans ((pair_getD []).1 h a b h' hb) h2)
    · obtain rfl : a = b := by omega
      exact ha) _ 0 l.length (Nat.le_refl _) (by omega) (Nat.le_refl _) (fun k hk => by omega) (.inl rfl)
  simp only [Bool.not_eq_false', decide_eq_true_eq, Bool.not_eq_true', decide_eq_false_iff_not] at this
  exact this
theorem bsB_iff {l : List Str} (h : UP l) {y : Str} : bsB l y = true ↔ y ∈ l := by
  obtain ⟨h1, h2⟩ := bsN_spec h y
  have hle := bsN_le l y
  simp only [bsB, Bool.and_eq_true, decide_eq_true_eq]
  constructor
  · rintro ⟨h3, h4⟩
    rw [← h4]; exact getD_mem (by omega)
  · intro hy
    obtain ⟨i, hi, rfl⟩ := mem_getD [] hy
    have e : bsN l (l.getD i []) = i := by
      rcases Nat.lt_trichotomy (bsN l (l.getD i [])) i with hlt | e | hlt
      · rcases h2 with h2 | h2
        · omega
        · exact absurd ((pair_getD []).1 h _ i hlt hi) h2
      · exact e
      · exact absurd (h1 i hlt) (List.lt_irrefl _)
    rw [e]
    exact ⟨by omega, rfl⟩
theorem cv_iff {ks : List Str} {sp : List Spn} (h : UP ks) (y : Str) : cvB ks sp y = (decide (y ∈ ks) || spB sp y) := by
  unfold cvB
  have := bsB_iff h (y := y)
  by_cases hy : y ∈ ks
  · rw [this.2 hy, decide_eq_true hy]
  · rw [decide_eq_false hy]
    cases hb : bsB ks y with
    | true => exact absurd (this.1 hb) hy
    | false => rfl
end Go.Vk
