import Derived.Test.YtnibbocbefnnnaaRMathSq
set_option linter.unusedVariables false
set_option linter.unusedSimpArgs false
set_option linter.unnecessarySimpa false
namespace Go.Vk
def itOk (la : Int) (p : Item) : Prop := p.1.length ≤ 128 ∧ p.2 ≠ [] ∧ chnB p.2 = true ∧ (p.2.getD 0 (0, [], false)).1 ≤ la
theorem ldB_iff {L : List Item} {la ma : Int} : ldB L la ma = true ↔ (0 ≤ la ∧ la ≤ 1152921504606846976 ∧ 0 ≤ ma ∧ ma ≤ la) ∧ UP (keysOf L) ∧ ∀ p, p ∈ L → itOk la p := by
  constructor
  · intro h
    refine ⟨ld_rng h, (ld_spi h).1, fun p hp => ?_⟩
    simp only [ldB, Bool.and_eq_true] at h
    obtain ⟨i, hi, rfl⟩ := mem_getD ([], []) hp
    have := ldK_iff.1 h.2 i hi
    unfold mayB at this
    simp only [Bool.and_eq_true, Bool.or_eq_true, decide_eq_true_eq] at this
    obtain ⟨⟨⟨⟨h1, _⟩, h3⟩, h4⟩, h5⟩ := this
    exact ⟨by omega, fun e => by rw [e] at h3; simp at h3, h4, h5⟩
  · rintro ⟨hr, hu, hi⟩
    simp only [ldB, Bool.and_eq_true]
    refine ⟨?_, ldK_iff.2 fun i hi' => ?_⟩
    · simp only [ldR, Bool.and_eq_true, Bool.not_eq_true', decide_eq_false_iff_not]; omega
    · obtain ⟨h1, h2, h3, h4⟩ := hi _ (getD_mem (d := ([], [])) hi')
      refine may_yes (by omega) ?_ (fun e => h2 (List.eq_nil_of_length_eq_zero (by omega))) h3 (by omega)
      by_cases h0 : i = 0
      · left; exact decide_eq_true (by omega)
      · right
        rw [ahead_pos (by omega)]
        refine decide_eq_true ?_
        have := (pair_getD []).1 hu (i - 1) i (by omega) (by rw [len_keys]; exact hi')
        rwa [keys_getD, keys_getD] at this
def wtn (f u k : Str) : Prop := ¬ k < f ∧ (u = [] ∨ k < u)
theorem wtn_iff {f u k : Str} : withinB f u k = true ↔ wtn f u k := by
  unfold withinB wtn
  simp only [Bool.and_eq_true, Bool.or_eq_true, Bool.not_eq_true', decide_eq_false_iff_not, decide_eq_true_eq]
end Go.Vk
