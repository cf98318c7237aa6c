import Derived.Test.YtnibbocbefnnnaaRMathSr
set_option linter.unusedVariables false
set_option linter.unusedSimpArgs false
set_option linter.unnecessarySimpa false
namespace Go.Vk
theorem chn_lkD {L : List Item} {la ma : Int} (h : ldB L la ma = true) (y : Str) : chnB (lkD y L) = true ∧ (lkD y L = [] ∨ ((lkD y L).getD 0 (0, [], false)).1 ≤ la) := by
  by_cases e : lkD y L = []
  · rw [e]; exact ⟨by decide, .inl rfl⟩
  · have := (ldB_iff.1 h).2.2 _ (lkD_mem e)
    exact ⟨this.2.2.1, .inr this.2.2.2⟩
end Go.Vk
