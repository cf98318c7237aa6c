import Derived.Test.YtnibbocbefnnnaaRMathSp
set_option linter.unusedVariables false
set_option linter.unusedSimpArgs false
set_option linter.unnecessarySimpa false
namespace Go.Vk
theorem ld_spi {L : List Item} {la ma : Int} (h : ldB L la ma = true) : SpI L := by
  simp only [ldB, Bool.and_eq_true] at h
  have := ld_up (Nat.le_refl _) h.2
  rwa [List.take_length] at this
end Go.Vk
