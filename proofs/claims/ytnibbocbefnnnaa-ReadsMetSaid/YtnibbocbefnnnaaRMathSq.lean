import Derived.Test.YtnibbocbefnnnaaRMathSp
set_option linter.unusedVariables false
set_option linter.unusedSimpArgs false
set_option linter.unnecessarySimpa false
namespace Go.Vk
theorem lkD_appK {t : Int} {L : List Item} {l : List Chg} (h : SpI L) (y : Str) : ∀ i, i ≤ l.length → (∀ j, j < i → ¬ (l.getD j ([], [], false)).1 = y) → lkD y (appK t L l i) = lkD y L
  | 0, _, _ => rfl
  | i + 1, hi, hn => by
    rw [appK_step (by omega)]
    unfold appOne
    rw [lkD_set (spi_appK h i (by omega)).1, if_neg (hn i (by omega)), lkD_appK h y i (by omega) (fun j hj => hn j (by omega))]
theorem ld_spi {L : List Item} {la ma : Int} (h : ldB L la ma = true) : SpI L := by
  simp only [ldB, Bool.and_eq_true] at h
  have := ld_up (Nat.le_refl _) h.2
  rwa [List.take_length] at this
end Go.Vk
