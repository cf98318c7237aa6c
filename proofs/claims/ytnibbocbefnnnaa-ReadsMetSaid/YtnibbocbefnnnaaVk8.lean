import Derived.Test.YtnibbocbefnnnaaVk7
set_option linter.unusedVariables false
set_option linter.unusedSimpArgs false
namespace Go.Vk
variable {D : List Deferred}
section
variable {P : Program} {ops : Array Oper} {Q : Exit → Act → World → Prop} {i : Nat} {w : World} {n : Nat} {L : List (Nat × Value)} {g : Nat → Value}
theorem zeroCells_one (z : Value) (m : Nat) : (Builtin.zeroCells #[z] m).toList = List.replicate m z := by
  unfold Builtin.zeroCells
  refine List.ext_getElem (by simp) (fun i h1 h2 => ?_)
  simp [Nat.mod_one]
def numTy (P : Program) (u : TypeId) : Bool :=
  match P.underlying u with
  | some (.int _) => true
  | _ => false
theorem numTy_ok {u : TypeId} (h : numTy P u = true) : ∃ k, P.underlying u = some (.int k) := by
  unfold numTy at h
  split at h
  · rename_i k hu; exact ⟨k, hu⟩
  · cases h
end
end Go.Vk
