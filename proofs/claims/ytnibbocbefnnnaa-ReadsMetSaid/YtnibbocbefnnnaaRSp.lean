import Derived.Test.YtnibbocbefnnnaaRD
import Derived.Test.YtnibbocbefnnnaaRG
import Derived.Test.YtnibbocbefnnnaaRH
import Derived.Test.YtnibbocbefnnnaaRPlainSp
set_option linter.unusedVariables false
set_option linter.unusedSimpArgs false
namespace Go.Vk
open Go.Proofs
variable {D : List Deferred}
abbrev spE (b : Nat) (A : Option Addr) (c m : Nat) (L : List Item) (la ma : Int) : Ent := spEn 71 9 b A c m L la ma
open Go.Shelf in
def del_ren : Go.Shelf.Ren := ⟨fun | 24 => 117 | n => n, fun | 24 => 22 | n => n, fun n => n⟩
open Go.Shelf in
theorem del_lays : Lays2.n24 Try.prog del_ren where
  mixed := by kernel_rfl
  f24 := Try.func117.trans (congrArg some (by kernel_rfl))
  t0 := Try.underlying0
  a0 := fun _ => run_agg (by kernel_rfl)
  z0 := fun _ => run_sz (by kernel_rfl)
  v0 := fun _ => run_zero (by kernel_rfl)
  t3 := Try.underlying3
  a3 := fun _ => run_agg (by kernel_rfl)
  z3 := fun _ => run_sz (by kernel_rfl)
  v3 := fun _ => run_zero (by kernel_rfl)
  t4 := Try.underlying4
  a4 := fun _ => run_agg (by kernel_rfl)
  z4 := fun _ => run_sz (by kernel_rfl)
  v4 := fun _ => run_zero (by kernel_rfl)
  t9 := Try.underlying9
  a9 := fun _ => run_agg (by kernel_rfl)
  z9 := fun _ => run_sz (by kernel_rfl)
  v9 := fun _ => run_zero (by kernel_rfl)
  t24 := Try.underlying22
  a24 := fun _ => run_agg (by kernel_rfl)
  z24 := fun _ => run_sz (by kernel_rfl)
  v24 := fun _ => run_zero (by kernel_rfl)
  i9 := by kernel_rfl
theorem f117 (V : VT) (w : World) (Al : Option Addr) (cl : Nat) (l : List Str) (i j : Nat) (hS : St V w [.row strK 9 Al cl l]) (h1 : i < j) (h2 : j ≤ l.length) :
    Calls Try.prog 117 #[.slice Al l.length cl, .int .i64 (i : Int), .int .i64 (j : Int)] w (Ret V w [.row strK 9 Al cl l] fun rv V' E' => ∃ (A1 : Option Addr), ∃ (c1 : Nat), rv = .slice A1 (l.take i ++ l.drop j).length c1 ∧ E' = [.row strK 9 A1 c1 (l.take i ++ l.drop j)]) := del_row del_lays hS h1 h2
end Go.Vk
