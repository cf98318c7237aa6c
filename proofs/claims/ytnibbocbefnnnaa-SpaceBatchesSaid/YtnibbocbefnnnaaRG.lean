import Derived.Test.YtnibbocbefnnnaaRA
set_option linter.unusedVariables false
set_option linter.unusedSimpArgs false
namespace Go.Vk
open Go.Proofs
open Go.Shelf in
def ins_ren : Go.Shelf.Ren := ⟨fun | 22 => 56 | 17 => 148 | 29 => 105 | 30 => 106 | 36 => 140 | n => n, fun | 24 => 22 | n => n, fun n => n⟩
open Go.Shelf in
theorem ins_lays : Lays2.n22 Try.prog ins_ren where
  mixed := by kernel_rfl
  f17 := Try.func148.trans (congrArg some (by kernel_rfl))
  f22 := Try.func56.trans (congrArg some (by kernel_rfl))
  f29 := Try.func105.trans (congrArg some (by kernel_rfl))
  f30 := Try.func106.trans (congrArg some (by kernel_rfl))
  f36 := Try.func140.trans (congrArg some (by kernel_rfl))
  t0 := Try.underlying0
  a0 := fun _ => run_agg (by kernel_rfl)
  z0 := fun _ => run_sz (by kernel_rfl)
  v0 := fun _ => run_zero (by kernel_rfl)
  t3 := Try.underlying3
  a3 := fun _ => run_agg (by kernel_rfl)
  z3 := fun _ => run_sz (by kernel_rfl)
  v3 := fun _ => run_zero (by kernel_rfl)
  t4 := Try.underlying4
  a4 := fun _ => run_agg (by kernel_rfl)
  z4 := fun _ => run_sz (by kernel_rfl)
  v4 := fun _ => run_zero (by kernel_rfl)
  t9 := Try.underlying9
  a9 := fun _ => run_agg (by kernel_rfl)
  z9 := fun _ => run_sz (by kernel_rfl)
  v9 := fun _ => run_zero (by kernel_rfl)
  t24 := Try.underlying22
  a24 := fun _ => run_agg (by kernel_rfl)
  z24 := fun _ => run_sz (by kernel_rfl)
  v24 := fun _ => run_zero (by kernel_rfl)
  i9 := by kernel_rfl
theorem f56 (V : VT) (w : World) (Al : Option Addr) (cl : Nat) (l : List Str) (i : Nat) (Av : Option Addr) (cv : Nat) (v : List Str) (hS : St V w [.row strK 9 Al cl l, .row strK 9 Av cv v]) (h1 : i ≤ l.length) (h2 : ∃ y, v = [y]) (h3 : l.length ≤ 100000) :
    Calls Try.prog 56 #[.slice Al l.length cl, .int .i64 (i : Int), .slice Av v.length cv] w (Ret V w [.row strK 9 Al cl l, .row strK 9 Av cv v] fun rv V' E' => ∃ (A1 : Option Addr), ∃ (c1 : Nat), rv = .slice A1 (l.take i ++ v ++ l.drop i).length c1 ∧ E' = [.row strK 9 A1 c1 (l.take i ++ v ++ l.drop i)]) := by
  obtain ⟨y, rfl⟩ := h2
  exact ins_row ins_lays hS h1 (by omega)
end Go.Vk
