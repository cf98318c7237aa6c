import Derived.Test.YtnibbocbefnnnaaVk22
set_option linter.unusedVariables false
namespace Go.Vk
variable {D : List Deferred}
section
variable {P : Program} {F : List Ent} {V : VT} {ρ : Operand → Value} {w : World}
def sameV (x1 : Int) (x2 : Str) (x3 : Bool) (y1 : Int) (y2 : Str) (y3 : Bool) : Bool := decide ((x1, x2, x3) = (y1, y2, y3))
theorem sameV_eq {x y : Int × Str × Bool} (h : sameV x.1 x.2.1 x.2.2 y.1 y.2.1 y.2.2 = true) : x = y := of_decide_eq_true h
end
section
variable {P : Program} {F : List Ent} {V : VT} {ρ : Operand → Value}
theorem run_minI (ts : Array TypeId) (ty : TypeId) (k : IntKind) (a b : Int) (w : World) : (Builtin.min_ ts ty #[.int k a, .int k b]).run P w = .ok (.int k (if b < a then b else a)) w := by
  simp only [Builtin.min_, List.foldlM, Builtin.min2, Sem.run_bind, Sem.run_pure, Result.andThen_ok]
theorem Y_minI {tys : Array TypeId} {x y : Operand} (k : IntKind) (a b : Int) (hx : ρ x = .int k a) (hy : ρ y = .int k b) : Yv P V F ρ (.call ⟨.builtin .min, #[x, y], tys⟩) (.int k (if b < a then b else a)) := fun o ho V' w _ _ => by
  unfold execOp
  simp only [ho, resolve, invoke, builtin, Sem.run_bind, Sem.run_pure, Result.andThen_ok, List.map_toArray, List.map_cons, List.map_nil, hx, hy, run_minI]
end
end Go.Vk
