import Derived.Test.YtnibbocbefnnnaaVk22
set_option linter.unusedVariables false
namespace Go.Vk
variable {D : List Deferred}
section
variable {P : Program} {F : List Ent} {V : VT} {ρ : Operand → Value} {w : World}
def sameV (x1 : Int) (x2 : Str) (x3 : Bool) (y1 : Int) (y2 : Str) (y3 : Bool) : Bool := decide ((x1, x2, x3) = (y1, y2, y3))
theorem sameV_eq {x y : Int × Str × Bool} (h : sameV x.1 x.2.1 x.2.2 y.1 y.2.1 y.2.2 = true) : x = y := of_decide_eq_true h
end
section
variable {P : Program} {F : List Ent} {V : VT} {ρ : Operand → Value}
end
end Go.Vk
