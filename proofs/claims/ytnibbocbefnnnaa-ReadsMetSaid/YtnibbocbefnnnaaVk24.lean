import Derived.Test.YtnibbocbefnnnaaVk22
set_option linter.unusedVariables false
namespace Go.Vk
open Go.ChangeShapes Go.WideShapes
section
variable {P : Program}
theorem opens_strB {t : TypeId} (ht : P.underlying t = some .string) : Opens P t strK (fun s => s.length ≤ 140737488351232) := by
  constructor
  intro H enc w base held fuel cs x h hw
  obtain ⟨s, rfl, rfl, _⟩ := DataW.trod_string ht h
  have hb : s.data.toList.length ≤ reachBytes := hw _ (by simp only [DataW.weights]; exact List.mem_singleton.2 rfl)
  exact ⟨s.data.toList, ⟨rfl, Nat.le_trans hb reach_maxL⟩, Nat.le_trans hb (by decide)⟩
theorem open_two {α β : Type} {K : Kd α} {M : Kd β} {Φ : List α → Prop} {Ψ : List β → Prop} {t : TypeId} {H : Type} {enc : TypeId × Value → H} {w : World} {base : Nat} {held : Bool} {fuel : Nat} {cs : List Value} {x : DataW H × List MemPlace} (ho : Opens P t (prK (slK K) (slK M)) (fun y => Φ y.1 ∧ Ψ y.2)) (h : DataW.trod enc P w base (fun _ => true) held fuel t cs = some x) (hw : ∀ n ∈ x.1.weights P t, n ≤ reachBytes) :
    ∃ (A1 : Option Addr) (n1 : Nat) (ks : List α) (A2 : Option Addr) (n2 : Nat) (sp : List β), cs = [.slice A1 ks.length n1, .slice A2 sp.length n2] ∧ Rd K (ofW w) A1 n1 ks ∧ Rd M (ofW w) A2 n2 sp ∧ Φ ks ∧ Ψ sp := by
  obtain ⟨y, ⟨c1, c2, rfl, ⟨A1, n1, rfl, r1⟩, ⟨A2, n2, rfl, r2⟩⟩, p1, p2⟩ := ho.go cs x h hw
  exact ⟨A1, n1, y.1, A2, n2, y.2, rfl, r1, r2, p1, p2⟩
theorem big32b {n b : Nat} (h : n * b ≤ reachBytes) (hb : b = 32) : n ≤ 4398046510976 := by
  subst hb
  have : reachBytes = 140737488351232 := by decide
  omega
end
end Go.Vk
