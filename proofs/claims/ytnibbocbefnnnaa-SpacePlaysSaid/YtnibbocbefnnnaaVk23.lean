import Derived.Test.YtnibbocbefnnnaaVk22
set_option linter.unusedVariables false
namespace Go.Vk
variable {D : List Deferred}
section
variable {P : Program} {F : List Ent} {V : VT} {ρ : Operand → Value} {w : World}
def boolTyB (P : Program) (t : TypeId) : Bool :=
  match P.underlying t with
  | some .bool => true
  | _ => false
theorem boolTyB_ok {t : TypeId} (h : boolTyB P t = true) : P.underlying t = some .bool := by
  unfold boolTyB at h
  split at h
  · rename_i hu; exact hu
  · cases h
/-- A struct of a number, a text and a bool. -/
def verTy (P : Program) (t : TypeId) : Bool :=
  match P.underlying t with
  | some (.struct fs) => match fs.toList with
    | [f1, f2, f3] => f1.name != "_" && f2.name != "_" && f3.name != "_" && f1.offset == 0 && f2.offset == 1 && f3.offset == 2 && (intTy P f1.type).isSome && strTy P f2.type && boolTyB P f3.type && aggOf P f1.type == some false && aggOf P f2.type == some false && aggOf P f3.type == some false && szOf P f1.type == some 1 && szOf P f2.type == some 1 && szOf P f3.type == some 1 && !P.stoodInHeld t && !P.eqGuardType P.depth t
    | _ => false
  | _ => false
def sameV (x1 : Int) (x2 : Str) (x3 : Bool) (y1 : Int) (y2 : Str) (y3 : Bool) : Bool := decide ((x1, x2, x3) = (y1, y2, y3))
theorem run_eqVer {t : TypeId} {k : IntKind} (h : verTy P t = true) (a1 : Int) (a2 : Str) (a3 : Bool) (b1 : Int) (b2 : Str) (b3 : Bool) : (Op.equal t (.agg #[.int k a1, bs a2, .bool a3]) (.agg #[.int k b1, bs b2, .bool b3])).run P w = .ok (sameV a1 a2 a3 b1 b2 b3) w ∧ (∀ x y, (eqGuard .eql t x y (.agg #[.int k a1, bs a2, .bool a3]) (.agg #[.int k b1, bs b2, .bool b3])).run P w = .ok () w) ∧ (∀ x y, (eqGuard .neq t x y (.agg #[.int k a1, bs a2, .bool a3]) (.agg #[.int k b1, bs b2, .bool b3])).run P w = .ok () w) := by
  unfold verTy at h
  split at h
  · rename_i fs hu
    split at h
    · rename_i f1 f2 f3 hfs
      obtain rfl : fs = #[f1, f2, f3] := Array.ext' hfs
      simp only [Bool.and_eq_true, bne_iff_ne, beq_iff_eq, Bool.not_eq_true'] at h
      obtain ⟨⟨⟨⟨⟨⟨⟨⟨⟨⟨⟨⟨⟨⟨⟨⟨n1, n2⟩, n3⟩, o1⟩, o2⟩, o3⟩, s1⟩, s2⟩, s3⟩, g1⟩, g2⟩, g3⟩, z1⟩, z2⟩, z3⟩, hst⟩, hgd⟩ := h
      obtain ⟨k1, s1⟩ := Option.isSome_iff_exists.1 s1
      have p1 : ∀ (x : Int) (y : Str) (z : Bool), (part f1.type #[.int k x, bs y, .bool z] 0).run P w = .ok (.int k x) w := fun x y z => run_part z1 g1 rfl
      have p2 : ∀ (x : Int) (y : Str) (z : Bool), (part f2.type #[.int k x, bs y, .bool z] 1).run P w = .ok (bs y) w := fun x y z => run_part z2 g2 rfl
      have p3 : ∀ (x : Int) (y : Str) (z : Bool), (part f3.type #[.int k x, bs y, .bool z] 2).run P w = .ok (.bool z) w := fun x y z => run_part z3 g3 rfl
      have e1 : ∀ (dd : Nat) (x y : Int), (Op.equalIn (dd + 1) f1.type (.int k x) (.int k y)).run P w = .ok (decide (x = y)) w := fun dd x y => by
        simp [Op.equalIn, run_underlying (intTy_ok s1)]
        by_cases e : x = y <;> simp [e]
      have e2 : ∀ (dd : Nat) (x y : Str), (Op.equalIn (dd + 1) f2.type (bs x) (bs y)).run P w = .ok (decide (x = y)) w := fun dd x y => by
        simp [Op.equalIn, run_underlying (strTy_ok s2), bs, ba_beq]
      have e3 : ∀ (dd : Nat) (x y : Bool), (Op.equalIn (dd + 1) f3.type (.bool x) (.bool y)).run P w = .ok (decide (x = y)) w := fun dd x y => by
        simp [Op.equalIn, run_underlying (boolTyB_ok s3)]
        cases x <;> cases y <;> rfl
      refine ⟨?_, fun x y => ?_, fun x y => ?_⟩
      · show (Op.equalIn (9998 + 1 + 1) t _ _).run P w = _
        rw [Op.equalIn]
        simp [run_underlying hu, hst, n1, n2, n3, o1, o2, o3, p1, p2, p3, e1, e2, e3, sameV]
        by_cases h1 : a1 = b1 <;> by_cases h2 : a2 = b2 <;> by_cases h3 : a3 = b3 <;> simp [h1, h2, h3]
      · simp [eqGuard, hgd]
      · simp [eqGuard, hgd]
    · cases h
  · cases h
theorem Y_neqVer {t u : TypeId} {x y : Operand} (k : IntKind) (a1 : Int) (a2 : Str) (a3 : Bool) (b1 : Int) (b2 : Str) (b3 : Bool) (hx : ρ x = .agg #[.int k a1, bs a2, .bool a3]) (hy : ρ y = .agg #[.int k b1, bs b2, .bool b3]) (ht : verTy P t = true) : Yv P V F ρ (.binOp .neq t x y u) (.bool (!sameV a1 a2 a3 b1 b2 b3)) := fun o ho V' w _ _ => by
  obtain ⟨h1, _, h2⟩ := run_eqVer (w := w) (k := k) ht a1 a2 a3 b1 b2 b3
  unfold execOp
  simp only [ho, hx, hy, Sem.run_bind, h2, Result.andThen_ok, binOp, h1, Sem.run_pure]
theorem sameV_eq {x y : Int × Str × Bool} (h : sameV x.1 x.2.1 x.2.2 y.1 y.2.1 y.2.2 = true) : x = y := of_decide_eq_true h
theorem sameV_ne {x y : Int × Str × Bool} (h : sameV x.1 x.2.1 x.2.2 y.1 y.2.1 y.2.2 = false) : x ≠ y := of_decide_eq_false h
end
end Go.Vk
