import Derived.Test.YtnibbocbefnnnaaVk14
import Derived.Scope
set_option linter.unusedVariables false
namespace Go.Vk
variable {D : List Deferred}
section
variable {P : Program} {Q : Exit → Act → World → Prop} {a : Act} {w : World}
end
section
variable {P : Program} {F : List Ent} {V : VT} {ρ : Operand → Value}
end
section
theorem ba_beq (x y : Str) : ((⟨x.toArray⟩ : ByteArray) == (⟨y.toArray⟩ : ByteArray)) = decide (x = y) := by
  show (x.toArray == y.toArray) = decide (x = y)
  rw [Bool.eq_iff_iff]
  simp
variable {P : Program} {F : List Ent} {V : VT} {ρ : Operand → Value} {w : World}
def spanTy (P : Program) (t : TypeId) : Option (TypeId × TypeId) :=
  match P.underlying t with
  | some (.struct fs) => match fs.toList with
    | [f1, f2] => cond (f1.name != "_" && f2.name != "_" && f1.offset == 0 && f2.offset == 1 && strTy P f1.type && strTy P f2.type && aggOf P f1.type == some false && aggOf P f2.type == some false && szOf P f1.type == some 1 && szOf P f2.type == some 1 && !P.stoodInHeld t && !P.eqGuardType P.depth t) (some (f1.type, f2.type)) none
    | _ => none
  | _ => none
theorem run_eqSpan {t u v : TypeId} (h : spanTy P t = some (u, v)) (a b c d : Str) : (Op.equal t (.agg #[bs a, bs b]) (.agg #[bs c, bs d])).run P w = .ok (decide (a = c) && decide (b = d)) w ∧ (∀ x y, (eqGuard .eql t x y (.agg #[bs a, bs b]) (.agg #[bs c, bs d])).run P w = .ok () w) ∧ (∀ x y, (eqGuard .neq t x y (.agg #[bs a, bs b]) (.agg #[bs c, bs d])).run P w = .ok () w) := by
  unfold spanTy at h
  split at h
  · rename_i fs hu
    split at h
    · rename_i f1 f2 hfs
      obtain rfl : fs = #[f1, f2] := Array.ext' hfs
      cases hb : (f1.name != "_" && f2.name != "_" && f1.offset == 0 && f2.offset == 1 && strTy P f1.type && strTy P f2.type && aggOf P f1.type == some false && aggOf P f2.type == some false && szOf P f1.type == some 1 && szOf P f2.type == some 1 && !P.stoodInHeld t && !P.eqGuardType P.depth t) with
      | false => rw [hb] at h; cases h
      | true =>
        simp only [Bool.and_eq_true, bne_iff_ne, beq_iff_eq, Bool.not_eq_true'] at hb
        obtain ⟨⟨⟨⟨⟨⟨⟨⟨⟨⟨⟨n1, n2⟩, o1⟩, o2⟩, s1⟩, s2⟩, a1⟩, a2⟩, z1⟩, z2⟩, hst⟩, hgd⟩ := hb
        have p1 : ∀ x y : Str, (part f1.type #[bs x, bs y] 0).run P w = .ok (bs x) w := fun x y => run_part z1 a1 rfl
        have p2 : ∀ x y : Str, (part f2.type #[bs x, bs y] 1).run P w = .ok (bs y) w := fun x y => run_part z2 a2 rfl
        have e1 : ∀ (dd : Nat) (x y : Str), (Op.equalIn (dd + 1) f1.type (bs x) (bs y)).run P w = .ok (decide (x = y)) w := fun dd x y => by
          simp [Op.equalIn, run_underlying (strTy_ok s1), bs, ba_beq]
        have e2 : ∀ (dd : Nat) (x y : Str), (Op.equalIn (dd + 1) f2.type (bs x) (bs y)).run P w = .ok (decide (x = y)) w := fun dd x y => by
          simp [Op.equalIn, run_underlying (strTy_ok s2), bs, ba_beq]
        refine ⟨?_, fun x y => ?_, fun x y => ?_⟩
        · show (Op.equalIn (9998 + 1 + 1) t _ _).run P w = _
          rw [Op.equalIn]
          simp [run_underlying hu, hst, n1, n2, o1, o2, p1, p2, e1, e2]
          by_cases h1 : a = c <;> by_cases h2 : b = d <;> simp [h1, h2]
        · simp [eqGuard, hgd]
        · simp [eqGuard, hgd]
    · cases h
  · cases h
end
section
variable {P : Program} {F : List Ent} {V : VT} {ρ : Operand → Value}
def sameP (a b c d : Str) : Bool := decide (a = c) && decide (b = d)
theorem Y_neqSpan {t u : TypeId} {x y : Operand} (a b c d : Str) (hx : ρ x = .agg #[bs a, bs b]) (hy : ρ y = .agg #[bs c, bs d]) (ht : (spanTy P t).isSome = true) : Yv P V F ρ (.binOp .neq t x y u) (.bool (!sameP a b c d)) := fun o ho V' w _ _ => by
  obtain ⟨⟨u1, u2⟩, h⟩ := Option.isSome_iff_exists.1 ht
  obtain ⟨h1, _, h2⟩ := run_eqSpan (w := w) h a b c d
  unfold execOp
  simp only [ho, hx, hy, Sem.run_bind, h2, Result.andThen_ok, binOp, h1, Sem.run_pure, sameP]
end
section
variable {P : Program} {ops : Array Oper} {Q : Exit → Act → World → Prop} {n i : Nat} {L : List (Nat × Value)} {g : Nat → Value} {w : World}
theorem wpF_loadW {V0 V : VT} {w0 : World} {E0 E : List Ent} {A : Option Addr} {c : Nat} {xs : List Str} {t e : TypeId} {x : Operand} {d : Option Nat} {b m : Nat} (hM : Step V0 w0 E0 V w E) (j : Nat) (hj : E[j]? = some (.row strK e A c xs)) (hA : A = some ⟨b, 0, none⟩)
    (h : opAt ops n L g i = some (.load t x, d)) (hx : opv n L g x = .pointer (some ⟨b, m, none⟩)) (ha : aggOf P t = some false) (hl : m < xs.length)
    (k : (xs.getD m []).length ≤ maxL → wpF P ops Q (i + 1) (env D n (pt d (bs (xs.getD m [])) L) g) w) : wpF P ops Q i (env D n L g) w := by
  subst hA
  obtain ⟨hx1, _, _, h1⟩ := row_open (hM.ok.holds _ (List.mem_of_getElem? hj))
  rcases h1 with ⟨h0, _⟩ | ⟨b', cur, hb, hg, _, _, ht⟩
  · cases h0
  cases hb
  have hv : xs[m]? = some (xs.getD m []) := by simp [List.getD_eq_getElem?_getD, hl]
  have hc : w.cell? ⟨b, m, none⟩ = some (bs (xs.getD m [])) := by rw [cell_of_blk hg, ht m hl, List.getElem?_map, hv]; rfl
  refine wpF_value (v := bs (xs.getD m [])) (w' := w) h (fun o ho => ?_) (k (hx1 _ (List.mem_of_getElem? hv)))
  unfold execOp
  rw [ho]
  simp [Instr.loadAt, hx, Instr.sureAddr, loadVar, run_agg (w := w) ha, hc]
end
section
variable {P : Program} {F : List Ent} {V : VT} {ρ : Operand → Value}
theorem Rd.pre {α : Type} {K : Kd α} {A : Option Addr} {c : Nat} {xs ys : List α} (h : Rd K V A c xs) (m : Nat) (hm : m ≤ xs.length) (hy : xs.take m = ys) : Rd K V A c ys := by
  have hl : ys.length = m := by rw [← hy]; simp; omega
  have h1 := h.max
  have h2 := h.cap
  refine ⟨by omega, by omega, fun hn => ?_⟩
  obtain ⟨b, o, hA, hat⟩ := h.cells (by intro e; subst e; rw [List.take_nil] at hy; exact hn hy.symm)
  refine ⟨b, o, hA, fun j hj => ?_⟩
  have hg : ys.getD j K.d = xs.getD j K.d := by rw [← hy, List.getD_eq_getElem?_getD, List.getD_eq_getElem?_getD, List.getElem?_take, if_pos (by omega)]
  rw [hg]
  exact hat j (by omega)
end
end Go.Vk
