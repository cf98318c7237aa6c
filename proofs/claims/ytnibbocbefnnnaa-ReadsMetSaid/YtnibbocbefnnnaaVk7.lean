import Derived.Test.YtnibbocbefnnnaaVk6
set_option linter.unusedVariables false
namespace Go.Vk
variable {D : List Deferred}
universe u
theorem all_snoc {p : Nat → Prop} {k : Nat} (hk : p k) (h : ∀ i, i < k → p i) : ∀ i, i < k + 1 → p i := fun i hi => by
  rcases Nat.lt_or_ge i k with h1 | h1
  · exact h i h1
  · have : i = k := by omega
    exact this ▸ hk
section
variable {P : Program} {ops : Array Oper} {Q : Exit → Act → World → Prop} {w : World} {n : Nat} {G : Nat → Value → VT → Prop} {pre : List (Nat × Value × Nat)} {Vr V : VT} {m : Nat} {S : Nat → Bool} {g : Nat → Value} {i : Nat}
end
section
variable {P : Program} {ops : Array Oper} {Q : Exit → Act → World → Prop} {w : World} {n : Nat} {L : List (Nat × Value)} {g : Nat → Value} {i : Nat}
def eqv (P : Program) (t : TypeId) (x y : Value) : Option Bool :=
  match P.underlying t, x, y with
  | some .bool, .bool a, .bool b => some (a == b)
  | some (.slice _), .slice a _ _, .slice none _ _ => some a.isNone
  | some (.pointer _), .pointer a, .pointer none => some a.isNone
  | some (.map _ _), .map a, .map none => some a.isNone
  | _, _, _ => none
theorem run_eqvIn (dd : Nat) {t : TypeId} {x y : Value} {b : Bool} (h : eqv P t x y = some b) : (Op.equalIn (dd + 1) t x y).run P w = .ok b w := by
  unfold eqv at h
  split at h <;> first | cases h | skip
  · rename_i a b hu
    simp [Op.equalIn, run_underlying hu]
  · rename_i e a k c k' c' hu
    cases a <;> simp [Op.equalIn, run_underlying hu]
  · rename_i e a hu
    cases a <;> simp [Op.equalIn, run_underlying hu]
  · rename_i e e' a hu
    cases a <;> simp [Op.equalIn, run_underlying hu]
theorem run_eqv {t : TypeId} {x y : Value} {b : Bool} (h : eqv P t x y = some b) : (Op.equal t x y).run P w = .ok b w := run_eqvIn 9999 h
theorem guard_eqv {op : BinOp} {t : TypeId} {x y : Operand} {a b : Value} {r : Bool} (h : eqv P t a b = some r) : (eqGuard op t x y a b).run P w = .ok () w := by
  unfold eqv at h
  unfold eqGuard
  split at h <;> simp_all
end
section
variable {P : Program} {w : World} {n : Nat} {L : List (Nat × Value)} {g : Nat → Value}
inductive RVs (P : Program) (w : World) (n : Nat) (L : List (Nat × Value)) (g : Nat → Value) : List ResultVar → List Value → Prop
  | nil : RVs P w n L g [] []
  | tmp {t : Nat} {v : Value} {rs : List ResultVar} {vs : List Value} (ht : Nat.blt t n = true) (hv : look L g t = v) (h : RVs P w n L g rs vs) : RVs P w n L g (.tmp t :: rs) (v :: vs)
  | cell {t : Nat} {ty : TypeId} {v : Value} {rs : List ResultVar} {vs : List Value} {b : Nat} {cs : Array Value} {ty' : TypeId} {V0 V : VT} {w0 : World} {E0 E : List Ent} (ht : Nat.blt t n = true) (hv : look L g t = .pointer (some ⟨b, 0, none⟩)) (hM : Step V0 w0 E0 V w E) (j : Nat) (hj : E[j]? = some (.blk b (.cells cs ty'))) (hl : ldv P cs ty 0 = some v) (h : RVs P w n L g rs vs) : RVs P w n L g (.cell t ty :: rs) (v :: vs)
def rdv (tmps : Array Value) : ResultVar → Sem Value
  | .tmp t => pure (tmps.getD t undef)
  | .cell a t => do loadVar t (← asAddr (tmps.getD a undef))
theorem results_eq (fn : Func) (tmps : Array Value) : results fn tmps = (do let vs ← fn.results.mapM (rdv tmps); pure (if h : vs.size = 1 then vs[0] else .tuple vs)) := by
  rfl
theorem RVs.run {rs : List ResultVar} {vs : List Value} (h : RVs P w n L g rs vs) : (rs.mapM (rdv (env D n L g).tmps)).run P w = .ok vs w := by
  induction h with
  | nil => simp
  | tmp ht hv h ih =>
    simp only [List.mapM_cons, Sem.run_bind, rdv, Array.getD_eq_getD_getElem?, env_getD _ ht, hv]
    simp
    rw [ih]; rfl
  | cell ht hv hM j hj hl h ih =>
    have hb := hM.ok.holds _ (List.mem_of_getElem? hj)
    simp only [List.mapM_cons, Sem.run_bind, rdv, Array.getD_eq_getD_getElem?, env_getD _ ht, hv]
    simp [asAddr, run_loadVar_blk hb hl]
    rw [ih]; rfl
theorem retN {fn : Func} {R : Ending → World → Prop} {rs : List ResultVar} (vs : List Value) (v : Value) (hr : fn.results = rs.toArray) (h : RVs P w n L g rs vs) (hv : (if h : vs.toArray.size = 1 then vs.toArray[0] else .tuple vs.toArray) = v) (hR : R (.returned v) w) : bodyPost P fn R .ret (env [] n L g) w := by
  refine ⟨rfl, v, ?_, hR⟩
  rw [results_eq, hr]
  simp only [List.mapM_toArray, Sem.run_bind, Sem.run_map, h.run, ← hv]
  simp
end
end Go.Vk
