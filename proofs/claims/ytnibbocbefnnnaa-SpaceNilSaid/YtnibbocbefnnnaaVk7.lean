/- What is known of a region's slots, and small steps for the regions of open order. -/
import Derived.Test.YtnibbocbefnnnaaVk6
set_option linter.unusedVariables false
namespace Go.Vk
variable {D : List Deferred}
universe u
/-- A fact that stays as more is settled. -/
structure Mono where
  p : Value → VT → Prop
  m : ∀ v V V', VT.le V V' → p v V → p v V'
def mT : Mono := ⟨fun _ _ => True, fun _ _ _ _ h => h⟩
def mV (u : Value) : Mono := ⟨fun v _ => v = u, fun _ _ _ _ h => h⟩
def mP (q : Prop) : Mono := ⟨fun _ _ => q, fun _ _ _ _ h => h⟩
def mR {α : Type} (K : Kd α) (A : Option Addr) (c : Nat) (xs : List α) : Mono := ⟨fun _ V => Rd K V A c xs, fun _ _ _ hl h => h.up hl⟩
def mA {α : Type} (K : Kd α) (b o : Nat) (x : α) : Mono := ⟨fun _ V => At K V b o x, fun _ _ _ hl h => h.up hl⟩
def mE {α : Type} (f : α → Mono) : Mono := ⟨fun v V => ∃ a, (f a).p v V, fun v V V' hl h => h.elim fun a ha => ⟨a, (f a).m v V V' hl ha⟩⟩
def mN (f g : Mono) : Mono := ⟨fun v V => f.p v V ∧ g.p v V, fun v V V' hl h => ⟨f.m v V V' hl h.1, g.m v V V' hl h.2⟩⟩
def mG (l : List Mono) (j : Nat) : Value → VT → Prop := (l.getD j mT).p
theorem mG_up (l : List Mono) : ∀ j v V V', VT.le V V' → mG l j v V → mG l j v V' := fun j v V V' => (l.getD j mT).m v V V'
theorem all_none {p : Nat → Prop} : ∀ i, i < 0 → p i := fun i h => absurd h (Nat.not_lt_zero i)
theorem all_snoc {p : Nat → Prop} {k : Nat} (hk : p k) (h : ∀ i, i < k → p i) : ∀ i, i < k + 1 → p i := fun i hi => by
  rcases Nat.lt_or_ge i k with h1 | h1
  · exact h i h1
  · have : i = k := by omega
    exact this ▸ hk
theorem pre_nil {g : Nat → Value} : ∀ p : Nat × Value × Nat, p ∈ [] → g p.1 = p.2.1 := fun p h => by cases h
theorem pre_cons {g : Nat → Value} {t : Nat} {v : Value} {k : Nat} {l : List (Nat × Value × Nat)} (h : g t = v) (hl : ∀ p : Nat × Value × Nat, p ∈ l → g p.1 = p.2.1) : ∀ p : Nat × Value × Nat, p ∈ (t, v, k) :: l → g p.1 = p.2.1 := fun p hp => by
  rcases List.mem_cons.1 hp with rfl | hp
  · exact h
  · exact hl p hp
theorem cond_t {b : Bool} {α : Type u} {x y : α} (h : b = true) : (bif b then x else y) = x := by rw [h]; rfl
theorem cond_f {b : Bool} {α : Type u} {x y : α} (h : b = false) : (bif b then x else y) = y := by rw [h]; rfl
theorem cond_e {b c : Bool} {α : Type u} {x y x' y' : α} (hb : b = c) (hx : b = true → x = x') (hy : y = y') : (bif b then x else y) = (bif c then x' else y') := by
  subst hb; subst hy
  cases b with
  | true => exact hx rfl
  | false => rfl
theorem and_t {a b : Bool} (ha : a = true) (hb : b = true) : (a && b) = true := by rw [ha, hb]; rfl
theorem and_fl {a b : Bool} (ha : a = false) : (a && b) = false := by rw [ha]; rfl
theorem and_fr {a b : Bool} (hb : b = false) : (a && b) = false := by rw [hb, Bool.and_false]
theorem and_l {a b : Bool} (h : (a && b) = true) : a = true := by cases a <;> simp_all
theorem and_r {a b : Bool} (h : (a && b) = true) : b = true := by cases b <;> simp_all
theorem upd_t {S : Nat → Bool} {i j : Nat} (h : S j = true) : upd S i j = true := by
  by_cases e : j = i
  · subst e; exact upd_self _ _
  · rw [upd_ne _ e]; exact h
theorem upd_f {S : Nat → Bool} {i j : Nat} (e : j ≠ i) (h : S j = false) : upd S i j = false := by rw [upd_ne _ e]; exact h
section
variable {P : Program} {ops : Array Oper} {Q : Exit → Act → World → Prop} {w : World} {n : Nat} {G : Nat → Value → VT → Prop} {pre : List (Nat × Value × Nat)} {Vr V : VT} {m : Nat} {S : Nat → Bool} {g : Nat → Value} {i : Nat}
theorem Ctx.notyet (cx : Ctx ops G pre Vr m S g V i) {c : Nat} (h : S c = true → S i = true) : S c = false := by
  cases hc : S c with
  | false => rfl
  | true => have := h hc; rw [cx.no] at this; cases this
theorem one_in {L0 : List (Nat × Value)} {V0 : VT} {w0 : World} {E0 : List Ent} {F : Value → List Ent} {a' : Act} {w' : World} (d : Option Nat) (hd : dstOf ops i = d) (v : Value) (V' : VT) (seen : List (Nat × Value)) (hs : seen.map (fun p => look L0 g p.1) = seen.map (fun p => p.2))
    (he : a' = env [] n (pt d v (seen ++ L0)) g) (hle : V.le V') (hM : Step V0 w0 E0 V' w' (F v)) (hG : G i v V') : One n L0 V0 w0 E0 ops G g V i F a' w' :=
  ⟨v, V', by rw [he, hd]; exact env_forget seen hs d v, hle, hM, hG⟩
theorem seen_nil {L : List (Nat × Value)} {g : Nat → Value} : ([] : List (Nat × Value)).map (fun p => look L g p.1) = ([] : List (Nat × Value)).map (fun p => p.2) := rfl
theorem seen_cons {L : List (Nat × Value)} {g : Nat → Value} {t : Nat} {v : Value} {l : List (Nat × Value)} (h : look L g t = v) (hl : l.map (fun p => look L g p.1) = l.map (fun p => p.2)) : ((t, v) :: l).map (fun p => look L g p.1) = ((t, v) :: l).map (fun p => p.2) := by
  simp only [List.map_cons]; rw [h, hl]
end
section
variable {P : Program} {ops : Array Oper} {Q : Exit → Act → World → Prop} {w : World} {n : Nat} {L : List (Nat × Value)} {g : Nat → Value} {i : Nat}
def eqv (P : Program) (t : TypeId) (x y : Value) : Option Bool :=
  match P.underlying t, x, y with
  | some .bool, .bool a, .bool b => some (a == b)
  | some (.slice _), .slice a _ _, .slice none _ _ => some a.isNone
  | some (.pointer _), .pointer a, .pointer none => some a.isNone
  | some (.map _ _), .map a, .map none => some a.isNone
  | _, _, _ => none
theorem run_eqvIn (dd : Nat) {t : TypeId} {x y : Value} {b : Bool} (h : eqv P t x y = some b) : (Op.equalIn (dd + 1) t x y).run P w = .ok b w := by
  unfold eqv at h
  split at h <;> first | cases h | skip
  · rename_i a b hu
    simp [Op.equalIn, run_underlying hu]
  · rename_i e a k c k' c' hu
    cases a <;> simp [Op.equalIn, run_underlying hu]
  · rename_i e a hu
    cases a <;> simp [Op.equalIn, run_underlying hu]
  · rename_i e e' a hu
    cases a <;> simp [Op.equalIn, run_underlying hu]
theorem run_eqv {t : TypeId} {x y : Value} {b : Bool} (h : eqv P t x y = some b) : (Op.equal t x y).run P w = .ok b w := run_eqvIn 9999 h
theorem guard_eqv {op : BinOp} {t : TypeId} {x y : Operand} {a b : Value} {r : Bool} (h : eqv P t a b = some r) : (eqGuard op t x y a b).run P w = .ok () w := by
  unfold eqv at h
  unfold eqGuard
  split at h <;> simp_all
theorem wpF_eql {t u : TypeId} {x y : Operand} {d : Option Nat} (a b : Value) (r : Bool) (h : opAt ops n L g i = some (.binOp .eql t x y u, d)) (hx : opv n L g x = a) (hy : opv n L g y = b) (he : eqv P t a b = some r)
    (K : wpF P ops Q (i + 1) (env D n (pt d (.bool r) L) g) w) : wpF P ops Q i (env D n L g) w := by
  refine wpF_value (w' := w) h (fun o ho => ?_) K
  have hb : (binOp .eql t a b).run P w = .ok (.bool r) w := by
    have := run_eqv (w := w) he
    unfold eqv at he
    split at he <;> first | cases he | skip
    all_goals (simp only [binOp, Sem.run_bind, this, Result.andThen_ok, Sem.run_pure])
  unfold execOp
  simp only [ho, hx, hy, Sem.run_bind, guard_eqv (op := .eql) (x := x) (y := y) (w := w) he, Result.andThen_ok, hb]
  rfl
theorem wpF_neq {t u : TypeId} {x y : Operand} {d : Option Nat} (a b : Value) (r : Bool) (h : opAt ops n L g i = some (.binOp .neq t x y u, d)) (hx : opv n L g x = a) (hy : opv n L g y = b) (he : eqv P t a b = some r)
    (K : wpF P ops Q (i + 1) (env D n (pt d (.bool !r) L) g) w) : wpF P ops Q i (env D n L g) w := by
  refine wpF_value (w' := w) h (fun o ho => ?_) K
  have hb : (binOp .neq t a b).run P w = .ok (.bool !r) w := by
    have := run_eqv (w := w) he
    unfold eqv at he
    split at he <;> first | cases he | skip
    all_goals (simp only [binOp, Sem.run_bind, this, Result.andThen_ok, Sem.run_pure])
  unfold execOp
  simp only [ho, hx, hy, Sem.run_bind, guard_eqv (op := .neq) (x := x) (y := y) (w := w) he, Result.andThen_ok, hb]
  rfl
end
/-! ### Results, also such as lie in a block of their own -/
section
variable {P : Program} {w : World} {n : Nat} {L : List (Nat × Value)} {g : Nat → Value}
inductive RVs (P : Program) (w : World) (n : Nat) (L : List (Nat × Value)) (g : Nat → Value) : List ResultVar → List Value → Prop
  | nil : RVs P w n L g [] []
  | tmp {t : Nat} {v : Value} {rs : List ResultVar} {vs : List Value} (ht : Nat.blt t n = true) (hv : look L g t = v) (h : RVs P w n L g rs vs) : RVs P w n L g (.tmp t :: rs) (v :: vs)
  | cell {t : Nat} {ty : TypeId} {v : Value} {rs : List ResultVar} {vs : List Value} {b : Nat} {cs : Array Value} {ty' : TypeId} {V0 V : VT} {w0 : World} {E0 E : List Ent} (ht : Nat.blt t n = true) (hv : look L g t = .pointer (some ⟨b, 0, none⟩)) (hM : Step V0 w0 E0 V w E) (j : Nat) (hj : E[j]? = some (.blk b (.cells cs ty'))) (hl : ldv P cs ty 0 = some v) (h : RVs P w n L g rs vs) : RVs P w n L g (.cell t ty :: rs) (v :: vs)
def rdv (tmps : Array Value) : ResultVar → Sem Value
  | .tmp t => pure (tmps.getD t undef)
  | .cell a t => do loadVar t (← asAddr (tmps.getD a undef))
theorem results_eq (fn : Func) (tmps : Array Value) : results fn tmps = (do let vs ← fn.results.mapM (rdv tmps); pure (if h : vs.size = 1 then vs[0] else .tuple vs)) := by
  rfl
theorem RVs.run {rs : List ResultVar} {vs : List Value} (h : RVs P w n L g rs vs) : (rs.mapM (rdv (env D n L g).tmps)).run P w = .ok vs w := by
  induction h with
  | nil => simp
  | tmp ht hv h ih =>
    simp only [List.mapM_cons, Sem.run_bind, rdv, Array.getD_eq_getD_getElem?, env_getD _ ht, hv]
    simp
    rw [ih]; rfl
  | cell ht hv hM j hj hl h ih =>
    have hb := hM.ok.holds _ (List.mem_of_getElem? hj)
    simp only [List.mapM_cons, Sem.run_bind, rdv, Array.getD_eq_getD_getElem?, env_getD _ ht, hv]
    simp [asAddr, run_loadVar_blk hb hl]
    rw [ih]; rfl
theorem retN {fn : Func} {R : Ending → World → Prop} {rs : List ResultVar} (vs : List Value) (v : Value) (hr : fn.results = rs.toArray) (h : RVs P w n L g rs vs) (hv : (if h : vs.toArray.size = 1 then vs.toArray[0] else .tuple vs.toArray) = v) (hR : R (.returned v) w) : bodyPost P fn R .ret (env [] n L g) w := by
  refine ⟨rfl, v, ?_, hR⟩
  rw [results_eq, hr]
  simp only [List.mapM_toArray, Sem.run_bind, Sem.run_map, h.run, ← hv]
  simp
end
end Go.Vk
