import Derived.Test.YtnibbocbefnnnaaVk1
import Derived.Laws.Strings
set_option linter.unusedVariables false
namespace Go.Vk
variable {D : List Deferred}
def look : List (Nat × Value) → (Nat → Value) → Nat → Value
  | [], g, t => g t
  | (s, v) :: L, g, t => cond (Nat.beq s t) v (look L g t)
def env (D : List Deferred) (n : Nat) (L : List (Nat × Value)) (g : Nat → Value) : Act := { tmps := Array.ofFn (n := n) fun i => look L g i.val, defers := D }
def opv (n : Nat) (L : List (Nat × Value)) (g : Nat → Value) : Operand → Value
  | .tmp t => cond (Nat.blt t n) (look L g t) undef
  | .const v => v
  | .global k => .pointer (some ⟨k, 0, none⟩)
  | .func f => .func (.func f) #[] #[]
def pt (d : Option Nat) (v : Value) (L : List (Nat × Value)) : List (Nat × Value) :=
  match d with
  | some d => (d, v) :: L
  | none => L
def ptOk (n : Nat) : Option Nat → Bool
  | some d => Nat.blt d n
  | none => true

theorem look_cons (s : Nat) (v : Value) (L : List (Nat × Value)) (g : Nat → Value) (t : Nat) : look ((s, v) :: L) g t = if s = t then v else look L g t := by
  simp only [look]
  by_cases h : s = t
  · subst h; simp
  · rw [if_neg h]
    have : Nat.beq s t = false := by
      cases hb : Nat.beq s t with
      | false => rfl
      | true => exact absurd (Nat.eq_of_beq_eq_true hb) h
    rw [this]; rfl
theorem env_get (n : Nat) (L : List (Nat × Value)) (g : Nat → Value) (t : Nat) (h : t < n) : (env D n L g).tmps[t]? = some (look L g t) := by
  simp [env, h]
theorem env_size (n : Nat) (L : List (Nat × Value)) (g : Nat → Value) : (env D n L g).tmps.size = n := by simp [env]
theorem env_put (n : Nat) (L : List (Nat × Value)) (g : Nat → Value) (d : Option Nat) (v : Value) (h : ptOk n d = true) : (env D n L g).put d v = env D n (pt d v L) g := by
  cases d with
  | none => rfl
  | some d =>
    simp only [Act.put, env, pt]
    congr 1
    apply Array.ext (by simp)
    intro i h1 h2
    have hd : i < n := by simpa using h1
    rw [Array.getElem_ofFn, look_cons, Array.getElem_setIfInBounds (by simpa using hd), Array.getElem_ofFn]
theorem blt_iff {t n : Nat} : Nat.blt t n = true ↔ t < n := by
  rw [Nat.blt]; exact ⟨Nat.le_of_ble_eq_true, fun h => Nat.ble_eq_true_of_le h⟩
theorem env_eval (n : Nat) (L : List (Nat × Value)) (g : Nat → Value) : (env D n L g).eval = opv n L g := by
  funext x
  cases x with
  | tmp t =>
    simp only [Act.eval, opv, Array.getD_eq_getD_getElem?]
    by_cases h : t < n
    · rw [env_get n L g t h, blt_iff.2 h]; rfl
    · have h1 : Nat.blt t n = false := by
        cases hb : Nat.blt t n with
        | false => rfl
        | true => exact absurd (blt_iff.1 hb) h
      rw [h1, Array.getElem?_eq_none (by rw [env_size]; exact Nat.le_of_not_lt h)]; rfl
  | const v => rfl
  | global k => rfl
  | func f => rfl
/-- Some slots are named, the others forgotten. -/
theorem env_base (n : Nat) (L L' : List (Nat × Value)) (g : Nat → Value) (h : L'.map (fun p => look L g p.1) = L'.map (fun p => p.2)) : ∃ g', env D n L g = env D n L' g' := by
  refine ⟨look L g, ?_⟩
  have key : ∀ t, look L' (look L g) t = look L g t := by
    intro t
    induction L' with
    | nil => rfl
    | cons p L' ih =>
      obtain ⟨s, v⟩ := p
      simp only [List.map_cons, List.cons.injEq] at h
      rw [look_cons]
      by_cases hs : s = t
      · subst hs; rw [if_pos rfl]; exact h.1.symm
      · rw [if_neg hs]; exact ih h.2
  simp only [env]
  congr 1
  congr 1
  funext i
  exact (key i.val).symm
def enum : Nat → List Value → List (Nat × Value)
  | _, [] => []
  | i, v :: vs => (i, v) :: enum (i + 1) vs
theorem look_enum (g : Nat → Value) : ∀ (vs : List Value) (i t : Nat), look (enum i vs) g t = if i ≤ t then (vs[t - i]?).getD (g t) else g t
  | [], i, t => by simp [enum, look]
  | v :: vs, i, t => by
    rw [enum, look_cons, look_enum g vs (i + 1) t]
    by_cases h : i = t
    · subst h; simp
    · by_cases h2 : i ≤ t
      · rw [if_neg h, if_pos h2, if_pos (by omega), show t - i = (t - (i + 1)) + 1 by omega, List.getElem?_cons_succ]
      · rw [if_neg h, if_neg h2, if_neg (by omega)]
theorem env_init (n : Nat) (args : Array Value) (h : args.size ≤ n) : ({ tmps := args ++ Array.replicate (n - args.size) undef, defers := [] } : Act) = env [] n (enum 0 args.toList) (fun _ => undef) := by
  simp only [env]
  congr 1
  apply Array.ext (by simp; omega)
  intro i h1 h2
  simp only [Array.getElem_ofFn, look_enum, Nat.zero_le, if_true, Nat.sub_zero]
  by_cases hi : i < args.size
  · rw [Array.getElem_append_left hi]; simp [hi]
  · rw [Array.getElem_append_right (by omega)]; simp [hi]

def wpF (P : Program) (ops : Array Oper) (Q : Exit → Act → World → Prop) (i : Nat) (a : Act) (w : World) : Prop := wpOps P ops Q (List.range' i (ops.size - i)) a w
section
variable {P : Program} {ops : Array Oper} {Q : Exit → Act → World → Prop} {i : Nat} {w : World} {n : Nat} {L : List (Nat × Value)} {g : Nat → Value}
theorem wpF_end (a : Act) (h : Nat.ble ops.size i = true) (k : Q .normal a w) : wpF P ops Q i a w := by
  have : ops.size - i = 0 := by have := Nat.le_of_ble_eq_true h; omega
  simpa [wpF, this, wpOps] using k
theorem wpF_cons {a : Act} {o : Oper} (ho : ops[i]? = some o) : wpF P ops Q i a w ↔ (if Region.wanted o (yielded ops a.tmps) then o.wp P a w (wpF P ops Q (i + 1)) Q ∨ (o.asks P a w ∧ LetsOut Q) else wpF P ops Q (i + 1) (a.put o.dst undef) w) := by
  have hi : i < ops.size := (Array.getElem?_eq_some_iff.1 ho).1
  have : ops.size - i = (ops.size - (i + 1)) + 1 := by omega
  unfold wpF
  rw [this, List.range'_succ]
  simp only [wpOps, ho]
theorem wp_reg {id : Nat} {a : Act} (h : wpF P ops Q 0 a w) : (Code.region id ops false).wp P Q a w :=
  wp_region (by simpa [wpF, List.range_eq_range'] using h)

theorem wpF_stop (a : Act) (h : Nat.ble ops.size i = true) (k : wpF P ops Q i a w) : Q .normal a w := by
  have : ops.size - i = 0 := by have := Nat.le_of_ble_eq_true h; omega
  simpa [wpF, this, wpOps] using k
attribute [irreducible] wpF
/-- Whether an operation is to be carried out: 'none': not known by sight. -/
def gd (ops : Array Oper) (n : Nat) (L : List (Nat × Value)) (g : Nat → Value) (o : Oper) : Option Bool :=
  match o.guard with
  | none => some true
  | some (j, want) =>
    match (ops[j]?).bind (·.dst) with
    | none => some false
    | some d => match cond (Nat.blt d n) (look L g d) undef with
      | .bool b => some (b == want)
      | .tuple _ => some false
      | _ => none
theorem gd_ok {o : Oper} {b : Bool} (h : gd ops n L g o = some b) : Region.wanted o (yielded ops (env D n L g).tmps) = b := by
  unfold gd at h
  unfold Region.wanted
  split at h <;> rename_i hg
  · simp only [hg]; simpa using h
  · simp only [hg]
    rename_i j want
    unfold yielded
    split at h <;> rename_i hd
    · simp only [hd, Option.bind_none]
      simpa using h
    · rename_i d
      simp only [hd, Option.bind_some]
      have hl : (env D n L g).tmps[d]? = if d < n then some (look L g d) else none := by
        by_cases hdn : d < n
        · rw [env_get n L g d hdn, if_pos hdn]
        · rw [if_neg hdn, Array.getElem?_eq_none (by rw [env_size]; exact Nat.le_of_not_lt hdn)]
      by_cases hdn : d < n
      · rw [blt_iff.2 hdn] at h
        simp only [cond_true] at h
        rw [hl, if_pos hdn]
        cases hv : look L g d <;> simp only [hv] at h ⊢ <;> first | (simp at h; done) | (cases h; done) | (simpa using h)
      · have h1 : Nat.blt d n = false := by
          cases hb : Nat.blt d n with
          | false => rfl
          | true => exact absurd (blt_iff.1 hb) hdn
        rw [h1] at h
        simp only [cond_false, undef] at h
        rw [hl, if_neg hdn]
        simpa using h

/-- The operation at a place, if it is to be carried out. -/
def opAt (ops : Array Oper) (n : Nat) (L : List (Nat × Value)) (g : Nat → Value) (i : Nat) : Option (Op × Option Nat) :=
  match ops[i]? with
  | none => none
  | some o => match gd ops n L g o with
    | some true => cond (ptOk n o.dst) (some (o.op, o.dst)) none
    | _ => none
theorem opAt_ok {op : Op} {d : Option Nat} (h : opAt ops n L g i = some (op, d)) : ∃ o, ops[i]? = some o ∧ o.op = op ∧ o.dst = d ∧ Region.wanted o (yielded ops (env D n L g).tmps) = true ∧ ptOk n d = true := by
  unfold opAt at h
  split at h
  · cases h
  · rename_i o ho
    split at h
    · rename_i hg
      cases hp : ptOk n o.dst with
      | false => rw [hp] at h; cases h
      | true =>
        rw [hp] at h
        simp only [cond_true, Option.some.injEq, Prod.mk.injEq] at h
        exact ⟨o, ho, h.1, h.2, gd_ok hg, by rw [← h.2]; exact hp⟩
    · cases h
/-- One operation that gives a value. -/
theorem wpF_value {op : Op} {d : Option Nat} {v : Value} {w' : World} (h : opAt ops n L g i = some (op, d)) (hr : ∀ o : Oper, o.op = op → (execOp (opv n L g) o).run P w = .ok (.value v) w')
    (k : wpF P ops Q (i + 1) (env D n (pt d v L) g) w') : wpF P ops Q i (env D n L g) w := by
  obtain ⟨o, ho, h1, h2, h3, h4⟩ := opAt_ok h
  rw [wpF_cons ho, if_pos h3]
  refine .inl ?_
  unfold Oper.wp
  rw [env_eval, hr o h1, Oper.upon_value, h2, env_put _ _ _ _ _ h4]
  exact k
theorem wpF_unit {op : Op} {d : Option Nat} {w' : World} (h : opAt ops n L g i = some (op, d)) (hr : ∀ o : Oper, o.op = op → (execOp (opv n L g) o).run P w = .ok .skip w')
    (k : wpF P ops Q (i + 1) (env D n (pt d undef L) g) w') : wpF P ops Q i (env D n L g) w := by
  obtain ⟨o, ho, h1, h2, h3, h4⟩ := opAt_ok h
  rw [wpF_cons ho, if_pos h3]
  refine .inl ?_
  unfold Oper.wp
  rw [env_eval, hr o h1, Oper.upon_skip, h2, env_put _ _ _ _ _ h4]
  exact k

def pvBin (op : BinOp) (x y : Value) : Option Value :=
  match op, x, y with
  | .eql, .int k a, .int k' b => cond (decide (k = k')) (some (.bool (decide (a = b)))) none
  | .neq, .int k a, .int k' b => cond (decide (k = k')) (some (.bool (!decide (a = b)))) none
  | .lss, .int k a, .int k' b => cond (decide (k = k')) (some (.bool (decide (a < b)))) none
  | .leq, .int k a, .int k' b => cond (decide (k = k')) (some (.bool (decide (a ≤ b)))) none
  | .gtr, .int k a, .int k' b => cond (decide (k = k')) (some (.bool (decide (b < a)))) none
  | .geq, .int k a, .int k' b => cond (decide (k = k')) (some (.bool (decide (b ≤ a)))) none
  | .eql, .string a, .string b => some (.bool (decide (a.data.toList = b.data.toList)))
  | .neq, .string a, .string b => some (.bool (!decide (a.data.toList = b.data.toList)))
  | .lss, .string a, .string b => some (.bool (decide (a.data.toList < b.data.toList)))
  | .gtr, .string a, .string b => some (.bool (decide (b.data.toList < a.data.toList)))
  | .leq, .string a, .string b => some (.bool (!decide (b.data.toList < a.data.toList)))
  | .geq, .string a, .string b => some (.bool (!decide (a.data.toList < b.data.toList)))
  | _, _, _ => none
/-- The types' sizes and places, as the program has them. -/
def szOf (P : Program) (t : TypeId) : Option Nat := (P.info? t).map (·.size)
def fieldOf (P : Program) (s : TypeId) (f : Nat) : Option (TypeId × Nat × Nat) :=
  match P.underlying s with
  | some (.struct fs) => match fs[f]? with
    | some fl => (szOf P fl.type).map fun z => (fl.type, fl.offset, z)
    | none => none
  | _ => none
def aggOf (P : Program) (t : TypeId) : Option Bool :=
  match P.underlying t with
  | some (.struct _) => some true
  | some (.array _ _) => some true
  | some _ => some false
  | none => none
def zeroOf (P : Program) (t : TypeId) : Option Value := (P.info? t).bind (·.zero)
def placesOf (P : Program) (t : TypeId) : Option (Array (Nat × Nat)) :=
  match P.underlying t with
  | some (.struct fs) => fs.mapM fun f => (szOf P f.type).map fun z => (f.offset, z)
  | _ => none
def pv (P : Program) (ρ : Operand → Value) (op : Op) : Option Value :=
  match op with
  | .move x | .assign x => some (ρ x)
  | .pick c a b => match ρ c with | .bool t => some (cond t (ρ a) (ρ b)) | _ => none
  | .binOp op _ x y _ => pvBin op (ρ x) (ρ y)
  | .unOp .not _ x => match ρ x with | .bool b => some (.bool !b) | _ => none
  | .extract x i => match ρ x with | .tuple vs => vs[i]? | _ => none
  | .makeFunc fn first captured => some (.func fn (first.map ρ) (captured.map ρ))
  | .nilCheck x => match ρ x with
    | .pointer (some a) => some (.pointer (some a))
    | .func (.func f) a b => some (.func (.func f) a b)
    | _ => none
  | .fieldAddr s x f => match ρ x, fieldOf P s f with
    | .pointer (some ⟨b, o, none⟩), some (_, off, z) => cond (Nat.blt 0 z) (some (.pointer (some ⟨b, o + off, none⟩))) none
    | _, _ => none
  | .field s x f => match ρ x, fieldOf P s f with
    | .agg cs, some (t, off, z) => match aggOf P t with
      | some true => some (.agg (cs.extract off (off + z)))
      | some false => cs[off]?
      | none => none
    | _, _ => none
  | .call { callee := .builtin .len, args, argTypes } => match argTypes[0]?, args[0]? with
    | some t, some x => match P.underlying t, ρ x with
      | some .string, .string s => some (goInt s.size)
      | some (.slice _), .slice _ n _ => some (goInt n)
      | _, _ => none
    | _, _ => none
  | .build t parts => match zeroOf P t, placesOf P t with
    | some z, some ps => (Instr.fill (ps[·]?) z.cells (parts.map fun (i, x) => (i, ρ x)).toList).map .agg
    | _, _ => none
  | _ => none

theorem bytesLess_lt : ∀ x y : List UInt8, Op.bytesLess x y = decide (x < y)
  | x, [] => by cases x <;> simp [Op.bytesLess]
  | [], b :: y => by simp [Op.bytesLess]
  | a :: x, b :: y => by
    rw [Op.bytesLess, bytesLess_lt x y]
    rw [Bool.eq_iff_iff]
    simp [List.cons_lt_cons_iff]
theorem less_or (x y : List UInt8) : (decide (x < y) || x == y) = !decide (y < x) := by
  rw [Bool.eq_iff_iff]
  simp only [Bool.or_eq_true, decide_eq_true_eq, beq_iff_eq, Bool.not_eq_true', decide_eq_false_iff_not]
  constructor
  · rintro (h | rfl)
    · exact fun k => List.lt_irrefl x (List.lt_trans h k)
    · exact List.lt_irrefl x
  · intro h
    rcases List.le_iff_lt_or_eq.1 (List.not_lt.1 h) with k | k
    · exact .inl k
    · exact .inr k
theorem str_eq (a b : ByteArray) : (a.toList == b.toList) = decide (a.data.toList = b.data.toList) := by
  rw [ByteArray.toList_eq, ByteArray.toList_eq, Bool.eq_iff_iff]; simp only [beq_iff_eq, decide_eq_true_eq]
theorem str_lt (a b : ByteArray) : Op.bytesLess a.toList b.toList = decide (a.data.toList < b.data.toList) := by
  rw [ByteArray.toList_eq, ByteArray.toList_eq, bytesLess_lt]
theorem str_le (a b : ByteArray) : (Op.bytesLess a.toList b.toList || a.toList == b.toList) = !decide (b.data.toList < a.data.toList) := by
  rw [ByteArray.toList_eq, ByteArray.toList_eq, bytesLess_lt, less_or]
theorem pvBin_ok {op : BinOp} {t : TypeId} {x y v : Value} (P : Program) (w : World) (h : pvBin op x y = some v) : (binOp op t x y).run P w = .ok v w := by
  unfold pvBin at h
  split at h
  case h_13 => cases h
  case h_7 => cases h; simp only [binOp, Op.stringOp, str_eq, Sem.run_pure]
  case h_8 => cases h; simp only [binOp, Op.stringOp, str_eq, Sem.run_pure]
  case h_9 => cases h; simp only [binOp, Op.stringOp, str_lt, Sem.run_pure]
  case h_10 => cases h; simp only [binOp, Op.stringOp, str_le, Bool.not_not, Sem.run_pure]
  case h_11 => cases h; simp only [binOp, Op.stringOp, str_le, Sem.run_pure]
  case h_12 => cases h; simp only [binOp, Op.stringOp, str_lt, Sem.run_pure]
  all_goals
    rename_i k a k' b
    by_cases hk : k = k'
    · subst hk
      simp only [decide_true, cond_true, Option.some.injEq] at h
      subst h
      simp [binOp, Op.intCmp, bne] <;> (rw [Bool.eq_iff_iff]; simp)
    · simp [hk] at h
theorem guard_ok {op : BinOp} {t : TypeId} {x y : Operand} {a b v : Value} (P : Program) (w : World) (h : pvBin op a b = some v) : (eqGuard op t x y a b).run P w = .ok () w := by
  unfold eqGuard
  unfold pvBin at h
  split at h <;> simp_all
theorem run_sz {t : TypeId} {z : Nat} (h : szOf P t = some z) : (sizeOf t).run P w = .ok z w := by
  unfold szOf at h
  obtain ⟨i, hi, rfl⟩ := Option.map_eq_some_iff.1 h
  simp [sizeOf, typeInfo, hi]
theorem run_agg {t : TypeId} {b : Bool} (h : aggOf P t = some b) : (isAgg t).run P w = .ok b w := by
  unfold aggOf at h
  unfold isAgg
  cases hu : P.underlying t with
  | none => rw [hu] at h; cases h
  | some d =>
    rw [hu] at h
    simp only [Sem.run_bind, run_underlying hu, Result.andThen_ok]
    cases d <;> simp at h <;> subst h <;> rfl
theorem run_zero {t : TypeId} {z : Value} (h : zeroOf P t = some z) : (zeroValue t).run P w = .ok z w := by
  unfold zeroOf at h
  obtain ⟨i, hi, hz⟩ := Option.bind_eq_some_iff.1 h
  simp [zeroValue, typeInfo, hi, hz]
theorem run_part {t : TypeId} {off z : Nat} {cs : Array Value} {b : Bool} {v : Value} (hz : szOf P t = some z) (ha : aggOf P t = some b)
    (hv : cond b (some (.agg (cs.extract off (off + z)))) cs[off]? = some v) : (part t cs off).run P w = .ok v w := by
  unfold part
  simp only [Sem.run_bind, run_agg (w := w) ha, Result.andThen_ok]
  cases b with
  | true => simp only [cond_true, Option.some.injEq] at hv; subst hv; simp [run_sz (w := w) hz]
  | false => simp only [cond_false] at hv; simp [hv]
theorem fieldOf_some {s : TypeId} {f : Nat} {r : TypeId × Nat × Nat} (h : fieldOf P s f = some r) : ∃ fs fl, P.underlying s = some (.struct fs) ∧ fs[f]? = some fl ∧ szOf P fl.type = some r.2.2 ∧ fl.type = r.1 ∧ fl.offset = r.2.1 := by
  unfold fieldOf at h
  split at h
  · rename_i fs hu
    split at h
    · rename_i fl hf
      obtain ⟨z, hz, rfl⟩ := Option.map_eq_some_iff.1 h
      exact ⟨fs, fl, hu, hf, hz, rfl, rfl⟩
    · cases h
  · cases h
theorem addr_add (b o n : Nat) : (⟨b, o, none⟩ : Addr).add n = ⟨b, o + n, none⟩ := by
  unfold Addr.add
  split
  · rename_i h; subst h; rfl
  · rfl
theorem mapM_run {α β : Type} (f : α → Sem β) (g : α → Option β) (hf : ∀ x y, g x = some y → (f x).run P w = .ok y w) : ∀ (l : List α) (r : List β), l.mapM g = some r → (l.mapM f).run P w = .ok r w
  | [], r, h => by simp at h; subst h; simp
  | x :: l, r, h => by
    simp only [List.mapM_cons, Option.bind_eq_bind, Option.bind_eq_some_iff, Option.pure_def, Option.some.injEq] at h
    obtain ⟨y, hy, ys, hys, rfl⟩ := h
    simp [List.mapM_cons, hf x y hy, mapM_run f g hf l ys hys]
theorem amapM_run {α β : Type} (f : α → Sem β) (g : α → Option β) (hf : ∀ x y, g x = some y → (f x).run P w = .ok y w) (l : Array α) (r : Array β) (h : l.mapM g = some r) : (l.mapM f).run P w = .ok r w := by
  rw [Array.mapM_eq_mapM_toList] at h ⊢
  obtain ⟨r', hr, rfl⟩ := Option.map_eq_some_iff.1 h
  simp [mapM_run f g hf l.toList r' hr]
theorem pv_ok (ρ : Operand → Value) (o : Oper) {v : Value} (h : pv P ρ o.op = some v) : (execOp ρ o).run P w = .ok (.value v) w := by
  unfold execOp
  generalize o.op = op at h
  cases op <;> simp only [pv] at h <;> try (cases h; done)
  case move x => cases h; rfl
  case assign x => cases h; rfl
  case pick c a b =>
    split at h
    · rename_i t ht
      cases h
      simp only [ht, Sem.run_bind, asBool, Sem.run_pure, Result.andThen_ok]
      cases t <;> rfl
    · cases h
  case binOp op t x y yt =>
    simp only [Sem.run_bind, guard_ok P w h, pvBin_ok P w h, Result.andThen_ok, Sem.run_pure]
  case unOp op t x =>
    cases op <;> simp only at h <;> try (cases h; done)
    split at h
    · rename_i b hb
      cases h
      simp [hb, Op.unary]
    · cases h
  case extract x i =>
    split at h
    · rename_i vs hx
      simp [hx, Instr.extract, h]
    · cases h
  case makeFunc fn fs cs => cases h; rfl
  case nilCheck x =>
    split at h
    · rename_i a hx; cases h; simp [hx]
    · rename_i f a b hx; cases h; simp [hx]
    · cases h
  case fieldAddr s x f =>
    split at h
    · rename_i b o t off z hx hf
      obtain ⟨fs, fl, hu, hfl, hz, h1, h2⟩ := fieldOf_some hf
      simp only at hz h1 h2
      cases hb : Nat.blt 0 z with
      | false => rw [hb] at h; cases h
      | true =>
        rw [hb] at h
        have hz0 : z ≠ 0 := by have := blt_iff.1 hb; omega
        simp only [cond_true, Option.some.injEq] at h
        subst h
        simp [Instr.fieldAt, run_underlying hu, hfl, hx, Instr.sureAddr, fieldPlace, run_sz (w := w) hz, hz0, addr_add, h2]
    · cases h
  case field s x f =>
    split at h
    · rename_i cs t off z hx hf
      obtain ⟨fs, fl, hu, hfl, hz, h1, h2⟩ := fieldOf_some hf
      simp only at hz h1 h2
      have hv : ∃ b, aggOf P t = some b ∧ cond b (some (.agg (cs.extract off (off + z)))) cs[off]? = some v := by
        split at h
        · rename_i ha; exact ⟨true, ha, h⟩
        · rename_i ha; exact ⟨false, ha, h⟩
        · cases h
      obtain ⟨b, ha, hv⟩ := hv
      rw [← h1] at ha
      rw [← h2] at hv
      simp [Instr.field, run_underlying hu, hfl, hx, asAgg, run_part (w := w) hz ha hv]
    · cases h
  case build t parts =>
    split at h
    · rename_i z ps hz hp
      obtain ⟨cells, hc, rfl⟩ := Option.map_eq_some_iff.1 h
      unfold placesOf at hp
      split at hp
      · rename_i fs hu
        have hm := amapM_run (P := P) (w := w) (fun f : Field => (do pure (f.offset, ← sizeOf f.type) : Sem (Nat × Nat))) (fun f => (szOf P f.type).map fun z => (f.offset, z))
          (fun f y hy => by obtain ⟨z, hz, rfl⟩ := Option.map_eq_some_iff.1 hy; simp [run_sz (w := w) hz]) fs ps hp
        simp only [Instr.build, Sem.run_bind, run_zero (w := w) hz, run_underlying hu, Result.andThen_ok, hm, hc, Sem.run_pure]
      · cases hp
    · cases h
  case call c =>
    obtain ⟨cal, args, tys⟩ := c
    cases cal <;> (try (cases h; done))
    rename_i b
    cases b <;> (try (cases h; done))
    change (match tys[0]?, args[0]? with | some t, some x => (match P.underlying t, ρ x with | some .string, .string s => some (goInt s.size) | some (.slice _), .slice _ n _ => some (goInt n) | _, _ => none) | _, _ => none) = some v at h
    split at h
    · rename_i t x ht hx
      have hx' : (args.map ρ)[0]? = some (ρ x) := by simp [hx]
      split at h
      · rename_i s hu hs
        cases h
        simp [resolve, invoke, builtin, Builtin.len_, ht, hx', run_underlying hu, hs]
      · rename_i e a n c hu hs
        cases h
        simp [resolve, invoke, builtin, Builtin.len_, ht, hx', run_underlying hu, hs]
      · cases h
    · cases h
end
end Go.Vk
