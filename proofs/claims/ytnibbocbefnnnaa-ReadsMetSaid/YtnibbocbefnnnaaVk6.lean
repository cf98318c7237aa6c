import Derived.Test.YtnibbocbefnnnaaVk5
set_option linter.unusedVariables false
namespace Go.Vk
variable {D : List Deferred}
section
variable {P : Program} {ops : Array Oper} {Q : Exit → Act → World → Prop} {w : World} {n : Nat}
/-- What an operation waits for. -/
def deps (ops : Array Oper) (i : Nat) : List Nat :=
  match ops[i]? with
  | some o => (o.after.toList.filter (Region.binds .any)).map (·.on)
  | none => []
/-- Guards look back. -/
def guardsOk (ops : Array Oper) (i : Nat) : Bool :=
  match ops[i]? with
  | some o => match o.guard with
    | some (j, _) => Nat.ble j i
    | none => true
  | none => true
theorem one_op {i : Nat} {a : Act} {K : Act → World → Prop} (hi : i < ops.size) (hg : guardsOk ops i = true) (h : wpF P (ops.extract 0 (i + 1)) (Exit.then K Q) i a w) : wpOp P ops Q i K a w := by
  obtain ⟨o, ho⟩ : ∃ o, ops[i]? = some o := ⟨ops[i], by simp [hi]⟩
  have hsz : (ops.extract 0 (i + 1)).size = i + 1 := by simp; omega
  have hget : ∀ j, j ≤ i → (ops.extract 0 (i + 1))[j]? = ops[j]? := by
    intro j hj
    rw [Array.getElem?_extract]
    simp
    intro h; omega
  have ho' : (ops.extract 0 (i + 1))[i]? = some o := by rw [hget i (Nat.le_refl _)]; exact ho
  rw [wpF_cons ho'] at h
  unfold wpOp
  simp only [ho]
  have hw : Region.wanted o (yielded (ops.extract 0 (i + 1)) a.tmps) = Region.wanted o (yielded ops a.tmps) := by
    unfold Region.wanted
    cases hgd : o.guard with
    | none => rfl
    | some p =>
      obtain ⟨j, b⟩ := p
      have hj : j ≤ i := by
        unfold guardsOk at hg
        simp only [ho, hgd] at hg
        exact Nat.le_of_ble_eq_true hg
      simp only [yielded, hget j hj]
  rw [hw] at h
  have hK : ∀ a' w', wpF P (ops.extract 0 (i + 1)) (Exit.then K Q) (i + 1) a' w' → K a' w' := by
    intro a' w' hh
    have := wpF_stop (P := P) (ops := ops.extract 0 (i + 1)) (Q := Exit.then K Q) (i := i + 1) (w := w') a' (by rw [hsz]; exact Nat.ble_eq_true_of_le (Nat.le_refl _)) hh
    exact this
  have hQ : ∀ (o : Oper) (a : Act) (w : World) (N : Act → World → Prop), o.wp P a w N (Exit.then K Q) → o.wp P a w N Q := by
    intro o a w N hh
    unfold Oper.wp at hh ⊢
    generalize (execOp a.eval o).run P w = r at *
    cases r with
    | ok x w' =>
      cases x <;> simp only [Oper.upon] at hh ⊢ <;> first | exact hh | (refine Calls.mono hh fun e w'' he => ?_; cases e <;> first | exact he | (obtain ⟨a0, w0, hq⟩ := he; exact ⟨a0, w0, hq⟩))
    | halt x w' => cases x <;> simp only [Oper.upon] at hh ⊢ <;> exact hh
  split at h
  · rename_i hwt
    rw [if_pos hwt]
    rcases h with h | ⟨h1, h2⟩
    · exact .inl (hQ o a w K (Oper.wp_mono hK h))
    · obtain ⟨a0, w0, hq⟩ := h2
      exact .inr ⟨h1, a0, w0, hq⟩
  · rename_i hwt
    rw [if_neg hwt]
    exact hK _ _ h

theorem ready_iff {listed : Array Bool} {i : Nat} : i ∈ Region.ready .any ops listed ↔ i < ops.size ∧ listed.getD i true = false ∧ ∀ d, d ∈ deps ops i → listed.getD d false = true := by
  unfold Region.ready deps
  simp only [List.mem_filter, List.mem_range, Bool.and_eq_true, Bool.not_eq_true']
  constructor
  · rintro ⟨h1, h2, h3⟩
    refine ⟨h1, h2, ?_⟩
    have ho : ops[i]? = some ops[i] := by simp [h1]
    simp only [ho, Option.map_some, Option.getD_some, Array.all_eq_true_iff_forall_mem] at h3
    intro d hd
    simp only [ho, List.mem_map, List.mem_filter, Array.mem_toList_iff] at hd
    obtain ⟨e, ⟨he, hb⟩, rfl⟩ := hd
    have := h3 e he
    rw [hb] at this
    simpa using this
  · rintro ⟨h1, h2, h3⟩
    refine ⟨h1, h2, ?_⟩
    have ho : ops[i]? = some ops[i] := by simp [h1]
    simp only [ho, Option.map_some, Option.getD_some, Array.all_eq_true_iff_forall_mem]
    intro e he
    cases hb : Region.binds .any e with
    | false => simp
    | true =>
      simp only [Bool.not_true, Bool.false_or]
      refine h3 e.on ?_
      simp only [ho, List.mem_map, List.mem_filter, Array.mem_toList_iff]
      exact ⟨e, ⟨he, hb⟩, rfl⟩
def dstOf (ops : Array Oper) (j : Nat) : Option Nat := (ops[j]?).bind (·.dst)
def One (n : Nat) (L0 : List (Nat × Value)) (V0 : VT) (w0 : World) (E0 : List Ent) (ops : Array Oper) (G : Nat → Value → VT → Prop) (g : Nat → Value) (V : VT) (i : Nat) (F : Value → List Ent) : Act → World → Prop :=
  fun a' w' => ∃ v V', a' = env [] n (pt (dstOf ops i) v L0) g ∧ V.le V' ∧ Step V0 w0 E0 V' w' (F v) ∧ G i v V'
end
end Go.Vk
