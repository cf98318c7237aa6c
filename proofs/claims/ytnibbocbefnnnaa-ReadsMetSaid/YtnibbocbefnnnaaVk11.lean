import Derived.Test.YtnibbocbefnnnaaVk8
set_option linter.unusedVariables false
namespace Go.Vk
variable {D : List Deferred}
section
variable {P : Program} {ops : Array Oper} {Q : Exit → Act → World → Prop} {n : Nat} {F : List Ent} {V : VT} {w : World}
def Mem (V : VT) (F : List Ent) (w : World) : Prop := V.inW w ∧ ∀ e, e ∈ F → e.holds V w
/-- What an operation gives, wherever the settled cells and the entries are. -/
def Yv (P : Program) (V : VT) (F : List Ent) (ρ : Operand → Value) (op : Op) (v : Value) : Prop :=
  ∀ o : Oper, o.op = op → ∀ (V' : VT) (w : World), V.le V' → Mem V' F w → (execOp ρ o).run P w = .ok (.value v) w
def YieldsV (P : Program) (ops : Array Oper) (F : List Ent) (o : Oper) (v : Value) (a : Act) (V : VT) : Prop :=
  (Region.wanted o (yielded ops a.tmps) = true ∧ ∀ (V' : VT) (w : World), V.le V' → Mem V' F w → (execOp a.eval o).run P w = .ok (.value v) w) ∨
  (Region.wanted o (yielded ops a.tmps) = false ∧ v = undef)
theorem YieldsV.up {o : Oper} {v : Value} {a : Act} {V V' : VT} (h : YieldsV P ops F o v a V) (hl : V.le V') : YieldsV P ops F o v a V' :=
  h.imp (fun h => ⟨h.1, fun V2 w k m => h.2 V2 w (hl.trans k) m⟩) id
theorem YieldsV.of_same {o : Oper} {v : Value} {a a' : Act} (hy : YieldsV P ops F o v a V) (he : execOp a'.eval o = execOp a.eval o)
    (hw : Region.wanted o (yielded ops a'.tmps) = Region.wanted o (yielded ops a.tmps)) : YieldsV P ops F o v a' V := by
  unfold YieldsV at *
  rw [he, hw]
  exact hy
theorem YieldsV.wpOp {i : Nat} {o : Oper} {v : Value} {a : Act} (hi : ops[i]? = some o) (hy : YieldsV P ops F o v a V) (hm : Mem V F w)
    {K : Act → World → Prop} (h : K (a.put o.dst v) w) : wpOp P ops Q i K a w := by
  unfold Go.wpOp
  simp only [hi]
  rcases hy with ⟨hw, hv⟩ | ⟨hw, rfl⟩
  · simp only [hw, if_true, Oper.wp, hv V w (.refl V) hm, Oper.upon]; exact .inl h
  · simp only [hw, Bool.false_eq_true, if_false]; exact h
/-- No panic goes out. -/
def np (Q : Exit → Act → World → Prop) : Exit → Act → World → Prop := fun e a w => (∀ c, e ≠ .panic c) ∧ Q e a w
theorem wpOp_Q {Q' : Exit → Act → World → Prop} (hQ : ∀ e a w, Q' e a w → Q e a w) {i : Nat} {K : Act → World → Prop} {a : Act} (h : wpOp P ops Q' i K a w) : wpOp P ops Q i K a w := by
  unfold wpOp at *
  split
  · rename_i hn; simp only [hn] at h; exact h
  · rename_i o ho
    simp only [ho] at h
    split
    · rename_i hw
      simp only [hw, if_true] at h
      have hl : LetsOut Q' → LetsOut Q := fun ⟨a, w, h⟩ => ⟨a, w, hQ _ _ _ h⟩
      refine h.imp (fun h => ?_) (fun h => ⟨h.1, hl h.2⟩)
      unfold Oper.wp at h ⊢
      generalize (execOp a.eval o).run P w = r at *
      cases r with
      | ok x w' =>
        cases x <;> simp only [Oper.upon] at h ⊢ <;> first
          | exact h
          | (refine Calls.mono h fun e w'' he => ?_; cases e <;> first | exact he | exact hQ _ _ _ he | exact hl he)
      | halt x w' => cases x <;> simp only [Oper.upon] at h ⊢ <;> first | exact h | exact hQ _ _ _ h
    · rename_i hw; simp only [hw] at h; exact h
theorem wpOp_putV {j : Nat} {oi oj : Oper} {v : Value} (hj : ops[j]? = some oj) (hap : oi.apart ops oj = true)
    (hsi : ∀ cs b, oi.op ≠ .select cs b) (hsj : ∀ cs b, oj.op ≠ .select cs b) {K : Act → World → Prop} {a : Act}
    (hy : YieldsV P ops F oi v a V) (h : wpOp P ops (np Q) j K (a.put oi.dst v) w) :
    wpOp P ops (np Q) j (fun a' w' => YieldsV P ops F oi v a' V ∧ K (a'.put oi.dst v) w') a w := by
  obtain ⟨h1, h2, h3⟩ := Oper.apart_spec hap
  have keep : ∀ (a : Act), YieldsV P ops F oi v a V → ∀ u, YieldsV P ops F oi v (a.put oj.dst u) V := fun a hy u =>
    hy.of_same (execOp_put oi hsi a oj.dst u h3) (wanted_put oi a oj.dst u h3)
  have keepD : ∀ d, YieldsV P ops F oi v { a with defers := d :: a.defers } V := fun d => hy.of_same rfl rfl
  unfold wpOp at *
  simp only [hj] at *
  rw [wanted_put oj a oi.dst v h1] at h
  split
  · rename_i hw
    simp only [hw, if_true] at h
    rcases h with h | ⟨hasks, hlets⟩
    case inr => exact .inr ⟨by unfold Oper.asks at *; rw [execOp_put oj hsj a oi.dst v h1] at hasks; exact hasks, hlets⟩
    refine .inl ?_
    unfold Oper.wp at *
    rw [execOp_put oj hsj a oi.dst v h1] at h
    generalize (execOp a.eval oj).run P w = r at *
    cases r with
    | ok n w' =>
      cases n <;> simp only [Oper.upon] at h ⊢
      case value u => exact ⟨keep a hy u, by rw [← Act.put_comm a v u h2]; exact h⟩
      case skip => exact ⟨keep a hy _, by rw [← Act.put_comm a v undef h2]; exact h⟩
      case defer d =>
        refine ⟨keep _ (keepD d) _, ?_⟩
        rw [← Act.put_comm _ v undef h2, ← Act.put_defers]
        exact h
      case enter f args =>
        refine Calls.mono h fun e w'' he => ?_
        cases e with
        | returned u => exact ⟨keep a hy u, by rw [← Act.put_comm a v u h2]; exact he⟩
        | panicked c => exact absurd rfl (he.1 c)
        | outgrown => exact he
      case row row args => exact Rows.mono h fun u w'' he => ⟨keep a hy u, by rw [← Act.put_comm a v u h2]; exact he⟩
    | halt x w' =>
      cases x <;> simp only [Oper.upon] at h ⊢
      case panic u => exact absurd rfl (h.1 _)
  · rename_i hw
    simp only [hw] at h
    exact ⟨keep a hy _, by rw [← Act.put_comm a v undef h2]; exact h⟩

/-- What is held while an operation is not done: an entry, and who ends it. -/
def MemL (V : VT) (F : List (Ent × Nat)) (listed : Array Bool) (w : World) : Prop := V.inW w ∧ ∀ x, x ∈ F → listed.getD x.2 false = false → x.1.holds V w
/-- What an operation may lean on: what nobody ends, or one that waits for it. -/
def FOf (ops : Array Oper) (F : List (Ent × Nat)) (i : Nat) : List Ent := (F.filter fun x => (deps ops x.2).any (Nat.beq i) || Nat.ble ops.size x.2).map (·.1)
def wpAnyV (P : Program) (ops : Array Oper) (Q : Exit → Act → World → Prop) (F : List (Ent × Nat)) : Nat → Array Bool → Act → VT → World → Prop
  | 0, listed, a, V, w => MemL V F listed w ∧ Region.ready .any ops listed = [] ∧ Q .normal a w
  | fuel + 1, listed, a, V, w => MemL V F listed w ∧ (Region.ready .any ops listed = [] → Q .normal a w) ∧
    ∀ i ∈ Region.ready .any ops listed, wpOp P ops (np Q) i (fun a' w' => ∃ V', V.le V' ∧ wpAnyV P ops Q F fuel (listed.setIfInBounds i true) a' V' w') a w
section
variable {F : List (Ent × Nat)}
theorem wpAnyV.mem : ∀ {fuel : Nat} {listed : Array Bool} {a : Act}, wpAnyV P ops Q F fuel listed a V w → MemL V F listed w
  | 0, _, _, h => h.1
  | _ + 1, _, _, h => h.1
theorem wpAnyV.any : ∀ {fuel : Nat} {listed : Array Bool} {a : Act} {V : VT} {w : World}, wpAnyV P ops Q F fuel listed a V w → wpAny P .any ops Q fuel listed a w
  | 0, _, _, _, _, h => h.2
  | _ + 1, _, _, _, _, h => ⟨h.2.1, fun i hi => wpOp_Q (fun _ _ _ h => h.2) (wpOp_mono (fun _ _ ⟨_, _, h⟩ => h.any) (h.2.2 i hi))⟩
theorem MemL.of {listed : Array Bool} {i : Nat} (h : MemL V F listed w) (hcl : ∀ x, x ∈ F → (i ∈ deps ops x.2 ∨ ops.size ≤ x.2) → listed.getD x.2 false = false) : Mem V (FOf ops F i) w := by
  refine ⟨h.1, fun e he => ?_⟩
  obtain ⟨x, hx, rfl⟩ := List.mem_map.1 he
  obtain ⟨h1, h2⟩ := List.mem_filter.1 hx
  refine h.2 x h1 (hcl x h1 ?_)
  simp only [Bool.or_eq_true, List.any_eq_true] at h2
  rcases h2 with ⟨d, hd, h2⟩ | h2
  · exact .inl (Nat.eq_of_beq_eq_true h2 ▸ hd)
  · exact .inr (Nat.le_of_ble_eq_true h2)
theorem mem_deps {i d : Nat} : d ∈ deps ops i ↔ ∃ o, ops[i]? = some o ∧ ∃ e ∈ o.after, Region.binds .any e = true ∧ e.on = d := by
  unfold deps
  cases ho : ops[i]? with
  | none => simp
  | some o =>
    simp only [List.mem_map, List.mem_filter, Array.mem_toList_iff, Option.some.injEq, exists_eq_left']
    constructor
    · rintro ⟨e, ⟨he, hb⟩, rfl⟩; exact ⟨e, he, hb, rfl⟩
    · rintro ⟨e, he, hb, rfl⟩; exact ⟨e, ⟨he, hb⟩, rfl⟩
theorem wpAnyV_first {i : Nat} {oi : Oper} {v : Value} (hne : ∀ x, x ∈ F → x.2 ≠ i) (hi : ops[i]? = some oi) (hsel : ∀ (j : Nat) (o : Oper) cs b, ops[j]? = some o → o.op ≠ .select cs b) :
    ∀ (fuel : Nat) (listed : Array Bool) (a : Act) (V : VT) (w : World),
      (∀ j oj, ops[j]? = some oj → j ≠ i → listed.getD j true = false → (∀ e ∈ oj.after, Region.binds .any e = true → e.on ≠ i) → oi.apart ops oj = true) →
      i ∈ Region.ready .any ops listed → (∀ x, x ∈ F → (i ∈ deps ops x.2 ∨ ops.size ≤ x.2) → listed.getD x.2 false = false) → YieldsV P ops (FOf ops F i) oi v a V → MemL V F listed w →
      wpAnyV P ops Q F fuel (listed.setIfInBounds i true) (a.put oi.dst v) V w → wpAnyV P ops Q F (fuel + 1) listed a V w := by
  intro fuel
  induction fuel with
  | zero =>
    intro listed a V w _ hr hcl hy hm H
    refine ⟨hm, fun h => (by rw [h] at hr; cases hr), fun j hj => ?_⟩
    by_cases hji : j = i
    · subst hji; exact hy.wpOp hi (hm.of hcl) ⟨V, .refl V, H⟩
    · have := ready_mono hj hji
      rw [H.2.1] at this
      cases this
  | succ fuel ih =>
    intro listed a V w hfree hr hcl hy hm H
    refine ⟨hm, fun h => (by rw [h] at hr; cases hr), fun j hj => ?_⟩
    by_cases hji : j = i
    · subst hji; exact hy.wpOp hi (hm.of hcl) ⟨V, .refl V, H⟩
    · have h1 := H.2.2 j (ready_mono hj hji)
      obtain ⟨hjun, oj, hoj, hall⟩ := mem_ready.1 hj
      have hnot : ∀ e ∈ oj.after, Region.binds .any e = true → e.on ≠ i := fun e he hb heq => by
        have h1 := hall e he hb
        have h0 := (mem_ready.1 hr).1
        rw [heq] at h1
        rcases Nat.lt_or_ge i listed.size with h' | h'
        · simp [h'] at h0 h1; rw [h0] at h1; cases h1
        · simp [Array.getElem?_eq_none h'] at h1
      have h2 := wpOp_putV hoj (hfree j oj hoj hji hjun hnot) (fun cs b => hsel i oi cs b hi) (fun cs b => hsel j oj cs b hoj) hy h1
      have hfree' : ∀ k ok, ops[k]? = some ok → k ≠ i → (listed.setIfInBounds j true).getD k true = false →
          (∀ e ∈ ok.after, Region.binds .any e = true → e.on ≠ i) → oi.apart ops ok = true := fun k ok hk hki hun hno => by
        refine hfree k ok hk hki ?_ hno
        by_cases hjk : j = k
        · subst hjk; exact hjun
        · rw [getD_set_ne true hjk] at hun; exact hun
      have hcl' : ∀ x, x ∈ F → (i ∈ deps ops x.2 ∨ ops.size ≤ x.2) → (listed.setIfInBounds j true).getD x.2 false = false := fun x hx h => by
        have hne : j ≠ x.2 := fun e => by
          rcases h with h | h
          · obtain ⟨o, ho, ed, hed, hb, hon⟩ := mem_deps.1 h
            rw [← e, hoj] at ho; cases ho
            exact hnot ed hed hb hon
          · have := (Array.getElem?_eq_some_iff.1 hoj).1
            omega
        rw [getD_set_ne false hne]; exact hcl x hx h
      refine wpOp_mono (fun a' w' h3 => ?_) h2
      obtain ⟨hy', V', hle, h4⟩ := h3
      have hm' : MemL V' F (listed.setIfInBounds j true) w' := ⟨h4.mem.1, fun x hx hl => by
        refine h4.mem.2 x hx ?_
        rw [Array.setIfInBounds_comm _ _ (Ne.symm hji), getD_set_ne false (fun e => hne x hx e.symm)]
        exact hl⟩
      refine ⟨V', hle, ih (listed.setIfInBounds j true) a' V' w' hfree' (ready_mono hr (Ne.symm hji)) hcl' (hy'.up hle) hm' ?_⟩
      rw [Array.setIfInBounds_comm _ _ hji]
      exact h4
end
theorem Step.drewN {V0 V : VT} {w0 : World} {E0 E : List Ent} (h : Step V0 w0 E0 V w E) (m : Nat) : Step V0 w0 E0 V { w with drawn := w.drawn + m } E :=
  Step.call (Ei := []) (Eo := []) h (Step.mk_drewN h.ok.inW m)
theorem wpF_y {V0 : VT} {w0 : World} {E0 E : List Ent} {L : List (Nat × Value)} {g : Nat → Value} {i : Nat} {op : Op} {d : Option Nat} {v : Value} (hM : Step V0 w0 E0 V w E) (h : opAt ops n L g i = some (op, d)) (hY : Yv P V E (opv n L g) op v) (k : wpF P ops Q (i + 1) (env D n (pt d v L) g) w) : wpF P ops Q i (env D n L g) w :=
  wpF_value h (fun o ho => hY o ho V w (.refl V) ⟨hM.ok.inW, hM.ok.holds⟩) k
end
end Go.Vk
