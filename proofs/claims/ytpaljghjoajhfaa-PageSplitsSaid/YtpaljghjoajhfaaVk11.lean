/- A region of open order, walked in one order: an operation that only looks gives the same in every order. -/
import Derived.Test.YtpaljghjoajhfaaVk9
set_option linter.unusedVariables false
namespace Go.Vk
section
variable {P : Program} {ops : Array Oper} {Q : Exit → Act → World → Prop} {n : Nat} {F : List Ent} {V : VT} {w : World}

def Mem (V : VT) (F : List Ent) (w : World) : Prop := V.inW w ∧ ∀ e, e ∈ F → e.holds V w
/-- What an operation gives, wherever the settled cells and the entries are. -/
def Yv (P : Program) (V : VT) (F : List Ent) (ρ : Operand → Value) (op : Op) (v : Value) : Prop :=
  ∀ o : Oper, o.op = op → ∀ (V' : VT) (w : World), V.le V' → Mem V' F w → (execOp ρ o).run P w = .ok (.value v) w
def YieldsV (P : Program) (ops : Array Oper) (F : List Ent) (o : Oper) (v : Value) (a : Act) (V : VT) : Prop :=
  (Region.wanted o (yielded ops a.tmps) = true ∧ ∀ (V' : VT) (w : World), V.le V' → Mem V' F w → (execOp a.eval o).run P w = .ok (.value v) w) ∨
  (Region.wanted o (yielded ops a.tmps) = false ∧ v = undef)
theorem YieldsV.up {o : Oper} {v : Value} {a : Act} {V V' : VT} (h : YieldsV P ops F o v a V) (hl : V.le V') : YieldsV P ops F o v a V' :=
  h.imp (fun h => ⟨h.1, fun V2 w k m => h.2 V2 w (hl.trans k) m⟩) id
theorem YieldsV.of_same {o : Oper} {v : Value} {a a' : Act} (hy : YieldsV P ops F o v a V) (he : execOp a'.eval o = execOp a.eval o)
    (hw : Region.wanted o (yielded ops a'.tmps) = Region.wanted o (yielded ops a.tmps)) : YieldsV P ops F o v a' V := by
  unfold YieldsV at *
  rw [he, hw]
  exact hy
theorem YieldsV.wpOp {i : Nat} {o : Oper} {v : Value} {a : Act} (hi : ops[i]? = some o) (hy : YieldsV P ops F o v a V) (hm : Mem V F w)
    {K : Act → World → Prop} (h : K (a.put o.dst v) w) : wpOp P ops Q i K a w := by
  unfold Go.wpOp
  simp only [hi]
  rcases hy with ⟨hw, hv⟩ | ⟨hw, rfl⟩
  · simp only [hw, if_true, Oper.wp, hv V w (.refl V) hm, Oper.upon]; exact .inl h
  · simp only [hw, Bool.false_eq_true, if_false]; exact h
/-- No panic goes out. -/
def np (Q : Exit → Act → World → Prop) : Exit → Act → World → Prop := fun e a w => (∀ c, e ≠ .panic c) ∧ Q e a w
theorem wpOp_Q {Q' : Exit → Act → World → Prop} (hQ : ∀ e a w, Q' e a w → Q e a w) {i : Nat} {K : Act → World → Prop} {a : Act} (h : wpOp P ops Q' i K a w) : wpOp P ops Q i K a w := by
  unfold wpOp at *
  split
  · rename_i hn; simp only [hn] at h; exact h
  · rename_i o ho
    simp only [ho] at h
    split
    · rename_i hw
      simp only [hw, if_true] at h
      have hl : LetsOut Q' → LetsOut Q := fun ⟨a, w, h⟩ => ⟨a, w, hQ _ _ _ h⟩
      refine h.imp (fun h => ?_) (fun h => ⟨h.1, hl h.2⟩)
      unfold Oper.wp at h ⊢
      generalize (execOp a.eval o).run P w = r at *
      cases r with
      | ok x w' =>
        cases x <;> simp only [Oper.upon] at h ⊢ <;> first
          | exact h
          | (refine Calls.mono h fun e w'' he => ?_; cases e <;> first | exact he | exact hQ _ _ _ he | exact hl he)
      | halt x w' => cases x <;> simp only [Oper.upon] at h ⊢ <;> first | exact h | exact hQ _ _ _ h
    · rename_i hw; simp only [hw] at h; exact h
theorem wpOp_putV {j : Nat} {oi oj : Oper} {v : Value} (hj : ops[j]? = some oj) (hap : oi.apart ops oj = true)
    (hsi : ∀ cs b, oi.op ≠ .select cs b) (hsj : ∀ cs b, oj.op ≠ .select cs b) {K : Act → World → Prop} {a : Act}
    (hy : YieldsV P ops F oi v a V) (h : wpOp P ops (np Q) j K (a.put oi.dst v) w) :
    wpOp P ops (np Q) j (fun a' w' => YieldsV P ops F oi v a' V ∧ K (a'.put oi.dst v) w') a w := by
  obtain ⟨h1, h2, h3⟩ := Oper.apart_spec hap
  have keep : ∀ (a : Act), YieldsV P ops F oi v a V → ∀ u, YieldsV P ops F oi v (a.put oj.dst u) V := fun a hy u =>
    hy.of_same (execOp_put oi hsi a oj.dst u h3) (wanted_put oi a oj.dst u h3)
  have keepD : ∀ d, YieldsV P ops F oi v { a with defers := d :: a.defers } V := fun d => hy.of_same rfl rfl
  unfold wpOp at *
  simp only [hj] at *
  rw [wanted_put oj a oi.dst v h1] at h
  split
  · rename_i hw
    simp only [hw, if_true] at h
    rcases h with h | ⟨hasks, hlets⟩
    case inr => exact .inr ⟨by unfold Oper.asks at *; rw [execOp_put oj hsj a oi.dst v h1] at hasks; exact hasks, hlets⟩
    refine .inl ?_
    unfold Oper.wp at *
    rw [execOp_put oj hsj a oi.dst v h1] at h
    generalize (execOp a.eval oj).run P w = r at *
    cases r with
    | ok n w' =>
      cases n <;> simp only [Oper.upon] at h ⊢
      case value u => exact ⟨keep a hy u, by rw [← Act.put_comm a v u h2]; exact h⟩
      case skip => exact ⟨keep a hy _, by rw [← Act.put_comm a v undef h2]; exact h⟩
      case defer d =>
        refine ⟨keep _ (keepD d) _, ?_⟩
        rw [← Act.put_comm _ v undef h2, ← Act.put_defers]
        exact h
      case enter f args =>
        refine Calls.mono h fun e w'' he => ?_
        cases e with
        | returned u => exact ⟨keep a hy u, by rw [← Act.put_comm a v u h2]; exact he⟩
        | panicked c => exact absurd rfl (he.1 c)
        | outgrown => exact he
      case row row args => exact Rows.mono h fun u w'' he => ⟨keep a hy u, by rw [← Act.put_comm a v u h2]; exact he⟩
    | halt x w' =>
      cases x <;> simp only [Oper.upon] at h ⊢
      case panic u => exact absurd rfl (h.1 _)
  · rename_i hw
    simp only [hw] at h
    exact ⟨keep a hy _, by rw [← Act.put_comm a v undef h2]; exact h⟩

def wpAnyV (P : Program) (ops : Array Oper) (Q : Exit → Act → World → Prop) (F : List Ent) : Nat → Array Bool → Act → VT → World → Prop
  | 0, listed, a, V, w => Mem V F w ∧ Region.ready .any ops listed = [] ∧ Q .normal a w
  | fuel + 1, listed, a, V, w => Mem V F w ∧ (Region.ready .any ops listed = [] → Q .normal a w) ∧
    ∀ i ∈ Region.ready .any ops listed, wpOp P ops (np Q) i (fun a' w' => ∃ V', V.le V' ∧ wpAnyV P ops Q F fuel (listed.setIfInBounds i true) a' V' w') a w
theorem wpAnyV.mem : ∀ {fuel : Nat} {listed : Array Bool} {a : Act}, wpAnyV P ops Q F fuel listed a V w → Mem V F w
  | 0, _, _, h => h.1
  | _ + 1, _, _, h => h.1
theorem wpAnyV.any : ∀ {fuel : Nat} {listed : Array Bool} {a : Act} {V : VT} {w : World}, wpAnyV P ops Q F fuel listed a V w → wpAny P .any ops Q fuel listed a w
  | 0, _, _, _, _, h => h.2
  | _ + 1, _, _, _, _, h => ⟨h.2.1, fun i hi => wpOp_Q (fun _ _ _ h => h.2) (wpOp_mono (fun _ _ ⟨_, _, h⟩ => h.any) (h.2.2 i hi))⟩
theorem wpAnyV_first {i : Nat} {oi : Oper} {v : Value} (hi : ops[i]? = some oi) (hsel : ∀ (j : Nat) (o : Oper) cs b, ops[j]? = some o → o.op ≠ .select cs b) :
    ∀ (fuel : Nat) (listed : Array Bool) (a : Act) (V : VT) (w : World),
      (∀ j oj, ops[j]? = some oj → j ≠ i → listed.getD j true = false → (∀ e ∈ oj.after, Region.binds .any e = true → e.on ≠ i) → oi.apart ops oj = true) →
      i ∈ Region.ready .any ops listed → YieldsV P ops F oi v a V →
      wpAnyV P ops Q F fuel (listed.setIfInBounds i true) (a.put oi.dst v) V w → wpAnyV P ops Q F (fuel + 1) listed a V w := by
  intro fuel
  induction fuel with
  | zero =>
    intro listed a V w _ hr hy H
    refine ⟨H.mem, fun h => (by rw [h] at hr; cases hr), fun j hj => ?_⟩
    by_cases hji : j = i
    · subst hji; exact hy.wpOp hi H.mem ⟨V, .refl V, H⟩
    · have := ready_mono hj hji
      rw [H.2.1] at this
      cases this
  | succ fuel ih =>
    intro listed a V w hfree hr hy H
    refine ⟨H.mem, fun h => (by rw [h] at hr; cases hr), fun j hj => ?_⟩
    by_cases hji : j = i
    · subst hji; exact hy.wpOp hi H.mem ⟨V, .refl V, H⟩
    · have h1 := H.2.2 j (ready_mono hj hji)
      obtain ⟨hjun, oj, hoj, hall⟩ := mem_ready.1 hj
      have hnot : ∀ e ∈ oj.after, Region.binds .any e = true → e.on ≠ i := fun e he hb heq => by
        have h1 := hall e he hb
        have h0 := (mem_ready.1 hr).1
        rw [heq] at h1
        rcases Nat.lt_or_ge i listed.size with h' | h'
        · simp [h'] at h0 h1; rw [h0] at h1; cases h1
        · simp [Array.getElem?_eq_none h'] at h1
      have h2 := wpOp_putV hoj (hfree j oj hoj hji hjun hnot) (fun cs b => hsel i oi cs b hi) (fun cs b => hsel j oj cs b hoj) hy h1
      have hfree' : ∀ k ok, ops[k]? = some ok → k ≠ i → (listed.setIfInBounds j true).getD k true = false →
          (∀ e ∈ ok.after, Region.binds .any e = true → e.on ≠ i) → oi.apart ops ok = true := fun k ok hk hki hun hno => by
        refine hfree k ok hk hki ?_ hno
        by_cases hjk : j = k
        · subst hjk; exact hjun
        · rw [getD_set_ne true hjk] at hun; exact hun
      refine wpOp_mono (fun a' w' h3 => ?_) h2
      obtain ⟨hy', V', hle, h4⟩ := h3
      refine ⟨V', hle, ih (listed.setIfInBounds j true) a' V' w' hfree' (ready_mono hr (Ne.symm hji)) (hy'.up hle) ?_⟩
      rw [Array.setIfInBounds_comm _ _ hji]
      exact h4

/-- The walk in one order: 'false': an operation that only looks; 'true': one that acts. -/
def wpC (P : Program) (ops : Array Oper) (Q : Exit → Act → World → Prop) (F : List Ent) : List (Nat × Bool) → Act → VT → World → Prop
  | [], a, _, w => Q .normal a w
  | (i, false) :: l, a, V, w => ∃ o v, ops[i]? = some o ∧ YieldsV P ops F o v a V ∧ wpC P ops Q F l (a.put o.dst v) V w
  | (i, true) :: l, a, V, w => wpOp P ops (np Q) i (fun a' w' => ∃ V', V.le V' ∧ Mem V' F w' ∧ wpC P ops Q F l a' V' w') a w
def cOk (ops : Array Oper) : List (Nat × Bool) → Array Bool → Bool
  | [], listed => (Region.ready .any ops listed).isEmpty
  | (i, false) :: l, listed => Region.free .any ops listed i && ((Region.ready .any ops listed).contains i && cOk ops l (listed.setIfInBounds i true))
  | (i, true) :: l, listed => (Region.ready .any ops listed == [i]) && cOk ops l (listed.setIfInBounds i true)
theorem wpC_any (hs : Region.noSelect ops = true) : ∀ (l : List (Nat × Bool)) (listed : Array Bool) (a : Act) (V : VT) (w : World), cOk ops l listed = true → Mem V F w → wpC P ops Q F l a V w → wpAnyV P ops Q F l.length listed a V w
  | [], listed, a, V, w, hc, hm, h => ⟨hm, by simpa [cOk] using hc, h⟩
  | (i, false) :: l, listed, a, V, w, hc, hm, ⟨o, v, ho, hy, h⟩ => by
    simp only [cOk, Bool.and_eq_true] at hc
    exact wpAnyV_first ho (Region.noSelect_spec hs) _ listed a V w (Region.free_spec ho hc.1) (by simpa using hc.2.1) hy (wpC_any hs l _ _ V w hc.2.2 hm h)
  | (i, true) :: l, listed, a, V, w, hc, hm, h => by
    simp only [cOk, Bool.and_eq_true, beq_iff_eq] at hc
    refine ⟨hm, fun h0 => (by rw [h0] at hc; simp at hc), fun j hj => ?_⟩
    rw [hc.1] at hj
    obtain rfl : j = i := by simpa using hj
    exact wpOp_mono (fun a' w' ⟨V', hl, hm', h'⟩ => ⟨V', hl, wpC_any hs l _ a' V' w' hc.2 hm' h'⟩) h
theorem Step.drewN {V0 V : VT} {w0 : World} {E0 E : List Ent} (h : Step V0 w0 E0 V w E) (m : Nat) : Step V0 w0 E0 V { w with drawn := w.drawn + m } E :=
  Step.call (Ei := []) (Eo := []) h (Step.mk_drewN h.ok.inW m)
theorem wp_drawC {id : Nat} {a : Act} {V0 : VT} {w0 : World} {E0 E : List Ent} (hM : Step V0 w0 E0 V w E) (F : List Ent) (hF : ∀ e, e ∈ F → e ∈ E) (l : List (Nat × Bool)) (hm : P.follows .mixedOrders = true)
    (hok : (Nat.beq l.length ops.size && (Region.noSelect ops && cOk ops l (Array.replicate ops.size false))) = true)
    (h : ∀ w', Step V0 w0 E0 V w' E → wpC P ops Q F l a V w') : (Code.region id ops true).wp P Q a w := by
  simp only [Bool.and_eq_true] at hok
  have hM' := hM.drewN 1
  have := wpC_any (Q := Q) hok.2.1 l _ a V _ hok.2.2 ⟨hM'.ok.inW, fun e he => hM'.ok.holds e (hF e he)⟩ (h _ hM')
  rw [Nat.eq_of_beq_eq_true hok.1] at this
  exact wp_region_any hm this.any

/-! ### The rules of this walk -/
section
variable {L : List (Nat × Value)} {g : Nat → Value} {i : Nat} {l : List (Nat × Bool)}
theorem c_end {a : Act} (h : Q .normal a w) : wpC P ops Q F [] a V w := h
theorem c_y {op : Op} {d : Option Nat} {v : Value} (h : opAt ops n L g i = some (op, d)) (hY : Yv P V F (opv n L g) op v) (k : wpC P ops Q F l (env n (pt d v L) g) V w) : wpC P ops Q F ((i, false) :: l) (env n L g) V w := by
  obtain ⟨o, ho, h1, h2, h3, h4⟩ := opAt_ok h
  refine ⟨o, v, ho, .inl ⟨h3, fun V' w' hl hm => ?_⟩, ?_⟩
  · rw [env_eval]; exact hY o h1 V' w' hl hm
  · rw [h2, env_put _ _ _ _ _ h4]; exact k
theorem wpF_y {V0 : VT} {w0 : World} {E0 E : List Ent} {op : Op} {d : Option Nat} {v : Value} (hM : Step V0 w0 E0 V w E) (h : opAt ops n L g i = some (op, d)) (hY : Yv P V E (opv n L g) op v) (k : wpF P ops Q (i + 1) (env n (pt d v L) g) w) : wpF P ops Q i (env n L g) w :=
  wpF_value h (fun o ho => hY o ho V w (.refl V) ⟨hM.ok.inW, hM.ok.holds⟩) k
def segC (P : Program) (ops : Array Oper) (n : Nat) (g : Nat → Value) : Nat → List (Nat × Bool) → List (Nat × Value) → Option (List (Nat × Value))
  | 0, _, L => some L
  | k + 1, l, L => match l with
    | (i, false) :: l => match ops[i]? with
      | none => none
      | some o => cond (ptOk n o.dst) (match gd ops n L g o with
        | some true => match pv P (opv n L g) o.op with
          | some v => segC P ops n g k l (pt o.dst v L)
          | none => none
        | some false => segC P ops n g k l (pt o.dst undef L)
        | none => none) none
    | _ => none
theorem c_segL : ∀ (k : Nat) (l : List (Nat × Bool)) (L L' : List (Nat × Value)), segC P ops n g k l L = some L' → wpC P ops Q F (l.drop k) (env n L' g) V w → wpC P ops Q F l (env n L g) V w
  | 0, l, L, L', h, K => by simp only [segC, Option.some.injEq] at h; subst h; exact K
  | k + 1, [], L, L', h, K => by simp [segC] at h
  | k + 1, (i, true) :: l2, L, L', h, K => by simp [segC] at h
  | k + 1, (i, false) :: l2, L, L', h, K => by
    simp only [segC] at h
    cases ho : ops[i]? with
    | none => rw [ho] at h; cases h
    | some o =>
      rw [ho] at h
      simp only at h
      cases hp : ptOk n o.dst with
      | false => rw [hp] at h; cases h
      | true =>
        rw [hp] at h
        simp only [cond_true] at h
        split at h
        · rename_i hg
          split at h
          · rename_i v hv
            refine ⟨o, v, ho, .inl ⟨gd_ok hg, fun V' w' _ _ => ?_⟩, ?_⟩
            · rw [env_eval]; exact pv_ok _ _ hv
            · rw [env_put _ _ _ _ _ hp]; exact c_segL k l2 _ L' h K
          · cases h
        · rename_i hg
          refine ⟨o, undef, ho, .inr ⟨gd_ok hg, rfl⟩, ?_⟩
          rw [env_put _ _ _ _ _ hp]; exact c_segL k l2 _ L' h K
        · cases h
theorem c_seg (k : Nat) (h : (segC P ops n g k l L).isSome = true) (K : wpC P ops Q F (l.drop k) (env n ((segC P ops n g k l L).getD []) g) V w) : wpC P ops Q F l (env n L g) V w := by
  obtain ⟨L', e⟩ := Option.isSome_iff_exists.1 h
  rw [e] at K
  exact c_segL k l L L' e K
theorem c_slot (t : Nat) (v v' : Value) (ht : Nat.blt t n = true) (h : look L g t = v) (he : v = v') (K : wpC P ops Q F l (env n ((t, v') :: L) g) V w) : wpC P ops Q F l (env n L g) V w := by
  have : env n L g = env n ((t, v') :: L) g := by
    simp only [env]
    congr 1
    congr 1
    funext j
    rw [look_cons]
    split
    · rename_i hj; rw [← hj, h, he]
    · rfl
  rw [this]; exact K
theorem c_caseB (t : Nat) (B : Bool) (ht : Nat.blt t n = true) (hl : look L g t = .bool B) (kt : B = true → wpC P ops Q F l (env n ((t, .bool true) :: L) g) V w) (kf : B = false → wpC P ops Q F l (env n ((t, .bool false) :: L) g) V w) : wpC P ops Q F l (env n L g) V w := by
  cases hB : B with
  | true => exact c_slot t (.bool B) (.bool true) ht hl (by rw [hB]) (kt hB)
  | false => exact c_slot t (.bool B) (.bool false) ht hl (by rw [hB]) (kf hB)
theorem c_base (L' : List (Nat × Value)) (h : L'.map (fun p => look L g p.1) = L'.map (fun p => p.2)) (K : ∀ g, wpC P ops Q F l (env n L' g) V w) : wpC P ops Q F l (env n L g) V w := by
  obtain ⟨g', e⟩ := env_base n L L' g h
  rw [e]; exact K g'
/-- An operation that acts. -/
theorem c_eff {a : Act} (hi : Nat.blt i ops.size = true) (hg : guardsOk ops i = true) (h : wpF P (ops.extract 0 (i + 1)) (Exit.then (fun a' w' => ∃ V', V.le V' ∧ Mem V' F w' ∧ wpC P ops Q F l a' V' w') (np Q)) i a w) : wpC P ops Q F ((i, true) :: l) a V w :=
  one_op (blt_iff.1 hi) hg h
theorem c_acted {a : Act} {V' : VT} {V0 : VT} {w0 : World} {E0 E : List Ent} (hM : Step V0 w0 E0 V' w E) (hF : ∀ e, e ∈ F → e ∈ E) (hl : V.le V') (h : wpC P ops Q F l a V' w) : ∃ V', V.le V' ∧ Mem V' F w ∧ wpC P ops Q F l a V' w :=
  ⟨V', hl, ⟨hM.ok.inW, fun e he => hM.ok.holds e (hF e he)⟩, h⟩
theorem no_ents {E : List Ent} : ∀ e : Ent, e ∈ ([] : List Ent) → e ∈ E := fun e h => by cases h
theorem and_ent {E F : List Ent} {e : Ent} (j : Nat) (h : E[j]? = some e) (k : ∀ x, x ∈ F → x ∈ E) : ∀ x, x ∈ e :: F → x ∈ E := fun x hx => by
  rcases List.mem_cons.1 hx with rfl | hx
  · exact List.mem_of_getElem? h
  · exact k x hx
end
attribute [irreducible] wpC
end
end Go.Vk
