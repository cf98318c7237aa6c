/- A region whose order Go leaves open: every operation is met wherever it may stand. -/
import Derived.Test.YtnibbocbefnnnaaVk5
set_option linter.unusedVariables false
namespace Go.Vk
variable {D : List Deferred}
section
variable {P : Program} {ops : Array Oper} {Q : Exit → Act → World → Prop} {w : World} {n : Nat}

/-- What an operation waits for. -/
def deps (ops : Array Oper) (i : Nat) : List Nat :=
  match ops[i]? with
  | some o => (o.after.toList.filter (Region.binds .any)).map (·.on)
  | none => []
def upd (S : Nat → Bool) (i : Nat) : Nat → Bool := fun j => if j = i then true else S j
theorem upd_self (S : Nat → Bool) (i : Nat) : upd S i i = true := by simp [upd]
theorem upd_ne (S : Nat → Bool) {i j : Nat} (h : j ≠ i) : upd S i j = S j := by simp [upd, h]
/-- Guards look back. -/
def guardsOk (ops : Array Oper) (i : Nat) : Bool :=
  match ops[i]? with
  | some o => match o.guard with
    | some (j, _) => Nat.ble j i
    | none => true
  | none => true
theorem one_op {i : Nat} {a : Act} {K : Act → World → Prop} (hi : i < ops.size) (hg : guardsOk ops i = true) (h : wpF P (ops.extract 0 (i + 1)) (Exit.then K Q) i a w) : wpOp P ops Q i K a w := by
  obtain ⟨o, ho⟩ : ∃ o, ops[i]? = some o := ⟨ops[i], by simp [hi]⟩
  have hsz : (ops.extract 0 (i + 1)).size = i + 1 := by simp; omega
  have hget : ∀ j, j ≤ i → (ops.extract 0 (i + 1))[j]? = ops[j]? := by
    intro j hj
    rw [Array.getElem?_extract]
    simp
    intro h; omega
  have ho' : (ops.extract 0 (i + 1))[i]? = some o := by rw [hget i (Nat.le_refl _)]; exact ho
  rw [wpF_cons ho'] at h
  unfold wpOp
  simp only [ho]
  have hw : Region.wanted o (yielded (ops.extract 0 (i + 1)) a.tmps) = Region.wanted o (yielded ops a.tmps) := by
    unfold Region.wanted
    cases hgd : o.guard with
    | none => rfl
    | some p =>
      obtain ⟨j, b⟩ := p
      have hj : j ≤ i := by
        unfold guardsOk at hg
        simp only [ho, hgd] at hg
        exact Nat.le_of_ble_eq_true hg
      simp only [yielded, hget j hj]
  rw [hw] at h
  have hK : ∀ a' w', wpF P (ops.extract 0 (i + 1)) (Exit.then K Q) (i + 1) a' w' → K a' w' := by
    intro a' w' hh
    have := wpF_stop (P := P) (ops := ops.extract 0 (i + 1)) (Q := Exit.then K Q) (i := i + 1) (w := w') a' (by rw [hsz]; exact Nat.ble_eq_true_of_le (Nat.le_refl _)) hh
    exact this
  have hQ : ∀ (o : Oper) (a : Act) (w : World) (N : Act → World → Prop), o.wp P a w N (Exit.then K Q) → o.wp P a w N Q := by
    intro o a w N hh
    unfold Oper.wp at hh ⊢
    generalize (execOp a.eval o).run P w = r at *
    cases r with
    | ok x w' =>
      cases x <;> simp only [Oper.upon] at hh ⊢ <;> first | exact hh | (refine Calls.mono hh fun e w'' he => ?_; cases e <;> first | exact he | (obtain ⟨a0, w0, hq⟩ := he; exact ⟨a0, w0, hq⟩))
    | halt x w' => cases x <;> simp only [Oper.upon] at hh ⊢ <;> exact hh
  split at h
  · rename_i hwt
    rw [if_pos hwt]
    rcases h with h | ⟨h1, h2⟩
    · exact .inl (hQ o a w K (Oper.wp_mono hK h))
    · obtain ⟨a0, w0, hq⟩ := h2
      exact .inr ⟨h1, a0, w0, hq⟩
  · rename_i hwt
    rw [if_neg hwt]
    exact hK _ _ h

/-- Whatever an operation waits for stands ahead of it. -/
def depsOk (ops : Array Oper) : Bool := (List.range ops.size).all fun i => (deps ops i).all fun d => Nat.blt d i
theorem ready_iff {listed : Array Bool} {i : Nat} : i ∈ Region.ready .any ops listed ↔ i < ops.size ∧ listed.getD i true = false ∧ ∀ d, d ∈ deps ops i → listed.getD d false = true := by
  unfold Region.ready deps
  simp only [List.mem_filter, List.mem_range, Bool.and_eq_true, Bool.not_eq_true']
  constructor
  · rintro ⟨h1, h2, h3⟩
    refine ⟨h1, h2, ?_⟩
    have ho : ops[i]? = some ops[i] := by simp [h1]
    simp only [ho, Option.map_some, Option.getD_some, Array.all_eq_true_iff_forall_mem] at h3
    intro d hd
    simp only [ho, List.mem_map, List.mem_filter, Array.mem_toList_iff] at hd
    obtain ⟨e, ⟨he, hb⟩, rfl⟩ := hd
    have := h3 e he
    rw [hb] at this
    simpa using this
  · rintro ⟨h1, h2, h3⟩
    refine ⟨h1, h2, ?_⟩
    have ho : ops[i]? = some ops[i] := by simp [h1]
    simp only [ho, Option.map_some, Option.getD_some, Array.all_eq_true_iff_forall_mem]
    intro e he
    cases hb : Region.binds .any e with
    | false => simp
    | true =>
      simp only [Bool.not_true, Bool.false_or]
      refine h3 e.on ?_
      simp only [ho, List.mem_map, List.mem_filter, Array.mem_toList_iff]
      exact ⟨e, ⟨he, hb⟩, rfl⟩
theorem wp_draw {id : Nat} {a : Act} (hm : P.follows .mixedOrders = true) (hd : depsOk ops = true) (Inv : (Nat → Bool) → Act → World → Prop)
    (h0 : ∀ S, (∀ i, i < ops.size → S i = false) → Inv S a { w with drawn := w.drawn + 1 })
    (hop : ∀ i S a w, i < ops.size → S i = false → (∀ d, d ∈ deps ops i → S d = true) → Inv S a w → wpOp P ops Q i (fun a' w' => Inv (upd S i) a' w') a w)
    (hend : ∀ S a w, (∀ i, i < ops.size → S i = true) → Inv S a w → Q .normal a w) : (Code.region id ops true).wp P Q a w := by
  have hdl : ∀ i, i < ops.size → ∀ d, d ∈ deps ops i → d < i := by
    intro i hi d hdd
    unfold depsOk at hd
    rw [List.all_eq_true] at hd
    have := hd i (List.mem_range.2 hi)
    rw [List.all_eq_true] at this
    exact blt_iff.1 (this d hdd)
  refine wp_region_any hm ?_
  have key : ∀ (fuel : Nat) (listed : Array Bool) (a : Act) (w : World), listed.size = ops.size → listed.toList.count false ≤ fuel → Inv (fun i => listed.getD i true) a w → wpAny P .any ops Q fuel listed a w := by
    have hall : ∀ listed : Array Bool, listed.size = ops.size → Region.ready .any ops listed = [] → ∀ i, i < ops.size → listed.getD i true = true := by
      intro listed hs hr i
      induction i using Nat.strongRecOn with
      | _ i ih =>
        intro hi
        cases hl : listed.getD i true with
        | true => rfl
        | false =>
          have : i ∈ Region.ready .any ops listed := ready_iff.2 ⟨hi, hl, fun d hdd => by
            have hlt := hdl i hi d hdd
            have := ih d hlt (by omega)
            simp only [Array.getD_eq_getD_getElem?, Array.getElem?_eq_getElem (show d < listed.size by omega), Option.getD_some] at this ⊢
            exact this⟩
          rw [hr] at this
          cases this
    intro fuel
    induction fuel with
    | zero =>
      intro listed a w hs hc hI
      have hz : ∀ i, i < ops.size → listed.getD i true = true := by
        intro i hi
        have : ¬ false ∈ listed.toList := List.count_eq_zero.1 (by omega)
        simp only [Array.getD_eq_getD_getElem?, Array.getElem?_eq_getElem (show i < listed.size by omega), Option.getD_some]
        cases h : listed[i]'(by omega) with
        | true => rfl
        | false => exact absurd (h ▸ (by simp [Array.mem_toList_iff])) this
      refine ⟨?_, hend _ a w hz hI⟩
      cases hr : Region.ready .any ops listed with
      | nil => rfl
      | cons i l =>
        have hi : i ∈ Region.ready .any ops listed := by rw [hr]; simp
        obtain ⟨h1, h2, _⟩ := ready_iff.1 hi
        rw [hz i h1] at h2
        cases h2
    | succ fuel ih =>
      intro listed a w hs hc hI
      refine ⟨fun hr => hend _ a w (hall listed hs hr) hI, fun i hi => ?_⟩
      obtain ⟨h1, h2, h3⟩ := ready_iff.1 hi
      refine wpOp_mono ?_ (hop i _ a w h1 h2 (fun d hdd => ?_) hI)
      · intro a' w' hI'
        refine ih _ a' w' (by simpa using hs) ?_ ?_
        · have hlt : i < listed.size := by omega
          have hv : listed[i] = false := by
            simp only [Array.getD_eq_getD_getElem?, Array.getElem?_eq_getElem hlt, Option.getD_some] at h2
            exact h2
          rw [Array.toList_setIfInBounds, List.count_set (by simpa using hlt)]
          have : 0 < listed.toList.count false := List.count_pos_iff.2 (by rw [← hv]; simp)
          simp only [Array.getElem_toList, hv, beq_self_eq_true, if_true]
          rw [if_neg (by decide)]
          omega
        · have : (fun j => (listed.setIfInBounds i true).getD j true) = upd (fun j => listed.getD j true) i := by
            funext j
            by_cases hj : j = i
            · subst hj
              rw [upd_self]
              simp only [Array.getD_eq_getD_getElem?, Array.getElem?_setIfInBounds]
              simp [show j < listed.size by omega]
            · rw [upd_ne _ hj]
              simp only [Array.getD_eq_getD_getElem?, Array.getElem?_setIfInBounds]
              rw [if_neg (fun h => hj h.symm)]
          rw [this]; exact hI'
      · have := h3 d hdd
        have hlt := hdl i h1 d hdd
        simp only [Array.getD_eq_getD_getElem?, Array.getElem?_eq_getElem (show d < listed.size by omega), Option.getD_some] at this ⊢
        exact this
  refine key _ _ a _ (by simp) ?_ (h0 _ fun i hi => ?_)
  · exact Nat.le_trans List.count_le_length (by simp)
  · simp [Array.getD_eq_getD_getElem?, hi]

def depB (ops : Array Oper) (i d : Nat) : Bool := (deps ops i).contains d
def dstOf (ops : Array Oper) (j : Nat) : Option Nat := (ops[j]?).bind (·.dst)
def updg (d : Option Nat) (v : Value) (g : Nat → Value) : Nat → Value :=
  match d with
  | some d => fun t => if t = d then v else g t
  | none => g
/-- What is known where an operation is carried out. -/
structure Ctx (ops : Array Oper) (G : Nat → Value → VT → Prop) (pre : List (Nat × Value × Nat)) (Vr : VT) (m : Nat) (S : Nat → Bool) (g : Nat → Value) (V : VT) (i : Nat) : Prop where
  no : S i = false
  cl : ∀ j d, j < m → S j = true → depB ops j d = true → S d = true
  dep : ∀ d, depB ops i d = true → S d = true
  le : Vr.le V
  fact : ∀ j d, j < m → S j = true → dstOf ops j = some d → G j (g d) V
  pre : ∀ t v k, (t, v, k) ∈ pre → S k = false → g t = v
def One (n : Nat) (L0 : List (Nat × Value)) (V0 : VT) (w0 : World) (E0 : List Ent) (ops : Array Oper) (G : Nat → Value → VT → Prop) (g : Nat → Value) (V : VT) (i : Nat) (F : Value → List Ent) : Act → World → Prop :=
  fun a' w' => ∃ v V', a' = env [] n (pt (dstOf ops i) v L0) g ∧ V.le V' ∧ Step V0 w0 E0 V' w' (F v) ∧ G i v V'
def ObF (P : Program) (ops : Array Oper) (Q : Exit → Act → World → Prop) (n : Nat) (L0 : List (Nat × Value)) (V0 : VT) (w0 : World) (E0 : List Ent) (Vr : VT) (m : Nat) (G : Nat → Value → VT → Prop) (pre : List (Nat × Value × Nat)) (i : Nat) : Prop :=
  ∀ (S : Nat → Bool) (g : Nat → Value) (V : VT) (w : World) (F : List Ent), Ctx ops G pre Vr m S g V i → Step V0 w0 E0 V w F → wpF P (ops.extract 0 (i + 1)) (Exit.then (One n L0 V0 w0 E0 ops G g V i fun _ => F) Q) i (env [] n L0 g) w
def ObC (P : Program) (ops : Array Oper) (Q : Exit → Act → World → Prop) (n : Nat) (L0 : List (Nat × Value)) (V0 : VT) (w0 : World) (E0 : List Ent) (Vr : VT) (m : Nat) (G : Nat → Value → VT → Prop) (pre : List (Nat × Value × Nat)) (Ef : (Nat → Bool) → (Nat → Value) → List Ent) (i : Nat) : Prop :=
  ∀ (S : Nat → Bool) (g : Nat → Value) (V : VT) (w : World), Ctx ops G pre Vr m S g V i → Step V0 w0 E0 V w (Ef S g) → wpF P (ops.extract 0 (i + 1)) (Exit.then (One n L0 V0 w0 E0 ops G g V i fun v => Ef (upd S i) (updg (dstOf ops i) v g)) Q) i (env [] n L0 g) w
/-- Slots: each is written once, and none that is named ahead. -/
def dstsOk (ops : Array Oper) (n : Nat) (L0 : List (Nat × Value)) (m : Nat) : Bool :=
  (List.range m).all fun i => match dstOf ops i with
    | none => true
    | some d => Nat.blt d n && L0.all (fun p => !Nat.beq p.1 d) && (List.range m).all fun j => Nat.beq i j || match dstOf ops j with
      | none => true
      | some e => !Nat.beq e d
theorem look_notin {L : List (Nat × Value)} {g : Nat → Value} {d : Nat} (h : L.all (fun p => !Nat.beq p.1 d) = true) : look L g d = g d := by
  induction L with
  | nil => rfl
  | cons p L ih =>
    obtain ⟨s, v⟩ := p
    simp only [List.all_cons, Bool.and_eq_true, Bool.not_eq_true'] at h
    simp only [look, h.1, cond_false]
    exact ih h.2
theorem look_upd {L : List (Nat × Value)} {g : Nat → Value} {d : Nat} {v : Value} (h : L.all (fun p => !Nat.beq p.1 d) = true) (t : Nat) : look ((d, v) :: L) g t = look L (updg (some d) v g) t := by
  induction L with
  | nil =>
    simp only [look, updg]
    by_cases e : d = t
    · subst e; simp
    · have h1 : Nat.beq d t = false := by
        cases hb : Nat.beq d t with
        | false => rfl
        | true => exact absurd (Nat.eq_of_beq_eq_true hb) e
      rw [h1, if_neg (fun h => e h.symm)]
      rfl
  | cons p L ih =>
    obtain ⟨s, u⟩ := p
    simp only [List.all_cons, Bool.and_eq_true, Bool.not_eq_true'] at h
    have ih' := ih h.2
    simp only [look] at ih' ⊢
    cases hs : Nat.beq s t with
    | false => simpa [hs] using ih'
    | true =>
      have hst := Nat.eq_of_beq_eq_true hs
      subst hst
      have h1 : Nat.beq d s = false := by
        cases hb : Nat.beq d s with
        | false => rfl
        | true =>
          have := Nat.eq_of_beq_eq_true hb
          subst this
          have h0 := h.1
          simp at h0
      rw [h1]
      rfl
theorem env_upd {L : List (Nat × Value)} {g : Nat → Value} {d : Option Nat} {v : Value} (h : ∀ e, d = some e → L.all (fun p => !Nat.beq p.1 e) = true) : env [] n (pt d v L) g = env [] n L (updg d v g) := by
  cases d with
  | none => rfl
  | some d =>
    simp only [env, pt]
    congr 1
    congr 1
    funext i
    exact look_upd (h d rfl) i.val
theorem env_forget {L : List (Nat × Value)} {g : Nat → Value} (seen : List (Nat × Value)) (h : seen.map (fun p => look L g p.1) = seen.map (fun p => p.2)) (d : Option Nat) (v : Value) : env [] n (pt d v (seen ++ L)) g = env [] n (pt d v L) g := by
  have hk : ∀ t, look (seen ++ L) g t = look L g t := by
    intro t
    induction seen with
    | nil => rfl
    | cons p seen ih =>
      obtain ⟨s, u⟩ := p
      simp only [List.map_cons, List.cons.injEq] at h
      rw [List.cons_append, look_cons]
      by_cases hs : s = t
      · subst hs; rw [if_pos rfl]; exact h.1.symm
      · rw [if_neg hs]; exact ih h.2
  cases d with
  | none =>
    simp only [env, pt]
    congr 1
    congr 1
    funext i
    exact hk i.val
  | some d =>
    simp only [env, pt]
    congr 1
    congr 1
    funext i
    rw [look_cons, look_cons, hk]
theorem wpF_see {L : List (Nat × Value)} {g : Nat → Value} {i : Nat} (t : Nat) (v : Value) (h : look L g t = v) (K : wpF P ops Q i (env [] n ((t, v) :: L) g) w) : wpF P ops Q i (env [] n L g) w := by
  have : env [] n L g = env [] n ((t, v) :: L) g := by
    simp only [env]
    congr 1
    congr 1
    funext j
    rw [look_cons]
    split
    · rename_i hj; rw [← hj, h]
    · rfl
  rw [this]; exact K
theorem wp_drawG {id : Nat} {L0 : List (Nat × Value)} {g0 : Nat → Value} {V0 Vr : VT} {w0 : World} {E0 : List Ent} (m : Nat) (hmz : ops.size = m) (hm : P.follows .mixedOrders = true) (hd : depsOk ops = true) (hgd : (List.range m).all (guardsOk ops) = true) (hds : dstsOk ops n L0 m = true)
    (G : Nat → Value → VT → Prop) (hG : ∀ j v V V', V.le V' → G j v V → G j v V') (pre : List (Nat × Value × Nat)) (hpre : ∀ p, p ∈ pre → g0 p.1 = p.2.1) (hprk : pre.all (fun p => (List.range m).all fun i => Nat.beq i p.2.2 || match dstOf ops i with | none => true | some d => !Nat.beq p.1 d) = true)
    (chain : List Nat) (hcm : chain.all (fun c => Nat.blt c m) = true) (Ef : (Nat → Bool) → (Nat → Value) → List Ent) (hEf : ∀ S S' g g', (∀ c, c ∈ chain → S c = S' c ∧ (S c = true → ∀ d, dstOf ops c = some d → g d = g' d)) → Ef S g = Ef S' g')
    (hM : Step V0 w0 E0 Vr w (Ef (fun _ => false) g0))
    (hops : ∀ i, i < m → (i ∈ chain ∧ ObC P ops Q n L0 V0 w0 E0 Vr m G pre Ef i) ∨ (i ∉ chain ∧ ObF P ops Q n L0 V0 w0 E0 Vr m G pre i))
    (hend : ∀ g V w, Step V0 w0 E0 V w (Ef (fun _ => true) g) → Vr.le V → (∀ j d, j < m → dstOf ops j = some d → G j (g d) V) → Q .normal (env [] n L0 g) w) : (Code.region id ops true).wp P Q (env [] n L0 g0) w := by
  have hdn : ∀ i d, i < m → dstOf ops i = some d → d < n ∧ L0.all (fun p => !Nat.beq p.1 d) = true ∧ ∀ j e, j < m → dstOf ops j = some e → i ≠ j → e ≠ d := by
    intro i d hi he
    unfold dstsOk at hds
    rw [List.all_eq_true] at hds
    have := hds i (List.mem_range.2 hi)
    simp only [he, Bool.and_eq_true] at this
    refine ⟨blt_iff.1 this.1.1, this.1.2, fun j e hj hje hne hed => ?_⟩
    have h2 := this.2
    rw [List.all_eq_true] at h2
    have h3 := h2 j (List.mem_range.2 hj)
    simp only [hje, Bool.or_eq_true, Bool.not_eq_true'] at h3
    rcases h3 with h3 | h3
    · exact hne (Nat.eq_of_beq_eq_true h3)
    · subst hed; simp at h3
  refine wp_draw hm hd (fun S a w => ∃ g V, a = env [] n L0 g ∧ Step V0 w0 E0 V w (Ef S g) ∧ Vr.le V ∧ (∀ j d, j < m → S j = true → dstOf ops j = some d → G j (g d) V) ∧ (∀ t v k, (t, v, k) ∈ pre → S k = false → g t = v) ∧ (∀ j d, j < m → S j = true → depB ops j d = true → S d = true)) ?_ ?_ ?_
  · intro S hS
    rw [hmz] at hS
    have hin := hM.ok.inW
    refine ⟨g0, Vr, rfl, ?_, .refl Vr, fun j d hj h => by (rw [hS j hj] at h; cases h), fun t v k hp _ => hpre _ hp, fun j d hj h => by (rw [hS j hj] at h; cases h)⟩
    have he : Ef S g0 = Ef (fun _ => false) g0 := hEf _ _ _ _ fun c hc => by
      rw [List.all_eq_true] at hcm
      have := hS c (blt_iff.1 (hcm c hc))
      exact ⟨this, fun h => by rw [this] at h; cases h⟩
    rw [he]
    exact Step.call (Ei := []) hM (Step.mk_drew hin)
  · rintro i S a w hi hSi hdep ⟨g, V, rfl, hM, hle, hfact, hp, hcl⟩
    rw [hmz] at hi
    have hgi : guardsOk ops i = true := by rw [List.all_eq_true] at hgd; exact hgd i (List.mem_range.2 hi)
    have cx : Ctx ops G pre Vr m S g V i := ⟨hSi, hcl, fun d hd' => hdep d (by simpa [depB] using hd'), hle, hfact, hp⟩
    refine one_op (by rw [hmz]; exact hi) hgi ?_
    have fin : ∀ (F : Value → List Ent), (∀ v, F v = Ef (upd S i) (updg (dstOf ops i) v g)) → wpF P (ops.extract 0 (i + 1)) (Exit.then (One n L0 V0 w0 E0 ops G g V i F) Q) i (env [] n L0 g) w →
        wpF P (ops.extract 0 (i + 1)) (Exit.then (fun a' w' => ∃ g V, a' = env [] n L0 g ∧ Step V0 w0 E0 V w' (Ef (upd S i) g) ∧ Vr.le V ∧ (∀ j d, j < m → upd S i j = true → dstOf ops j = some d → G j (g d) V) ∧ (∀ t v k, (t, v, k) ∈ pre → upd S i k = false → g t = v) ∧ (∀ j d, j < m → upd S i j = true → depB ops j d = true → upd S i d = true)) Q) i (env [] n L0 g) w := by
      intro F hF h
      refine wpF_post ?_ h
      rintro a' w' ⟨v, V', rfl, hle', hM', hGi⟩
      have hnot : ∀ e, dstOf ops i = some e → L0.all (fun p => !Nat.beq p.1 e) = true := fun e he => (hdn i e hi he).2.1
      refine ⟨updg (dstOf ops i) v g, V', env_upd hnot, by rw [← hF v]; exact hM', hle.trans hle', ?_, ?_, ?_⟩
      · intro j d hj hSj hjd
        by_cases hji : j = i
        · subst hji
          rw [hjd]
          have : updg (some d) v g d = v := by simp [updg]
          rw [this]; exact hGi
        · rw [upd_ne _ hji] at hSj
          have hv : updg (dstOf ops i) v g d = g d := by
            cases hdi : dstOf ops i with
            | none => rfl
            | some e =>
              have hne := (hdn i e hi hdi).2.2 j d hj hjd (fun h => hji h.symm)
              simp [updg, hne]
          rw [hv]
          exact hG j _ _ _ hle' (hfact j d hj hSj hjd)
      · intro t u k hpk hSk
        have hki : k ≠ i := fun h => by subst h; rw [upd_self] at hSk; cases hSk
        rw [upd_ne _ hki] at hSk
        have h0 := hp t u k hpk hSk
        cases hdi : dstOf ops i with
        | none => exact h0
        | some e =>
          rw [List.all_eq_true] at hprk
          have h1 := hprk _ hpk
          rw [List.all_eq_true] at h1
          have h2 := h1 i (List.mem_range.2 hi)
          simp only [hdi, Bool.or_eq_true, Bool.not_eq_true'] at h2
          rcases h2 with h2 | h2
          · exact absurd (Nat.eq_of_beq_eq_true h2).symm hki
          · have hne : t ≠ e := fun h => by subst h; simp at h2
            simp only [updg, if_neg hne]; exact h0
      · intro j d hj hSj hjd
        by_cases hji : j = i
        · subst hji
          have := cx.dep d hjd
          by_cases hdj : d = j
          · subst hdj; exact upd_self _ _
          · rw [upd_ne _ hdj]; exact this
        · rw [upd_ne _ hji] at hSj
          have := hcl j d hj hSj hjd
          by_cases hdi : d = i
          · subst hdi; exact upd_self _ _
          · rw [upd_ne _ hdi]; exact this
    rcases hops i hi with ⟨hc, hob⟩ | ⟨hc, hob⟩
    · exact fin _ (fun v => rfl) (hob S g V w cx hM)
    · refine fin (fun _ => Ef S g) (fun v => ?_) (hob S g V w (Ef S g) cx hM)
      refine hEf _ _ _ _ fun c hcc => ?_
      have hne : c ≠ i := fun h => hc (h ▸ hcc)
      refine ⟨(upd_ne _ hne).symm, fun _ d hdc => ?_⟩
      have hcm' : c < m := by rw [List.all_eq_true] at hcm; exact blt_iff.1 (hcm c hcc)
      cases hdi : dstOf ops i with
      | none => rfl
      | some e =>
        have hne2 := (hdn i e hi hdi).2.2 c d hcm' hdc (fun h => hne h.symm)
        simp [updg, hne2]
  · rintro S a w hS ⟨g, V, rfl, hM, hle, hfact, _, _⟩
    rw [hmz] at hS
    have he : Ef S g = Ef (fun _ => true) g := hEf _ _ _ _ fun c hc => by
      rw [List.all_eq_true] at hcm
      exact ⟨hS c (blt_iff.1 (hcm c hc)), fun _ _ _ => rfl⟩
    rw [he] at hM
    exact hend g V w hM hle fun j d hj hjd => hfact j d hj (hS j hj) hjd
theorem caseB {p : Prop} (B : Bool) (ht : B = true → p) (hf : B = false → p) : p := by
  cases B
  · exact hf rfl
  · exact ht rfl
theorem wp_baseG {c : Code} {L : List (Nat × Value)} {g : Nat → Value} (L' : List (Nat × Value)) (h : L'.map (fun p => look L g p.1) = L'.map (fun p => p.2)) (K : ∀ g', (∀ t, g' t = look L g t) → c.wp P Q (env [] n L' g') w) : c.wp P Q (env [] n L g) w := by
  have key : env [] n L g = env [] n L' (look L g) := by
    have hk : ∀ t, look L' (look L g) t = look L g t := by
      intro t
      clear K
      induction L' with
      | nil => rfl
      | cons p L' ih =>
        obtain ⟨s, v⟩ := p
        simp only [List.map_cons, List.cons.injEq] at h
        rw [look_cons]
        by_cases hs : s = t
        · subst hs; rw [if_pos rfl]; exact h.1.symm
        · rw [if_neg hs]; exact ih h.2
    simp only [env]
    congr 1
    congr 1
    funext i
    exact (hk i.val).symm
  rw [key]
  exact K _ (fun _ => rfl)
theorem Step.eqE {V0 V : VT} {w0 w : World} {E0 E E' : List Ent} (h : Step V0 w0 E0 V w E) (e : E = E') : Step V0 w0 E0 V w E' := e ▸ h
def addrOf : Value → Option Addr
  | .slice A _ _ => A
  | _ => none
def capOf : Value → Nat
  | .slice _ _ c => c
  | _ => 0
def blkOf : Value → Nat
  | .pointer (some a) => a.block
  | .slice (some a) _ _ => a.block
  | _ => 0
end
end Go.Vk
