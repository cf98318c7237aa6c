import Derived.Test.YtnibbocbefnnnaaVk12
set_option linter.unusedVariables false
namespace Go.Vk
variable {D : List Deferred}
section
variable {P : Program} {ops : Array Oper} {Q : Exit → Act → World → Prop} {n : Nat} {F : List (Ent × Nat)} {G : List Ent} {V : VT} {w : World}
/-- An operation that only makes a block. -/
structure Fre where
  i : Nat
  tv : Nat → Value
  cs : Array Value
  t : TypeId
def Fre.ok (P : Program) (ops : Array Oper) (f : Fre) (a : Act) : Prop :=
  ∃ o, ops[f.i]? = some o ∧ Region.wanted o (yielded ops a.tmps) = true ∧ ∀ w : World, (execOp a.eval o).run P w = .ok (.value (f.tv w.heap.size)) (w.alloc (.cells f.cs f.t))
inductive It where
  | p (i : Nat)
  | a (i : Nat)
  | f (k : Nat)
  | s
def Fre.ent (x : Fre × Nat) : Ent := .blk x.2 (.cells x.1.cs x.1.t)
def Fre.put (ops : Array Oper) (x : Fre × Nat) (a : Act) : Act := a.put (dstOf ops x.1.i) (x.1.tv x.2)
def putAll (ops : Array Oper) (D : List (Fre × Nat)) (a : Act) : Act := D.foldr (Fre.put ops) a
/-- What is still held behind an operation. -/
def dropF (F : List (Ent × Nat)) (i : Nat) : List (Ent × Nat) := F.filter fun x => !Nat.beq x.2 i
def wpH (P : Program) (ops : Array Oper) (Q : Exit → Act → World → Prop) : List (Ent × Nat) → List Fre → VT → World → List Ent → List It → Act → VT → List Ent → Prop
  | _, _, V0, w0, E0, [], a, V, E => ∀ w, Step V0 w0 E0 V w E → Q .normal a w
  | F, FS, V0, w0, E0, .p i :: l, a, V, E => ∃ o v, ops[i]? = some o ∧ YieldsV P ops (FOf ops F i) o v a V ∧ wpH P ops Q F FS V0 w0 E0 l (a.put o.dst v) V E
  | F, FS, V0, w0, E0, .f k :: l, a, V, E => ∀ fr, fr ∈ FS → fr.i = k → ∀ b, wpH P ops Q F FS V0 w0 E0 l (a.put (dstOf ops fr.i) (fr.tv b)) V (.blk b (.cells fr.cs fr.t) :: E)
  | F, FS, V0, w0, E0, .s :: l, a, V, E => (∀ f, f ∈ FS → f.ok P ops a) ∧ wpH P ops Q F FS V0 w0 E0 l a V E
  | F, FS, V0, w0, E0, .a i :: l, a, V, E => ∀ w X, Step V0 w0 E0 V w (E ++ X) → wpOp P ops (np Q) i (fun a' w' => ∃ V' E', V.le V' ∧ (∀ x, x ∈ dropF F i → x.1 ∈ E') ∧ Step V0 w0 E0 V' w' (E' ++ X) ∧ wpH P ops Q (dropF F i) FS V0 w0 E0 l a' V' E') a w
def apartB (ops : Array Oper) (i j : Nat) : Bool := match ops[i]?, ops[j]? with | some x, some y => x.apart ops y | _, _ => false
def hasDst (ops : Array Oper) (i : Nat) : Bool := match ops[i]? with | some o => o.dst.isSome | none => false
def inB (l : List Nat) (i : Nat) : Bool := l.any (Nat.beq i)
theorem inB_iff {l : List Nat} {i : Nat} : inB l i = true ↔ i ∈ l := by
  simp only [inB, List.any_eq_true]
  constructor
  · rintro ⟨x, hx, h⟩; rw [Nat.eq_of_beq_eq_true h]; exact hx
  · intro h; exact ⟨i, h, by simp⟩
/-- Nobody else may come: whoever is left waits for one that is left and is no maker. -/
def held (ops : Array Oper) (FR done : List Nat) (ok : Nat → Bool) : Bool :=
  (List.range ops.size).all fun j => inB done j || inB FR j || ok j || (deps ops j).any fun d => !inB done d && !inB FR d
/-- The canonical order is one: 'done': what is behind in it. -/
def hOk (ops : Array Oper) (FR FC : List Nat) : List It → List Nat → Bool
  | [], done => (List.range ops.size).all (inB done)
  | .p i :: l, done => Nat.blt i ops.size && !inB done i && !inB FR i && !inB FC i && (deps ops i).all (inB done) &&
      ((List.range ops.size).all fun j => Nat.beq j i || inB done j || (deps ops j).any (Nat.beq i) && !inB FR j || apartB ops i j) && hOk ops FR FC l (i :: done)
  | .f k :: l, done => inB FR k && !inB done k && held ops FR done (fun j => (deps ops j).any (Nat.beq k)) && hOk ops FR FC l (k :: done)
  | .s :: l, done => false
  | .a i :: l, done => Nat.blt i ops.size && !inB done i && !inB FR i && (deps ops i).all (fun d => inB done d) && held ops FR done (Nat.beq i) &&
      (FR.all fun k => inB done k || apartB ops k i) && hOk ops FR FC l (i :: done)
def frOk (ops : Array Oper) (FR : List Nat) : Bool :=
  (FR.all fun k => Nat.blt k ops.size && hasDst ops k && FR.all fun j => Nat.beq j k || apartB ops k j)

theorem wpOp_keep {j : Nat} {oj : Oper} (hj : ops[j]? = some oj) {T : Act → Prop} (hT : ∀ a u, T a → T (a.put oj.dst u)) (hTd : ∀ (a : Act) d, T a → T { a with defers := d :: a.defers }) {K : Act → World → Prop} {a : Act} (ha : T a)
    (h : wpOp P ops (np Q) j K a w) : wpOp P ops (np Q) j (fun a' w' => T a' ∧ K a' w') a w := by
  unfold wpOp at *
  simp only [hj] at *
  split
  · rename_i hw
    simp only [hw, if_true] at h
    refine h.imp (fun h => ?_) id
    unfold Oper.wp at *
    generalize (execOp a.eval oj).run P w = r at *
    cases r with
    | ok n w' =>
      cases n <;> simp only [Oper.upon] at h ⊢
      case value u => exact ⟨hT _ _ ha, h⟩
      case skip => exact ⟨hT _ _ ha, h⟩
      case defer d => exact ⟨hT _ _ (hTd _ _ ha), h⟩
      case enter f args =>
        refine Calls.mono h fun e w'' he => ?_
        cases e with
        | returned u => exact ⟨hT _ _ ha, he⟩
        | panicked c => exact he
        | outgrown => exact he
      case row row args => exact Rows.mono h fun u w'' he => ⟨hT _ _ ha, he⟩
    | halt x w' => cases x <;> simp only [Oper.upon] at h ⊢ <;> exact h
  · rename_i hw
    simp only [hw] at h
    exact ⟨hT _ _ ha, h⟩
theorem wpOp_ext {j : Nat} {oj : Oper} {d : Option Nat} {v : Value} (hj : ops[j]? = some oj) (hsj : ∀ cs b, oj.op ≠ .select cs b) (h1 : ∀ e, d = some e → e ∉ oj.looksAt ops) (h2 : ∀ e, d = some e → oj.dst ≠ some e) {K : Act → World → Prop} {a : Act}
    (h : wpOp P ops (np Q) j K a w) : wpOp P ops (np Q) j (fun a' w' => ∃ a0, a' = a0.put d v ∧ K a0 w') (a.put d v) w := by
  unfold wpOp at *
  simp only [hj] at *
  rw [wanted_put oj a d v h1]
  have hc : ∀ u, (a.put d v).put oj.dst u = (a.put oj.dst u).put d v := fun u => Act.put_comm a v u (fun e he => h2 e he)
  split
  · rename_i hw
    simp only [hw, if_true] at h
    rcases h with h | ⟨hasks, hlets⟩
    case inr => exact .inr ⟨by unfold Oper.asks at *; rw [execOp_put oj hsj a d v h1]; exact hasks, hlets⟩
    refine .inl ?_
    unfold Oper.wp at *
    rw [execOp_put oj hsj a d v h1]
    generalize (execOp a.eval oj).run P w = r at *
    cases r with
    | ok n w' =>
      cases n <;> simp only [Oper.upon] at h ⊢
      case value u => exact ⟨_, hc u, h⟩
      case skip => exact ⟨_, hc _, h⟩
      case defer dd => exact ⟨({ a with defers := dd :: a.defers } : Act).put oj.dst undef, by rw [Act.put_defers]; exact Act.put_comm _ v undef (fun e he => h2 e he), h⟩
      case enter f args =>
        refine Calls.mono h fun e w'' he => ?_
        cases e with
        | returned u => exact ⟨_, hc u, he⟩
        | panicked c => exact absurd rfl (he.1 c)
        | outgrown => exact he
      case row row args => exact Rows.mono h fun u w'' he => ⟨_, hc u, he⟩
    | halt x w' =>
      cases x <;> simp only [Oper.upon] at h ⊢
      case panic u => exact absurd rfl (h.1 _)
  · rename_i hw
    simp only [hw] at h
    exact ⟨_, hc _, h⟩
theorem apartB_spec {i j : Nat} (h : apartB ops i j = true) : ∃ x y, ops[i]? = some x ∧ ops[j]? = some y ∧ x.apart ops y = true := by
  unfold apartB at h
  split at h
  · rename_i x y hx hy; exact ⟨x, y, hx, hy, h⟩
  · cases h
theorem apart_sym {x y : Oper} (h : x.apart ops y = true) : y.apart ops x = true := by
  obtain ⟨h1, h2, h3⟩ := Oper.apart_spec h
  unfold Oper.apart
  cases hx : x.dst with
  | none =>
    cases hy : y.dst with
    | none => rfl
    | some e => simp; exact h3 e hy
  | some d =>
    cases hy : y.dst with
    | none => simp; exact h1 d hx
    | some e =>
      have := h2 d hx
      rw [hy] at this
      simp
      exact ⟨⟨h3 e hy, fun hde => this (by rw [hde])⟩, h1 d hx⟩
theorem dst_of {i : Nat} {o : Oper} (h : ops[i]? = some o) : dstOf ops i = o.dst := by unfold dstOf; rw [h]; rfl
theorem Fre.ok_put {f : Fre} {a : Act} {o : Oper} {u : Value} (hsel : ∀ (j : Nat) (o : Oper) cs b, ops[j]? = some o → o.op ≠ .select cs b) (h : f.ok P ops a) (ho : ∃ x, ops[f.i]? = some x ∧ x.apart ops o = true) : f.ok P ops (a.put o.dst u) := by
  obtain ⟨x, hx, hap⟩ := ho
  obtain ⟨y, hy, hw, hr⟩ := h
  rw [hx] at hy; cases hy
  obtain ⟨h1, h2, h3⟩ := Oper.apart_spec hap
  refine ⟨x, hx, ?_, fun w => ?_⟩
  · rw [wanted_put x a o.dst u h3]; exact hw
  · rw [execOp_put x (fun cs b => hsel _ _ cs b hx) a o.dst u h3]; exact hr w
theorem YieldsV.put {oi o : Oper} {v u : Value} {a : Act} (hsi : ∀ cs b, oi.op ≠ .select cs b) (h : YieldsV P ops G oi v a V) (hap : oi.apart ops o = true) : YieldsV P ops G oi v (a.put o.dst u) V := by
  obtain ⟨h1, h2, h3⟩ := Oper.apart_spec hap
  exact h.of_same (execOp_put oi hsi a o.dst u h3) (wanted_put oi a o.dst u h3)
theorem dep_ready {listed : Array Bool} {i : Nat} (hi : i < ops.size) (h0 : listed.getD i true = false) (hd : ∀ d, d ∈ deps ops i → listed.getD d false = true) : i ∈ Region.ready .any ops listed := ready_iff.2 ⟨hi, h0, hd⟩
/-- What stands: the blocks that were made and are not asked for yet. -/
structure Hs (P : Program) (ops : Array Oper) (FS : List Fre) (U : List Fre) (D : List (Fre × Nat)) (done : List Nat) (listed : Array Bool) (a : Act) : Prop where
  size : listed.size = ops.size
  lst : ∀ j, j < ops.size → (listed.getD j false = true ↔ j ∈ done ∨ j ∈ D.map (·.1.i))
  fr : ∀ k, k ∈ FS.map (·.i) → k ∈ done ∨ k ∈ D.map (·.1.i) ∨ k ∈ U.map (·.i)
  dr : ∀ x, x ∈ D → x.1 ∈ FS ∧ x.1.i ∉ done
  ur : ∀ f, f ∈ U → f ∈ FS ∧ f.i ∉ done ∧ f.i ∉ D.map (·.1.i)
  und : (U.map (·.i)).Nodup
  dnd : (D.map (·.1.i)).Nodup
  uok : ∀ f, f ∈ U → f.ok P ops a
  ud : ∀ f, f ∈ U → ∀ d, d ∈ deps ops f.i → d ∈ done
  dlt : ∀ d, d ∈ done → d < ops.size
  dcl : ∀ c, c ∈ done → ∀ d, d ∈ deps ops c → d ∈ done
  dd : ∀ x, x ∈ D → ∀ d, d ∈ deps ops x.1.i → d ∈ done
theorem putAll_comm {D : List (Fre × Nat)} {a : Act} {o : Oper} {v : Value} (h : ∀ x, x ∈ D → ∃ y, ops[x.1.i]? = some y ∧ y.apart ops o = true) : (putAll ops D a).put o.dst v = putAll ops D (a.put o.dst v) := by
  induction D with
  | nil => rfl
  | cons x D ih =>
    have ih' := ih fun y hy => h y (List.mem_cons_of_mem _ hy)
    obtain ⟨y, hy, hap⟩ := h x (by simp)
    obtain ⟨h1, h2, h3⟩ := Oper.apart_spec hap
    simp only [putAll, List.foldr_cons] at ih' ⊢
    rw [← ih']
    unfold Fre.put
    rw [dst_of hy]
    exact Act.put_comm _ _ _ h2
theorem putAll_yields {D : List (Fre × Nat)} {a : Act} {o : Oper} {v : Value} (hs : ∀ cs b, o.op ≠ .select cs b) (h : ∀ x, x ∈ D → ∃ y, ops[x.1.i]? = some y ∧ y.apart ops o = true) (hy : YieldsV P ops G o v a V) : YieldsV P ops G o v (putAll ops D a) V := by
  induction D with
  | nil => exact hy
  | cons x D ih =>
    have ih' := ih fun y hy => h y (List.mem_cons_of_mem _ hy)
    obtain ⟨y, hy, hap⟩ := h x (by simp)
    simp only [putAll, List.foldr_cons] at ih' ⊢
    unfold Fre.put
    rw [dst_of hy]
    exact ih'.put hs (apart_sym hap)
theorem putAll_op {D : List (Fre × Nat)} {j : Nat} {oj : Oper} (hj : ops[j]? = some oj) (hs : ∀ cs b, oj.op ≠ .select cs b) (h : ∀ x, x ∈ D → ∃ y, ops[x.1.i]? = some y ∧ y.apart ops oj = true) {K : Act → World → Prop} {a : Act}
    (hh : wpOp P ops (np Q) j K a w) : wpOp P ops (np Q) j (fun a' w' => ∃ a0, a' = putAll ops D a0 ∧ K a0 w') (putAll ops D a) w := by
  induction D with
  | nil => exact wpOp_mono (fun a' w' hk => ⟨a', rfl, hk⟩) hh
  | cons x D ih =>
    have ih' := ih fun y hy => h y (List.mem_cons_of_mem _ hy)
    obtain ⟨y, hy, hap⟩ := h x (by simp)
    obtain ⟨h1, h2, h3⟩ := Oper.apart_spec hap
    have := wpOp_ext (P := P) (Q := Q) (d := y.dst) (v := x.1.tv x.2) hj hs h1 h2 ih'
    simp only [putAll, List.foldr_cons]
    unfold Fre.put
    rw [dst_of hy]
    refine wpOp_mono ?_ this
    rintro a' w' ⟨a0, rfl, a1, rfl, hk⟩
    exact ⟨a1, rfl, hk⟩
def rem (l : List It) (U : List Fre) : Nat := (l.filter fun x => match x with | .f _ => false | _ => true).length + U.length
theorem frOk_apart {FR : List Nat} (h : frOk ops FR = true) {k j : Nat} (hk : k ∈ FR) (hj : j ∈ FR) (hne : j ≠ k) : apartB ops k j = true := by
  simp only [frOk, List.all_eq_true, Bool.and_eq_true, Bool.or_eq_true] at h
  rcases (h k hk).2 j hj with h1 | h1
  · exact absurd (Nat.eq_of_beq_eq_true h1) hne
  · exact h1
theorem frOk_lt {FR : List Nat} (h : frOk ops FR = true) {k : Nat} (hk : k ∈ FR) : k < ops.size := by
  simp only [frOk, List.all_eq_true, Bool.and_eq_true] at h
  exact blt_iff.1 (h k hk).1.1
theorem listed_true {listed : Array Bool} {j : Nat} (hj : j < listed.size) : listed.getD j true = listed.getD j false := by
  simp [Array.getD_eq_getD_getElem?, hj]
theorem getD_set_self {listed : Array Bool} {j : Nat} (d : Bool) (hj : j < listed.size) : (listed.setIfInBounds j true).getD j d = true := by
  simp [Array.getD_eq_getD_getElem?, hj]
/-- Nobody else is ready. -/
theorem held_ready {FS U : List Fre} {D : List (Fre × Nat)} {done : List Nat} {listed : Array Bool} {A : Act} {ok : Nat → Bool} (H : Hs P ops FS U D done listed A) (hh : held ops (FS.map (·.i)) done ok = true) {j : Nat} (hj : j ∈ Region.ready .any ops listed) : j ∈ U.map (·.i) ∨ ok j = true := by
  obtain ⟨h1, h2, h3⟩ := ready_iff.1 hj
  rw [listed_true (by rw [H.size]; exact h1)] at h2
  have hn : ¬ (j ∈ done ∨ j ∈ D.map (·.1.i)) := fun h => by rw [(H.lst j h1).2 h] at h2; cases h2
  simp only [held, List.all_eq_true, List.mem_range, Bool.or_eq_true] at hh
  rcases hh j h1 with ((h4 | h4) | h4) | h4
  · exact absurd (.inl (inB_iff.1 h4)) hn
  · rcases H.fr j (inB_iff.1 h4) with h5 | h5 | h5
    · exact absurd (.inl h5) hn
    · exact absurd (.inr h5) hn
    · exact .inl h5
  · exact .inr h4
  · obtain ⟨d, hd, h5⟩ := List.any_eq_true.1 h4
    simp only [Bool.and_eq_true, Bool.not_eq_true'] at h5
    have h6 := h3 d hd
    have hds : d < ops.size := by
      rcases Nat.lt_or_ge d ops.size with h | h
      · exact h
      · simp [Array.getD_eq_getD_getElem?, Array.getElem?_eq_none (show listed.size ≤ d by rw [H.size]; exact h)] at h6
    rcases (H.lst d hds).1 h6 with h7 | h7
    · rw [inB_iff.2 h7] at h5; cases h5.1
    · obtain ⟨x, hx, rfl⟩ := List.mem_map.1 h7
      have hm : x.1.i ∈ FS.map (·.i) := List.mem_map.2 ⟨x.1, (H.dr x hx).1, rfl⟩
      rw [inB_iff.2 hm] at h5
      exact absurd h5.2 (by simp)
theorem nodup_mid {α β : Type} {f : α → β} {l1 l2 : List α} {x : α} (h : ((l1 ++ x :: l2).map f).Nodup) : ((l1 ++ l2).map f).Nodup ∧ f x ∉ (l1 ++ l2).map f := by
  simp only [List.map_append, List.map_cons, List.nodup_append, List.nodup_cons, List.mem_cons, List.mem_append] at h ⊢
  obtain ⟨h1, ⟨h2, h3⟩, h4⟩ := h
  refine ⟨⟨h1, h3, fun a ha b hb => h4 a ha b (.inr hb)⟩, ?_⟩
  rintro (h5 | h5)
  · exact h4 _ h5 _ (.inl rfl) rfl
  · exact h2 h5
/-- One that only makes a block comes. -/
theorem Hs.take {FS U1 U2 : List Fre} {D : List (Fre × Nat)} {done : List Nat} {listed : Array Bool} {A : Act} {f : Fre} (hsel : ∀ (j : Nat) (o : Oper) cs b, ops[j]? = some o → o.op ≠ .select cs b) (hfr : frOk ops (FS.map (·.i)) = true) (H : Hs P ops FS (U1 ++ f :: U2) D done listed A) (b : Nat) :
    Hs P ops FS (U1 ++ U2) ((f, b) :: D) done (listed.setIfInBounds f.i true) (Fre.put ops (f, b) A) := by
  have hm : ∀ g, g ∈ U1 ++ U2 → g ∈ U1 ++ f :: U2 := fun g hg => by
    simp only [List.mem_append, List.mem_cons] at hg ⊢
    rcases hg with h | h
    · exact .inl h
    · exact .inr (.inr h)
  have hfU : f ∈ U1 ++ f :: U2 := by simp
  obtain ⟨n1, n2⟩ := nodup_mid H.und
  have hf := H.ur f hfU
  have hlt := frOk_lt hfr (List.mem_map.2 ⟨f, hf.1, rfl⟩)
  have hne : ∀ g, g ∈ U1 ++ U2 → g.i ≠ f.i := fun g hg e => n2 (e ▸ List.mem_map.2 ⟨g, hg, rfl⟩)
  refine ⟨by simpa using H.size, fun j hj => ?_, fun k hk => ?_, fun x hx => ?_, fun g hg => ?_, n1, ?_, fun g hg => ?_, fun g hg => H.ud g (hm g hg), H.dlt, H.dcl, fun x hx => (List.mem_cons.1 hx).elim (fun h => h ▸ H.ud f hfU) (H.dd x)⟩
  · by_cases e : f.i = j
    · subst e
      rw [getD_set_self _ (by rw [H.size]; exact hj)]
      simp
    · rw [getD_set_ne false e, H.lst j hj]
      simp only [List.map_cons, List.mem_cons]
      constructor
      · rintro (h | h)
        · exact .inl h
        · exact .inr (.inr h)
      · rintro (h | h | h)
        · exact .inl h
        · exact absurd h.symm e
        · exact .inr h
  · rcases H.fr k hk with h | h | h
    · exact .inl h
    · exact .inr (.inl (by simp [h]))
    · simp only [List.map_append, List.map_cons, List.mem_append, List.mem_cons] at h
      rcases h with h | h | h
      · exact .inr (.inr (by simp [h]))
      · exact .inr (.inl (by simp [h]))
      · exact .inr (.inr (by simp [h]))
  · rcases List.mem_cons.1 hx with rfl | hx
    · exact ⟨hf.1, hf.2.1⟩
    · exact H.dr x hx
  · have h := H.ur g (hm g hg)
    refine ⟨h.1, h.2.1, fun h2 => ?_⟩
    simp only [List.map_cons, List.mem_cons] at h2
    rcases h2 with h2 | h2
    · exact hne g hg h2
    · exact h.2.2 h2
  · simp only [List.map_cons, List.nodup_cons]
    exact ⟨hf.2.2, H.dnd⟩
  · have h := H.ur g (hm g hg)
    obtain ⟨x, y, hx, hy, hap⟩ := apartB_spec (frOk_apart hfr (List.mem_map.2 ⟨g, h.1, rfl⟩) (List.mem_map.2 ⟨f, hf.1, rfl⟩) (hne g hg).symm)
    have := Fre.ok_put (o := y) (u := f.tv b) hsel (H.uok g (hm g hg)) ⟨x, hx, hap⟩
    unfold Fre.put
    rw [dst_of hy]
    exact this
/-- One that was made is asked for. -/
theorem Hs.fetch {FS U : List Fre} {D1 D2 : List (Fre × Nat)} {done : List Nat} {listed : Array Bool} {A : Act} {x : Fre × Nat} (hfr : frOk ops (FS.map (·.i)) = true) (H : Hs P ops FS U (D1 ++ x :: D2) done listed A) : Hs P ops FS U (D1 ++ D2) (x.1.i :: done) listed A := by
  have hm : ∀ y, y ∈ D1 ++ D2 → y ∈ D1 ++ x :: D2 := fun y hy => by
    simp only [List.mem_append, List.mem_cons] at hy ⊢
    rcases hy with h | h
    · exact .inl h
    · exact .inr (.inr h)
  obtain ⟨n1, n2⟩ := nodup_mid H.dnd
  refine ⟨H.size, fun j hj => ?_, fun k hk => ?_, fun y hy => ⟨(H.dr y (hm y hy)).1, fun h => ?_⟩, fun g hg => ?_, H.und, n1, H.uok, fun g hg d hd => List.mem_cons_of_mem _ (H.ud g hg d hd), fun d hd => (List.mem_cons.1 hd).elim (fun h => h ▸ frOk_lt hfr (List.mem_map.2 ⟨x.1, (H.dr x (by simp)).1, rfl⟩)) (H.dlt d), fun c hc d hd => List.mem_cons_of_mem _ ((List.mem_cons.1 hc).elim (fun h => H.dd x (by simp) d (h ▸ hd)) (fun h => H.dcl c h d hd)), fun y hy d hd => List.mem_cons_of_mem _ (H.dd y (hm y hy) d hd)⟩
  · rw [H.lst j hj]
    simp only [List.map_append, List.map_cons, List.mem_append, List.mem_cons]
    constructor
    · rintro (h | h | h | h)
      · exact .inl (.inr h)
      · exact .inr (.inl h)
      · exact .inl (.inl h)
      · exact .inr (.inr h)
    · rintro ((h | h) | h | h)
      · exact .inr (.inr (.inl h))
      · exact .inl h
      · exact .inr (.inl h)
      · exact .inr (.inr (.inr h))
  · rcases H.fr k hk with h | h | h
    · exact .inl (List.mem_cons_of_mem _ h)
    · simp only [List.map_append, List.map_cons, List.mem_append, List.mem_cons] at h
      rcases h with h | h | h
      · exact .inr (.inl (by simp [h]))
      · exact .inl (by simp [h])
      · exact .inr (.inl (by simp [h]))
    · exact .inr (.inr h)
  · rcases List.mem_cons.1 h with h | h
    · exact n2 (h ▸ List.mem_map.2 ⟨y, hy, rfl⟩)
    · exact (H.dr y (hm y hy)).2 h
  · have h := H.ur g hg
    refine ⟨h.1, fun h2 => ?_, fun h2 => h.2.2 ?_⟩
    · rcases List.mem_cons.1 h2 with h2 | h2
      · exact h.2.2 (by rw [h2]; simp)
      · exact h.2.1 h2
    · simp only [List.map_append, List.map_cons, List.mem_append, List.mem_cons] at h2 ⊢
      rcases h2 with h2 | h2
      · exact .inl h2
      · exact .inr (.inr h2)
/-- Another one is done. -/
theorem Hs.next {FS U : List Fre} {D : List (Fre × Nat)} {done : List Nat} {listed : Array Bool} {A A' : Act} {i : Nat} (H : Hs P ops FS U D done listed A) (hi : i < ops.size) (hf : i ∉ FS.map (·.i)) (hdi : ∀ d, d ∈ deps ops i → d ∈ done) (hok : ∀ f, f ∈ U → f.ok P ops A') : Hs P ops FS U D (i :: done) (listed.setIfInBounds i true) A' := by
  refine ⟨by simpa using H.size, fun j hj => ?_, fun k hk => ?_, fun x hx => ⟨(H.dr x hx).1, fun h => ?_⟩, fun g hg => ⟨(H.ur g hg).1, fun h => ?_, (H.ur g hg).2.2⟩, H.und, H.dnd, hok, fun g hg d hd => List.mem_cons_of_mem _ (H.ud g hg d hd), fun d hd => (List.mem_cons.1 hd).elim (fun h => h ▸ hi) (H.dlt d), fun c hc d hd => List.mem_cons_of_mem _ ((List.mem_cons.1 hc).elim (fun h => hdi d (h ▸ hd)) (fun h => H.dcl c h d hd)), fun y hy d hd => List.mem_cons_of_mem _ (H.dd y hy d hd)⟩
  · by_cases e : i = j
    · subst e
      rw [getD_set_self _ (by rw [H.size]; exact hj)]
      simp
    · rw [getD_set_ne false e, H.lst j hj]
      simp only [List.mem_cons]
      constructor
      · rintro (h | h)
        · exact .inl (.inr h)
        · exact .inr h
      · rintro ((h | h) | h)
        · exact absurd h.symm e
        · exact .inl h
        · exact .inr h
  · rcases H.fr k hk with h | h | h
    · exact .inl (List.mem_cons_of_mem _ h)
    · exact .inr (.inl h)
    · exact .inr (.inr h)
  · rcases List.mem_cons.1 h with h | h
    · exact hf (h ▸ List.mem_map.2 ⟨x.1, (H.dr x hx).1, rfl⟩)
    · exact (H.dr x hx).2 h
  · rcases List.mem_cons.1 h with h | h
    · exact hf (h ▸ List.mem_map.2 ⟨g, (H.ur g hg).1, rfl⟩)
    · exact (H.ur g hg).2.1 h
theorem dep_of {i d : Nat} : d ∈ deps ops i ↔ ∃ o, ops[i]? = some o ∧ ∃ e ∈ o.after, Region.binds .any e = true ∧ e.on = d := by
  unfold deps
  cases ho : ops[i]? with
  | none => simp
  | some o =>
    simp only [List.mem_map, List.mem_filter, Array.mem_toList_iff, Option.some.injEq, exists_eq_left']
    constructor
    · rintro ⟨e, ⟨he, hb⟩, rfl⟩; exact ⟨e, he, hb, rfl⟩
    · rintro ⟨e, he, hb, rfl⟩; exact ⟨e, ⟨he, hb⟩, rfl⟩
theorem fetch_put {FS U : List Fre} {D1 D2 : List (Fre × Nat)} {done : List Nat} {listed : Array Bool} {A a : Act} {x : Fre × Nat} (hfr : frOk ops (FS.map (·.i)) = true) (H : Hs P ops FS U (D1 ++ x :: D2) done listed A) : putAll ops (D1 ++ x :: D2) a = putAll ops (D1 ++ D2) (a.put (dstOf ops x.1.i) (x.1.tv x.2)) := by
  have hx0 := H.dr x (by simp)
  have hlt := frOk_lt hfr (List.mem_map.2 ⟨x.1, hx0.1, rfl⟩)
  obtain ⟨o, ho⟩ : ∃ o, ops[x.1.i]? = some o := ⟨ops[x.1.i], by simp [hlt]⟩
  have hD2 : ∀ y, y ∈ D2 → ∃ z, ops[y.1.i]? = some z ∧ z.apart ops o = true := fun y hy => by
    have hne : x.1.i ≠ y.1.i := fun e => by
      have hn := H.dnd
      rw [List.map_append, List.map_cons, List.nodup_append] at hn
      exact (List.nodup_cons.1 hn.2.1).1 (e ▸ List.mem_map.2 ⟨y, hy, rfl⟩)
    obtain ⟨z, o', hz, ho', hap⟩ := apartB_spec (frOk_apart hfr (List.mem_map.2 ⟨y.1, (H.dr y (by simp [hy])).1, rfl⟩) (List.mem_map.2 ⟨x.1, hx0.1, rfl⟩) hne)
    rw [ho] at ho'; cases ho'
    exact ⟨z, hz, hap⟩
  have h := putAll_comm (a := a) (v := x.1.tv x.2) hD2
  simp only [putAll, List.foldr_append, List.foldr_cons] at h ⊢
  congr 1
  unfold Fre.put
  rw [dst_of ho]
  exact h
theorem fetch_perm {E : List Ent} {D1 D2 : List (Fre × Nat)} {x : Fre × Nat} : (E ++ (D1 ++ x :: D2).map Fre.ent).Perm ((Fre.ent x :: E) ++ (D1 ++ D2).map Fre.ent) := by
  simp only [List.map_append, List.map_cons, List.cons_append]
  have h1 : (D1.map Fre.ent ++ Fre.ent x :: D2.map Fre.ent).Perm (Fre.ent x :: (D1.map Fre.ent ++ D2.map Fre.ent)) := List.perm_middle
  exact (List.Perm.append_left E h1).trans List.perm_middle
theorem YieldsV.more {G' : List Ent} {o : Oper} {v : Value} {a : Act} (h : YieldsV P ops G o v a V) (hs : ∀ e, e ∈ G → e ∈ G') : YieldsV P ops G' o v a V :=
  h.imp (fun h => ⟨h.1, fun V' w hl hm => h.2 V' w hl ⟨hm.1, fun e he => hm.2 e (hs e he)⟩⟩) id
theorem FOf_sub {F F0 : List (Ent × Nat)} {i : Nat} (h : ∀ x, x ∈ F → x ∈ F0) : ∀ e, e ∈ FOf ops F i → e ∈ FOf ops F0 i := fun e he => by
  obtain ⟨x, hx, rfl⟩ := List.mem_map.1 he
  obtain ⟨h1, h2⟩ := List.mem_filter.1 hx
  exact List.mem_map.2 ⟨x, List.mem_filter.2 ⟨h x h1, h2⟩, rfl⟩
theorem wpH_any {V0 : VT} {w0 : World} {E0 : List Ent} {FS : List Fre} {F0 : List (Ent × Nat)} (hs : Region.noSelect ops = true) (hfr : frOk ops (FS.map (·.i)) = true) (hFR : ∀ x, x ∈ F0 → x.2 ∉ FS.map (·.i)) : ∀ (fuel : Nat) (l : List It) (done : List Nat) (listed : Array Bool) (U : List Fre) (D : List (Fre × Nat)) (a : Act) (V : VT) (E : List Ent) (w : World) (F : List (Ent × Nat)),
    hOk ops (FS.map (·.i)) (F0.map (·.2)) l done = true → Hs P ops FS U D done listed (putAll ops D a) → Step V0 w0 E0 V w (E ++ D.map Fre.ent) → (∀ x, x ∈ F → x.1 ∈ E) → (∀ x, x ∈ F → x ∈ F0) → (∀ x, x ∈ F0 → x.2 ∉ done → x ∈ F) → wpH P ops Q F FS V0 w0 E0 l a V E → rem l U = fuel → wpAnyV P ops Q F0 fuel listed (putAll ops D a) V w := by
  have hsel := Region.noSelect_spec hs
  have mem : ∀ {E X : List Ent} {V : VT} {w : World} {F : List (Ent × Nat)} {U : List Fre} {D : List (Fre × Nat)} {done : List Nat} {listed : Array Bool} {A : Act}, Hs P ops FS U D done listed A → Step V0 w0 E0 V w (E ++ X) → (∀ x, x ∈ F → x.1 ∈ E) → (∀ x, x ∈ F0 → x.2 ∉ done → x ∈ F) → MemL V F0 listed w := fun H h hF hA => ⟨h.ok.inW, fun x hx hl => by
    refine h.ok.holds _ (List.mem_append_left _ (hF x (hA x hx fun hd => ?_)))
    have := (H.lst x.2 (H.dlt _ hd)).2 (.inl hd)
    rw [this] at hl; cases hl⟩
  -- a maker's turn
  have turn : ∀ (fuel : Nat) (l : List It) (done : List Nat) (listed : Array Bool) (U : List Fre) (D : List (Fre × Nat)) (a : Act) (V : VT) (E : List Ent) (w : World),
      (∀ (listed : Array Bool) (U : List Fre) (D : List (Fre × Nat)) (w : World), Hs P ops FS U D done listed (putAll ops D a) → Step V0 w0 E0 V w (E ++ D.map Fre.ent) → rem l U = fuel → wpAnyV P ops Q F0 fuel listed (putAll ops D a) V w) →
      Hs P ops FS U D done listed (putAll ops D a) → Step V0 w0 E0 V w (E ++ D.map Fre.ent) → rem l U = fuel + 1 → ∀ j, j ∈ U.map (·.i) →
      wpOp P ops (np Q) j (fun a' w' => ∃ V', V.le V' ∧ wpAnyV P ops Q F0 fuel (listed.setIfInBounds j true) a' V' w') (putAll ops D a) w := by
    intro fuel l done listed U D a V E w ih H hM hr j hj
    obtain ⟨f, hf, rfl⟩ := List.mem_map.1 hj
    obtain ⟨U1, U2, rfl⟩ := List.append_of_mem hf
    obtain ⟨o, ho, hw, hrun⟩ := H.uok f hf
    unfold wpOp
    simp only [ho, hw, if_true]
    refine .inl ?_
    unfold Oper.wp
    rw [hrun w]
    simp only [Oper.upon]
    have H' := H.take hsel hfr w.heap.size
    have hput : (putAll ops D a).put o.dst (f.tv w.heap.size) = putAll ops ((f, w.heap.size) :: D) a := by
      simp only [putAll, List.foldr_cons]
      unfold Fre.put
      rw [dst_of ho]
    refine ⟨V, .refl V, ?_⟩
    rw [hput]
    refine ih _ (U1 ++ U2) _ _ H' ?_ ?_
    · have hal := hM.alloc (.cells f.cs f.t)
      refine hal.perm ?_
      simp only [List.map_cons]
      exact List.perm_middle.symm
    · unfold rem at hr ⊢
      simp only [List.length_append, List.length_cons] at hr ⊢
      omega
  intro fuel
  induction fuel with
  | zero =>
    intro l
    induction l with
    | nil =>
      intro done listed U D a V E w F hc H hM hF hFs hFA hw hr
      have hall : ∀ j, j < ops.size → j ∈ done := fun j hj => by
        simp only [hOk, List.all_eq_true, List.mem_range] at hc
        exact inB_iff.1 (hc j hj)
      have hD : D = [] := by
        cases D with
        | nil => rfl
        | cons x D =>
          have := H.dr x (by simp)
          exact absurd (hall _ (frOk_lt hfr (List.mem_map.2 ⟨x.1, this.1, rfl⟩))) this.2
      subst hD
      refine ⟨mem H hM hF hFA, ?_, hw w (by simpa using hM)⟩
      cases hrd : Region.ready .any ops listed with
      | nil => rfl
      | cons i l =>
        have hi : i ∈ Region.ready .any ops listed := by rw [hrd]; simp
        obtain ⟨h1, h2, _⟩ := ready_iff.1 hi
        rw [listed_true (by rw [H.size]; exact h1), (H.lst i h1).2 (.inl (hall i h1))] at h2
        cases h2
    | cons x l ihl =>
      intro done listed U D a V E w F hc H hM hF hFs hFA hw hr
      cases x with
      | p i => simp [rem] at hr
      | a i => simp [rem] at hr
      | s => simp [hOk] at hc
      | f k =>
        simp only [hOk, Bool.and_eq_true, Bool.not_eq_true'] at hc
        have hU : U = [] := by
          unfold rem at hr
          exact List.eq_nil_of_length_eq_zero (by omega)
        subst hU
        rcases H.fr k (inB_iff.1 hc.1.1.1) with h | h | h
        · rw [inB_iff.2 h] at hc; simp at hc
        · obtain ⟨x, hx, rfl⟩ := List.mem_map.1 h
          obtain ⟨D1, D2, rfl⟩ := List.append_of_mem hx
          have hx0 := H.dr x hx
          rw [fetch_put hfr H] at H ⊢
          exact ihl _ _ _ (D1 ++ D2) _ V _ w F hc.2 (H.fetch hfr) (hM.perm fetch_perm) (fun e he => List.mem_cons_of_mem _ (hF e he)) hFs (fun x hx hd => hFA x hx fun h => hd (List.mem_cons_of_mem _ h)) (hw x.1 hx0.1 rfl x.2) (by simpa [rem] using hr)
        · simp at h
  | succ fuel ihf =>
    intro l
    induction l with
    | nil =>
      intro done listed U D a V E w F hc H hM hF hFs hFA hw hr
      have hall : ∀ j, j < ops.size → j ∈ done := fun j hj => by
        simp only [hOk, List.all_eq_true, List.mem_range] at hc
        exact inB_iff.1 (hc j hj)
      cases U with
      | nil => simp [rem] at hr
      | cons f U =>
        have := H.ur f (by simp)
        exact absurd (hall _ (frOk_lt hfr (List.mem_map.2 ⟨f, this.1, rfl⟩))) this.2.1
    | cons x l ihl =>
      intro done listed U D a V E w F hc H hM hF hFs hFA hw hr
      cases x with
      | p i =>
        simp only [hOk, Bool.and_eq_true, Bool.not_eq_true', List.all_eq_true, List.mem_range, Bool.or_eq_true] at hc
        obtain ⟨⟨⟨⟨⟨⟨hi, hnd⟩, hnf⟩, hnc⟩, hdep⟩, hap⟩, hc⟩ := hc
        have hi := blt_iff.1 hi
        have hnc : ∀ x, x ∈ F0 → x.2 ≠ i := fun x hx e => by rw [inB_iff.2 (List.mem_map.2 ⟨x, hx, e⟩)] at hnc; cases hnc
        have hnd : i ∉ done := fun h => by rw [inB_iff.2 h] at hnd; cases hnd
        have hnf : i ∉ FS.map (·.i) := fun h => by rw [inB_iff.2 h] at hnf; cases hnf
        obtain ⟨o, v, ho, hy, hw⟩ := hw
        have hnl : ¬ (i ∈ done ∨ i ∈ D.map (·.1.i)) := by
          rintro (h | h)
          · exact hnd h
          · obtain ⟨x, hx, rfl⟩ := List.mem_map.1 h
            exact hnf (List.mem_map.2 ⟨x.1, (H.dr x hx).1, rfl⟩)
        have apf : ∀ k, k ∈ FS.map (·.i) → k ∉ done → ∃ y, ops[k]? = some y ∧ y.apart ops o = true := fun k hk hkd => by
          have hlt := frOk_lt hfr hk
          rcases hap k hlt with ((h | h) | h) | h
          · exact absurd (Nat.eq_of_beq_eq_true h ▸ hk) hnf
          · exact absurd (inB_iff.1 h) hkd
          · rw [inB_iff.2 hk] at h; simp at h
          · obtain ⟨x, y, hx, hy, h⟩ := apartB_spec h
            rw [ho] at hx; cases hx
            exact ⟨y, hy, apart_sym h⟩
        have apD : ∀ x, x ∈ D → ∃ y, ops[x.1.i]? = some y ∧ y.apart ops o = true := fun x hx => apf _ (List.mem_map.2 ⟨x.1, (H.dr x hx).1, rfl⟩) (H.dr x hx).2
        have hrdy : i ∈ Region.ready .any ops listed := dep_ready hi (by
          rw [listed_true (by rw [H.size]; exact hi)]
          cases hb : listed.getD i false with
          | false => rfl
          | true => exact absurd ((H.lst i hi).1 hb) hnl) (fun d hd => by
          have h1 := inB_iff.1 (hdep d hd)
          exact (H.lst d (H.dlt d h1)).2 (.inl h1))
        have hcl : ∀ x, x ∈ F0 → (i ∈ deps ops x.2 ∨ ops.size ≤ x.2) → listed.getD x.2 false = false := fun x hx h => by
          cases hb : listed.getD x.2 false with
          | false => rfl
          | true =>
            have hlt : x.2 < ops.size := by
              rcases Nat.lt_or_ge x.2 ops.size with h1 | h1
              · exact h1
              · simp [Array.getD_eq_getD_getElem?, Array.getElem?_eq_none (show listed.size ≤ x.2 by rw [H.size]; exact h1)] at hb
            rcases h with h | h
            · rcases (H.lst _ hlt).1 hb with h2 | h2
              · exact absurd (H.dcl _ h2 _ h) hnd
              · obtain ⟨y, hy1, hy2⟩ := List.mem_map.1 h2
                exact absurd (List.mem_map.2 ⟨y.1, (H.dr y hy1).1, hy2⟩) (hFR x hx)
            · omega
        refine wpAnyV_first hnc ho hsel fuel listed (putAll ops D a) V w ?_ hrdy hcl ((putAll_yields (fun cs b => hsel i o cs b ho) apD hy).more (FOf_sub hFs)) (mem H hM hF hFA) ?_
        · intro j oj hoj hji hun hno
          have hlt : j < ops.size := (Array.getElem?_eq_some_iff.1 hoj).1
          rcases hap j hlt with ((h | h) | h) | h
          · exact absurd (Nat.eq_of_beq_eq_true h) hji
          · have := (H.lst j hlt).2 (.inl (inB_iff.1 h))
            rw [listed_true (by rw [H.size]; exact hlt), this] at hun; cases hun
          · obtain ⟨h1, _⟩ := h
            obtain ⟨d, hd, h2⟩ := List.any_eq_true.1 h1
            obtain rfl := Nat.eq_of_beq_eq_true h2
            obtain ⟨o', ho', e, he, hb, hon⟩ := dep_of.1 hd
            rw [hoj] at ho'; cases ho'
            exact absurd hon (hno e he hb)
          · obtain ⟨x, y, hx, hy, h⟩ := apartB_spec h
            rw [ho] at hx; cases hx
            rw [hoj] at hy; cases hy
            exact h
        · rw [putAll_comm apD]
          have hok : ∀ f, f ∈ U → f.ok P ops (putAll ops D (a.put o.dst v)) := fun f hf => by
            rw [← putAll_comm apD]
            exact Fre.ok_put hsel (H.uok f hf) (apf _ (List.mem_map.2 ⟨f, (H.ur f hf).1, rfl⟩) (H.ur f hf).2.1)
          exact ihf l _ _ U D _ V E w F hc (H.next hi hnf (fun d hd => inB_iff.1 (hdep d hd)) hok) hM hF hFs (fun x hx hd => hFA x hx fun h => hd (List.mem_cons_of_mem _ h)) hw (by unfold rem at hr ⊢; simp only [List.filter_cons_of_pos, List.length_cons] at hr; omega)
      | f k =>
        have hc0 := hc
        simp only [hOk, Bool.and_eq_true, Bool.not_eq_true'] at hc
        have hkF := inB_iff.1 hc.1.1.1
        rcases H.fr k hkF with h | h | h
        · rw [inB_iff.2 h] at hc; simp at hc
        · obtain ⟨x, hx, rfl⟩ := List.mem_map.1 h
          obtain ⟨D1, D2, rfl⟩ := List.append_of_mem hx
          have hx0 := H.dr x hx
          rw [fetch_put hfr H] at H ⊢
          exact ihl _ _ _ (D1 ++ D2) _ V _ w F hc.2 (H.fetch hfr) (hM.perm fetch_perm) (fun e he => List.mem_cons_of_mem _ (hF e he)) hFs (fun x hx hd => hFA x hx fun h => hd (List.mem_cons_of_mem _ h)) (hw x.1 hx0.1 rfl x.2) (by simpa [rem] using hr)
        · obtain ⟨f, hf, rfl⟩ := List.mem_map.1 h
          have hlt := frOk_lt hfr hkF
          have hnot : ¬ (f.i ∈ done ∨ f.i ∈ D.map (·.1.i)) := by
            rintro (h | h)
            · exact (H.ur f hf).2.1 h
            · exact (H.ur f hf).2.2 h
          have hnl : listed.getD f.i false = false := by
            cases hb : listed.getD f.i false with
            | false => rfl
            | true => exact absurd ((H.lst _ hlt).1 hb) hnot
          have hme : f.i ∈ Region.ready .any ops listed := dep_ready hlt (by rw [listed_true (by rw [H.size]; exact hlt)]; exact hnl) (fun d hd => by
            exact (H.lst d (H.dlt d (H.ud f hf d hd))).2 (.inl (H.ud f hf d hd)))
          refine ⟨mem H hM hF hFA, fun h0 => (by rw [h0] at hme; cases hme), fun j hj => ?_⟩
          rcases held_ready H hc.1.2 hj with h1 | h1
          · exact turn fuel (.f f.i :: l) done listed U D a V E w (fun listed U D w H hM hr => ihf (.f f.i :: l) done listed U D a V E w F hc0 H hM hF hFs hFA hw hr) H hM hr j h1
          · obtain ⟨d, hd, h2⟩ := List.any_eq_true.1 h1
            obtain rfl := Nat.eq_of_beq_eq_true h2
            have := (ready_iff.1 hj).2.2 _ hd
            rw [hnl] at this; cases this
      | s => simp [hOk] at hc
      | a i =>
        have hc0 := hc
        simp only [hOk, Bool.and_eq_true, Bool.not_eq_true'] at hc
        obtain ⟨⟨⟨⟨⟨⟨hi, hnd⟩, hnf⟩, hdep⟩, hheld⟩, hap⟩, hc⟩ := hc
        have hi := blt_iff.1 hi
        have hnd : i ∉ done := fun h => by rw [inB_iff.2 h] at hnd; cases hnd
        have hnf : i ∉ FS.map (·.i) := fun h => by rw [inB_iff.2 h] at hnf; cases hnf
        obtain ⟨o, ho⟩ : ∃ o, ops[i]? = some o := ⟨ops[i], by simp [hi]⟩
        have apf : ∀ k, k ∈ FS.map (·.i) → k ∉ done → ∃ y, ops[k]? = some y ∧ y.apart ops o = true := fun k hk hkd => by
          simp only [List.all_eq_true, Bool.or_eq_true] at hap
          rcases hap k hk with h | h
          · exact absurd (inB_iff.1 h) hkd
          · obtain ⟨x, y, hx, hy, h⟩ := apartB_spec h
            rw [ho] at hy; cases hy
            exact ⟨x, hx, h⟩
        have apD : ∀ x, x ∈ D → ∃ y, ops[x.1.i]? = some y ∧ y.apart ops o = true := fun x hx => apf _ (List.mem_map.2 ⟨x.1, (H.dr x hx).1, rfl⟩) (H.dr x hx).2
        have act : wpOp P ops (np Q) i (fun a' w' => ∃ V', V.le V' ∧ wpAnyV P ops Q F0 fuel (listed.setIfInBounds i true) a' V' w') (putAll ops D a) w := by
          have h1 := putAll_op (D := D) ho (fun cs b => hsel i o cs b ho) apD (hw w _ hM)
          have h2 := wpOp_keep (T := fun A => ∀ f, f ∈ U → f.ok P ops A) ho (fun A u hA f hf => Fre.ok_put hsel (hA f hf) (apf _ (List.mem_map.2 ⟨f, (H.ur f hf).1, rfl⟩) (H.ur f hf).2.1)) (fun A d hA f hf => hA f hf) H.uok h1
          refine wpOp_mono ?_ h2
          rintro a' w' ⟨hok, a0, rfl, V', E', hl, hF', hM', hw'⟩
          simp only [List.all_eq_true] at hdep
          exact ⟨V', hl, ihf l _ _ U D _ V' E' w' (dropF F i) hc (H.next hi hnf (fun d hd => inB_iff.1 (hdep d hd)) hok) hM' hF' (fun x hx => hFs x (List.mem_filter.1 hx).1) (fun x hx hd => List.mem_filter.2 ⟨hFA x hx fun h => hd (List.mem_cons_of_mem _ h), by
            cases hb : Nat.beq x.2 i with
            | false => rfl
            | true => exact absurd (by rw [Nat.eq_of_beq_eq_true hb]; exact List.mem_cons_self) hd⟩) hw' (by unfold rem at hr ⊢; simp only [List.filter_cons_of_pos, List.length_cons] at hr; omega)⟩
        refine ⟨mem H hM hF hFA, fun h0 => ?_, fun j hj => ?_⟩
        · cases U with
          | nil =>
            have hme : i ∈ Region.ready .any ops listed := dep_ready hi (by
              rw [listed_true (by rw [H.size]; exact hi)]
              cases hb : listed.getD i false with
              | false => rfl
              | true =>
                rcases (H.lst i hi).1 hb with h | h
                · exact absurd h hnd
                · obtain ⟨x, hx, rfl⟩ := List.mem_map.1 h
                  exact absurd (List.mem_map.2 ⟨x.1, (H.dr x hx).1, rfl⟩) hnf) (fun d hd => by
              simp only [List.all_eq_true] at hdep
              exact (H.lst d (H.dlt d (inB_iff.1 (hdep d hd)))).2 (.inl (inB_iff.1 (hdep d hd))))
            rw [h0] at hme; cases hme
          | cons f U =>
            have hf : f ∈ f :: U := by simp
            have hlt := frOk_lt hfr (List.mem_map.2 ⟨f, (H.ur f hf).1, rfl⟩)
            have hme : f.i ∈ Region.ready .any ops listed := dep_ready hlt (by
              rw [listed_true (by rw [H.size]; exact hlt)]
              cases hb : listed.getD f.i false with
              | false => rfl
              | true =>
                rcases (H.lst _ hlt).1 hb with h | h
                · exact absurd h (H.ur f hf).2.1
                · exact absurd h (H.ur f hf).2.2) (fun d hd => by
              exact (H.lst d (H.dlt d (H.ud f hf d hd))).2 (.inl (H.ud f hf d hd)))
            rw [h0] at hme; cases hme
        · rcases held_ready H hheld hj with h1 | h1
          · exact turn fuel (.a i :: l) done listed U D a V E w (fun listed U D w H hM hr => ihf (.a i :: l) done listed U D a V E w F hc0 H hM hF hFs hFA hw hr) H hM hr j h1
          · obtain rfl := Nat.eq_of_beq_eq_true h1
            exact act
/-- What stands first is looked at; then the makers are known. -/
def pre0 (P : Program) (ops : Array Oper) (Q : Exit → Act → World → Prop) (F : List (Ent × Nat)) (FS : List Fre) (V0 : VT) (w0 : World) (E0 : List Ent) (l : List It) : List Nat → Act → VT → List Ent → Prop
  | [], a, V, E => (∀ f, f ∈ FS → f.ok P ops a) ∧ wpH P ops Q F FS V0 w0 E0 l a V E
  | i :: p, a, V, E => ∃ o v, ops[i]? = some o ∧ YieldsV P ops (FOf ops F i) o v a V ∧ pre0 P ops Q F FS V0 w0 E0 l p (a.put o.dst v) V E
def pOk (ops : Array Oper) (FC : List Nat) : List Nat → List Nat → Bool
  | [], _ => true
  | i :: p, done => Nat.blt i ops.size && !inB done i && !inB FC i && (deps ops i).all (inB done) && ((List.range ops.size).all fun j => Nat.beq j i || inB done j || (deps ops j).any (Nat.beq i) || apartB ops i j) && pOk ops FC p (i :: done)
theorem pre0_any {V0 : VT} {w0 : World} {E0 E : List Ent} {FS : List Fre} {l : List It} {V : VT} {w : World} (hs : Region.noSelect ops = true) (hfr : frOk ops (FS.map (·.i)) = true) (hM : Step V0 w0 E0 V w E) (hF : ∀ x, x ∈ F → x.1 ∈ E) (hFR : ∀ x, x ∈ F → x.2 ∉ FS.map (·.i)) (hnd : (FS.map (·.i)).Nodup) : ∀ (p done : List Nat) (listed : Array Bool) (a : Act),
    pOk ops (F.map (·.2)) p done = true → hOk ops (FS.map (·.i)) (F.map (·.2)) l (p.reverse ++ done) = true → listed.size = ops.size → (∀ j, j < ops.size → (listed.getD j false = true ↔ j ∈ done)) → (∀ d, d ∈ done → d < ops.size) → (∀ c, c ∈ done → ∀ d, d ∈ deps ops c → d ∈ done) → (∀ f, f ∈ FS → f.i ∉ p.reverse ++ done ∧ ∀ d, d ∈ deps ops f.i → d ∈ p.reverse ++ done) →
    pre0 P ops Q F FS V0 w0 E0 l p a V E → wpAnyV P ops Q F (p.length + rem l FS) listed a V w
  | [], done, listed, a, hp, hc, hsz, hl, hd, hdc, hff, h => by
    simp only [List.reverse_nil, List.nil_append] at hc hff
    have H : Hs P ops FS FS [] done listed (putAll ops [] a) := ⟨hsz, fun j hj => by rw [hl j hj]; simp, fun k hk => .inr (.inr hk), (fun x hx => by cases hx), fun f hf => ⟨hf, (hff f hf).1, by simp⟩, hnd, by simp, h.1, fun f hf => (hff f hf).2, hd, hdc, fun x hx => by cases hx⟩
    have := wpH_any hs hfr hFR (rem l FS) l done listed FS [] a V E w F hc H (by simpa using hM) hF (fun x hx => hx) (fun x hx _ => hx) h.2 rfl
    rw [List.length_nil, Nat.zero_add]
    exact this
  | i :: p, done, listed, a, hp, hc, hsz, hl, hd, hdc, hff, ⟨o, v, ho, hy, h⟩ => by
    simp only [pOk, Bool.and_eq_true, Bool.not_eq_true', List.all_eq_true, List.mem_range, Bool.or_eq_true] at hp
    obtain ⟨⟨⟨⟨⟨hi, hnd'⟩, hnc⟩, hdep⟩, hap⟩, hp⟩ := hp
    have hnc : ∀ x, x ∈ F → x.2 ≠ i := fun x hx e => by rw [inB_iff.2 (List.mem_map.2 ⟨x, hx, e⟩)] at hnc; cases hnc
    have hi := blt_iff.1 hi
    have hsel := Region.noSelect_spec hs
    have hnd' : i ∉ done := fun h => by rw [inB_iff.2 h] at hnd'; cases hnd'
    have hrdy : i ∈ Region.ready .any ops listed := dep_ready hi (by
      rw [listed_true (by rw [hsz]; exact hi)]
      cases hb : listed.getD i false with
      | false => rfl
      | true => exact absurd ((hl i hi).1 hb) hnd') (fun d hdd => (hl d (hd d (inB_iff.1 (hdep d hdd)))).2 (inB_iff.1 (hdep d hdd)))
    rw [show (i :: p).length + rem l FS = (p.length + rem l FS) + 1 by simp; omega]
    have hcl : ∀ x, x ∈ F → (i ∈ deps ops x.2 ∨ ops.size ≤ x.2) → listed.getD x.2 false = false := fun x hx h => by
      cases hb : listed.getD x.2 false with
      | false => rfl
      | true =>
        have hlt : x.2 < ops.size := by
          rcases Nat.lt_or_ge x.2 ops.size with h1 | h1
          · exact h1
          · simp [Array.getD_eq_getD_getElem?, Array.getElem?_eq_none (show listed.size ≤ x.2 by rw [hsz]; exact h1)] at hb
        rcases h with h | h
        · exact absurd (hdc _ ((hl _ hlt).1 hb) _ h) hnd'
        · omega
    refine wpAnyV_first hnc ho hsel _ listed a V w ?_ hrdy hcl hy ⟨hM.ok.inW, fun x hx _ => hM.ok.holds _ (hF x hx)⟩ ?_
    · intro j oj hoj hji hun hno
      have hlt : j < ops.size := (Array.getElem?_eq_some_iff.1 hoj).1
      rcases hap j hlt with ((h | h) | h) | h
      · exact absurd (Nat.eq_of_beq_eq_true h) hji
      · have := (hl j hlt).2 (inB_iff.1 h)
        rw [listed_true (by rw [hsz]; exact hlt), this] at hun; cases hun
      · obtain ⟨d, hd, h2⟩ := List.any_eq_true.1 h
        obtain rfl := Nat.eq_of_beq_eq_true h2
        obtain ⟨o', ho', e, he, hb, hon⟩ := dep_of.1 hd
        rw [hoj] at ho'; cases ho'
        exact absurd hon (hno e he hb)
      · obtain ⟨x, y, hx, hy, h⟩ := apartB_spec h
        rw [ho] at hx; cases hx
        rw [hoj] at hy; cases hy
        exact h
    · refine pre0_any hs hfr hM hF hFR hnd p (i :: done) _ _ hp (by simpa using hc) (by simpa using hsz) (fun j hj => ?_) (fun d hdd => (List.mem_cons.1 hdd).elim (fun h => h ▸ hi) (hd d)) (fun c hc d hdd => List.mem_cons_of_mem _ ((List.mem_cons.1 hc).elim (fun h => inB_iff.1 (hdep d (h ▸ hdd))) (fun h => hdc c h d hdd))) (fun f hf => by simpa using hff f hf) h
      by_cases e : i = j
      · subst e
        rw [getD_set_self _ (by rw [hsz]; exact hj)]
        simp
      · rw [getD_set_ne false e, hl j hj]
        simp only [List.mem_cons]
        constructor
        · exact .inr
        · rintro (h | h)
          · exact absurd h.symm e
          · exact h
def allOk (ops : Array Oper) (FR FC : List Nat) (p : List Nat) (l : List It) : Bool :=
  Region.noSelect ops && frOk ops FR && pOk ops FC p [] && hOk ops FR FC l p.reverse && (FC.all fun c => !inB FR c) && (FR.all fun k => !inB p k && (deps ops k).all (inB p)) &&
    Nat.beq (p.length + ((l.filter fun x => match x with | .f _ => false | _ => true).length + FR.length)) ops.size
def nodupB : List Nat → Bool
  | [] => true
  | x :: l => !inB l x && nodupB l
theorem nodupB_ok : ∀ {l : List Nat}, nodupB l = true → l.Nodup
  | [], _ => List.nodup_nil
  | x :: l, h => by
    simp only [nodupB, Bool.and_eq_true, Bool.not_eq_true'] at h
    exact List.nodup_cons.2 ⟨fun hm => by rw [inB_iff.2 hm] at h; exact absurd h.1 (by simp), nodupB_ok h.2⟩
theorem any_drawH {a : Act} {V0 : VT} {w0 : World} {E0 E : List Ent} (hM : Step V0 w0 E0 V w E) (F : List (Ent × Nat)) (hF : ∀ x, x ∈ F → x.1 ∈ E) (FS : List Fre) (p : List Nat) (l : List It) 
    (hok : (allOk ops (FS.map (·.i)) (F.map (·.2)) p l && nodupB (FS.map (·.i))) = true) (h : pre0 P ops Q F FS V0 w0 E0 l p a V E) : wpAny P .any ops Q ops.size (Array.replicate ops.size false) a { w with drawn := w.drawn + 1 } := by
  simp only [Bool.and_eq_true, allOk, List.all_eq_true, Bool.not_eq_true'] at hok
  obtain ⟨⟨⟨⟨⟨⟨⟨h1, h2⟩, h3⟩, h4⟩, h0⟩, h5⟩, h6⟩, h7⟩ := hok
  have hM' := hM.drewN 1
  have := pre0_any (Q := Q) (w := { w with drawn := w.drawn + 1 }) h1 h2 hM' hF (fun x hx hm => by have := h0 x.2 (List.mem_map.2 ⟨x, hx, rfl⟩); rw [inB_iff.2 hm] at this; cases this) (nodupB_ok h7) p [] (Array.replicate ops.size false) a h3 (by simpa using h4) (by simp) (fun j hj => by simp [Array.getD_eq_getD_getElem?, hj]) (fun d hd => by cases hd) (fun c hc => by cases hc) (fun f hf => by
    have h8 := h5 f.i (List.mem_map.2 ⟨f, hf, rfl⟩)
    refine ⟨fun h9 => ?_, fun d hd => ?_⟩
    · rw [inB_iff.2 (by simpa using h9)] at h8; exact absurd h8.1 (by simp)
    · simpa using inB_iff.1 (h8.2 d hd)) h
  have h9 : p.length + rem l FS = ops.size := by
    have := Nat.eq_of_beq_eq_true h6
    unfold rem
    rw [List.length_map] at this
    exact this
  rw [h9] at this
  exact this.any
theorem wp_drawH {id : Nat} {a : Act} {V0 : VT} {w0 : World} {E0 E : List Ent} (hM : Step V0 w0 E0 V w E) (F : List (Ent × Nat)) (hF : ∀ x, x ∈ F → x.1 ∈ E) (FS : List Fre) (p : List Nat) (l : List It) (hm : P.follows .mixedOrders = true)
    (hok : (allOk ops (FS.map (·.i)) (F.map (·.2)) p l && nodupB (FS.map (·.i))) = true) (h : pre0 P ops Q F FS V0 w0 E0 l p a V E) : (Code.region id ops true).wp P Q a w :=
  wp_region_any hm (any_drawH hM F hF FS p l hok h)
theorem pre0_of {V0 : VT} {w0 : World} {E0 E : List Ent} {FS : List Fre} {l : List It} {V : VT} : ∀ {p : List Nat} {a : Act}, wpH P ops Q F FS V0 w0 E0 (p.map .p ++ .s :: l) a V E → pre0 P ops Q F FS V0 w0 E0 l p a V E
  | [], _, h => h
  | _ :: _, _, ⟨o, v, ho, hy, h⟩ => ⟨o, v, ho, hy, pre0_of h⟩
theorem wp_drawN {id : Nat} {a : Act} {V0 : VT} {w0 : World} {E0 E : List Ent} (hM : Step V0 w0 E0 V w E) (F : List (Ent × Nat)) (hF : ∀ x, x ∈ F → x.1 ∈ E) (FS : List Fre) (p : List Nat) (l l0 : List It) (hl : l0 = p.map .p ++ .s :: l) (hm : P.follows .mixedOrders = true)
    (hok : (allOk ops (FS.map (·.i)) (F.map (·.2)) p l && nodupB (FS.map (·.i))) = true) (h : wpH P ops Q F FS V0 w0 E0 l0 a V E) : (Code.region id ops true).wp P Q a w :=
  wp_drawH hM F hF FS p l hm hok (pre0_of (hl ▸ h))
theorem any_drawN {a : Act} {V0 : VT} {w0 : World} {E0 E : List Ent} (hM : Step V0 w0 E0 V w E) (F : List (Ent × Nat)) (hF : ∀ x, x ∈ F → x.1 ∈ E) (FS : List Fre) (p : List Nat) (l l0 : List It) (hl : l0 = p.map .p ++ .s :: l)
    (hok : (allOk ops (FS.map (·.i)) (F.map (·.2)) p l && nodupB (FS.map (·.i))) = true) (h : wpH P ops Q F FS V0 w0 E0 l0 a V E) : wpAny P .any ops Q ops.size (Array.replicate ops.size false) a { w with drawn := w.drawn + 1 } :=
  any_drawH hM F hF FS p l hok (pre0_of (hl ▸ h))
end
section
variable {P : Program} {ops : Array Oper} {Q : Exit → Act → World → Prop} {n : Nat} {F : List (Ent × Nat)} {FS : List Fre} {V0 V : VT} {w0 w : World} {E0 E : List Ent} {L : List (Nat × Value)} {g : Nat → Value} {i : Nat} {l : List It}
theorem gH (op : Op) (d : Option Nat) {v : Value} (h : opAt ops n L g i = some (op, d)) (hY : Yv P V (FOf ops F i) (opv n L g) op v) (k : wpH P ops Q F FS V0 w0 E0 l (env D n (pt d v L) g) V E) : wpH P ops Q F FS V0 w0 E0 (.p i :: l) (env D n L g) V E := by
  obtain ⟨o, ho, h1, h2, h3, h4⟩ := opAt_ok h
  refine ⟨o, v, ho, .inl ⟨h3, fun V' w' hl hm => ?_⟩, ?_⟩
  · rw [env_eval]; exact hY o h1 V' w' hl hm
  · rw [h2, env_put _ _ _ _ _ h4]; exact k
def segH (P : Program) (ops : Array Oper) (n : Nat) (g : Nat → Value) : Nat → List It → List (Nat × Value) → Option (List (Nat × Value))
  | 0, _, L => some L
  | k + 1, l, L => match l with
    | .p i :: l => match ops[i]? with
      | none => none
      | some o => cond (ptOk n o.dst) (match gd ops n L g o with
        | some true => match pv P (opv n L g) o.op with
          | some v => segH P ops n g k l (pt o.dst v L)
          | none => none
        | some false => segH P ops n g k l (pt o.dst undef L)
        | none => none) none
    | _ => none
theorem h_segL : ∀ (k : Nat) (l : List It) (L L' : List (Nat × Value)), segH P ops n g k l L = some L' → wpH P ops Q F FS V0 w0 E0 (l.drop k) (env D n L' g) V E → wpH P ops Q F FS V0 w0 E0 l (env D n L g) V E
  | 0, l, L, L', h, K => by simp only [segH, Option.some.injEq] at h; subst h; exact K
  | k + 1, [], L, L', h, K => by simp [segH] at h
  | k + 1, .a i :: l2, L, L', h, K => by simp [segH] at h
  | k + 1, .f i :: l2, L, L', h, K => by simp [segH] at h
  | k + 1, .s :: l2, L, L', h, K => by simp [segH] at h
  | k + 1, .p i :: l2, L, L', h, K => by
    simp only [segH] at h
    cases ho : ops[i]? with
    | none => rw [ho] at h; cases h
    | some o =>
      rw [ho] at h
      simp only at h
      cases hp : ptOk n o.dst with
      | false => rw [hp] at h; cases h
      | true =>
        rw [hp] at h
        simp only [cond_true] at h
        split at h
        · rename_i hg
          split at h
          · rename_i v hv
            refine ⟨o, v, ho, .inl ⟨gd_ok hg, fun V' w' _ _ => ?_⟩, ?_⟩
            · rw [env_eval]; exact pv_ok _ _ hv
            · rw [env_put _ _ _ _ _ hp]; exact h_segL k l2 _ L' h K
          · cases h
        · rename_i hg
          refine ⟨o, undef, ho, .inr ⟨gd_ok hg, rfl⟩, ?_⟩
          rw [env_put _ _ _ _ _ hp]; exact h_segL k l2 _ L' h K
        · cases h
theorem h_seg (k : Nat) (h : (segH P ops n g k l L).isSome = true) (K : wpH P ops Q F FS V0 w0 E0 (l.drop k) (env D n ((segH P ops n g k l L).getD []) g) V E) : wpH P ops Q F FS V0 w0 E0 l (env D n L g) V E := by
  obtain ⟨L', e⟩ := Option.isSome_iff_exists.1 h
  rw [e] at K
  exact h_segL k l L L' e K
theorem env_slot (t : Nat) (v v' : Value) (h : look L g t = v) (he : v = v') : env D n L g = env D n ((t, v') :: L) g := by
  simp only [env]
  congr 1
  congr 1
  funext j
  rw [look_cons]
  split
  · rename_i hj; rw [← hj, h, he]
  · rfl
theorem h_slot (t : Nat) (v v' : Value) (ht : Nat.blt t n = true) (h : look L g t = v) (he : v = v') (K : wpH P ops Q F FS V0 w0 E0 l (env D n ((t, v') :: L) g) V E) : wpH P ops Q F FS V0 w0 E0 l (env D n L g) V E := by
  rw [env_slot t v v' h he]; exact K
theorem h_caseB (t : Nat) (B : Bool) (ht : Nat.blt t n = true) (hl : look L g t = .bool B) (kt : B = true → wpH P ops Q F FS V0 w0 E0 l (env D n ((t, .bool true) :: L) g) V E) (kf : B = false → wpH P ops Q F FS V0 w0 E0 l (env D n ((t, .bool false) :: L) g) V E) : wpH P ops Q F FS V0 w0 E0 l (env D n L g) V E := by
  cases hB : B with
  | true => exact h_slot t (.bool B) (.bool true) ht hl (by rw [hB]) (kt hB)
  | false => exact h_slot t (.bool B) (.bool false) ht hl (by rw [hB]) (kf hB)
theorem gH_index {α : Type} {K : Kd α} {A : Option Addr} {c : Nat} {xs : List α} {t e : TypeId} {x y : Operand} {d : Option Nat} (hR : Rd K V A c xs) (ik : IntKind) (a : Int)
    (h : opAt ops n L g i = some (.indexAddr t x y, d)) (ht : elemTy P t = some (e, K.sz)) (hx : opv n L g x = .slice A xs.length c) (hy' : opv n L g y = .int ik a) (j : Nat) (hj : a = (j : Int)) (hl : j < xs.length)
    (k : ∀ b o, At K V b o (xs.getD j K.d) → wpH P ops Q F FS V0 w0 E0 l (env D n (pt d (.pointer (some ⟨b, o, none⟩)) L) g) V E) : wpH P ops Q F FS V0 w0 E0 (.p i :: l) (env D n L g) V E := by
  obtain ⟨b, o, rfl, hat⟩ := hR.cells (by intro hn; subst hn; simp at hl)
  exact gH _ _ h (Y_index ik a ht hx hy' j hj hl) (k b (o + j * K.sz) (hat j hl))
/-- The makers are known. -/
theorem h_s {a : Act} (hf : ∀ f, f ∈ FS → f.ok P ops a) (K : wpH P ops Q F FS V0 w0 E0 l a V E) : wpH P ops Q F FS V0 w0 E0 (.s :: l) a V E := ⟨hf, K⟩
theorem no_fs {a : Act} : ∀ f : Fre, f ∈ [] → f.ok P ops a := fun f h => by cases h
theorem h_a {a : Act} (hi : Nat.blt i ops.size = true) (hg : guardsOk ops i = true) (h : ∀ w X, Step V0 w0 E0 V w (E ++ X) → wpF P (ops.extract 0 (i + 1)) (Exit.then (fun a' w' => ∃ V' E', V.le V' ∧ (∀ x, x ∈ dropF F i → x.1 ∈ E') ∧ Step V0 w0 E0 V' w' (E' ++ X) ∧ wpH P ops Q (dropF F i) FS V0 w0 E0 l a' V' E') (np Q)) i a w) : wpH P ops Q F FS V0 w0 E0 (.a i :: l) a V E :=
  fun w X hM => one_op (blt_iff.1 hi) hg (h w X hM)
theorem h_d {a : Act} {V' : VT} {X : List Ent} {F' : List (Ent × Nat)} (F2 : List (Ent × Nat)) (hF2 : F' = F2) (E' : List Ent) (hM : Step V0 w0 E0 V' w (E' ++ X)) (hF : ∀ x, x ∈ F2 → x.1 ∈ E') (hl : V.le V') (h : wpH P ops Q F2 FS V0 w0 E0 l a V' E') : ∃ V' E', V.le V' ∧ (∀ x, x ∈ F' → x.1 ∈ E') ∧ Step V0 w0 E0 V' w (E' ++ X) ∧ wpH P ops Q F' FS V0 w0 E0 l a V' E' := by
  subst hF2
  exact ⟨V', E', hl, hF, hM, h⟩
theorem no_held {E : List Ent} : ∀ x : Ent × Nat, x ∈ ([] : List (Ent × Nat)) → x.1 ∈ E := fun x h => by cases h
theorem and_held {E : List Ent} {F : List (Ent × Nat)} {e : Ent} {c : Nat} (j : Nat) (h : E[j]? = some e) (k : ∀ x, x ∈ F → x.1 ∈ E) : ∀ x, x ∈ (e, c) :: F → x.1 ∈ E := fun x hx => by
  rcases List.mem_cons.1 hx with rfl | hx
  · exact List.mem_of_getElem? h
  · exact k x hx
theorem h_n {a : Act} (h : ∀ w, Step V0 w0 E0 V w E → Q .normal a w) : wpH P ops Q F FS V0 w0 E0 [] a V E := h
end
attribute [irreducible] wpH
end Go.Vk
