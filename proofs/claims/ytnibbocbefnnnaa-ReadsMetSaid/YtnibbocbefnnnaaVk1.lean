import Derived.Orders
import Derived.Laws.AppendOwn
import Derived.Laws.OwnMore
import Derived.Laws.MakeOwn
import Derived.Maps.AppendAt
import Derived.Laws.Entries
import Derived.KernelRfl
set_option linter.unusedVariables false
namespace Go.Vk
/-- What no one writes any more: block, offset, the cell. -/
def VT := Nat → Nat → Option Value
def VT.le (V V' : VT) : Prop := ∀ b o v, V b o = some v → V' b o = some v
def VT.inW (V : VT) (w : World) : Prop := ∀ b o v, V b o = some v → w.cell? ⟨b, o, none⟩ = some v
theorem VT.le.refl (V : VT) : V.le V := fun _ _ _ h => h
theorem VT.le.trans {A B C : VT} (h : A.le B) (k : B.le C) : A.le C := fun b o v x => k b o v (h b o v x)

def maxL : Nat := 140737488355328

/-- A kind of element: how many cells, and what cells stand for what. -/
structure Kd (α : Type) where
  sz : Nat
  pos : 0 < sz
  d : α
  rep : VT → α → List Value → Prop
  mono : ∀ {V V' : VT} {x : α} {cs : List Value}, V.le V' → rep V x cs → rep V' x cs
  len : ∀ {V : VT} {x : α} {cs : List Value}, rep V x cs → cs.length = sz
  one : ∀ {V : VT} {x : α} {cs : List Value}, rep V x cs → ∀ v, v ∈ cs → v.oneCell' = true

/-- At a place of the settled cells an element stands. -/
def At {α : Type} (K : Kd α) (V : VT) (b o : Nat) (x : α) : Prop := ∃ cs, K.rep V x cs ∧ ∀ j v, cs[j]? = some v → V b (o + j) = some v
theorem At.up {α : Type} {K : Kd α} {V V' : VT} {b o : Nat} {x : α} (h : At K V b o x) (hl : V.le V') : At K V' b o x := by
  obtain ⟨cs, h1, h2⟩ := h
  exact ⟨cs, K.mono hl h1, fun j v hj => hl _ _ _ (h2 j v hj)⟩

/-- A slice reads as a list. -/
structure Rd {α : Type} (K : Kd α) (V : VT) (A : Option Addr) (c : Nat) (xs : List α) : Prop where
  max : xs.length ≤ maxL
  cap : xs.length ≤ c
  cells : xs ≠ [] → ∃ b o, A = some ⟨b, o, none⟩ ∧ ∀ j, j < xs.length → At K V b (o + j * K.sz) (xs.getD j K.d)
theorem Rd.up {α : Type} {K : Kd α} {V V' : VT} {A : Option Addr} {c : Nat} {xs : List α} (h : Rd K V A c xs) (hl : V.le V') : Rd K V' A c xs :=
  ⟨h.max, h.cap, fun hn => by
    obtain ⟨b, o, e, k⟩ := h.cells hn
    exact ⟨b, o, e, fun j hj => (k j hj).up hl⟩⟩

/-- A text as a value. -/
abbrev Str := List UInt8
def bs (l : Str) : Value := .string ⟨l.toArray⟩
def strK : Kd Str where
  sz := 1
  pos := by decide
  d := []
  rep := fun _ x cs => cs = [bs x] ∧ x.length ≤ maxL
  mono := fun _ h => h
  len := fun h => by rw [h.1]; rfl
  one := fun h v hv => by rw [h.1] at hv; simp at hv; subst hv; rfl
def intK (k : IntKind) : Kd Int where
  sz := 1
  pos := by decide
  d := 0
  rep := fun _ x cs => cs = [.int k x] ∧ k.min ≤ x ∧ x ≤ k.max
  mono := fun _ h => h
  len := fun h => by rw [h.1]; rfl
  one := fun h v hv => by rw [h.1] at hv; simp at hv; subst hv; rfl
def boolK : Kd Bool where
  sz := 1
  pos := by decide
  d := false
  rep := fun _ x cs => cs = [.bool x]
  mono := fun _ h => h
  len := fun h => by rw [h]; rfl
  one := fun h v hv => by rw [h] at hv; simp at hv; subst hv; rfl
/-- A slice as an element. -/
def slK {α : Type} (K : Kd α) : Kd (List α) where
  sz := 1
  pos := by decide
  d := []
  rep := fun V xs cs => ∃ A c, cs = [.slice A xs.length c] ∧ Rd K V A c xs
  mono := fun hl h => by
    obtain ⟨A, c, e, r⟩ := h
    exact ⟨A, c, e, r.up hl⟩
  len := fun h => by obtain ⟨A, c, e, r⟩ := h; rw [e]; rfl
  one := fun h v hv => by obtain ⟨A, c, e, r⟩ := h; rw [e] at hv; simp at hv; subst hv; rfl
/-- One behind the other. -/
def prK {α β : Type} (K : Kd α) (M : Kd β) : Kd (α × β) where
  sz := K.sz + M.sz
  pos := Nat.add_pos_left K.pos _
  d := (K.d, M.d)
  rep := fun V x cs => ∃ c1 c2, cs = c1 ++ c2 ∧ K.rep V x.1 c1 ∧ M.rep V x.2 c2
  mono := fun hl h => by
    obtain ⟨c1, c2, e, h1, h2⟩ := h
    exact ⟨c1, c2, e, K.mono hl h1, M.mono hl h2⟩
  len := fun h => by
    obtain ⟨c1, c2, e, h1, h2⟩ := h
    rw [e, List.length_append, K.len h1, M.len h2]
  one := fun h v hv => by
    obtain ⟨c1, c2, e, h1, h2⟩ := h
    rw [e] at hv
    rcases List.mem_append.1 hv with hv | hv
    · exact K.one h1 v hv
    · exact M.one h2 v hv
theorem At.pr {α β : Type} {K : Kd α} {M : Kd β} {V : VT} {b o : Nat} {x : α × β} (h : At (prK K M) V b o x) : At K V b o x.1 ∧ At M V b (o + K.sz) x.2 := by
  obtain ⟨cs, ⟨c1, c2, rfl, h1, h2⟩, hc⟩ := h
  refine ⟨⟨c1, h1, fun j v hj => hc j v ?_⟩, ⟨c2, h2, fun j v hj => ?_⟩⟩
  · rw [List.getElem?_append_left (List.getElem?_eq_some_iff.1 hj).1]; exact hj
  · have := hc (K.sz + j) v (by rw [List.getElem?_append_right (by rw [K.len h1]; omega), K.len h1, Nat.add_sub_cancel_left]; exact hj)
    rwa [← Nat.add_assoc] at this
theorem At.str {V : VT} {b o : Nat} {x : Str} (h : At strK V b o x) : V b o = some (bs x) ∧ x.length ≤ maxL := by
  obtain ⟨cs, ⟨rfl, hl⟩, hc⟩ := h
  exact ⟨hc 0 _ rfl, hl⟩
theorem At.int {k : IntKind} {V : VT} {b o : Nat} {x : Int} (h : At (intK k) V b o x) : V b o = some (.int k x) ∧ k.min ≤ x ∧ x ≤ k.max := by
  obtain ⟨cs, ⟨rfl, hl⟩, hc⟩ := h
  exact ⟨hc 0 _ rfl, hl⟩
theorem At.bool {V : VT} {b o : Nat} {x : Bool} (h : At boolK V b o x) : V b o = some (.bool x) := by
  obtain ⟨cs, rfl, hc⟩ := h
  exact hc 0 _ rfl
theorem At.sl {α : Type} {K : Kd α} {V : VT} {b o : Nat} {xs : List α} (h : At (slK K) V b o xs) : ∃ A c, V b o = some (.slice A xs.length c) ∧ Rd K V A c xs := by
  obtain ⟨cs, ⟨A, c, rfl, hr⟩, hc⟩ := h
  exact ⟨A, c, hc 0 _ rfl, hr⟩

/-- The cells of a list, one element behind the other. -/
def Reps {α : Type} (K : Kd α) (V : VT) : List α → List Value → Prop
  | [], cs => cs = []
  | x :: xs, cs => ∃ c1 c2, cs = c1 ++ c2 ∧ K.rep V x c1 ∧ Reps K V xs c2
theorem Reps.up {α : Type} {K : Kd α} {V V' : VT} (hl : V.le V') : ∀ {xs : List α} {cs : List Value}, Reps K V xs cs → Reps K V' xs cs
  | [], _, h => h
  | _ :: _, _, ⟨c1, c2, e, h1, h2⟩ => ⟨c1, c2, e, K.mono hl h1, h2.up hl⟩
theorem Reps.len {α : Type} {K : Kd α} {V : VT} : ∀ {xs : List α} {cs : List Value}, Reps K V xs cs → cs.length = xs.length * K.sz
  | [], _, h => by rw [show _ = _ from h]; simp
  | _ :: _, _, ⟨c1, c2, e, h1, h2⟩ => by rw [e, List.length_append, K.len h1, h2.len, List.length_cons, Nat.succ_mul, Nat.add_comm]
theorem Reps.one {α : Type} {K : Kd α} {V : VT} : ∀ {xs : List α} {cs : List Value}, Reps K V xs cs → ∀ v, v ∈ cs → v.oneCell' = true
  | [], _, h, v, hv => by rw [show _ = _ from h] at hv; simp at hv
  | _ :: _, _, ⟨c1, c2, e, h1, h2⟩, v, hv => by
    rw [e] at hv
    rcases List.mem_append.1 hv with hv | hv
    · exact K.one h1 v hv
    · exact h2.one v hv
theorem Reps.append {α : Type} {K : Kd α} {V : VT} : ∀ {xs : List α} {cs : List Value} {ys : List α} {ds : List Value}, Reps K V xs cs → Reps K V ys ds → Reps K V (xs ++ ys) (cs ++ ds)
  | [], _, _, _, h, k => by rw [show _ = _ from h]; simpa using k
  | _ :: _, _, _, _, ⟨c1, c2, e, h1, h2⟩, k => ⟨c1, c2 ++ _, by rw [e, List.append_assoc], h1, h2.append k⟩
theorem Reps.single {α : Type} {K : Kd α} {V : VT} {x : α} {cs : List Value} (h : K.rep V x cs) : Reps K V [x] cs := ⟨cs, [], by simp, h, rfl⟩
theorem Reps.get {α : Type} {K : Kd α} {V : VT} : ∀ {xs : List α} {cs : List Value}, Reps K V xs cs → ∀ j, j < xs.length → ∃ c, K.rep V (xs.getD j K.d) c ∧ ∀ i v, c[i]? = some v → cs[j * K.sz + i]? = some v
  | x :: xs, _, ⟨c1, c2, e, h1, h2⟩, 0, _ => ⟨c1, by simpa using h1, fun i v hv => by
      rw [e, Nat.zero_mul, Nat.zero_add, List.getElem?_append_left (List.getElem?_eq_some_iff.1 hv).1]; exact hv⟩
  | x :: xs, _, ⟨c1, c2, e, h1, h2⟩, j + 1, hj => by
      obtain ⟨c, k1, k2⟩ := h2.get j (by simpa using hj)
      refine ⟨c, by simpa using k1, fun i v hv => ?_⟩
      rw [e, Nat.succ_mul, List.getElem?_append_right (by rw [K.len h1]; omega), K.len h1]
      rw [show j * K.sz + K.sz + i - K.sz = j * K.sz + i by omega]
      exact k2 i v hv
/-- What a slice reads as stands in cells. -/
theorem Rd.reps {α : Type} {K : Kd α} {V : VT} {b o : Nat} : ∀ (xs : List α), (∀ j, j < xs.length → At K V b (o + j * K.sz) (xs.getD j K.d)) → ∃ cs, Reps K V xs cs ∧ ∀ j v, cs[j]? = some v → V b (o + j) = some v
  | [], _ => ⟨[], rfl, fun j v h => by simp at h⟩
  | x :: xs, h => by
    obtain ⟨c1, h1, k1⟩ := h 0 (by simp)
    have ih := Rd.reps (K := K) (V := V) (b := b) (o := o + K.sz) xs (fun j hj => by
      have := h (j + 1) (by simpa using hj)
      rw [Nat.succ_mul, show o + (j * K.sz + K.sz) = o + K.sz + j * K.sz by omega] at this
      simpa using this)
    obtain ⟨c2, h2, k2⟩ := ih
    refine ⟨c1 ++ c2, ⟨c1, c2, rfl, by simpa using h1, h2⟩, fun j v hj => ?_⟩
    by_cases hlt : j < c1.length
    · rw [List.getElem?_append_left hlt] at hj
      exact (by have := k1 j v hj; simpa using this)
    · rw [List.getElem?_append_right (by omega)] at hj
      have hk := K.len h1
      have := k2 (j - c1.length) v hj
      rw [show o + K.sz + (j - c1.length) = o + j by omega] at this
      exact this

/-- What is one's own: a block, or a row that may grow. -/
inductive Ent : Type 1
  | blk (b : Nat) (o : Obj)
  | row {α : Type} (K : Kd α) (e : TypeId) (A : Option Addr) (c : Nat) (xs : List α)
  | pk (fs : List Nat) (H : VT → World → Prop) (hlt : ∀ V w, H V w → ∀ b, b ∈ fs → b < w.heap.size) (hsame : ∀ V V' w w', V.le V' → H V w → (∀ b, b ∈ fs → w'.heap[b]? = w.heap[b]?) → H V' w')
def Ent.foot : Ent → List Nat
  | .blk b _ => [b]
  | .row _ _ A _ _ => match A with | some a => [a.block] | none => []
  | .pk fs _ _ _ => fs
def Ent.holds (V : VT) (w : World) : Ent → Prop
  | .blk b o => w.heap[b]? = some o
  | .row K e A c xs => ∃ cs, Reps K V xs cs ∧ xs.length ≤ maxL ∧ w.ownsRow 0 e K.sz (.slice A xs.length c) xs.length cs
  | .pk _ H _ _ => H V w
def foot (E : List Ent) : List Nat := E.flatMap Ent.foot

theorem Ent.lt {V : VT} {w : World} {e : Ent} (h : e.holds V w) : ∀ b, b ∈ e.foot → b < w.heap.size := by
  intro b hb
  cases e with
  | pk fs H hlt hsame => exact hlt V w h b hb
  | blk b' o =>
    simp [Ent.foot] at hb
    subst hb
    exact (Array.getElem?_eq_some_iff.1 h).1
  | row K e A c xs =>
    obtain ⟨cs, _, _, ho⟩ := h
    cases A with
    | none => simp [Ent.foot] at hb
    | some a =>
      simp [Ent.foot] at hb
      subst hb
      exact (ho.lt _ rfl).2
theorem Ent.same {V V' : VT} {w w' : World} {e : Ent} (hl : V.le V') (h : e.holds V w) (hs : ∀ b, b ∈ e.foot → w'.heap[b]? = w.heap[b]?) : e.holds V' w' := by
  cases e with
  | pk fs H hlt hsame => exact hsame V V' w w' hl h hs
  | blk b o => exact (hs b (by simp [Ent.foot])).trans h
  | row K e A c xs =>
    obtain ⟨cs, hr, hm, ho⟩ := h
    refine ⟨cs, hr.up hl, hm, ho.1, ?_⟩
    rcases ho.2 with hn | ⟨g, cap, cur, e1, hb, hg, rest⟩
    · exact .inl hn
    · refine .inr ⟨g, cap, cur, e1, hb, ?_, rest⟩
      rw [hs g ?_]
      · exact hg
      · injection e1 with e1
        subst e1
        simp [Ent.foot]

structure St (V : VT) (w : World) (E : List Ent) : Prop where
  inW : V.inW w
  holds : ∀ e, e ∈ E → e.holds V w
  apart : ∀ b, b ∈ foot E → ∀ o, V b o = none
  nodup : (foot E).Nodup
theorem St.lt {V : VT} {w : World} {E : List Ent} (h : St V w E) : ∀ b, b ∈ foot E → b < w.heap.size := by
  intro b hb
  obtain ⟨e, he, hb⟩ := List.mem_flatMap.1 hb
  exact Ent.lt (h.holds e he) b hb

/-- From one state to a later one. -/
structure Step (V0 : VT) (w0 : World) (E0 : List Ent) (V : VT) (w : World) (E : List Ent) : Prop where
  os : w.os = w0.os
  tape : w.tape = w0.tape
  output : w.output = w0.output
  size : w0.heap.size ≤ w.heap.size
  frame : ∀ b, b < w0.heap.size → b ∉ foot E0 → w.heap[b]? = w0.heap[b]?
  le : V0.le V
  newE : ∀ b, b ∈ foot E → b ∈ foot E0 ∨ w0.heap.size ≤ b
  newV : ∀ b o, V b o ≠ V0 b o → b ∈ foot E0 ∨ w0.heap.size ≤ b
  ok : St V w E

theorem foot_append (E F : List Ent) : foot (E ++ F) = foot E ++ foot F := by simp [foot]
theorem Step.refl {V : VT} {w : World} {E : List Ent} (h : St V w E) : Step V w E V w E :=
  ⟨rfl, rfl, rfl, Nat.le_refl _, fun _ _ _ => rfl, .refl V, fun b hb => .inl hb, fun _ _ h => absurd rfl h, h⟩

/-- A step of a part, the rest standing. -/
theorem Step.call {V0 V V' : VT} {w0 w w' : World} {E0 Ei F Eo : List Ent} (h : Step V0 w0 E0 V w (Ei ++ F)) (k : Step V w Ei V' w' Eo) : Step V0 w0 E0 V' w' (Eo ++ F) := by
  have nd := h.ok.nodup
  rw [foot_append, List.nodup_append] at nd
  obtain ⟨nd1, nd2, nd3⟩ := nd
  have hin : ∀ b, b ∈ foot Ei → b ∈ foot E0 ∨ w0.heap.size ≤ b := fun b hb => h.newE b (by rw [foot_append]; exact List.mem_append_left _ hb)
  have hF : ∀ b, b ∈ foot F → b < w.heap.size := fun b hb => h.ok.lt b (by rw [foot_append]; exact List.mem_append_right _ hb)
  have hsame : ∀ b, b ∈ foot F → w'.heap[b]? = w.heap[b]? := fun b hb => k.frame b (hF b hb) (fun hi => nd3 b hi b hb rfl)
  refine ⟨k.os.trans h.os, k.tape.trans h.tape, k.output.trans h.output, Nat.le_trans h.size k.size, ?_, h.le.trans k.le, ?_, ?_, ?_⟩
  · intro b hb hn
    rw [k.frame b (Nat.lt_of_lt_of_le hb h.size) (fun hi => (hin b hi).elim hn (fun h2 => by omega)), h.frame b hb hn]
  · intro b hb
    rw [foot_append] at hb
    rcases List.mem_append.1 hb with hb | hb
    · rcases k.newE b hb with h1 | h1
      · exact hin b h1
      · exact .inr (Nat.le_trans h.size h1)
    · exact h.newE b (by rw [foot_append]; exact List.mem_append_right _ hb)
  · intro b o hne
    by_cases h1 : V' b o = V b o
    · exact h.newV b o (by rwa [h1] at hne)
    · rcases k.newV b o h1 with h2 | h2
      · exact hin b h2
      · exact .inr (Nat.le_trans h.size h2)
  · refine ⟨k.ok.inW, ?_, ?_, ?_⟩
    · intro e he
      rcases List.mem_append.1 he with he | he
      · exact k.ok.holds e he
      · exact Ent.same k.le (h.ok.holds e (List.mem_append_right _ he)) (fun b hb => hsame b (List.mem_flatMap.2 ⟨e, he, hb⟩))
    · intro b hb o
      rw [foot_append] at hb
      rcases List.mem_append.1 hb with hb | hb
      · exact k.ok.apart b hb o
      · have h0 := h.ok.apart b (by rw [foot_append]; exact List.mem_append_right _ hb) o
        by_cases h1 : V' b o = V b o
        · rw [h1, h0]
        · rcases k.newV b o h1 with h2 | h2
          · exact absurd rfl (nd3 b h2 b hb)
          · have := hF b hb; omega
    · rw [foot_append, List.nodup_append]
      refine ⟨k.ok.nodup, nd2, ?_⟩
      rintro b hb _ hb' rfl
      rcases k.newE b hb with h1 | h1
      · exact nd3 b h1 b hb' rfl
      · have := hF b hb'; omega

/-- The entries may stand in another order. -/
theorem Step.perm {V0 V : VT} {w0 w : World} {E0 E E' : List Ent} (h : Step V0 w0 E0 V w E) (hp : E.Perm E') : Step V0 w0 E0 V w E' := by
  have hf : (foot E).Perm (foot E') := List.Perm.flatMap_right _ hp
  exact ⟨h.os, h.tape, h.output, h.size, h.frame, h.le, fun b hb => h.newE b (hf.mem_iff.2 hb), h.newV,
    ⟨h.ok.inW, fun e he => h.ok.holds e (hp.mem_iff.2 he), fun b hb => h.ok.apart b (hf.mem_iff.2 hb), hf.nodup_iff.1 h.ok.nodup⟩⟩
theorem perm_front {α : Type 1} : ∀ (E : List α) (j : Nat) (e : α), E[j]? = some e → E.Perm (e :: E.eraseIdx j)
  | [], j, e, h => by simp at h
  | x :: E, 0, e, h => by simp at h; subst h; simp
  | x :: E, j + 1, e, h => by
    have := perm_front E j e (by simpa using h)
    simp only [List.eraseIdx_cons_succ]
    exact (List.Perm.cons x this).trans (List.Perm.swap e x _)
theorem Step.front {V0 V : VT} {w0 w : World} {E0 E : List Ent} (h : Step V0 w0 E0 V w E) (j : Nat) {e : Ent} (he : E[j]? = some e) : Step V0 w0 E0 V w (e :: E.eraseIdx j) :=
  h.perm (perm_front E j e he)
/-- What is forgotten. -/
theorem Step.drop {V0 V : VT} {w0 w : World} {E0 F : List Ent} {e : Ent} (h : Step V0 w0 E0 V w (e :: F)) : Step V0 w0 E0 V w F := by
  have hsub : ∀ b, b ∈ foot F → b ∈ foot (e :: F) := fun b hb => by
    obtain ⟨x, hx, hb⟩ := List.mem_flatMap.1 hb
    exact List.mem_flatMap.2 ⟨x, List.mem_cons_of_mem _ hx, hb⟩
  have nd := h.ok.nodup
  have : foot (e :: F) = e.foot ++ foot F := by simp [foot]
  rw [this, List.nodup_append] at nd
  exact ⟨h.os, h.tape, h.output, h.size, h.frame, h.le, fun b hb => h.newE b (hsub b hb), h.newV,
    ⟨h.ok.inW, fun e he => h.ok.holds e (List.mem_cons_of_mem _ he), fun b hb => h.ok.apart b (hsub b hb), nd.2.1⟩⟩
theorem Step.clear {V0 V : VT} {w0 w : World} {E0 : List Ent} : ∀ {E : List Ent}, Step V0 w0 E0 V w E → Step V0 w0 E0 V w []
  | [], h => h
  | _ :: _, h => Step.clear h.drop

theorem VT.inW.alloc {V : VT} {w : World} (h : V.inW w) (o : Obj) : V.inW (w.alloc o) := fun b i v hv => by
  have := h b i v hv
  rw [World.cell?_alloc_lt _ _ _ (World.block_lt_of_cell? w _ this)]
  exact this
theorem St.nilE {V : VT} {w : World} (h : V.inW w) : St V w [] := ⟨h, fun e he => by simp at he, fun b hb => by simp [foot] at hb, by simp [foot]⟩
theorem VT.inW.lt {V : VT} {w : World} (h : V.inW w) {b o : Nat} {v : Value} (hv : V b o = some v) : b < w.heap.size := World.block_lt_of_cell? w _ (h b o v hv)
theorem VT.inW.none_ge {V : VT} {w : World} (h : V.inW w) {b : Nat} (hb : w.heap.size ≤ b) (o : Nat) : V b o = none := by
  cases e : V b o with
  | none => rfl
  | some v => have := h.lt e; omega

theorem Step.mk_alloc {V : VT} {w : World} (h : V.inW w) (o : Obj) : Step V w [] V (w.alloc o) [.blk w.heap.size o] := by
  refine ⟨rfl, rfl, rfl, by simp, fun b hb _ => ?_, .refl V, fun b hb => .inr (by simp [foot, Ent.foot] at hb; omega), fun _ _ h => absurd rfl h, ⟨h.alloc o, ?_, ?_, by simp [foot, Ent.foot]⟩⟩
  · show (w.heap.push o)[b]? = _
    rw [Array.getElem?_push, if_neg (by omega)]
  · intro e he
    simp at he
    subst he
    show (w.heap.push o)[w.heap.size]? = _
    simp
  · intro b hb o
    simp [foot, Ent.foot] at hb
    subst hb
    exact h.none_ge (Nat.le_refl _) o
theorem Step.mk_drewN {V : VT} {w : World} (h : V.inW w) (n : Nat) : Step V w [] V { w with drawn := w.drawn + n } [] :=
  ⟨rfl, rfl, rfl, Nat.le_refl _, fun _ _ _ => rfl, .refl V, fun b hb => by simp [foot] at hb, fun _ _ h => absurd rfl h, St.nilE (fun b i v hv => h b i v hv)⟩

theorem cell_of_blk {w : World} {b : Nat} {cs : Array Value} {t : TypeId} {fr : Nat × Nat} (h : w.heap[b]? = some (.cells cs t fr)) (i : Nat) : w.cell? ⟨b, i, none⟩ = cs[i]? := by
  simp [World.cell?, h]
theorem setCell_heap {w : World} {b : Nat} {cs : Array Value} {t : TypeId} {fr : Nat × Nat} (h : w.heap[b]? = some (.cells cs t fr)) (i : Nat) (v : Value) :
    (w.setCell ⟨b, i, none⟩ v).heap[b]? = some (.cells (cs.setIfInBounds i v) t fr) := by
  simp [World.setCell, Array.getElem?_modify, h]
theorem setCell_other (w : World) (b i k : Nat) (v : Value) (h : k ≠ b) : (w.setCell ⟨b, i, none⟩ v).heap[k]? = w.heap[k]? := by
  simp only [World.setCell, Array.getElem?_modify]
  rw [if_neg (fun e => h e.symm)]
theorem Step.mk_set {V : VT} {w : World} {b : Nat} {cs : Array Value} {t : TypeId} {fr : Nat × Nat} (h : St V w [.blk b (.cells cs t fr)]) (i : Nat) (v : Value) :
    Step V w [.blk b (.cells cs t fr)] V (w.setCell ⟨b, i, none⟩ v) [.blk b (.cells (cs.setIfInBounds i v) t fr)] := by
  have hb : w.heap[b]? = some (.cells cs t fr) := h.holds (.blk b (.cells cs t fr)) (by simp)
  refine ⟨rfl, rfl, rfl, by simp [World.setCell], fun k hk hn => setCell_other w b i k v (by simpa [foot, Ent.foot] using hn), .refl V, fun k hk => .inl hk, fun _ _ h => absurd rfl h, ⟨?_, ?_, h.apart, h.nodup⟩⟩
  · intro k o u hu
    have hne : k ≠ b := by
      rintro rfl
      rw [h.apart k (by simp [foot, Ent.foot]) o] at hu
      cases hu
    rw [World.cell?_of_block (w := w) (setCell_other w b i k v hne)]
    exact h.inW k o u hu
  · intro e he
    simp at he
    subst he
    exact setCell_heap hb i v
/-- A block that is never written again. -/
def VT.add (V : VT) (b : Nat) (cs : Array Value) : VT := fun k o => if k = b then cs[o]? else V k o
theorem Step.mk_settle {V : VT} {w : World} {b : Nat} {cs : Array Value} {t : TypeId} {fr : Nat × Nat} (h : St V w [.blk b (.cells cs t fr)]) :
    Step V w [.blk b (.cells cs t fr)] (V.add b cs) w [] := by
  have hb : w.heap[b]? = some (.cells cs t fr) := h.holds (.blk b (.cells cs t fr)) (by simp)
  have hn : ∀ o, V b o = none := h.apart b (by simp [foot, Ent.foot])
  refine ⟨rfl, rfl, rfl, Nat.le_refl _, fun _ _ _ => rfl, ?_, fun k hk => by simp [foot] at hk, ?_, St.nilE ?_⟩
  · intro k o v hv
    by_cases hk : k = b
    · subst hk; rw [hn] at hv; cases hv
    · simpa [VT.add, hk] using hv
  · intro k o hne
    by_cases hk : k = b
    · subst hk; exact .inl (by simp [foot, Ent.foot])
    · simp [VT.add, hk] at hne
  · intro k o v hv
    by_cases hk : k = b
    · subst hk
      simp [VT.add] at hv
      rw [cell_of_blk hb]; exact hv
    · simp [VT.add, hk] at hv
      exact h.inW k o v hv
theorem VT.add_at (V : VT) (b : Nat) (cs : Array Value) (i : Nat) (v : Value) (h : cs[i]? = some v) : V.add b cs b i = some v := by simp [VT.add, h]

end Go.Vk
