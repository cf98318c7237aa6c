import Derived.Test.YtnibbocbefnnnaaVk15
import Derived.Test.YtnibbocbefnnnaaVk10
import Derived.Deep.SlicePairs
import Derived.Maps.Own
set_option linter.unusedVariables false
namespace Go.Vk
open Go.ChangeMaps
variable {D : List Deferred}
def grp (l : List Ent) : Ent :=
  .pk (foot l) (fun V w => ∀ e, e ∈ l → e.holds V w) (fun V w h b hb => by
    obtain ⟨e, he, hb⟩ := List.mem_flatMap.1 hb
    exact Ent.lt (h e he) b hb) (fun V V' w w' hl h hs e he => Ent.same hl (h e he) fun b hb => hs b (List.mem_flatMap.2 ⟨e, he, hb⟩))
theorem foot_grp (l F : List Ent) : foot (grp l :: F) = foot (l ++ F) := by simp [foot, grp, Ent.foot]
theorem Step.ungroup {V0 V : VT} {w0 w : World} {E0 F : List Ent} {l : List Ent} (h : Step V0 w0 E0 V w (grp l :: F)) : Step V0 w0 E0 V w (l ++ F) := by
  have hf := foot_grp l F
  refine ⟨h.os, h.tape, h.output, h.size, h.frame, h.le, fun b hb => h.newE b (by rw [hf]; exact hb), h.newV, ⟨h.ok.inW, fun e he => ?_, fun b hb => h.ok.apart b (by rw [hf]; exact hb), by rw [← hf]; exact h.ok.nodup⟩⟩
  rcases List.mem_append.1 he with he | he
  · have := h.ok.holds (grp l) (by simp)
    exact this e he
  · exact h.ok.holds e (List.mem_cons_of_mem _ he)
theorem Step.group {V0 V : VT} {w0 w : World} {E0 F : List Ent} (l : List Ent) (h : Step V0 w0 E0 V w (l ++ F)) : Step V0 w0 E0 V w (grp l :: F) := by
  have hf := foot_grp l F
  refine ⟨h.os, h.tape, h.output, h.size, h.frame, h.le, fun b hb => h.newE b (by rw [← hf]; exact hb), h.newV, ⟨h.ok.inW, fun e he => ?_, fun b hb => h.ok.apart b (by rw [← hf]; exact hb), by rw [hf]; exact h.ok.nodup⟩⟩
  rcases List.mem_cons.1 he with rfl | he
  · exact fun e he => h.ok.holds e (List.mem_append_left _ he)
  · exact h.ok.holds e (List.mem_append_right _ he)
/-- A state's groups come and go likewise. -/
theorem St.ungroup {V : VT} {w : World} {F l : List Ent} (h : St V w (grp l :: F)) : St V w (l ++ F) := (Step.refl h).ungroup.ok
def lk {α : Type} (k : Str) : List (Str × α) → Option α
  | [] => none
  | p :: M => if p.1 = k then some p.2 else lk k M
def packV (a : Bool) (cs : List Value) : Value := match a with | true => .agg cs.toArray | false => cs.headD undef
/-- An element of a map. -/
def elemV {α : Type} (a : Bool) (K : Kd α) (V : VT) (x : α) (v : Value) : Prop := ∃ cs, K.rep V x cs ∧ v = packV a cs
theorem elemV.up {α : Type} {a : Bool} {K : Kd α} {V V' : VT} {x : α} {v : Value} (h : elemV a K V x v) (hl : V.le V') : elemV a K V' x v := by
  obtain ⟨cs, h1, h2⟩ := h
  exact ⟨cs, K.mono hl h1, h2⟩
structure MRep {α : Type} (a : Bool) (K : Kd α) (V : VT) (es : List MapEntry) (M : List (Str × α)) : Prop where
  len : es.length = M.length
  at_ : ∀ (j : Nat) (e : MapEntry) (p : Str × α), es[j]? = some e → M[j]? = some p → e.key = bs p.1 ∧ elemV a K V p.2 e.val
  nd : (M.map (·.1)).Nodup
theorem MRep.up {α : Type} {a : Bool} {K : Kd α} {V V' : VT} {es : List MapEntry} {M : List (Str × α)} (h : MRep a K V es M) (hl : V.le V') : MRep a K V' es M :=
  ⟨h.len, fun j e p he hp => ⟨(h.at_ j e p he hp).1, (h.at_ j e p he hp).2.up hl⟩, h.nd⟩
def MHolds {α : Type} (a : Bool) (K : Kd α) (b : Nat) (f : Str → Option α) (V : VT) (w : World) : Prop := ∃ es clock M, w.heap[b]? = some (.map es clock) ∧ MRep a K V es.toList M ∧ f = fun k => lk k M
/-- A map of one's own: what each key has. -/
def mapE {α : Type} (a : Bool) (K : Kd α) (b : Nat) (f : Str → Option α) : Ent :=
  .pk [b] (MHolds a K b f) (fun V w h x hx => by
    obtain ⟨es, clock, M, hb, _⟩ := h
    rw [List.mem_singleton.1 hx]
    exact (Array.getElem?_eq_some_iff.1 hb).1) (fun V V' w w' hl h hs => by
    obtain ⟨es, clock, M, hb, hm, hf⟩ := h
    exact ⟨es, clock, M, (hs b (by simp)).trans hb, hm.up hl, hf⟩)
theorem lk_none {α : Type} {k : Str} : ∀ {M : List (Str × α)}, lk k M = none ↔ k ∉ M.map (·.1)
  | [] => by simp [lk]
  | p :: M => by
    rw [lk, List.map_cons, List.mem_cons]
    by_cases h : p.1 = k
    · simp [h]
    · rw [if_neg h, lk_none]
      constructor
      · rintro h1 (h2 | h2)
        · exact h h2.symm
        · exact h1 h2
      · exact fun h1 h2 => h1 (.inr h2)
theorem lk_append {α : Type} {k : Str} {v : α} : ∀ {M : List (Str × α)}, lk k M = none → ∀ k', lk k' (M ++ [(k, v)]) = if k = k' then some v else lk k' M
  | [], _, k' => by simp [lk]
  | p :: M, h, k' => by
    rw [lk] at h
    split at h
    · cases h
    · rename_i hp
      rw [List.cons_append, lk, lk, lk_append h k']
      by_cases h1 : p.1 = k'
      · rw [if_pos h1, if_pos h1]
        rw [if_neg (fun e => hp (h1.trans e.symm))]
      · rw [if_neg h1, if_neg h1]
theorem lk_set {α : Type} {k : Str} {v : α} : ∀ {M : List (Str × α)} {j : Nat} {p : Str × α}, M[j]? = some p → p.1 = k → (M.map (·.1)).Nodup → ∀ k', lk k' (M.set j (k, v)) = if k = k' then some v else lk k' M
  | [], j, p, h, _, _, k' => by simp at h
  | q :: M, 0, p, h, hk, nd, k' => by
    simp at h
    subst h
    simp only [List.set_cons_zero, lk, hk]
    by_cases h1 : k = k'
    · rw [if_pos h1, if_pos h1]
    · rw [if_neg h1, if_neg h1, if_neg h1]
  | q :: M, j + 1, p, h, hk, nd, k' => by
    have h' : M[j]? = some p := by simpa using h
    rw [List.map_cons, List.nodup_cons] at nd
    rw [List.set_cons_succ, lk, lk, lk_set h' hk nd.2 k']
    have hne : q.1 ≠ k := fun e => nd.1 (by rw [e, ← hk]; exact List.mem_map.2 ⟨p, List.mem_of_getElem? h', rfl⟩)
    by_cases h1 : q.1 = k'
    · rw [if_pos h1, if_pos h1, if_neg (fun e => hne (h1.trans e.symm))]
    · rw [if_neg h1, if_neg h1]
theorem lk_erase {α : Type} {k : Str} : ∀ {M : List (Str × α)} {j : Nat} {p : Str × α}, M[j]? = some p → p.1 = k → (M.map (·.1)).Nodup → ∀ k', lk k' (M.eraseIdx j) = if k = k' then none else lk k' M
  | [], j, p, h, _, _, k' => by simp at h
  | q :: M, 0, p, h, hk, nd, k' => by
    simp at h
    subst h
    rw [List.map_cons, List.nodup_cons] at nd
    simp only [List.eraseIdx_cons_zero, lk, hk]
    by_cases h1 : k = k'
    · rw [if_pos h1, ← h1]
      exact lk_none.2 (by rw [← hk]; exact nd.1)
    · rw [if_neg h1, if_neg h1]
  | q :: M, j + 1, p, h, hk, nd, k' => by
    have h' : M[j]? = some p := by simpa using h
    rw [List.map_cons, List.nodup_cons] at nd
    rw [List.eraseIdx_cons_succ, lk, lk, lk_erase h' hk nd.2 k']
    have hne : q.1 ≠ k := fun e => nd.1 (by rw [e, ← hk]; exact List.mem_map.2 ⟨p, List.mem_of_getElem? h', rfl⟩)
    by_cases h1 : q.1 = k'
    · rw [if_pos h1, if_pos h1, if_neg (fun e => hne (h1.trans e.symm))]
    · rw [if_neg h1, if_neg h1]

theorem sameNow_bs (a b : Str) : Instr.sameNow .string (bs a) (bs b) = some (decide (a = b)) := by
  have : ((⟨a.toArray⟩ : ByteArray) == (⟨b.toArray⟩ : ByteArray)) = decide (a = b) := ba_beq a b
  simp only [Instr.sameNow, bs, this]
theorem MRep.tail {α : Type} {a : Bool} {K : Kd α} {V : VT} {e : MapEntry} {es : List MapEntry} {p : Str × α} {M : List (Str × α)} (h : MRep a K V (e :: es) (p :: M)) : MRep a K V es M :=
  ⟨by simpa using h.len, fun j x q he hq => h.at_ (j + 1) x q (by simpa using he) (by simpa using hq), by have := h.nd; rw [List.map_cons, List.nodup_cons] at this; exact this.2⟩
theorem find_rep {α : Type} {a : Bool} {K : Kd α} {V : VT} {k : Str} : ∀ {es : List MapEntry} {M : List (Str × α)} (i : Nat), MRep a K V es M →
    (lk k M = none ∧ Instr.findNow .string (bs k) es i = some none) ∨ ∃ j e p, es[j]? = some e ∧ M[j]? = some p ∧ p.1 = k ∧ e.key = bs k ∧ elemV a K V p.2 e.val ∧ lk k M = some p.2 ∧ Instr.findNow .string (bs k) es i = some (some (i + j, e.val))
  | [], [], i, h => .inl ⟨rfl, rfl⟩
  | [], p :: M, i, h => by have := h.len; simp at this
  | e :: es, [], i, h => by have := h.len; simp at this
  | e :: es, p :: M, i, h => by
    obtain ⟨h1, h2⟩ := h.at_ 0 e p rfl rfl
    rw [Instr.findNow, h1, sameNow_bs, lk]
    by_cases hp : p.1 = k
    · refine .inr ⟨0, e, p, rfl, rfl, hp, by rw [h1, hp], h2, by rw [if_pos hp], ?_⟩
      rw [decide_eq_true hp.symm]; rfl
    · rw [decide_eq_false (fun e => hp e.symm), if_neg hp]
      rcases find_rep (k := k) (i + 1) h.tail with h3 | ⟨j, e', p', g1, g2, g3, g4, g5, g6, g7⟩
      · exact .inl h3
      · exact .inr ⟨j + 1, e', p', by simpa using g1, by simpa using g2, g3, g4, g5, g6, by rw [show i + (j + 1) = i + 1 + j by omega]; exact g7⟩
section
variable {P : Program} {w : World}
theorem run_getMap {b : Nat} {es : Array MapEntry} {clock : Nat} (h : w.heap[b]? = some (.map es clock)) : (getObj b).run P w = .ok (.map es clock) w := by simp [getObj, Sem.run, h]
theorem run_setMap {b : Nat} {es : Array MapEntry} {clock : Nat} (o : Obj) (h : w.heap[b]? = some (.map es clock)) : (setObj b o).run P w = .ok () (setBlock w b o) := by simp [setObj, Sem.run, h, setBlock]
theorem run_checkKey {t : TypeId} (ht : strTy P t = true) (em : Bool) (k : Str) : (Instr.checkKey em 10000 t (bs k)).run P w = .ok () w := by
  rw [Instr.checkKey]
  simp [run_underlying (strTy_ok ht), bs]
theorem run_findKey {t : TypeId} (ht : strTy P t = true) (k : Str) (es : List MapEntry) {r : Option (Nat × Value)} (h : Instr.findNow .string (bs k) es 0 = some r) : (Instr.findKey t (bs k) es).run P w = .ok r w := by
  simp [Instr.findKey, run_underlying (strTy_ok ht), h]
def mapTy (P : Program) (t : TypeId) : Option (TypeId × TypeId) :=
  match P.underlying t with
  | some (.map k e) => cond (strTy P k) (some (k, e)) none
  | _ => none
theorem mapTy_ok {t k e : TypeId} (h : mapTy P t = some (k, e)) : P.underlying t = some (.map k e) ∧ strTy P k = true := by
  unfold mapTy at h
  split at h
  · rename_i k' e' hu
    cases hs : strTy P k' with
    | false => rw [hs] at h; cases h
    | true => rw [hs] at h; simp only [cond_true, Option.some.injEq, Prod.mk.injEq] at h; obtain ⟨rfl, rfl⟩ := h; exact ⟨hu, hs⟩
  · cases h
/-- 'm[k]', with or without 'ok'. -/
theorem run_lookup {α : Type} {a : Bool} {K : Kd α} {V : VT} {b : Nat} {f : Str → Option α} {t k e : TypeId} (hm : MHolds a K b f V w) (ht : mapTy P t = some (k, e)) (key : Str) {z : Value} (hz : zeroOf P e = some z) (hzd : elemV a K V K.d z) (c : Bool) :
    ∃ v, elemV a K V ((f key).getD K.d) v ∧ (Instr.lookup t (.map (some b)) (bs key) c).run P w = .ok (if c then .tuple #[v, .bool (f key).isSome] else v) w := by
  obtain ⟨hu, hs⟩ := mapTy_ok ht
  obtain ⟨es, clock, M, hb, hr, rfl⟩ := hm
  rcases find_rep (k := key) 0 hr with ⟨h1, h2⟩ | ⟨j, e', p, _, _, _, _, h5, h6, h7⟩
  · refine ⟨z, by simpa [h1] using hzd, ?_⟩
    simp [Instr.lookup, run_underlying hu, run_getMap hb, run_checkKey hs, run_findKey hs key _ h2, run_zero (w := w) hz, h1]
  · refine ⟨e'.val, by simpa [h6] using h5, ?_⟩
    simp [Instr.lookup, run_underlying hu, run_getMap hb, run_checkKey hs, run_findKey hs key _ h7, h6]
theorem sameBits_bs (k : Str) : Instr.sameBits 10000 (bs k) (bs k) = true := by
  show ((⟨k.toArray⟩ : ByteArray) == (⟨k.toArray⟩ : ByteArray)) = true
  rw [ba_beq]; simp
theorem MHolds.step {α : Type} {a : Bool} {K : Kd α} {V : VT} {b : Nat} {f : Str → Option α} (hS : St V w [mapE a K b f]) {es : Array MapEntry} {clock : Nat} {M : List (Str × α)} (hr : MRep a K V es.toList M) (f' : Str → Option α) (hf : f' = fun k => lk k M) :
    Step V w [mapE a K b f] V (setBlock w b (.map es clock)) [mapE a K b f'] := by
  obtain ⟨es0, c0, M0, hb, _⟩ := hS.holds (mapE a K b f) (by simp)
  refine Step.mk_ent hS rfl rfl rfl (by simp [setBlock]) (fun k hk hn => ?_) (fun en hen => ?_) (fun k hk => .inl hk) hS.nodup
  · exact heap_setBlock_other hb _ (by simpa [foot, mapE, Ent.foot] using hn)
  · rw [List.mem_singleton.1 hen]
    exact ⟨es, clock, M, heap_setBlock_same hb _, hr, hf⟩
/-- 'm[k] = v'. -/
theorem run_mapUpdate {α : Type} {a : Bool} {K : Kd α} {V : VT} {b : Nat} {f : Str → Option α} {t k e : TypeId} (hS : St V w [mapE a K b f]) (ht : mapTy P t = some (k, e)) (key : Str) {x : α} {v : Value} (hv : elemV a K V x v) :
    ∃ w', (Instr.mapUpdate t (.map (some b)) (bs key) v).run P w = .ok () w' ∧ Step V w [mapE a K b f] V w' [mapE a K b fun k' => if key = k' then some x else f k'] := by
  obtain ⟨hu, hs⟩ := mapTy_ok ht
  obtain ⟨es, clock, M, hb, hr, hf⟩ := hS.holds (mapE a K b f) (by simp)
  rcases find_rep (k := key) 0 hr with ⟨h1, h2⟩ | ⟨j, e', p, h1, h2, h3, h4, h5, h6, h7⟩
  · refine ⟨setBlock w b (.map (es.push { key := bs key, val := v, born := clock }) (clock + 1)), ?_, MHolds.step hS (M := M ++ [(key, x)]) ⟨?_, ?_, ?_⟩ _ ?_⟩
    · simp [Instr.mapUpdate, run_underlying hu, run_getMap hb, run_checkKey hs, run_findKey hs key _ h2, run_setMap _ hb]
    · simp [hr.len]
    · intro j e0 p0 he hp
      have hl := hr.len
      rw [Array.toList_push] at he
      by_cases hj : j < M.length
      · rw [List.getElem?_append_left (by omega)] at he hp
        exact hr.at_ j e0 p0 he hp
      · rw [List.getElem?_append_right (by omega)] at he hp
        rw [hl] at he
        cases hq : j - M.length with
        | zero =>
          rw [hq] at he hp
          simp at he hp
          subst he; subst hp
          exact ⟨rfl, hv⟩
        | succ q => rw [hq] at he; simp at he
    · have := lk_none.1 h1
      rw [List.map_append, List.nodup_append]
      refine ⟨hr.nd, by simp, ?_⟩
      rintro y hy z hz rfl
      simp at hz
      subst hz
      exact this hy
    · rw [hf]
      funext k'
      exact (lk_append h1 k').symm
  · have hje : es[j]? = some e' := by rw [← Array.getElem?_toList]; exact h1
    refine ⟨setBlock w b (.map (es.modify j fun e => { e with key := bs key, val := v }) clock), ?_, MHolds.step hS (M := M.set j (key, x)) ⟨?_, ?_, ?_⟩ _ ?_⟩
    · rw [Nat.zero_add] at h7
      simp [Instr.mapUpdate, run_underlying hu, run_getMap hb, run_checkKey hs, run_findKey hs key _ h7, hje, h4, Instr.keyThatStays, sameBits_bs, run_setMap _ hb]
    · simp [hr.len]
    · intro i e0 p0 he hp
      rw [Array.getElem?_toList, Array.getElem?_modify] at he
      rw [List.getElem?_set] at hp
      by_cases hj : j = i
      · subst hj
        rw [if_pos rfl] at he hp
        rw [hje] at he
        simp only [Option.map_some, Option.some.injEq] at he
        split at hp
        · simp only [Option.some.injEq] at hp
          subst he; subst hp
          exact ⟨rfl, hv⟩
        · cases hp
      · rw [if_neg hj] at he hp
        exact hr.at_ i e0 p0 (by rw [Array.getElem?_toList]; exact he) hp
    · have : (M.set j (key, x)).map (·.1) = M.map (·.1) := by
        apply List.ext_getElem?
        intro i
        simp only [List.getElem?_map, List.getElem?_set]
        by_cases hj : j = i
        · subst hj
          rw [if_pos rfl, h2]
          have : j < M.length := (List.getElem?_eq_some_iff.1 h2).1
          rw [if_pos this]; simp [h3]
        · rw [if_neg hj]
      rw [this]; exact hr.nd
    · rw [hf]
      funext k'
      exact (lk_set h2 h3 hr.nd k').symm
/-- 'delete(m, k)'. -/
theorem run_mapDelete {α : Type} {a : Bool} {K : Kd α} {V : VT} {b : Nat} {f : Str → Option α} {t k e : TypeId} (hS : St V w [mapE a K b f]) (ht : mapTy P t = some (k, e)) (key : Str) (u : TypeId) :
    ∃ w', (∀ ty, (Builtin.delete_ #[t, u] ty #[.map (some b), bs key]).run P w = .ok (.tuple #[]) w') ∧ Step V w [mapE a K b f] V w' [mapE a K b fun k' => if key = k' then none else f k'] := by
  obtain ⟨hu, hs⟩ := mapTy_ok ht
  obtain ⟨es, clock, M, hb, hr, hf⟩ := hS.holds (mapE a K b f) (by simp)
  rcases find_rep (k := key) 0 hr with ⟨h1, h2⟩ | ⟨j, e', p, h1, h2, h3, h4, h5, h6, h7⟩
  · refine ⟨setBlock w b (.map es clock), ?_, MHolds.step hS (M := M) hr _ ?_⟩
    · intro ty
      simp [Builtin.delete_, run_underlying hu, run_getMap hb, run_checkKey hs, run_findKey hs key _ h2, run_setMap _ hb]
    · rw [hf]
      funext k'
      by_cases hk : key = k'
      · subst hk; rw [if_pos rfl, h1]
      · rw [if_neg hk]
  · have hlt : j < es.size := by have := (List.getElem?_eq_some_iff.1 h1).1; simpa using this
    refine ⟨setBlock w b (.map (es.eraseIdxIfInBounds j) clock), ?_, MHolds.step hS (M := M.eraseIdx j) ⟨?_, ?_, ?_⟩ _ ?_⟩
    · rw [Nat.zero_add] at h7
      intro ty
      simp [Builtin.delete_, run_underlying hu, run_getMap hb, run_checkKey hs, run_findKey hs key _ h7, run_setMap _ hb]
    · have : j < M.length := (List.getElem?_eq_some_iff.1 h2).1
      have hl := hr.len
      rw [Array.toList_eraseIdxIfInBounds, List.length_eraseIdx, List.length_eraseIdx, hl]
    · intro i e0 p0 he hp
      rw [Array.toList_eraseIdxIfInBounds, List.getElem?_eraseIdx] at he
      rw [List.getElem?_eraseIdx] at hp
      by_cases hi : i < j
      · rw [if_pos hi] at he hp; exact hr.at_ i e0 p0 he hp
      · rw [if_neg hi] at he hp; exact hr.at_ (i + 1) e0 p0 he hp
    · exact hr.nd.sublist (List.Sublist.map _ (List.eraseIdx_sublist M j))
    · rw [hf]
      funext k'
      exact (lk_erase h2 h3 hr.nd k').symm
theorem Step.mk_map {α : Type} {a : Bool} {K : Kd α} {V : VT} (h : V.inW w) : Step V w [] V (w.alloc (.map #[] 0)) [mapE a K w.heap.size fun _ => none] := by
  refine Step.mk_ent (St.nilE h) rfl rfl rfl (by simp) (fun k hk _ => heap_alloc_old w _ hk) (fun en hen => ?_) (fun k hk => .inr (by simp [foot, mapE, Ent.foot] at hk; omega)) (by simp [foot, mapE, Ent.foot])
  rw [List.mem_singleton.1 hen]
  exact ⟨#[], 0, [], heap_alloc_new w _, ⟨rfl, fun j e p he => by simp at he, by simp⟩, rfl⟩
end
section
variable {P : Program} {ops : Array Oper} {Q : Exit → Act → World → Prop} {n i : Nat} {L : List (Nat × Value)} {g : Nat → Value} {w : World}
theorem wpF_makeMap {α : Type} (a : Bool) (K : Kd α) {V0 V : VT} {w0 : World} {E0 E : List Ent} {t : TypeId} {d : Option Nat} (hM : Step V0 w0 E0 V w E)
    (h : opAt ops n L g i = some (.makeMap t none, d)) (k : ∀ b w', Step V0 w0 E0 V w' (mapE a K b (fun _ => none) :: E) → wpF P ops Q (i + 1) (env D n (pt d (.map (some b)) L) g) w') : wpF P ops Q i (env D n L g) w := by
  refine wpF_value (v := .map (some w.heap.size)) (w' := w.alloc (.map #[] 0)) h (fun o ho => ?_) (k _ _ (Step.call (Ei := []) hM (Step.mk_map hM.ok.inW)))
  unfold execOp
  simp [ho, Instr.makeMap]
theorem wpF_lookup {α : Type} {a : Bool} {K : Kd α} {b : Nat} {f : Str → Option α} {V0 V : VT} {w0 : World} {E0 E : List Ent} {t kt e : TypeId} {x y : Operand} {d : Option Nat} (hM : Step V0 w0 E0 V w E) (j : Nat) (hj : E[j]? = some (mapE a K b f)) (key : Str) {z : Value}
    (h : opAt ops n L g i = some (.lookup t x y false, d)) (ht : mapTy P t = some (kt, e)) (hz : zeroOf P e = some z) (hzd : elemV a K V K.d z) (hx : opv n L g x = .map (some b)) (hy : opv n L g y = bs key)
    (k : ∀ v, elemV a K V ((f key).getD K.d) v → wpF P ops Q (i + 1) (env D n (pt d v L) g) w) : wpF P ops Q i (env D n L g) w := by
  obtain ⟨v, hv, hr⟩ := run_lookup (hM.ok.holds _ (List.mem_of_getElem? hj)) ht key hz hzd false
  refine wpF_value (v := v) (w' := w) h (fun o ho => ?_) (k v hv)
  unfold execOp
  simp only [ho, hx, hy, Sem.run_bind, hr, Result.andThen_ok, Sem.run_pure]
  rfl
theorem wpF_lookupOk {α : Type} {a : Bool} {K : Kd α} {b : Nat} {f : Str → Option α} {V0 V : VT} {w0 : World} {E0 E : List Ent} {t kt e : TypeId} {x y : Operand} {d : Option Nat} (hM : Step V0 w0 E0 V w E) (j : Nat) (hj : E[j]? = some (mapE a K b f)) (key : Str) {z : Value}
    (h : opAt ops n L g i = some (.lookup t x y true, d)) (ht : mapTy P t = some (kt, e)) (hz : zeroOf P e = some z) (hzd : elemV a K V K.d z) (hx : opv n L g x = .map (some b)) (hy : opv n L g y = bs key)
    (k : ∀ v, elemV a K V ((f key).getD K.d) v → wpF P ops Q (i + 1) (env D n (pt d (.tuple #[v, .bool (f key).isSome]) L) g) w) : wpF P ops Q i (env D n L g) w := by
  obtain ⟨v, hv, hr⟩ := run_lookup (hM.ok.holds _ (List.mem_of_getElem? hj)) ht key hz hzd true
  refine wpF_value (v := .tuple #[v, .bool (f key).isSome]) (w' := w) h (fun o ho => ?_) (k v hv)
  unfold execOp
  simp only [ho, hx, hy, Sem.run_bind, hr, Result.andThen_ok, Sem.run_pure]
  rfl
theorem wpF_mapUpdate {α : Type} {a : Bool} {K : Kd α} {b : Nat} {f : Str → Option α} {V0 V : VT} {w0 : World} {E0 E : List Ent} {t kt e : TypeId} {x y z : Operand} {d : Option Nat} (hM : Step V0 w0 E0 V w E) (j : Nat) (hj : E[j]? = some (mapE a K b f)) (key : Str) (u : α) {v : Value}
    (h : opAt ops n L g i = some (.mapUpdate t x y z, d)) (ht : mapTy P t = some (kt, e)) (hx : opv n L g x = .map (some b)) (hy : opv n L g y = bs key) (hz : opv n L g z = v) (hv : elemV a K V u v)
    (k : ∀ w', Step V0 w0 E0 V w' (E.set j (mapE a K b fun k' => if key = k' then some u else f k')) → wpF P ops Q (i + 1) (env D n (pt d undef L) g) w') : wpF P ops Q i (env D n L g) w := by
  have hf := hM.front j hj
  obtain ⟨w', hr, hs⟩ := run_mapUpdate (P := P) (St.part (E := [mapE a K b f]) (F := E.eraseIdx j) hf.ok) ht key hv
  refine wpF_unit (w' := w') h (fun o ho => ?_) (k w' ((Step.call (Ei := [mapE a K b f]) hf hs).perm (eraseIdx_set_perm E j _ _ hj)))
  unfold execOp
  simp [ho, hx, hy, hz, hr]
theorem wpF_mapDelete {α : Type} {a : Bool} {K : Kd α} {b : Nat} {f : Str → Option α} {V0 V : VT} {w0 : World} {E0 E : List Ent} {t t2 kt e : TypeId} {x y : Operand} {d : Option Nat} (hM : Step V0 w0 E0 V w E) (j : Nat) (hj : E[j]? = some (mapE a K b f)) (key : Str)
    (h : opAt ops n L g i = some (.call ⟨.builtin .delete, #[x, y], #[t, t2]⟩, d)) (ht : mapTy P t = some (kt, e)) (hx : opv n L g x = .map (some b)) (hy : opv n L g y = bs key)
    (k : ∀ w', Step V0 w0 E0 V w' (E.set j (mapE a K b fun k' => if key = k' then none else f k')) → wpF P ops Q (i + 1) (env D n (pt d (.tuple #[]) L) g) w') : wpF P ops Q i (env D n L g) w := by
  have hf := hM.front j hj
  obtain ⟨w', hr, hs⟩ := run_mapDelete (P := P) (St.part (E := [mapE a K b f]) (F := E.eraseIdx j) hf.ok) ht key t2
  refine wpF_value (v := .tuple #[]) (w' := w') h (fun o ho => ?_) (k w' ((Step.call (Ei := [mapE a K b f]) hf hs).perm (eraseIdx_set_perm E j _ _ hj)))
  unfold execOp
  simp [ho, resolve, invoke, builtin, hx, hy, hr]
/-- Elements told apart. -/
theorem elemV.sl {α : Type} {K : Kd α} {V : VT} {xs : List α} {v : Value} (h : elemV false (slK K) V xs v) : ∃ A c, v = .slice A xs.length c ∧ Rd K V A c xs := by
  obtain ⟨cs, ⟨A, c, rfl, hr⟩, rfl⟩ := h
  exact ⟨A, c, rfl, hr⟩
theorem elemV.of_sl {α : Type} {K : Kd α} {V : VT} {A : Option Addr} {c : Nat} {xs : List α} (h : Rd K V A c xs) : elemV false (slK K) V xs (.slice A xs.length c) := ⟨[_], ⟨A, c, rfl, h⟩, rfl⟩
theorem elemV.int {k : IntKind} {V : VT} {x : Int} {v : Value} (h : elemV false (intK k) V x v) : v = .int k x ∧ k.min ≤ x ∧ x ≤ k.max := by
  obtain ⟨cs, ⟨rfl, hr⟩, rfl⟩ := h
  exact ⟨rfl, hr⟩
theorem elemV.of_int {k : IntKind} {V : VT} {x : Int} (h : k.min ≤ x ∧ x ≤ k.max) : elemV false (intK k) V x (.int k x) := ⟨[_], ⟨rfl, h⟩, rfl⟩
end
end Go.Vk
