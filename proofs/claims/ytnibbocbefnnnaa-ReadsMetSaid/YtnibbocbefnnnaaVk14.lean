import Derived.Test.YtnibbocbefnnnaaVk13
import Derived.Shelf.Spec.SlicesInsert
import Derived.Shelf.Spec.SlicesInsertGrow
import Derived.Shelf.Slices.Delete
set_option linter.unusedVariables false
namespace Go.Vk
variable {D : List Deferred}
open Go.Proofs Go.Shelf Go.Sort
theorem reps_str {V : VT} : ∀ {l : List Str} {cs : List Value}, Reps strK V l cs → cs = l.map bs ∧ ∀ x, x ∈ l → x.length ≤ maxL
  | [], _, h => ⟨h, fun x hx => by cases hx⟩
  | x :: l, _, ⟨c1, c2, e, ⟨h1, h2⟩, h3⟩ => by
    obtain ⟨e3, k3⟩ := reps_str h3
    refine ⟨by rw [e, h1, e3]; rfl, fun y hy => ?_⟩
    rcases List.mem_cons.1 hy with rfl | hy
    · exact h2
    · exact k3 y hy
theorem reps_str_of {V : VT} : ∀ {l : List Str}, (∀ x, x ∈ l → x.length ≤ maxL) → Reps strK V l (l.map bs)
  | [], _ => rfl
  | x :: l, h => ⟨[bs x], l.map bs, rfl, ⟨rfl, h x (by simp)⟩, reps_str_of fun y hy => h y (List.mem_cons_of_mem _ hy)⟩
theorem stv_get : ∀ (vs : List Value) (cs : Array Value) (o k : Nat), (stv cs o vs)[k]? = if o ≤ k ∧ k < o + vs.length ∧ k < cs.size then vs[k - o]? else cs[k]?
  | [], cs, o, k => by rw [if_neg (by simp; omega)]; rfl
  | v :: vs, cs, o, k => by
    rw [stv, stv_get vs, List.length_cons, Array.size_setIfInBounds, Array.getElem?_setIfInBounds]
    by_cases h1 : o = k
    · subst h1
      rw [if_neg (by omega), if_pos rfl]
      by_cases h2 : o < cs.size
      · rw [if_pos h2, if_pos (by omega), Nat.sub_self]; rfl
      · rw [if_neg h2, if_neg (by omega), Array.getElem?_eq_none (by omega)]
    · rw [if_neg h1]
      by_cases h2 : o ≤ k ∧ k < o + (vs.length + 1) ∧ k < cs.size
      · rw [if_pos h2, if_pos (by omega), show k - o = k - (o + 1) + 1 by omega, List.getElem?_cons_succ]
      · rw [if_neg h2, if_neg (by omega)]
theorem setCells_facts (b : Nat) : ∀ (vs : List Value) (o : Nat) (w : World), (w.setCells b o vs).os = w.os ∧ (w.setCells b o vs).tape = w.tape ∧ (w.setCells b o vs).output = w.output ∧ (w.setCells b o vs).heap.size = w.heap.size ∧ (∀ k, k ≠ b → (w.setCells b o vs).heap[k]? = w.heap[k]?) ∧ ∀ cs t fr, w.heap[b]? = some (.cells cs t fr) → (w.setCells b o vs).heap[b]? = some (.cells (stv cs o vs) t fr)
  | [], o, w => ⟨rfl, rfl, rfl, rfl, fun _ _ => rfl, fun _ _ _ h => h⟩
  | v :: vs, o, w => by
    obtain ⟨h1, h2, h3, h4, h5, h6⟩ := setCells_facts b vs (o + 1) (w.setCell ⟨b, o, none⟩ v)
    rw [World.setCells]
    refine ⟨h1, h2, h3, h4.trans (by simp [World.setCell]), fun k hk => (h5 k hk).trans (setCell_other w b o k v hk), fun cs t fr h => ?_⟩
    exact h6 _ t fr (setCell_heap h o v)
theorem ins_get {α : Type} (l : List α) (y : α) {i : Nat} (hi : i ≤ l.length) (k : Nat) : (l.take i ++ [y] ++ l.drop i)[k]? = if k < i then l[k]? else if k = i then some y else l[k - 1]? := by
  have hl : (l.take i).length = i := by simp; omega
  by_cases h1 : k < i
  · rw [if_pos h1, List.append_assoc, List.getElem?_append_left (by omega), List.getElem?_take, if_pos h1]
  · rw [if_neg h1, List.append_assoc, List.getElem?_append_right (by omega), hl]
    by_cases h2 : k = i
    · subst h2; simp
    · rw [if_neg h2, List.getElem?_append_right (by simp; omega)]
      simp only [List.length_cons, List.length_nil, List.getElem?_drop]
      congr 1
      omega
/-- A row of texts anew. -/
theorem row_res {V : VT} {w w' : World} {E0 : List Ent} {e : TypeId} {g cap : Nat} {cur : Array Value} {l : List Str} (hS : St V w E0) (h1 : w'.os = w.os) (h2 : w'.tape = w.tape) (h3 : w'.output = w.output) (h4 : w.heap.size ≤ w'.heap.size)
    (hfr : ∀ b, b < w.heap.size → b ∉ foot E0 → w'.heap[b]? = w.heap[b]?) (hg : w'.heap[g]? = some (.cells cur e (0, 0))) (hcap : l.length ≤ cap) (hcm : cap ≤ maxLen) (hsz : cur.size = cap) (hm : l.length ≤ maxL) (hlen : ∀ x, x ∈ l → x.length ≤ maxL)
    (htk : ∀ k, k < l.length → cur[k]? = (l.map bs)[k]?) (hft : g ∈ foot E0 ∨ w.heap.size ≤ g) : Step V w E0 V w' [.row strK e (some ⟨g, 0, none⟩) cap l] := by
  refine Step.mk_ent hS h1 h2 h3 h4 hfr ?_ (fun b hb => ?_) (by simp [foot, Ent.foot])
  · intro en hen
    simp at hen
    subst hen
    refine ⟨l.map bs, reps_str_of hlen, hm, by simp [strK], .inr ⟨g, cap, cur, rfl, Nat.zero_le _, hg, hcap, hcm, by simp [strK, hsz], ?_⟩⟩
    refine List.ext_getElem? fun k => ?_
    show (cur.toList.take (l.length * 1))[k]? = _
    rw [Nat.mul_one, List.getElem?_take]
    by_cases hk : k < l.length
    · rw [if_pos hk, ← htk k hk, Array.getElem?_toList]
    · rw [if_neg hk, List.getElem?_eq_none (by simp; omega)]
  · simp [foot, Ent.foot] at hb
    subst hb
    exact hft
/-- What a row of texts is. -/
theorem row_open {V : VT} {w : World} {e : TypeId} {A : Option Addr} {c : Nat} {l : List Str} (h : Ent.holds V w (.row strK e A c l)) : (∀ x, x ∈ l → x.length ≤ maxL) ∧ l.length ≤ maxL ∧ l.length ≤ c ∧ ((A = none ∧ c = 0 ∧ l = []) ∨ ∃ g cur, A = some ⟨g, 0, none⟩ ∧ w.heap[g]? = some (.cells cur e (0, 0)) ∧ c ≤ maxLen ∧ cur.size = c ∧ ∀ k, k < l.length → cur[k]? = (l.map bs)[k]?) := by
  obtain ⟨cs, hr, hm, ho⟩ := h
  obtain ⟨rfl, hx⟩ := reps_str hr
  rcases ho.2 with ⟨hv, h0⟩ | ⟨g, cap, cur, hv, _, hg, hn, hc, hs, ht⟩
  · injection hv with e1 e2 e3
    subst e1; subst e3
    have : l = [] := List.eq_nil_of_length_eq_zero h0
    subst this
    exact ⟨hx, hm, by simp, .inl ⟨rfl, rfl, rfl⟩⟩
  · injection hv with e1 e2 e3
    subst e1; subst e3
    refine ⟨hx, hm, hn, .inr ⟨g, cur, rfl, hg, hc, by simpa [strK] using hs, fun k hk => ?_⟩⟩
    rw [← ht]
    show _ = (cur.toList.take (l.length * 1))[k]?
    rw [Nat.mul_one, List.getElem?_take, if_pos hk, Array.getElem?_toList]
section
variable {P : Program} {ρ : Ren}
theorem ins_row (L : Lays2.n22 P ρ) {V : VT} {w : World} {A A2 : Option Addr} {c c2 i : Nat} {l : List Str} {y : Str} (hS : St V w [.row strK (ρ.t 9) A c l, .row strK (ρ.t 9) A2 c2 [y]]) (hi : i ≤ l.length) (hb : (l.length + 1) * 16 ≤ 140737488355328) :
    Calls P (ρ.f 22) #[.slice A l.length c, .int .i64 (i : Int), .slice A2 1 c2] w (Ret V w [.row strK (ρ.t 9) A c l, .row strK (ρ.t 9) A2 c2 [y]] fun rv V' E' => ∃ A' c', rv = .slice A' (l.take i ++ [y] ++ l.drop i).length c' ∧ E' = [.row strK (ρ.t 9) A' c' (l.take i ++ [y] ++ l.drop i)]) := by
  obtain ⟨hx, hm, hlc, h1⟩ := row_open (hS.holds (.row strK (ρ.t 9) A c l) (by simp))
  obtain ⟨hy, _, _, h2⟩ := row_open (hS.holds (.row strK (ρ.t 9) A2 c2 [y]) (by simp))
  rcases h2 with ⟨_, _, h2⟩ | ⟨g2, cur2, rfl, hg2, hc2, hs2, ht2⟩
  · cases h2
  have hyl : y.length ≤ maxL := hy y (by simp)
  have hlen' : (l.take i ++ [y] ++ l.drop i).length = l.length + 1 := by simp; omega
  have hx' : ∀ x, x ∈ l.take i ++ [y] ++ l.drop i → x.length ≤ maxL := by
    intro x hxm
    rcases List.mem_append.1 hxm with h | h
    · rcases List.mem_append.1 h with h | h
      · exact hx x (List.mem_of_mem_take h)
      · rw [List.mem_singleton.1 h]; exact hyl
    · exact hx x (List.mem_of_mem_drop h)
  have hmx' : (l.take i ++ [y] ++ l.drop i).length ≤ maxL := by rw [hlen']; unfold maxL; omega
  have hmap : ∀ k, ((l.take i ++ [y] ++ l.drop i).map bs)[k]? = if k < i then (l.map bs)[k]? else if k = i then some (bs y) else (l.map bs)[k - 1]? := by
    intro k
    rw [List.map_append, List.map_append, List.map_take, List.map_drop]
    exact ins_get (l.map bs) (bs y) (by simpa using hi) k
  have hvs : ∀ j v, ([bs y] : List Value)[j]? = some v → w.cell? ⟨g2, 0 + j, none⟩ = some v := by
    intro j v hj
    have hj0 : j = 0 := by have := (List.getElem?_eq_some_iff.1 hj).1; simp at this; exact this
    subst hj0
    rw [cell_of_blk hg2, ht2 _ (by simp)]; exact hj
  have h1v : ∀ v ∈ ([bs y] : List Value), v.oneCell' = true := fun v hv => by rw [List.mem_singleton.1 hv]; rfl
  have h1c : ∀ v ∈ l.map bs, v.oneCell' = true := fun v hv => by obtain ⟨x, _, rfl⟩ := List.mem_map.1 hv; rfl
  have grown : ∀ k, k < l.length + 1 → ∀ (X : Array Value), X.size = l.length + 1 → (∀ j, j < l.length + 1 → X[j]? = ((l.take i ++ [y] ++ l.drop i).map bs)[j]?) → True := fun _ _ _ _ _ => trivial
  have hzlen : ∀ m, (Builtin.zeroCells (Value.string ⟨#[]⟩).cells m).size = m := fun m => by rw [size_zeroCells]; show m * 1 = m; omega
  -- a new row
  have fresh : ∀ (w' : World) (cap : Nat) (cur : Array Value), w'.os = w.os → w'.tape = w.tape → w'.output = w.output → w.heap.size ≤ w'.heap.size → (∀ b, b < w.heap.size → w'.heap[b]? = w.heap[b]?) → w'.heap[w.heap.size]? = some (.cells cur (ρ.t 9) (0, 0)) → l.length + 1 ≤ cap → cap ≤ maxLen → cur.size = cap →
      (∀ k, k < l.length + 1 → cur[k]? = ((l.take i ++ [y] ++ l.drop i).map bs)[k]?) → Ret V w [.row strK (ρ.t 9) A c l, .row strK (ρ.t 9) (some ⟨g2, 0, none⟩) c2 [y]] (fun rv V' E' => ∃ A' c', rv = .slice A' (l.take i ++ [y] ++ l.drop i).length c' ∧ E' = [.row strK (ρ.t 9) A' c' (l.take i ++ [y] ++ l.drop i)]) (.returned (.slice (some ⟨w.heap.size, 0, none⟩) (l.length + 1) cap)) w' := by
    intro w' cap cur a1 a2 a3 a4 a5 a6 a7 a8 a9 a10
    refine ⟨_, V, _, rfl, row_res hS a1 a2 a3 a4 (fun b hb _ => a5 b hb) a6 (by omega) a8 a9 hmx' hx' (by rw [hlen']; exact a10) (.inr (Nat.le_refl _)), _, _, by rw [hlen'], rfl⟩
  by_cases hil : i = l.length
  · subst hil
    by_cases hroom : l.length + 1 ≤ c
    · rcases h1 with ⟨_, rfl, _⟩ | ⟨g, cur, rfl, hg, hcm, hs, ht⟩
      · omega
      refine (Any2.slices_Insert_string_end_room L g 0 l.length c g2 0 1 c2 [bs y] w (by omega) hroom (by rw [maxLen_eq] at hcm; omega) rfl ?_ ?_ hvs h1v).mono fun e w' hr => ?_
      · intro j hj
        rw [cell_of_blk hg]
        simp; omega
      · intro j hj; simp [World.frozen?, hg]
      · obtain ⟨rfl, rfl⟩ := hr
        obtain ⟨k1, k2, k3, k4, k5, k6⟩ := setCells_facts g [bs y] (0 + l.length) w
        refine ⟨_, V, _, rfl, row_res hS k1 k2 k3 (by omega) (fun b _ hne => k5 b (by simp [foot, Ent.foot] at hne; exact hne.1)) (k6 _ _ _ hg) (by omega) hcm (by rw [stv_size]; exact hs) hmx' hx' ?_ (.inl (by simp [foot, Ent.foot])), _, _, by rw [hlen'], rfl⟩
        intro k hk
        rw [hlen'] at hk
        rw [hmap, stv_get]
        by_cases hk2 : k = l.length
        · subst hk2
          rw [if_pos ⟨by omega, by simp, by omega⟩, if_neg (by omega), if_pos rfl]; simp
        · rw [if_neg (by simp; omega), if_pos (by omega), ht k (by omega)]
    · refine (Any2.slices_Insert_string_end_grow L A l.length c g2 0 1 c2 (l.map bs) [bs y] w (by omega) hlc (by omega) hb (by simp) rfl ?_ ?_ hvs h1v).mono fun e w' hr => ?_
      · rintro rfl
        rcases h1 with ⟨_, _, rfl⟩ | ⟨g, cur, h, _⟩
        · rfl
        · cases h
      · rintro a rfl j v hj
        rcases h1 with ⟨h, _⟩ | ⟨g, cur, h, hg, hcm, hs, ht⟩
        · cases h
        · cases h
          rw [addr_add, Nat.zero_add, cell_of_blk hg, ht j (by have := (List.getElem?_eq_some_iff.1 hj).1; simpa using this)]; exact hj
      · obtain ⟨rfl, rfl⟩ := hr
        have hge := grownCap_ge w (l.length + 1) c (ρ.t 9)
        refine fresh _ _ _ rfl rfl rfl (by simp) (fun b hb => heap_alloc_old w.drew _ hb) (heap_alloc_new w.drew _) hge (grownCap_le_maxLen w _ _ _ (by rw [maxLen_eq]; omega)) ?_ ?_
        · simp only [Array.size_append, hzlen, List.size_toArray, List.length_append, List.length_map, List.length_cons, List.length_nil]; omega
        · intro k hk
          rw [hmap, Array.getElem?_append_left (by simp; omega), List.getElem?_toArray]
          by_cases hk2 : k = l.length
          · subst hk2
            rw [if_neg (by omega), if_pos rfl, List.getElem?_append_right (by simp)]; simp
          · rw [if_pos (by omega), List.getElem?_append_left (by simp; omega)]
  · rcases h1 with ⟨_, _, rfl⟩ | ⟨g, cur, rfl, hg, hcm, hs, ht⟩
    · simp at hi hil; omega
    have hcs : ∀ j v, (l.map bs)[j]? = some v → w.cell? ⟨g, 0 + j, none⟩ = some v := by
      intro j v hj
      rw [cell_of_blk hg, Nat.zero_add, ht j (by have := (List.getElem?_eq_some_iff.1 hj).1; simpa using this)]; exact hj
    have hne : g2 ≠ g := by
      have nd := hS.nodup
      simp [foot, Ent.foot] at nd
      exact fun e => nd e.symm
    by_cases hroom : l.length + 1 ≤ c
    · refine (Any2.slices_Insert_string_shift L g 0 l.length c i g2 0 1 c2 (l.map bs) [bs y] w (by omega) (by omega) hroom (by rw [maxLen_eq] at hcm; omega) hne (by simp) rfl hcs ?_ ?_ hvs h1c h1v (ρ.t 9) (ρ.t 9) c2 c ?_ ?_ (by omega) (by simp [World.frozen?, hg2]) (by simp [World.frozen?, hg2])).mono fun e w' hr => ?_
      · intro j hj
        rw [cell_of_blk hg]
        simp; omega
      · intro j hj; simp [World.frozen?, hg]
      · simp [World.shape?, hg2, hs2]
      · simp [World.shape?, hg, hs]
      · obtain ⟨rfl, rfl⟩ := hr
        obtain ⟨k1, k2, k3, k4, k5, k6⟩ := setCells_facts g ((l.map bs).drop i) (0 + (i + 1)) w.drew
        obtain ⟨m1, m2, m3, m4, m5, m6⟩ := setCells_facts g [bs y] (0 + i) (w.drew.setCells g (0 + (i + 1)) ((l.map bs).drop i))
        refine ⟨_, V, _, rfl, row_res hS (m1.trans k1) (m2.trans k2) (m3.trans k3) (by rw [m4, k4]; exact Nat.le_refl _) (fun b _ hne => by have hb : b ≠ g := (by simp [foot, Ent.foot] at hne; exact hne.1); exact (m5 b hb).trans (k5 b hb)) (m6 _ _ _ (k6 _ _ _ hg)) (by omega) hcm (by rw [stv_size, stv_size]; exact hs) hmx' hx' ?_ (.inl (by simp [foot, Ent.foot])), _, _, by rw [hlen'], rfl⟩
        intro k hk
        rw [hlen'] at hk
        rw [hmap, stv_get, stv_get, stv_size]
        have hdl : ((l.map bs).drop i).length = l.length - i := by simp
        by_cases hk2 : k = i
        · subst hk2
          rw [if_pos ⟨by omega, by simp, by omega⟩, if_neg (by omega), if_pos rfl]; simp
        · rw [if_neg (by simp; omega)]
          by_cases hk3 : k < i
          · rw [if_neg (by omega), if_pos hk3, ht k (by omega)]
          · rw [if_pos ⟨by omega, by omega, by omega⟩, if_neg hk3, if_neg hk2, List.getElem?_drop]
            congr 1
            omega
    · refine (Any2.slices_Insert_string_grow L g 0 l.length c i g2 0 1 c2 (l.map bs) [bs y] w (by omega) (by omega) hlc (by omega) hb (by simp) rfl hcs hvs h1c h1v).mono fun e w' hr => ?_
      obtain ⟨rfl, rfl⟩ := hr
      have hge := grownCap_ge w (l.length + 1) c (ρ.t 9)
      generalize hX : (((l.map bs).take i).toArray ++ Builtin.zeroCells (Value.string ⟨#[]⟩).cells (l.length + 1 - i) ++ Builtin.zeroCells (Value.string ⟨#[]⟩).cells (grownCap w (l.length + 1) c (ρ.t 9) - (l.length + 1))) = X
      have hXs : X.size = grownCap w (l.length + 1) c (ρ.t 9) := by
        rw [← hX]
        simp only [Array.size_append, hzlen, List.size_toArray, List.length_take, List.length_map]; omega
      have hw : (w.alloc (.cells X (ρ.t 9))).drew.heap[w.heap.size]? = some (.cells X (ρ.t 9) (0, 0)) := heap_alloc_new w _
      obtain ⟨k1, k2, k3, k4, k5, k6⟩ := setCells_facts w.heap.size [bs y] i (w.alloc (.cells X (ρ.t 9))).drew
      obtain ⟨m1, m2, m3, m4, m5, m6⟩ := setCells_facts w.heap.size ((l.map bs).drop i) (i + 1) ((w.alloc (.cells X (ρ.t 9))).drew.setCells w.heap.size i [bs y]).drew
      refine fresh _ _ _ (m1.trans k1) (m2.trans k2) (m3.trans k3) ?_ (fun b hb => ?_) (m6 _ _ _ (k6 _ _ _ hw)) hge (grownCap_le_maxLen w _ _ _ (by rw [maxLen_eq]; omega)) (by rw [stv_size, stv_size]; exact hXs) ?_
      · rw [m4]
        show w.heap.size ≤ ((w.alloc (.cells X (ρ.t 9))).drew.setCells w.heap.size i [bs y]).heap.size
        rw [k4]
        show w.heap.size ≤ (w.heap.push _).size
        simp
      · exact (m5 b (by omega)).trans ((k5 b (by omega)).trans (heap_alloc_old w _ hb))
      · intro k hk
        have hdl : ((l.map bs).drop i).length = l.length - i := by simp
        rw [hmap, stv_get, stv_get, stv_size]
        by_cases hk2 : k = i
        · subst hk2
          rw [if_neg (by omega), if_pos ⟨by omega, by simp, by omega⟩, if_neg (by omega), if_pos rfl]; simp
        · by_cases hk3 : k < i
          · rw [if_neg (by omega), if_neg (by omega), if_pos hk3, ← hX, Array.append_assoc, Array.getElem?_append_left (by simp; omega), List.getElem?_toArray, List.getElem?_take, if_pos hk3]
          · rw [if_pos ⟨by omega, by omega, by omega⟩, if_neg hk3, if_neg hk2, List.getElem?_drop]
            congr 1
            omega
theorem del_row (L : Lays2.n24 P ρ) {V : VT} {w : World} {A : Option Addr} {c i j : Nat} {l : List Str} (hS : St V w [.row strK (ρ.t 9) A c l]) (hij : i < j) (hj : j ≤ l.length) :
    Calls P (ρ.f 24) #[.slice A l.length c, .int .i64 (i : Int), .int .i64 (j : Int)] w (Ret V w [.row strK (ρ.t 9) A c l] fun rv V' E' => ∃ A' c', rv = .slice A' (l.take i ++ l.drop j).length c' ∧ E' = [.row strK (ρ.t 9) A' c' (l.take i ++ l.drop j)]) := by
  obtain ⟨hx, hm, hlc, h1⟩ := row_open (hS.holds (.row strK (ρ.t 9) A c l) (by simp))
  rcases h1 with ⟨_, _, rfl⟩ | ⟨g, cur, rfl, hg, hcm, hs, ht⟩
  · simp at hj; omega
  have hlen' : (l.take i ++ l.drop j).length = l.length - (j - i) := by simp; omega
  refine (Any.slices_Delete_string L g 0 c i j l w ?_ hlc (by rw [maxLen_eq] at hcm; omega) (by omega) hj).mono fun e w' hr => ?_
  · intro k hk
    have hk' : k < l.length := by simpa using hk
    refine ⟨?_, by simp [World.frozen?, hg]⟩
    rw [cell_of_blk hg, Nat.zero_add, ht k hk', List.getElem?_map]
    have : l[k]? = some l.toArray[k]! := by
      rw [getElem!_pos _ k hk]; simp [hk']
    rw [this]; rfl
  · obtain ⟨rfl, q, rfl⟩ := hr
    have hgq : (putRow encStr (Sort.ahead w q) g 0 (l.take i ++ l.drop j ++ List.replicate (j - i) []).toArray).heap[g]? = some (.cells (putCells encStr 0 (l.take i ++ l.drop j ++ List.replicate (j - i) []).toArray cur) (ρ.t 9) (0, 0)) := by
      simp only [putRow, mapBlock, Sort.ahead, Array.getElem?_modify, if_true, hg, Option.map_some, onCells]
    refine ⟨_, V, _, rfl, row_res hS rfl rfl rfl (by simp [putRow, mapBlock, Sort.ahead]) (fun b _ hne => ?_) hgq (by omega) hcm (by simp only [putCells, Array.size_mapIdx]; exact hs) (by omega) ?_ ?_ (.inl (by simp [foot, Ent.foot])), _, _, by rw [hlen'], rfl⟩
    · simp only [putRow, mapBlock, Sort.ahead, Array.getElem?_modify]
      rw [if_neg (by simp [foot, Ent.foot] at hne; exact fun e => hne e.symm)]
    · intro x hxm
      rcases List.mem_append.1 hxm with h | h
      · exact hx x (List.mem_of_mem_take h)
      · exact hx x (List.mem_of_mem_drop h)
    · intro k hk
      have hdl : (l.take i ++ l.drop j ++ List.replicate (j - i) ([] : Str)).length = l.length := by simp; omega
      simp only [putCells, Array.getElem?_mapIdx]
      rw [Array.getElem?_eq_getElem (by omega), Option.map_some, if_pos ⟨by omega, by rw [List.size_toArray]; omega⟩, Nat.sub_zero, List.getElem?_map]
      have : (l.take i ++ l.drop j)[k]? = some (l.take i ++ l.drop j ++ List.replicate (j - i) []).toArray[k]! := by
        have h0 : (l.take i ++ l.drop j ++ List.replicate (j - i) ([] : Str))[k]? = (l.take i ++ l.drop j)[k]? := List.getElem?_append_left hk
        rw [getElem!_pos _ k (by rw [List.size_toArray]; omega), ← Array.getElem?_eq_getElem (by rw [List.size_toArray]; omega), List.getElem?_toArray, h0]
      rw [this]; rfl
end
section
variable {P : Program} {ops : Array Oper} {Q : Exit → Act → World → Prop} {n i : Nat} {L : List (Nat × Value)} {g : Nat → Value} {w : World}
theorem wpF_indexW {V0 V : VT} {w0 : World} {E0 E : List Ent} {A : Option Addr} {c : Nat} {xs : List Str} {t e e' : TypeId} {x y : Operand} {d : Option Nat} (hM : Step V0 w0 E0 V w E) (j : Nat) (hj : E[j]? = some (.row strK e A c xs)) (ik : IntKind) (a : Int)
    (h : opAt ops n L g i = some (.indexAddr t x y, d)) (ht : elemTy P t = some (e', 1)) (hx : opv n L g x = .slice A xs.length c) (hy : opv n L g y = .int ik a) (m : Nat) (hm : a = (m : Int)) (hl : m < xs.length)
    (k : ∀ b, A = some ⟨b, 0, none⟩ → wpF P ops Q (i + 1) (env D n (pt d (.pointer (some ⟨b, m, none⟩)) L) g) w) : wpF P ops Q i (env D n L g) w := by
  obtain ⟨_, _, _, h1⟩ := row_open (hM.ok.holds _ (List.mem_of_getElem? hj))
  rcases h1 with ⟨_, _, rfl⟩ | ⟨b, cur, rfl, _⟩
  · simp at hl
  refine wpF_value (v := .pointer (some ⟨b, m, none⟩)) (w' := w) h (fun op ho => ?_) (k b rfl)
  obtain ⟨hu, hz⟩ := elemTy_ok ht
  subst hm
  unfold execOp
  simp [ho, hx, hy, Instr.indexAt, asIntOf, run_underlying hu, run_sz (w := w) hz, hl, addr_add]
theorem wpF_storeW {V0 V : VT} {w0 : World} {E0 E : List Ent} {A : Option Addr} {c : Nat} {xs : List Str} {t e : TypeId} {x y : Operand} {d : Option Nat} {b m : Nat} (hM : Step V0 w0 E0 V w E) (j : Nat) (hj : E[j]? = some (.row strK e A c xs)) (hA : A = some ⟨b, 0, none⟩)
    (h : opAt ops n L g i = some (.store t x y, d)) (hx : opv n L g x = .pointer (some ⟨b, m, none⟩)) (s : Str) (hy : opv n L g y = bs s) (hs : s.length ≤ maxL) (hz : szOf P t = some 1) (hl : m < xs.length)
    (k : ∀ w', Step V0 w0 E0 V w' (E.set j (.row strK e A c (xs.set m s))) → wpF P ops Q (i + 1) (env D n (pt d undef L) g) w') : wpF P ops Q i (env D n L g) w := by
  subst hA
  have hf := hM.front j hj
  have hpart : St V w [.row strK e (some ⟨b, 0, none⟩) c xs] := St.part (F := E.eraseIdx j) hf.ok
  obtain ⟨hx1, hm1, hc1, h1⟩ := row_open (hpart.holds _ (List.mem_singleton.2 rfl))
  rcases h1 with ⟨h0, _⟩ | ⟨b', cur, hb, hg, hcm, hsz, ht⟩
  · cases h0
  cases hb
  have hS1 : Step V w [.row strK e (some ⟨b, 0, none⟩) c xs] V w [.blk b (.cells cur e)] := Step.mk_ent hpart rfl rfl rfl (Nat.le_refl _) (fun _ _ _ => rfl) (fun en hen => by simp at hen; subst hen; exact hg) (fun k hk => .inl (by simpa [foot, Ent.foot] using hk)) (by simp [foot, Ent.foot])
  obtain ⟨w', hr, hs2⟩ := run_storeCells_blk (P := P) [bs s] cur m 0 w hS1.ok (fun v hv => by rw [List.mem_singleton.1 hv]; rfl) (by simp; omega)
  have hg2 : w'.heap[b]? = some (.cells (stv cur m [bs s]) e) := hs2.ok.holds (.blk b (.cells (stv cur m [bs s]) e)) (by simp)
  have hS3 : Step V w' [.blk b (.cells (stv cur (m + 0) [bs s]) e)] V w' [.row strK e (some ⟨b, 0, none⟩) c (xs.set m s)] := by
    refine row_res hs2.ok rfl rfl rfl (Nat.le_refl _) (fun _ _ _ => rfl) hg2 (by simpa using hc1) hcm (by rw [stv_size]; exact hsz) (by simpa using hm1) (fun z hz => ?_) (fun q hq => ?_) (.inl (by simp [foot, Ent.foot]))
    · rcases List.mem_or_eq_of_mem_set hz with h | h
      · exact hx1 z h
      · rw [h]; exact hs
    · rw [List.length_set] at hq
      rw [stv_get, List.map_set]
      by_cases e1 : q = m
      · subst e1
        rw [if_pos ⟨by omega, by simp, by omega⟩, List.getElem?_set, if_pos rfl, if_pos (by simpa using hq)]; simp
      · rw [if_neg (by simp; omega), ht q hq, List.getElem?_set, if_neg (fun e => e1 e.symm)]
  have h1 := Step.call (Ei := [.row strK e (some ⟨b, 0, none⟩) c xs]) (Eo := [.blk b (.cells cur e)]) hf hS1
  have h2 := Step.call (Ei := [.blk b (.cells cur e)]) (F := E.eraseIdx j) h1 hs2
  have h3 := Step.call (Ei := [.blk b (.cells (stv cur (m + 0) [bs s]) e)]) (F := E.eraseIdx j) h2 hS3
  refine wpF_unit (w' := w') h ?_ (k w' (h3.perm (eraseIdx_set_perm E j _ _ hj)))
  intro o ho
  unfold execOp
  rw [ho]
  have hyc : (opv n L g y).cells = #[bs s] := by rw [hy]; rfl
  simp [Instr.storeAt, hx, Instr.sureAddr, storeVar, run_sz (w := w) hz, hyc, hr]
end
end Go.Vk
