import Derived.Test.YtnibbocbefnnnaaRMathSq
set_option linter.unusedVariables false
set_option linter.unusedSimpArgs false
set_option linter.unnecessarySimpa false
namespace Go.Vk
def itOk (la : Int) (p : Item) : Prop := p.1.length ≤ 128 ∧ p.2 ≠ [] ∧ chnB p.2 = true ∧ (p.2.getD 0 (0, [], false)).1 ≤ la
theorem itOk_mono {la lb : Int} {p : Item} (h : itOk la p) (hl : la ≤ lb) : itOk lb p := ⟨h.1, h.2.1, h.2.2.1, by have := h.2.2.2; omega⟩
theorem ldB_iff {L : List Item} {la ma : Int} : ldB L la ma = true ↔ (0 ≤ la ∧ la ≤ 1152921504606846976 ∧ 0 ≤ ma ∧ ma ≤ la) ∧ UP (keysOf L) ∧ ∀ p, p ∈ L → itOk la p := by
  constructor
  · intro h
    refine ⟨ld_rng h, (ld_spi h).1, fun p hp => ?_⟩
    simp only [ldB, Bool.and_eq_true] at h
    obtain ⟨i, hi, rfl⟩ := mem_getD ([], []) hp
    have := ldK_iff.1 h.2 i hi
    unfold mayB at this
    simp only [Bool.and_eq_true, Bool.or_eq_true, decide_eq_true_eq] at this
    obtain ⟨⟨⟨⟨h1, _⟩, h3⟩, h4⟩, h5⟩ := this
    exact ⟨by omega, fun e => by rw [e] at h3; simp at h3, h4, h5⟩
  · rintro ⟨hr, hu, hi⟩
    simp only [ldB, Bool.and_eq_true]
    refine ⟨?_, ldK_iff.2 fun i hi' => ?_⟩
    · simp only [ldR, Bool.and_eq_true, Bool.not_eq_true', decide_eq_false_iff_not]; omega
    · obtain ⟨h1, h2, h3, h4⟩ := hi _ (getD_mem (d := ([], [])) hi')
      refine may_yes (by omega) ?_ (fun e => h2 (List.eq_nil_of_length_eq_zero (by omega))) h3 (by omega)
      by_cases h0 : i = 0
      · left; exact decide_eq_true (by omega)
      · right
        rw [ahead_pos (by omega)]
        refine decide_eq_true ?_
        have := (pair_getD []).1 hu (i - 1) i (by omega) (by rw [len_keys]; exact hi')
        rwa [keys_getD, keys_getD] at this
theorem mem_setL {L : List Item} {k : Str} {v : List Ver} {p : Item} (h : p ∈ setL L k v) : p ∈ L ∨ (p = (k, v) ∧ v ≠ []) := by
  unfold setL at h
  by_cases h0 : v.length = 0
  · rw [decide_eq_true h0, cond_true] at h
    exact .inl (List.mem_filter.1 h).1
  · rw [decide_eq_false h0, cond_false] at h
    have : ∀ {L : List Item}, p ∈ putL L k v → p ∈ L ∨ p = (k, v) := by
      intro L
      induction L with
      | nil => intro h; rw [putL] at h; exact .inr (by simpa using h)
      | cons q L ih =>
        intro h
        rw [putL] at h
        split at h
        · rcases List.mem_cons.1 h with e | e
          · exact .inl (by rw [e]; exact List.mem_cons_self)
          · exact (ih e).imp (List.mem_cons_of_mem _) id
        · split at h
          · rcases List.mem_cons.1 h with e | e
            · exact .inr e
            · exact .inl (List.mem_cons_of_mem _ e)
          · rcases List.mem_cons.1 h with e | e
            · exact .inr e
            · exact .inl e
    exact (this h).imp id fun e => ⟨e, fun e2 => h0 (by rw [e2]; rfl)⟩
theorem lkD_mem {L : List Item} {y : Str} (h : lkD y L ≠ []) : (y, lkD y L) ∈ L := by
  by_cases hm : y ∈ keysOf L
  · have : ∀ L : List Item, y ∈ keysOf L → (y, lkD y L) ∈ L := by
      intro L
      induction L with
      | nil => intro h; simp [keysOf] at h
      | cons p L ih =>
        intro hy
        unfold lkD; rw [lk]
        by_cases e : p.1 = y
        · rw [if_pos e]; rw [← e]; exact List.mem_cons_self
        · rw [if_neg e]
          rw [keys_cons] at hy
          exact List.mem_cons_of_mem _ (ih ((List.mem_cons.1 hy).resolve_left (fun e2 => e e2.symm)))
    exact this L hm
  · exact absurd (by unfold lkD; rw [lk_none_of hm]; rfl) h
theorem chn_cons {v : Ver} {l : List Ver} (h1 : verB v.1 v.2.1 v.2.2 = true) (h2 : chnB l = true) (h3 : l = [] ∨ (l.getD 0 (0, [], false)).1 < v.1) : chnB (v :: l) = true := by
  refine chnK_iff.2 fun i hi => ?_
  cases i with
  | zero => exact ⟨by simpa using h1, .inl rfl⟩
  | succ i =>
    rw [List.getD_cons_succ]
    have hi' : i < l.length := by simpa using hi
    obtain ⟨h4, h5⟩ := chnK_iff.1 h2 i hi'
    refine ⟨h4, .inr ?_⟩
    rw [Nat.add_sub_cancel]
    cases i with
    | zero =>
      rw [List.getD_cons_zero]
      refine h3.resolve_left fun e => ?_
      rw [e] at hi'; exact absurd hi' (Nat.lt_irrefl _)
    | succ i =>
      rw [List.getD_cons_succ]
      have := h5.resolve_left (by omega)
      rwa [Nat.add_sub_cancel] at this
theorem add_item {l : List Ver} {t la : Int} {s : Str} {d : Bool} (hc : chnB l = true) (hl : l = [] ∨ (l.getD 0 (0, [], false)).1 ≤ la) (h1 : la < t) (h0 : 0 ≤ la) (h2 : t ≤ 1152921504606846976) (hs : s.length ≤ 200) (hd : d = true → s = []) : addL l t s d = (t, s, d) :: l ∧ chnB ((t, s, d) :: l) = true := by
  have hv : verB t s d = true := by
    unfold verB
    simp only [Bool.and_eq_true, Bool.or_eq_true, decide_eq_true_eq, Bool.not_eq_true']
    refine ⟨⟨⟨by omega, by omega⟩, by omega⟩, ?_⟩
    cases d with
    | false => exact .inl rfl
    | true => exact .inr (hd rfl)
  have hlt : l = [] ∨ (l.getD 0 (0, [], false)).1 < t := hl.imp id (fun h => by omega)
  refine ⟨?_, chn_cons hv hc hlt⟩
  have := (add_ok (l := l) (t := t) (s := s) (d := d) hc hv (hlt.imp (fun e => by rw [e]; rfl) id)).1
  rw [this]; simp
theorem ld_app {L : List Item} {la ma t : Int} {l : List Chg} (h : ldB L la ma = true) (h1 : la < t) (h2 : t ≤ 1152921504606846976) (hf : fitB l = true) : ∀ i, i ≤ l.length → UP (keysOf (appK t L l i)) ∧ ∀ p, p ∈ appK t L l i → itOk t p
  | 0, _ => by
    obtain ⟨hr, hu, hi⟩ := ldB_iff.1 h
    exact ⟨hu, fun p hp => itOk_mono (hi p hp) (by omega)⟩
  | i + 1, hi => by
    obtain ⟨hu, ho⟩ := ld_app h h1 h2 hf i (by omega)
    obtain ⟨hr, hu0, hi0⟩ := ldB_iff.1 h
    obtain ⟨k1, k2, k3, k4⟩ := fitK_iff.1 hf i (by omega)
    rw [appK_step (by omega)]
    unfold appOne
    rw [lkD_appK (ld_spi h) _ i (by omega) k1]
    refine ⟨up_setL hu, fun p hp => ?_⟩
    rcases mem_setL hp with hp | ⟨rfl, _⟩
    · exact ho p hp
    · have hc : chnB (lkD (l.getD i ([], [], false)).1 L) = true ∧ (lkD (l.getD i ([], [], false)).1 L = [] ∨ ((lkD (l.getD i ([], [], false)).1 L).getD 0 (0, [], false)).1 ≤ la) := by
        by_cases e : lkD (l.getD i ([], [], false)).1 L = []
        · rw [e]; exact ⟨by decide, .inl rfl⟩
        · have := hi0 _ (lkD_mem e)
          exact ⟨this.2.2.1, .inr this.2.2.2⟩
      obtain ⟨e1, e2⟩ := add_item (d := (l.getD i ([], [], false)).2.2) hc.1 hc.2 h1 hr.1 h2 k3 k4
      show itOk t (_, addL _ _ _ _)
      rw [e1]
      exact ⟨k2, List.cons_ne_nil _ _, e2, Int.le_refl _⟩
theorem ld_appS {L : List Item} {la ma t : Int} {l : List Chg} (h : ldB L la ma = true) : ldB (appS t L la l) (appT t la l) ma = true := by
  unfold appS appT
  cases ha : appOk t la l with
  | false => exact h
  | true =>
    rw [cond_true, cond_true]
    unfold appOk at ha
    simp only [Bool.and_eq_true, Bool.not_eq_true', decide_eq_false_iff_not] at ha
    obtain ⟨⟨h1, h2⟩, hf⟩ := ha
    obtain ⟨hr, _, _⟩ := ldB_iff.1 h
    obtain ⟨hu, ho⟩ := ld_app (t := t) h (by omega) (by omega) hf l.length (Nat.le_refl _)
    rw [appK_all] at hu ho
    exact ldB_iff.2 ⟨by omega, hu, ho⟩
def wtn (f u k : Str) : Prop := ¬ k < f ∧ (u = [] ∨ k < u)
theorem wtn_iff {f u k : Str} : withinB f u k = true ↔ wtn f u k := by
  unfold withinB wtn
  simp only [Bool.and_eq_true, Bool.or_eq_true, Bool.not_eq_true', decide_eq_false_iff_not, decide_eq_true_eq]
end Go.Vk
