import Derived.Test.YtnibbocbefnnnaaRMathSq
set_option linter.unusedVariables false
set_option linter.unusedSimpArgs false
set_option linter.unnecessarySimpa false
namespace Go.Vk
def itOk (la : Int) (p : Item) : Prop := p.1.length ≤ 128 ∧ p.2 ≠ [] ∧ chnB p.2 = true ∧ (p.2.getD 0 (0, [], false)).1 ≤ la
theorem itOk_mono {la lb : Int} {p : Item} (h : itOk la p) (hl : la ≤ lb) : itOk lb p := ⟨h.1, h.2.1, h.2.2.1, by have := h.2.2.2; omega⟩
theorem ldB_iff {L : List Item} {la ma : Int} : ldB L la ma = true ↔ (0 ≤ la ∧ la ≤ 1152921504606846976 ∧ 0 ≤ ma ∧ ma ≤ la) ∧ UP (keysOf L) ∧ ∀ p, p ∈ L → itOk la p := by
  constructor
  · intro h
    refine ⟨ld_rng h, (ld_spi h).1, fun p hp => ?_⟩
    simp only [ldB, Bool.and_eq_true] at h
    obtain ⟨i, hi, rfl⟩ := mem_getD ([], []) hp
    have := ldK_iff.1 h.2 i hi
    unfold mayB at this
    simp only [Bool.and_eq_true, Bool.or_eq_true, decide_eq_true_eq] at this
    obtain ⟨⟨⟨⟨h1, _⟩, h3⟩, h4⟩, h5⟩ := this
    exact ⟨by omega, fun e => by rw [e] at h3; simp at h3, h4, h5⟩
  · rintro ⟨hr, hu, hi⟩
    simp only [ldB, Bool.and_eq_true]
    refine ⟨?_, ldK_iff.2 fun i hi' => ?_⟩
    · simp only [ldR, Bool.and_eq_true, Bool.not_eq_true', decide_eq_false_iff_not]; omega
    · obtain ⟨h1, h2, h3, h4⟩ := hi _ (getD_mem (d := ([], [])) hi')
      refine may_yes (by omega) ?_ (fun e => h2 (List.eq_nil_of_length_eq_zero (by omega))) h3 (by omega)
      by_cases h0 : i = 0
      · left; exact decide_eq_true (by omega)
      · right
        rw [ahead_pos (by omega)]
        refine decide_eq_true ?_
        have := (pair_getD []).1 hu (i - 1) i (by omega) (by rw [len_keys]; exact hi')
        rwa [keys_getD, keys_getD] at this
theorem mem_setL {L : List Item} {k : Str} {v : List Ver} {p : Item} (h : p ∈ setL L k v) : p ∈ L ∨ (p = (k, v) ∧ v ≠ []) := by
  unfold setL at h
  by_cases h0 : v.length = 0
  · rw [decide_eq_true h0, cond_true] at h
    exact .inl (List.mem_filter.1 h).1
  · rw [decide_eq_false h0, cond_false] at h
    have : ∀ {L : List Item}, p ∈ putL L k v → p ∈ L ∨ p = (k, v) := by
      intro L
      induction L with
      | nil => intro h; rw [putL] at h; exact .inr (by simpa using h)
      | cons q L ih =>
        intro h
        rw [putL] at h
        split at h
        · rcases List.mem_cons.1 h with e | e
          · exact .inl (by rw [e]; exact List.mem_cons_self)
          · exact (ih e).imp (List.mem_cons_of_mem _) id
        · split at h
          · rcases List.mem_cons.1 h with e | e
            · exact .inr e
            · exact .inl (List.mem_cons_of_mem _ e)
          · rcases List.mem_cons.1 h with e | e
            · exact .inr e
            · exact .inl e
    exact (this h).imp id fun e => ⟨e, fun e2 => h0 (by rw [e2]; rfl)⟩
theorem lkD_mem {L : List Item} {y : Str} (h : lkD y L ≠ []) : (y, lkD y L) ∈ L := by
  by_cases hm : y ∈ keysOf L
  · have : ∀ L : List Item, y ∈ keysOf L → (y, lkD y L) ∈ L := by
      intro L
      induction L with
      | nil => intro h; simp [keysOf] at h
      | cons p L ih =>
        intro hy
        unfold lkD; rw [lk]
        by_cases e : p.1 = y
        · rw [if_pos e]; rw [← e]; exact List.mem_cons_self
        · rw [if_neg e]
          rw [keys_cons] at hy
          exact List.mem_cons_of_mem _ (ih ((List.mem_cons.1 hy).resolve_left (fun e2 => e e2.symm)))
    exact this L hm
  · exact absurd (by unfold lkD; rw [lk_none_of hm]; rfl) h
theorem chn_cons {v : Ver} {l : List Ver} (h1 : verB v.1 v.2.1 v.2.2 = true) (h2 : chnB l = true) (h3 : l = [] ∨ (l.getD 0 (0, [], false)).1 < v.1) : chnB (v :: l) = true := by
  refine chnK_iff.2 fun i hi => ?_
  cases i with
  | zero => exact ⟨by simpa using h1, .inl rfl⟩
  | succ i =>
    rw [List.getD_cons_succ]
    have hi' : i < l.length := by simpa using hi
    obtain ⟨h4, h5⟩ := chnK_iff.1 h2 i hi'
    refine ⟨h4, .inr ?_⟩
    rw [Nat.add_sub_cancel]
    cases i with
    | zero =>
      rw [List.getD_cons_zero]
      refine h3.resolve_left fun e => ?_
      rw [e] at hi'; exact absurd hi' (Nat.lt_irrefl _)
    | succ i =>
      rw [List.getD_cons_succ]
      have := h5.resolve_left (by omega)
      rwa [Nat.add_sub_cancel] at this
theorem chn_take {l : List Ver} (h : chnB l = true) (n : Nat) : chnB (l.take n) = true := by
  refine chnK_iff.2 fun i hi => ?_
  rw [List.length_take] at hi
  have e : ∀ j, j ≤ i → (l.take n).getD j (0, [], false) = l.getD j (0, [], false) := fun j hj => by simp only [List.getD_eq_getElem?_getD, List.getElem?_take, if_pos (show j < n by omega)]
  rw [e i (Nat.le_refl _), e (i - 1) (by omega)]
  exact chnK_iff.1 h i (by omega)
theorem add_item {l : List Ver} {t la : Int} {s : Str} {d : Bool} (hc : chnB l = true) (hl : l = [] ∨ (l.getD 0 (0, [], false)).1 ≤ la) (h1 : la < t) (h0 : 0 ≤ la) (h2 : t ≤ 1152921504606846976) (hs : s.length ≤ 200) (hd : d = true → s = []) : addL l t s d = (t, s, d) :: l ∧ chnB ((t, s, d) :: l) = true := by
  have hv : verB t s d = true := by
    unfold verB
    simp only [Bool.and_eq_true, Bool.or_eq_true, decide_eq_true_eq, Bool.not_eq_true']
    refine ⟨⟨⟨by omega, by omega⟩, by omega⟩, ?_⟩
    cases d with
    | false => exact .inl rfl
    | true => exact .inr (hd rfl)
  have hlt : l = [] ∨ (l.getD 0 (0, [], false)).1 < t := hl.imp id (fun h => by omega)
  refine ⟨?_, chn_cons hv hc hlt⟩
  have := (add_ok (l := l) (t := t) (s := s) (d := d) hc hv (hlt.imp (fun e => by rw [e]; rfl) id)).1
  rw [this]; simp
theorem ld_app {L : List Item} {la ma t : Int} {l : List Chg} (h : ldB L la ma = true) (h1 : la < t) (h2 : t ≤ 1152921504606846976) (hf : fitB l = true) : ∀ i, i ≤ l.length → UP (keysOf (appK t L l i)) ∧ ∀ p, p ∈ appK t L l i → itOk t p
  | 0, _ => by
    obtain ⟨hr, hu, hi⟩ := ldB_iff.1 h
    exact ⟨hu, fun p hp => itOk_mono (hi p hp) (by omega)⟩
  | i + 1, hi => by
    obtain ⟨hu, ho⟩ := ld_app h h1 h2 hf i (by omega)
    obtain ⟨hr, hu0, hi0⟩ := ldB_iff.1 h
    obtain ⟨k1, k2, k3, k4⟩ := fitK_iff.1 hf i (by omega)
    rw [appK_step (by omega)]
    unfold appOne
    rw [lkD_appK (ld_spi h) _ i (by omega) k1]
    refine ⟨up_setL hu, fun p hp => ?_⟩
    rcases mem_setL hp with hp | ⟨rfl, _⟩
    · exact ho p hp
    · have hc : chnB (lkD (l.getD i ([], [], false)).1 L) = true ∧ (lkD (l.getD i ([], [], false)).1 L = [] ∨ ((lkD (l.getD i ([], [], false)).1 L).getD 0 (0, [], false)).1 ≤ la) := by
        by_cases e : lkD (l.getD i ([], [], false)).1 L = []
        · rw [e]; exact ⟨by decide, .inl rfl⟩
        · have := hi0 _ (lkD_mem e)
          exact ⟨this.2.2.1, .inr this.2.2.2⟩
      obtain ⟨e1, e2⟩ := add_item (d := (l.getD i ([], [], false)).2.2) hc.1 hc.2 h1 hr.1 h2 k3 k4
      show itOk t (_, addL _ _ _ _)
      rw [e1]
      exact ⟨k2, List.cons_ne_nil _ _, e2, Int.le_refl _⟩
theorem ld_appS {L : List Item} {la ma t : Int} {l : List Chg} (h : ldB L la ma = true) : ldB (appS t L la l) (appT t la l) ma = true := by
  unfold appS appT
  cases ha : appOk t la l with
  | false => exact h
  | true =>
    rw [cond_true, cond_true]
    unfold appOk at ha
    simp only [Bool.and_eq_true, Bool.not_eq_true', decide_eq_false_iff_not] at ha
    obtain ⟨⟨h1, h2⟩, hf⟩ := ha
    obtain ⟨hr, _, _⟩ := ldB_iff.1 h
    obtain ⟨hu, ho⟩ := ld_app (t := t) h (by omega) (by omega) hf l.length (Nat.le_refl _)
    rw [appK_all] at hu ho
    exact ldB_iff.2 ⟨by omega, hu, ho⟩
theorem ld_vmS {L : List Item} {la ma t : Int} (h : ldB L la ma = true) : ldB (vmS t L la ma) la (vmM t la ma) = true := by
  unfold vmS vmM
  cases hb : decide (t < ma) || decide (la < t) with
  | true => exact h
  | false =>
    simp only [Bool.or_eq_false_iff, decide_eq_false_iff_not] at hb
    rw [cond_false, cond_false]
    obtain ⟨hr, hu, hi⟩ := ldB_iff.1 h
    refine ldB_iff.2 ⟨by omega, ?_, ?_⟩
    · have : ∀ M : List Item, UP (keysOf M) → UP (keysOf (vacM t M)) := by
        intro M
        induction M with
        | nil => intro _; exact List.Pairwise.nil
        | cons p M ih =>
          intro hM
          obtain ⟨h1, h2⟩ := up_cons hM
          have e : vacM t (p :: M) = vacP t p ++ vacM t M := rfl
          rw [e]
          unfold vacP
          cases decide ((vacL p.2 t).length = 0) with
          | true => exact ih h1
          | false =>
            show UP (p.1 :: keysOf (vacM t M))
            exact List.pairwise_cons.2 ⟨fun y hy => h2 y (keys_vacM hy), ih h1⟩
      exact this L hu
    · intro p hp
      obtain ⟨q, hq, hp⟩ := List.mem_flatMap.1 hp
      obtain ⟨q1, q2, q3, q4⟩ := hi q hq
      unfold vacP at hp
      by_cases h0 : (vacL q.2 t).length = 0
      · rw [decide_eq_true h0] at hp; simp at hp
      · rw [decide_eq_false h0, cond_false, List.mem_singleton] at hp
        subst hp
        have ev : vacL q.2 t = q.2.take (vacN q.2 t) := by unfold vacL; rw [q3]; rfl
        refine ⟨q1, fun e => h0 (by rw [show vacL q.2 t = [] from e]; rfl), ?_, ?_⟩
        · show chnB (vacL q.2 t) = true
          rw [ev]; exact chn_take q3 _
        · show ((vacL q.2 t).getD 0 (0, [], false)).1 ≤ la
          rw [ev] at h0 ⊢
          rw [List.length_take] at h0
          have : (q.2.take (vacN q.2 t)).getD 0 (0, [], false) = q.2.getD 0 (0, [], false) := by simp only [List.getD_eq_getElem?_getD, List.getElem?_take, if_pos (show 0 < vacN q.2 t by omega)]
          rw [this]; exact q4
theorem ld_step {L : List Item} {la ma k n : Int} {l : List Chg} (h : ldB L la ma = true) : ldB (stpS L la ma k n l) (stpT la k n l) (stpM la ma k n) = true := by
  unfold stpS stpT stpM
  cases decide (k = 1) with
  | true => exact ld_vmS h
  | false =>
    simp only [cond_false]
    cases decide (k = 2) with
    | true => exact h
    | false =>
      simp only [cond_false]
      cases decide (k = 3) with
      | true => exact h
      | false => exact ld_appS h
theorem vacL_len (l : List Ver) (t : Int) : (vacL l t).length ≤ l.length := by
  unfold vacL
  cases chnB l with
  | true => rw [cond_true, List.length_take]; omega
  | false => exact Nat.zero_le _
theorem len_step {L : List Item} {la ma k n : Int} {l : List Chg} : (stpS L la ma k n l).length ≤ L.length + l.length := by
  unfold stpS
  cases decide (k = 1) with
  | true =>
    rw [cond_true]; unfold vmS
    cases decide (ma + n < ma) || decide (la < ma + n) with
    | true => exact Nat.le_add_right _ _
    | false => have := len_vacM (ma + n) L; rw [cond_false]; omega
  | false =>
    simp only [cond_false]
    cases decide (k = 2) with
    | true => exact Nat.le_add_right _ _
    | false =>
      simp only [cond_false]
      cases decide (k = 3) with
      | true => exact Nat.le_add_right _ _
      | false =>
        simp only [cond_false]
        unfold appS
        cases appOk (la + n) la l with
        | false => exact Nat.le_add_right _ _
        | true => rw [cond_true, ← appK_all]; exact len_appK _ _ _ _ (Nat.le_refl _)
theorem lk_step {L : List Item} {la ma k n : Int} {l : List Chg} (h : ldB L la ma = true) {N : Nat} (hN : ∀ y, (lkD y L).length ≤ N) (y : Str) : (lkD y (stpS L la ma k n l)).length ≤ N + l.length := by
  unfold stpS
  cases decide (k = 1) with
  | true =>
    rw [cond_true]; unfold vmS
    cases decide (ma + n < ma) || decide (la < ma + n) with
    | true => have := hN y; rw [cond_true]; omega
    | false =>
      rw [cond_false]
      have h3 : ∀ i, i < (vacM (ma + n) L).length → ((vacM (ma + n) L).getD i ([], [])).2.length ≤ N := by
        intro i hi
        have hm := getD_mem (d := ([], [])) hi
        obtain ⟨q, hq, hp⟩ := List.mem_flatMap.1 hm
        unfold vacP at hp
        cases hd : decide ((vacL q.2 (ma + n)).length = 0) with
        | true => rw [hd] at hp; simp at hp
        | false =>
          rw [hd, cond_false, List.mem_singleton] at hp
          rw [hp]
          have h4 := vacL_len q.2 (ma + n)
          have h5 := hN q.1
          rw [at_lk (ld_spi h).1 hq] at h5
          show (vacL q.2 (ma + n)).length ≤ N
          omega
      have := lkD_bnd h3 y
      omega
  | false =>
    simp only [cond_false]
    have h0 := hN y
    cases decide (k = 2) with
    | true => simp only [cond_true]; omega
    | false =>
      simp only [cond_false]
      cases decide (k = 3) with
      | true => simp only [cond_true]; omega
      | false =>
        simp only [cond_false]
        unfold appS
        cases appOk (la + n) la l with
        | false => rw [cond_false]; omega
        | true => rw [cond_true, ← appK_all]; have := lk_appK_len (t := la + n) (l := l) (ld_spi h) y l.length (Nat.le_refl _); omega
abbrev Sta := List Item × Int × Int
def stp1 (z : Sta) (s : Stp) : Sta := (stpS z.1 z.2.1 z.2.2 s.1 s.2.1 s.2.2, stpT z.2.1 s.1 s.2.1 s.2.2, stpM z.2.1 z.2.2 s.1 s.2.1)
/-- What is known of a space behind some steps. -/
def Good (N : Nat) (z : Sta) : Prop := ldB z.1 z.2.1 z.2.2 = true ∧ z.1.length ≤ N ∧ ∀ y, (lkD y z.1).length ≤ N
theorem good_step {N : Nat} {z : Sta} {s : Stp} (h : Good N z) : Good (N + 1 + s.2.2.length) (stp1 z s) := by
  refine ⟨ld_step h.1, ?_, fun y => ?_⟩
  · have := len_step (L := z.1) (la := z.2.1) (ma := z.2.2) (k := s.1) (n := s.2.1) (l := s.2.2)
    have := h.2.1
    show (stpS _ _ _ _ _ _).length ≤ _
    omega
  · have := lk_step (k := s.1) (n := s.2.1) (l := s.2.2) h.1 h.2.2 y
    show (lkD y (stpS _ _ _ _ _ _)).length ≤ _
    omega
theorem good_0 : Good 0 (([] : List Item), (0 : Int), (0 : Int)) := ⟨by decide, Nat.le_refl _, fun y => Nat.le_refl _⟩
theorem good_next {N : Nat} {L : List Item} {a b : Int} {l : List Stp} {k : Nat} (hk : k < l.length) (h : Good (N + fewN l k) (L, a, b)) : Good (N + fewN l (k + 1)) (stpS L a b (l.getD k (0, 0, [])).1 (l.getD k (0, 0, [])).2.1 (l.getD k (0, 0, [])).2.2, stpT a (l.getD k (0, 0, [])).1 (l.getD k (0, 0, [])).2.1 (l.getD k (0, 0, [])).2.2, stpM a b (l.getD k (0, 0, [])).1 (l.getD k (0, 0, [])).2.1) := by
  have := good_step (s := l.getD k (0, 0, [])) h
  rw [few_step hk, ← Nat.add_assoc, ← Nat.add_assoc]
  exact this
theorem stp_in {s : Stp} (h : stpB s = true) : -100 ≤ s.2.1 ∧ s.2.1 ≤ 1099511627776 := by
  unfold stpB at h
  simp only [Bool.and_eq_true, Bool.not_eq_true', decide_eq_false_iff_not] at h
  omega
theorem few_all {l : List Stp} (h : fewB l = true) : fewN l l.length ≤ 200 := by
  by_cases h0 : l.length = 0
  · rw [h0]; exact Nat.zero_le _
  · have := (fewK_iff.1 h (l.length - 1) (by omega)).1
    rwa [Nat.sub_add_cancel (by omega)] at this
theorem kep_0 {t a b : Int} (h : kepE t a b = 0) : ¬ t < b ∧ ¬ a < t := by
  unfold kepE at h
  by_cases h1 : t < b
  · rw [decide_eq_true h1] at h; simp at h
  · by_cases h2 : a < t
    · rw [decide_eq_false h1, decide_eq_true h2] at h; simp at h
    · exact ⟨h1, h2⟩
theorem scn_no {L : List Item} {a b : Int} {f u : Str} {t n : Int} (h : ¬ kepE t a b = 0) : scnR L a b f u t n = [] := by unfold scnR; rw [decide_eq_false h]; rfl
end Go.Vk
