import Derived.Test.YtnibbocbefnnnaaRMathSp
set_option linter.unusedVariables false
set_option linter.unusedSimpArgs false
set_option linter.unnecessarySimpa false
namespace Go.Vk
theorem del_app (P Q : List Item) (k : Str) : delL (P ++ Q) k = delL P k ++ delL Q k := by unfold delL; rw [List.filter_append]
theorem del_one (p : Item) (k : Str) : delL [p] k = if p.1 = k then [] else [p] := by
  unfold delL
  by_cases h : p.1 = k <;> simp [h]
theorem put_app {k : Str} {v : List Ver} {Q : List Item} : ∀ {P : List Item}, (∃ y, y ∈ keysOf P ∧ ¬ y < k) → putL (P ++ Q) k v = putL P k v ++ Q
  | [], h => by obtain ⟨y, hy, _⟩ := h; simp [keysOf] at hy
  | p :: P, h => by
    show putL (p :: (P ++ Q)) k v = putL (p :: P) k v ++ Q
    rw [putL, putL]
    by_cases h1 : p.1 < k
    · rw [if_pos h1, if_pos h1, put_app (P := P) (Q := Q)]
      · rfl
      · obtain ⟨y, hy, hn⟩ := h
        rw [keys_cons] at hy
        rcases List.mem_cons.1 hy with e | e
        · rw [e] at hn; exact absurd h1 hn
        · exact ⟨y, e, hn⟩
    · rw [if_neg h1, if_neg h1]
      by_cases h2 : p.1 = k
      · rw [if_pos h2, if_pos h2]; rfl
      · rw [if_neg h2, if_neg h2]; rfl
theorem put_app0 {k : Str} {v : List Ver} {Q : List Item} : ∀ {P : List Item}, (∀ y, y ∈ keysOf P → y < k) → putL (P ++ Q) k v = P ++ putL Q k v
  | [], _ => rfl
  | p :: P, h => by
    show putL (p :: (P ++ Q)) k v = _
    rw [putL, if_pos (h p.1 (by simp [keysOf])), put_app0 (fun y hy => h y (by rw [keys_cons]; exact List.mem_cons_of_mem _ hy))]
    rfl
theorem keys_app (P Q : List Item) : keysOf (P ++ Q) = keysOf P ++ keysOf Q := List.map_append
/-- Where the reference's loop stands behind some items. -/
def WS (P : List Item) (k : Str) (v : List Ver) (d : Bool) (o : List Item) : Prop :=
  (v = [] ∧ d = true ∧ o = delL P k) ∨ (¬ v = [] ∧ d = false ∧ (∀ y, y ∈ keysOf P → y < k) ∧ o = P) ∨ (¬ v = [] ∧ d = true ∧ (∃ y, y ∈ keysOf P ∧ ¬ y < k) ∧ o = putL P k v)
theorem ws_0 (k : Str) (v : List Ver) (d : Bool) (hd : d = decide ((v.length : Int) = 0)) : WS [] k v d [] := by
  by_cases h : v = []
  · left; exact ⟨h, by rw [hd, h]; rfl, rfl⟩
  · right; left
    exact ⟨h, by rw [hd]; exact decide_eq_false (fun e => h (List.eq_nil_of_length_eq_zero (by omega))), fun y hy => by simp [keysOf] at hy, rfl⟩
theorem up_last {L : List Item} {i : Nat} (h : UP (keysOf L)) (hi : i < L.length) : ∀ y, y ∈ keysOf (L.take i) → y < (L.getD i ([], [])).1 := by
  intro y hy
  rw [keys_take] at hy
  obtain ⟨j, hj, rfl⟩ := mem_getD [] hy
  simp only [List.length_take, len_keys] at hj
  have e1 : ((keysOf L).take i).getD j [] = (keysOf L).getD j [] := by simp only [List.getD_eq_getElem?_getD, List.getElem?_take, if_pos (show j < i by omega)]
  rw [e1, ← keys_getD]
  exact (pair_getD []).1 h j i (by omega) (by rw [len_keys]; exact hi)
/-- Put ahead of the item, which stays or goes. -/
theorem ws_new {L : List Item} {i : Nat} {k : Str} {v : List Ver} {d : Bool} {o o2 : List Item} (h : UP (keysOf L)) (hi : i < L.length) (hw : WS (L.take i) k v d o) (hd : d = false) (hb : ¬ (L.getD i ([], [])).1 < k) (ho : o2 = o ++ [(k, v)] ++ (if (L.getD i ([], [])).1 = k then [] else [L.getD i ([], [])])) : WS (L.take (i + 1)) k v true o2 := by
  rcases hw with ⟨_, h2, _⟩ | ⟨h1, _, h3, h4⟩ | ⟨_, h2, _⟩
  · rw [hd] at h2; cases h2
  · right; right
    refine ⟨h1, rfl, ⟨(L.getD i ([], [])).1, ?_, hb⟩, ?_⟩
    · rw [take_snoc (d := ([], [])) hi, keys_app]; exact List.mem_append_right _ (by simp [keysOf])
    · rw [take_snoc (d := ([], [])) hi, put_app0 h3, ho, h4, List.append_assoc]
      congr 1
      rw [putL, if_neg hb]
      by_cases e : (L.getD i ([], [])).1 = k
      · rw [if_pos e, if_pos e]; rfl
      · rw [if_neg e, if_neg e]; rfl
  · rw [hd] at h2; cases h2
/-- Nothing put. -/
theorem ws_old {L : List Item} {i : Nat} {k : Str} {v : List Ver} {d : Bool} {o o2 : List Item} (h : UP (keysOf L)) (hi : i < L.length) (hw : WS (L.take i) k v d o) (hb : d = true ∨ (L.getD i ([], [])).1 < k) (ho : o2 = o ++ (if (L.getD i ([], [])).1 = k then [] else [L.getD i ([], [])])) : WS (L.take (i + 1)) k v d o2 := by
  rw [take_snoc (d := ([], [])) hi]
  rcases hw with ⟨h1, h2, h4⟩ | ⟨h1, h2, h3, h4⟩ | ⟨h1, h2, h3, h4⟩
  · left; exact ⟨h1, h2, by rw [ho, h4, del_app, del_one]⟩
  · right; left
    have hb' := hb.resolve_left (fun e => by rw [h2] at e; cases e)
    refine ⟨h1, h2, fun y hy => ?_, ?_⟩
    · rw [keys_app] at hy
      rcases List.mem_append.1 hy with e | e
      · exact h3 y e
      · simp [keysOf] at e; rw [e]; simpa using hb'
    · rw [ho, h4, if_neg (fun e => by rw [e] at hb'; exact List.lt_irrefl _ hb')]
  · right; right
    refine ⟨h1, h2, ?_, ?_⟩
    · obtain ⟨y, hy, hn⟩ := h3; exact ⟨y, by rw [keys_app]; exact List.mem_append_left _ hy, hn⟩
    · obtain ⟨y, hy, hn⟩ := h3
      have hlt := up_last h hi y hy
      rw [put_app ⟨y, hy, hn⟩, ho, h4, if_neg (fun e => hn (by rw [← e]; exact hlt))]
theorem ws_end {L : List Item} {k : Str} {v : List Ver} {d : Bool} {o : List Item} (hw : WS L k v d o) (hd : d = true) : o = setL L k v := by
  unfold setL
  rcases hw with ⟨h1, _, h4⟩ | ⟨h1, h2, _⟩ | ⟨h1, _, _, h4⟩
  · rw [h4, h1]; rfl
  · rw [hd] at h2; cases h2
  · rw [decide_eq_false (fun e => h1 (List.eq_nil_of_length_eq_zero e)), h4]; rfl
theorem ws_end2 {L : List Item} {k : Str} {v : List Ver} {d : Bool} {o : List Item} (hw : WS L k v d o) (hd : d = false) : o ++ [(k, v)] = setL L k v := by
  rcases hw with ⟨_, h2, _⟩ | ⟨h1, _, h3, h4⟩ | ⟨_, h2, _⟩
  · rw [hd] at h2; cases h2
  · rw [h4, set_last h1 h3]
  · rw [hd] at h2; cases h2
theorem lkD_appK {t : Int} {L : List Item} {l : List Chg} (h : SpI L) (y : Str) : ∀ i, i ≤ l.length → (∀ j, j < i → ¬ (l.getD j ([], [], false)).1 = y) → lkD y (appK t L l i) = lkD y L
  | 0, _, _ => rfl
  | i + 1, hi, hn => by
    rw [appK_step (by omega)]
    unfold appOne
    rw [lkD_set (spi_appK h i (by omega)).1, if_neg (hn i (by omega)), lkD_appK h y i (by omega) (fun j hj => hn j (by omega))]
theorem app14_step {t : Int} {L : List Item} {l : List Chg} {i : Nat} (h : SpI L) (hi : i < l.length) (hf : fitB l = true) : setL (appK t L l i) (l.getD i ([], [], false)).1 (addL (lkD (l.getD i ([], [], false)).1 L) t (l.getD i ([], [], false)).2.1 (l.getD i ([], [], false)).2.2) = appK t L l (i + 1) := by
  rw [appK_step hi]
  unfold appOne
  rw [lkD_appK h _ i (by omega) (fitK_iff.1 hf i hi).1]
theorem vacM_step {t : Int} {L : List Item} {k : Nat} (hk : k < L.length) : vacM t (L.take (k + 1)) = vacM t (L.take k) ++ vacP t (L.getD k ([], [])) := by
  unfold vacM
  rw [take_snoc (d := ([], [])) hk, List.flatMap_append]; simp
theorem vacM_y {t : Int} {L : List Item} {k : Nat} {o : List Item} (hk : k < L.length) (ho : o = vacM t (L.take k)) (h : (0 : Int) < ((vacL (L.getD k ([], [])).2 t).length : Int)) : o ++ [((L.getD k ([], [])).1, vacL (L.getD k ([], [])).2 t)] = vacM t (L.take (k + 1)) := by
  rw [vacM_step hk, ho]; congr 1
  unfold vacP; rw [decide_eq_false (by omega)]; rfl
theorem vacM_n {t : Int} {L : List Item} {k : Nat} {o : List Item} (hk : k < L.length) (ho : o = vacM t (L.take k)) (h : ¬ (0 : Int) < ((vacL (L.getD k ([], [])).2 t).length : Int)) : o = vacM t (L.take (k + 1)) := by
  rw [vacM_step hk, ← ho]
  unfold vacP; rw [decide_eq_true (by omega)]; simp
theorem fit14_step {l : List Chg} {k : Nat} (h : fitK l k = true) (hk : ∀ j, j < k → ¬ (l.getD j ([], [], false)).1 = (l.getD k ([], [], false)).1) (h2 : ¬ (128 : Int) < ((l.getD k ([], [], false)).1.length : Int)) (h3 : ¬ (200 : Int) < ((l.getD k ([], [], false)).2.1.length : Int)) (h4 : (l.getD k ([], [], false)).2.2 = false ∨ (l.getD k ([], [], false)).2.1 = []) : fitK l (k + 1) = true := by
  rw [fitK_iff] at h ⊢
  intro i hi
  by_cases e : i = k
  · subst e
    exact ⟨hk, by omega, by omega, fun hd => h4.resolve_left (fun h5 => by rw [hd] at h5; cases h5)⟩
  · exact h i (by omega)
theorem fit14_no {l : List Chg} {k : Nat} (hk : k < l.length) (h : (128 : Int) < ((l.getD k ([], [], false)).1.length : Int) ∨ (200 : Int) < ((l.getD k ([], [], false)).2.1.length : Int) ∨ ((l.getD k ([], [], false)).2.2 = true ∧ ¬ (l.getD k ([], [], false)).2.1 = []) ∨ ∃ j, j < k ∧ (l.getD j ([], [], false)).1 = (l.getD k ([], [], false)).1) : fitB l = false := by
  cases hb : fitB l with
  | false => rfl
  | true =>
    obtain ⟨h1, h2, h3, h4⟩ := fitK_iff.1 hb k hk
    rcases h with h | h | h | ⟨j, hj, he⟩
    · omega
    · omega
    · exact absurd (h4 h.1) h.2
    · exact absurd he (h1 j hj)
abbrev Stp := Int × Int × List Chg
def chgB (c : Chg) : Bool := !decide ((1000 : Int) < (c.1.length : Int)) && !decide ((1000 : Int) < (c.2.1.length : Int))
def stpB (s : Stp) : Bool := !decide (s.2.1 < -100) && !decide ((1099511627776 : Int) < s.2.1) && s.2.2.all chgB
def fewN (l : List Stp) (k : Nat) : Nat := ((l.take k).map fun s => 1 + s.2.2.length).sum
theorem few_step {l : List Stp} {k : Nat} (hk : k < l.length) : fewN l (k + 1) = fewN l k + 1 + (l.getD k (0, 0, [])).2.2.length := by
  unfold fewN
  rw [take_snoc (d := (0, 0, [])) hk, List.map_append, List.sum_append]; simp; omega
def fewK (l : List Stp) (k : Nat) : Bool := decide (∀ i, i < k → fewN l (i + 1) ≤ 200 ∧ stpB (l.getD i (0, 0, [])) = true)
def fewB (l : List Stp) : Bool := fewK l l.length
theorem fewK_iff {l : List Stp} {k : Nat} : fewK l k = true ↔ ∀ i, i < k → fewN l (i + 1) ≤ 200 ∧ stpB (l.getD i (0, 0, [])) = true := by simp only [fewK, decide_eq_true_eq]
theorem few_ok {l : List Stp} {k : Nat} (h : fewK l k = true) (h1 : ¬ (200 : Int) < (fewN l (k + 1) : Int)) (h2 : ¬ (l.getD k (0, 0, [])).2.1 < -100) (h3 : ¬ (1099511627776 : Int) < (l.getD k (0, 0, [])).2.1) (h4 : ∀ j, j < (l.getD k (0, 0, [])).2.2.length → chgB ((l.getD k (0, 0, [])).2.2.getD j ([], [], false)) = true) : fewK l (k + 1) = true := by
  rw [fewK_iff] at h ⊢
  intro i hi
  by_cases e : i = k
  · subst e
    refine ⟨by omega, ?_⟩
    unfold stpB
    rw [decide_eq_false h2, decide_eq_false h3, Bool.not_false, Bool.true_and, Bool.true_and, List.all_eq_true]
    intro x hx
    obtain ⟨j, hj, rfl⟩ := mem_getD ([], [], false) hx
    exact h4 j hj
  · exact h i (by omega)
theorem few_no {l : List Stp} {k : Nat} (hk : k < l.length) (h : (200 : Int) < (fewN l (k + 1) : Int) ∨ (l.getD k (0, 0, [])).2.1 < -100 ∨ (1099511627776 : Int) < (l.getD k (0, 0, [])).2.1 ∨ ∃ j, j < (l.getD k (0, 0, [])).2.2.length ∧ chgB ((l.getD k (0, 0, [])).2.2.getD j ([], [], false)) = false) : fewB l = false := by
  cases hb : fewB l with
  | false => rfl
  | true =>
    obtain ⟨h1, h2⟩ := fewK_iff.1 hb k hk
    unfold stpB at h2
    simp only [Bool.and_eq_true, Bool.not_eq_true', decide_eq_false_iff_not, List.all_eq_true] at h2
    rcases h with h | h | h | ⟨j, hj, h⟩
    · omega
    · exact absurd h h2.1.1
    · exact absurd h h2.1.2
    · have := h2.2 _ (getD_mem (d := ([], [], false)) hj); rw [h] at this; cases this
theorem chg_no {c : Chg} (h : (1000 : Int) < (c.1.length : Int) ∨ (1000 : Int) < (c.2.1.length : Int)) : chgB c = false := by
  unfold chgB
  rcases h with h | h
  · rw [decide_eq_true h]; rfl
  · rw [decide_eq_true h, Bool.not_true, Bool.and_false]
theorem chg_yes {c : Chg} (h1 : ¬ (1000 : Int) < (c.1.length : Int)) (h2 : ¬ (1000 : Int) < (c.2.1.length : Int)) : chgB c = true := by
  unfold chgB; rw [decide_eq_false h1, decide_eq_false h2]; rfl
def stpS (L : List Item) (la ma k n : Int) (l : List Chg) : List Item := bif decide (k = 1) then vmS (ma + n) L la ma else bif decide (k = 2) then L else bif decide (k = 3) then L else appS (la + n) L la l
def stpT (la k n : Int) (l : List Chg) : Int := bif decide (k = 1) then la else bif decide (k = 2) then la else bif decide (k = 3) then la else appT (la + n) la l
def stpM (la ma k n : Int) : Int := bif decide (k = 1) then vmM (ma + n) la ma else bif decide (k = 2) then ma else bif decide (k = 3) then ma else ma
theorem ld_spi {L : List Item} {la ma : Int} (h : ldB L la ma = true) : SpI L := by
  simp only [ldB, Bool.and_eq_true] at h
  have := ld_up (Nat.le_refl _) h.2
  rwa [List.take_length] at this
theorem bnd_at {L : List Item} {n : Nat} (h : UP (keysOf L)) (hb : ∀ y, (lkD y L).length ≤ n) : ∀ i, i < L.length → (L.getD i ([], [])).2.length ≤ n := fun i hi => by
  have := hb (L.getD i ([], [])).1
  rwa [at_lk h (getD_mem hi)] at this
end Go.Vk
