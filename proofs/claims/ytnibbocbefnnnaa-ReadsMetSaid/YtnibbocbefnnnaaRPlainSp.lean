import Derived.Test.YtnibbocbefnnnaaRMathb
set_option linter.unusedVariables false
set_option linter.unusedSimpArgs false
set_option linter.unnecessarySimpa false
namespace Go.Vk
def verB (t : Int) (s : Str) (d : Bool) : Bool := decide (1 ≤ t) && decide (t ≤ 1152921504606846976) && decide ((s.length : Int) ≤ 200) && (!d || decide (s = []))
/-- The first k versions are right. -/
def chnK (l : List Ver) (k : Nat) : Bool := decide (∀ i, i < k → verB (l.getD i (0, [], false)).1 (l.getD i (0, [], false)).2.1 (l.getD i (0, [], false)).2.2 = true ∧ (i = 0 ∨ (l.getD i (0, [], false)).1 < (l.getD (i - 1) (0, [], false)).1))
def chnB (l : List Ver) : Bool := chnK l l.length
def chnE (l : List Ver) : Int := bif chnB l then 0 else 4
theorem chnK_iff {l : List Ver} {k : Nat} : chnK l k = true ↔ ∀ i, i < k → verB (l.getD i (0, [], false)).1 (l.getD i (0, [], false)).2.1 (l.getD i (0, [], false)).2.2 = true ∧ (i = 0 ∨ (l.getD i (0, [], false)).1 < (l.getD (i - 1) (0, [], false)).1) := by simp only [chnK, decide_eq_true_eq]
theorem chnK_step {l : List Ver} {k : Nat} (h : chnK l k = true) (h1 : verB (l.getD k (0, [], false)).1 (l.getD k (0, [], false)).2.1 (l.getD k (0, [], false)).2.2 = true) (h2 : ¬ (0 : Int) < (k : Int) ∨ ¬ (l.getD (k - 1) (0, [], false)).1 ≤ (l.getD k (0, [], false)).1) : chnK l (k + 1) = true := by
  rw [chnK_iff] at h ⊢
  intro i hi
  by_cases e : i = k
  · subst e; exact ⟨h1, by omega⟩
  · exact h i (by omega)
theorem chnB_no {l : List Ver} {k : Nat} (hk : k < l.length) (h : verB (l.getD k (0, [], false)).1 (l.getD k (0, [], false)).2.1 (l.getD k (0, [], false)).2.2 = false ∨ ((0 : Int) < (k : Int) ∧ (l.getD (k - 1) (0, [], false)).1 ≤ (l.getD k (0, [], false)).1)) : chnB l = false := by
  cases hb : chnB l with
  | false => rfl
  | true =>
    have := chnK_iff.1 hb k hk
    rcases h with h | h
    · rw [h] at this; cases this.1
    · omega
theorem chnB_yes {l : List Ver} (h : chnK l l.length = true) : chnB l = true := h
theorem chn_0 {l : List Ver} (h : chnE l = 0) : chnB l = true := by
  cases e : chnB l with
  | true => rfl
  | false => simp [chnE, e] at h
theorem chn_n {l : List Ver} (h : ¬ chnE l = 0) : chnB l = false := by
  cases e : chnB l with
  | false => rfl
  | true => exact absurd (by simp [chnE, e]) h
/-- The place of the first version whose time is not above one. -/
def plc : List Ver → Int → Nat
  | [], _ => 0
  | v :: l, t => if v.1 ≤ t then 0 else plc l t + 1
theorem plc_le : ∀ (l : List Ver) (t : Int), plc l t ≤ l.length
  | [], t => Nat.le_refl _
  | v :: l, t => by
    rw [plc]
    split
    · exact Nat.zero_le _
    · have := plc_le l t; simp; omega
theorem plc_lt : ∀ {l : List Ver} {t : Int} {j : Nat}, j < plc l t → t < (l.getD j (0, [], false)).1
  | [], t, j, h => by simp [plc] at h
  | v :: l, t, j, h => by
    rw [plc] at h
    split at h
    · omega
    · cases j with
      | zero => simp; omega
      | succ j => simpa using plc_lt (l := l) (j := j) (by omega)
theorem plc_at : ∀ {l : List Ver} {t : Int}, plc l t < l.length → (l.getD (plc l t) (0, [], false)).1 ≤ t
  | [], t, h => by simp [plc] at h
  | v :: l, t, h => by
    rw [plc] at h ⊢
    split
    · rename_i hv; simpa using hv
    · rename_i hv
      rw [if_neg hv] at h
      simpa using plc_at (l := l) (by simpa using h)
theorem chn_down {l : List Ver} (h : chnB l = true) : ∀ a b, a ≤ b → b < l.length → (l.getD b (0, [], false)).1 ≤ (l.getD a (0, [], false)).1 := by
  intro a b hab hb
  induction b with
  | zero => obtain rfl : a = 0 := by omega
            exact Int.le_refl _
  | succ b ih =>
    by_cases e : a = b + 1
    · subst e; exact Int.le_refl _
    · have h1 := ih (by omega) (by omega)
      have h2 := (chnK_iff.1 h (b + 1) hb).2.resolve_left (by omega)
      rw [Nat.add_sub_cancel] at h2
      omega
theorem plc_srch {l : List Ver} (h : chnB l = true) (t : Int) : srch (fun j => decide ((l.getD j (0, [], false)).1 ≤ t)) 0 l.length = plc l t := by
  obtain ⟨h1, h2⟩ := srch_spec (φ := fun j => decide ((l.getD j (0, [], false)).1 ≤ t)) (n := l.length) (fun a b hab hb ha => by
    simp only [decide_eq_true_eq] at ha ⊢
    have := chn_down h a b hab hb
    omega) _ 0 l.length (Nat.le_refl _) (by omega) (Nat.le_refl _) (fun k hk => by omega) (.inl rfl)
  simp only [decide_eq_false_iff_not, decide_eq_true_eq] at h1 h2
  have hle := plc_le l t
  have hle2 := (srch_le (fun j => decide ((l.getD j (0, [], false)).1 ≤ t)) _ 0 l.length (Nat.le_refl _) (by omega)).2
  generalize srch (fun j => decide ((l.getD j (0, [], false)).1 ≤ t)) 0 l.length = s at *
  rcases Nat.lt_trichotomy s (plc l t) with hlt | e | hlt
  · have := plc_lt hlt
    rcases h2 with h2 | h2
    · omega
    · omega
  · exact e
  · have h3 := h1 (plc l t) hlt
    exact absurd (plc_at (by omega)) h3
def sncB (l : List Ver) (t : Int) : Bool := chnB l && decide (0 < plc l t)
def addOk (l : List Ver) (t : Int) (s : Str) (d : Bool) : Bool := chnB l && verB t s d && (decide (l.length = 0) || decide ((l.getD 0 (0, [], false)).1 < t))
def addL (l : List Ver) (t : Int) (s : Str) (d : Bool) : List Ver := bif addOk l t s d then (t, s, d) :: l else []
def addE (l : List Ver) (t : Int) (s : Str) (d : Bool) : Int := bif chnB l then (bif verB t s d then (bif (decide (l.length = 0) || decide ((l.getD 0 (0, [], false)).1 < t)) then 0 else 18) else 2) else 4
/-- How many versions are needed from a mark on. -/
def vacN (l : List Ver) (t : Int) : Nat := bif decide (plc l t < l.length) && !(l.getD (plc l t) (0, [], false)).2.2 then plc l t + 1 else plc l t
def vacL (l : List Ver) (t : Int) : List Ver := bif chnB l then l.take (vacN l t) else []
theorem add_ok {l : List Ver} {t : Int} {s : Str} {d : Bool} (hb : chnB l = true) (hv : verB t s d = true) (h : l.length = 0 ∨ (l.getD 0 (0, [], false)).1 < t) : addL l t s d = [[(t, s, d)], l].flatten ∧ addE l t s d = 0 := by
  have ho : (decide (l.length = 0) || decide ((l.getD 0 (0, [], false)).1 < t)) = true := by simpa using h
  constructor
  · unfold addL addOk; rw [hb, hv, ho]; simp
  · unfold addE; rw [hb, hv, ho]; rfl
theorem add_late {l : List Ver} {t : Int} {s : Str} {d : Bool} (hb : chnB l = true) (hv : verB t s d = true) (h : ¬ l.length = 0) (h2 : ¬ (l.getD 0 (0, [], false)).1 < t) : addL l t s d = [] ∧ addE l t s d = 18 := by
  have ho : (decide (l.length = 0) || decide ((l.getD 0 (0, [], false)).1 < t)) = false := by rw [decide_eq_false h, decide_eq_false h2]; rfl
  constructor
  · unfold addL addOk; rw [hb, hv, ho]; rfl
  · unfold addE; rw [hb, hv, ho]; rfl
def catK (l : List (List Ver)) (k : Nat) : List Ver := (l.take k).flatten
theorem cat_step {l : List (List Ver)} {k : Nat} (hk : k < l.length) : catK l (k + 1) = catK l k ++ l.getD k [] := by
  unfold catK
  rw [take_snoc (d := []) hk, List.flatten_append]; simp
theorem cat_le (l : List (List Ver)) (k : Nat) : (catK l k).length ≤ l.flatten.length := by
  have : l.flatten = catK l k ++ (l.drop k).flatten := by unfold catK; rw [← List.flatten_append, List.take_append_drop]
  rw [this, List.length_append]; omega
def lkD (k : Str) (L : List Item) : List Ver := (lk k L).getD []
def putL : List Item → Str → List Ver → List Item
  | [], k, v => [(k, v)]
  | p :: L, k, v => if p.1 < k then p :: putL L k v else if p.1 = k then (k, v) :: L else (k, v) :: p :: L
def delL (L : List Item) (k : Str) : List Item := L.filter fun p => !decide (p.1 = k)
def setL (L : List Item) (k : Str) (v : List Ver) : List Item := bif decide (v.length = 0) then delL L k else putL L k v
theorem keys_cons (p : Item) (L : List Item) : keysOf (p :: L) = p.1 :: keysOf L := rfl
theorem up_cons {p : Item} {L : List Item} (h : UP (keysOf (p :: L))) : UP (keysOf L) ∧ ∀ k, k ∈ keysOf L → p.1 < k := by
  rw [keys_cons, UP, List.pairwise_cons] at h
  exact ⟨h.2, h.1⟩
theorem mem_putL {k y : Str} {v : List Ver} : ∀ {L : List Item}, y ∈ keysOf (putL L k v) ↔ y ∈ keysOf L ∨ y = k
  | [] => by simp [putL, keysOf]
  | p :: L => by
    rw [putL]
    split
    · rw [keys_cons, keys_cons, List.mem_cons, List.mem_cons, mem_putL]
      constructor
      · rintro (h | h | h)
        · exact .inl (.inl h)
        · exact .inl (.inr h)
        · exact .inr h
      · rintro ((h | h) | h)
        · exact .inl h
        · exact .inr (.inl h)
        · exact .inr (.inr h)
    · split
      · rename_i h; rw [keys_cons, keys_cons, List.mem_cons, List.mem_cons, h]
        constructor
        · rintro (h | h)
          · exact .inr h
          · exact .inl (.inr h)
        · rintro ((h | h) | h)
          · exact .inl h
          · exact .inr h
          · exact .inl h
      · rw [keys_cons, keys_cons, List.mem_cons]
        constructor
        · rintro (h | h)
          · exact .inr h
          · exact .inl h
        · rintro (h | h)
          · exact .inr h
          · exact .inl h
theorem str_tri {a b : Str} (h1 : ¬ a < b) (h2 : ¬ a = b) : b < a := by
  rcases List.le_iff_lt_or_eq.1 (List.not_lt.1 h1) with h | h
  · exact h
  · exact absurd h.symm h2
theorem up_putL {k : Str} {v : List Ver} : ∀ {L : List Item}, UP (keysOf L) → UP (keysOf (putL L k v))
  | [], _ => by simp [putL, keysOf, UP]
  | p :: L, h => by
    obtain ⟨h1, h2⟩ := up_cons h
    rw [putL]
    split
    · rename_i hp
      rw [keys_cons, UP, List.pairwise_cons]
      refine ⟨fun y hy => ?_, up_putL h1⟩
      rcases mem_putL.1 hy with hy | hy
      · exact h2 y hy
      · rw [hy]; exact hp
    · split
      · rename_i hp; rw [keys_cons] at h ⊢; rw [← hp]; exact h
      · rename_i h3 h4
        have hlt := str_tri h3 h4
        rw [keys_cons, UP, List.pairwise_cons]
        refine ⟨fun y hy => ?_, h⟩
        rw [keys_cons] at hy
        rcases List.mem_cons.1 hy with hy | hy
        · rw [hy]; exact hlt
        · exact List.lt_trans hlt (h2 y hy)
theorem keys_del (L : List Item) (k : Str) : keysOf (delL L k) = (keysOf L).filter fun y => !decide (y = k) := by
  unfold keysOf delL
  rw [List.filter_map]; rfl
theorem up_delL {L : List Item} {k : Str} (h : UP (keysOf L)) : UP (keysOf (delL L k)) := by
  rw [keys_del]; exact h.sublist List.filter_sublist
theorem up_setL {L : List Item} {k : Str} {v : List Ver} (h : UP (keysOf L)) : UP (keysOf (setL L k v)) := by
  unfold setL
  cases decide (v.length = 0) with
  | true => exact up_delL h
  | false => exact up_putL h
theorem lk_none_of {L : List Item} {k : Str} (h : k ∉ keysOf L) : lk k L = none := lk_none.2 h
theorem lk_put {k : Str} {v : List Ver} : ∀ {L : List Item}, UP (keysOf L) → ∀ y, lk y (putL L k v) = if k = y then some v else lk y L
  | [], _, y => by simp [putL, lk]
  | p :: L, h, y => by
    obtain ⟨h1, h2⟩ := up_cons h
    rw [putL]
    split
    · rename_i hp
      rw [lk, lk, lk_put h1 y]
      by_cases e : p.1 = y
      · rw [if_pos e, if_pos e, if_neg (fun e2 => List.lt_irrefl k (by rw [← e2] at e; rw [e] at hp; exact hp))]
      · rw [if_neg e, if_neg e]
    · split
      · rename_i hp
        rw [lk, lk]
        by_cases e : k = y
        · rw [if_pos e, if_pos e]
        · rw [if_neg e, if_neg e, if_neg (by rw [hp]; exact e)]
      · rw [lk]
theorem lk_del {k : Str} : ∀ {L : List Item} (y : Str), lk y (delL L k) = if k = y then none else lk y L
  | [], y => by simp [delL, lk]
  | p :: L, y => by
    have ih := lk_del (k := k) (L := L) y
    unfold delL at ih ⊢
    rw [List.filter_cons]
    by_cases hp : p.1 = k
    · rw [if_neg (by simp [hp]), ih, lk]
      by_cases e : k = y
      · rw [if_pos e, if_pos e]
      · rw [if_neg e, if_neg e, if_neg (by rw [hp]; exact e)]
    · rw [if_pos (by simp [hp]), lk, lk, ih]
      by_cases e : p.1 = y
      · rw [if_pos e, if_pos e, if_neg (fun e2 => hp (e.trans e2.symm))]
      · rw [if_neg e, if_neg e]
/-- The row of keys, as the program writes it. -/
theorem put_there {k : Str} {v : List Ver} : ∀ {L : List Item}, UP (keysOf L) → k ∈ keysOf L → keysOf (putL L k v) = keysOf L
  | [], _, h => by simp [keysOf] at h
  | p :: L, h, hk => by
    obtain ⟨h1, h2⟩ := up_cons h
    rw [putL]
    split
    · rename_i hp
      rw [keys_cons] at hk
      rw [keys_cons, keys_cons, put_there h1]
      rcases List.mem_cons.1 hk with e | e
      · exact absurd hp (by rw [e]; exact List.lt_irrefl _)
      · exact e
    · split
      · rename_i hp; rw [keys_cons, keys_cons, hp]
      · rename_i h3 h4
        rw [keys_cons] at hk
        rcases List.mem_cons.1 hk with e | e
        · exact absurd e.symm h4
        · exact absurd (h2 k e) h3
theorem put_new {k : Str} {v : List Ver} : ∀ {L : List Item} {n : Nat}, n ≤ (keysOf L).length → (∀ j, j < n → (keysOf L).getD j [] < k) → (n = (keysOf L).length ∨ k < (keysOf L).getD n []) → keysOf (putL L k v) = (keysOf L).take n ++ [k] ++ (keysOf L).drop n
  | [], n, h, _, _ => by simp [putL, keysOf]
  | p :: L, n, hn, h1, h2 => by
    cases n with
    | zero =>
      have hlt : k < p.1 := by
        rcases h2 with h2 | h2
        · simp [keysOf] at h2
        · simpa [keysOf] using h2
      rw [putL, if_neg (fun h => List.lt_irrefl _ (List.lt_trans h hlt)), if_neg (fun e => by rw [e] at hlt; exact List.lt_irrefl _ hlt)]
      rfl
    | succ n =>
      have hlt : p.1 < k := by simpa [keysOf] using h1 0 (by omega)
      rw [putL, if_pos hlt, keys_cons, keys_cons, List.take_succ_cons, List.drop_succ_cons, put_new (n := n)]
      · rfl
      · simpa [keysOf] using hn
      · intro j hj
        have := h1 (j + 1) (by omega)
        rwa [keys_cons, List.getD_cons_succ] at this
      · rcases h2 with h2 | h2
        · left; simpa [keysOf] using h2
        · right; rwa [keys_cons, List.getD_cons_succ] at h2
theorem keys_putN {L : List Item} {k : Str} {v : List Ver} (h : UP (keysOf L)) (hb : bsB (keysOf L) k = false) : keysOf (putL L k v) = (keysOf L).take (bsN (keysOf L) k) ++ [k] ++ (keysOf L).drop (bsN (keysOf L) k) := by
  obtain ⟨h1, h2⟩ := bsN_spec h k
  refine put_new (bsN_le _ _) h1 ?_
  rcases h2 with h2 | h2
  · exact .inl h2
  · by_cases hl : bsN (keysOf L) k < (keysOf L).length
    · refine .inr (str_tri h2 fun e => ?_)
      have : bsB (keysOf L) k = true := by simp only [bsB, Bool.and_eq_true, decide_eq_true_eq]; exact ⟨by omega, e⟩
      rw [this] at hb; cases hb
    · exact .inl (by have := bsN_le (keysOf L) k; omega)
theorem keys_putY {L : List Item} {k : Str} {v : List Ver} (h : UP (keysOf L)) (hb : bsB (keysOf L) k = true) : keysOf (putL L k v) = keysOf L := put_there h ((bsB_iff h).1 hb)
theorem filter_at {ks : List Str} {k : Str} {n : Nat} (h : UP ks) (hn : n < ks.length) (he : ks.getD n [] = k) : ks.filter (fun y => !decide (y = k)) = ks.take n ++ ks.drop (n + 1) := by
  conv => lhs; rw [← List.take_append_drop n ks]
  rw [List.drop_eq_getElem_cons hn, List.filter_append, List.filter_cons]
  have hk : ks[n] = k := by rw [← he]; simp [List.getD_eq_getElem?_getD, hn]
  rw [if_neg (by simp [hk])]
  have hp := (pair_getD []).1 h
  congr 1
  · rw [List.filter_eq_self]
    intro y hy
    obtain ⟨i, hi, rfl⟩ := mem_getD [] hy
    simp only [List.length_take] at hi
    have e1 : (ks.take n).getD i [] = ks.getD i [] := by simp only [List.getD_eq_getElem?_getD, List.getElem?_take, if_pos (show i < n by omega)]
    rw [e1]
    have := hp i n (by omega) hn
    rw [he] at this
    simp only [Bool.not_eq_true', decide_eq_false_iff_not]
    rintro e; rw [e] at this; exact List.lt_irrefl _ this
  · rw [List.filter_eq_self]
    intro y hy
    obtain ⟨i, hi, rfl⟩ := mem_getD [] hy
    simp only [List.length_drop] at hi
    rw [getD_drop]
    have := hp n (n + 1 + i) (by omega) (by omega)
    rw [he] at this
    simp only [Bool.not_eq_true', decide_eq_false_iff_not]
    rintro e; rw [e] at this; exact List.lt_irrefl _ this
theorem keys_delY {L : List Item} {k : Str} (h : UP (keysOf L)) (hb : bsB (keysOf L) k = true) : keysOf (delL L k) = (keysOf L).take (bsN (keysOf L) k) ++ (keysOf L).drop (bsN (keysOf L) k + 1) := by
  simp only [bsB, Bool.and_eq_true, decide_eq_true_eq] at hb
  rw [keys_del]
  exact filter_at h (by omega) hb.2
theorem keys_delN {L : List Item} {k : Str} (h : UP (keysOf L)) (hb : bsB (keysOf L) k = false) : delL L k = L := by
  unfold delL
  rw [List.filter_eq_self]
  intro p hp
  simp only [Bool.not_eq_true', decide_eq_false_iff_not]
  rintro rfl
  rw [(bsB_iff h).2 (List.mem_map.2 ⟨p, hp, rfl⟩)] at hb
  cases hb
theorem set_y0 {L : List Item} {k : Str} {v : List Ver} (h0 : (v.length : Int) = 0) : setL L k v = delL L k := by
  unfold setL; rw [decide_eq_true (by omega : v.length = 0)]; rfl
theorem set_n0 {L : List Item} {k : Str} {v : List Ver} (h0 : ¬ (v.length : Int) = 0) : setL L k v = putL L k v := by
  unfold setL; rw [decide_eq_false (by omega : ¬ v.length = 0)]; rfl
theorem lkf_put {L : List Item} {k : Str} {v : List Ver} (h : UP (keysOf L)) : (fun k_ => lk k_ (putL L k v)) = fun k_ => if k = k_ then some v else lk k_ L := funext fun y => lk_put h y
theorem lkf_del {L : List Item} {k : Str} : (fun k_ => lk k_ (delL L k)) = fun k_ => if k = k_ then none else lk k_ L := funext fun y => lk_del y
theorem len_putL (L : List Item) (k : Str) (v : List Ver) : (putL L k v).length ≤ L.length + 1 := by
  induction L with
  | nil => simp [putL]
  | cons p L ih =>
    rw [putL]
    split
    · simp; omega
    · split <;> simp
theorem len_setL (L : List Item) (k : Str) (v : List Ver) : (setL L k v).length ≤ L.length + 1 := by
  unfold setL
  cases decide (v.length = 0) with
  | true => have := List.length_filter_le (fun p : Item => !decide (p.1 = k)) L; show (delL L k).length ≤ _; unfold delL; omega
  | false => exact len_putL L k v
theorem len_keys (L : List Item) : (keysOf L).length = L.length := List.length_map _
/-- May the first k changes be done at once? -/
abbrev Chg := Str × Str × Bool
def fitK (l : List Chg) (k : Nat) : Bool := decide (∀ i, i < k → (∀ j, j < i → ¬ (l.getD j ([], [], false)).1 = (l.getD i ([], [], false)).1) ∧ (l.getD i ([], [], false)).1.length ≤ 128 ∧ (l.getD i ([], [], false)).2.1.length ≤ 200 ∧ ((l.getD i ([], [], false)).2.2 = true → (l.getD i ([], [], false)).2.1 = []))
def fitB (l : List Chg) : Bool := fitK l l.length
theorem fitK_iff {l : List Chg} {k : Nat} : fitK l k = true ↔ ∀ i, i < k → (∀ j, j < i → ¬ (l.getD j ([], [], false)).1 = (l.getD i ([], [], false)).1) ∧ (l.getD i ([], [], false)).1.length ≤ 128 ∧ (l.getD i ([], [], false)).2.1.length ≤ 200 ∧ ((l.getD i ([], [], false)).2.2 = true → (l.getD i ([], [], false)).2.1 = []) := by simp only [fitK, decide_eq_true_eq]
/-- What a table of keys that were seen has. -/
def SeenI (l : List Chg) (k : Nat) (f : Str → Option Int) : Prop := ∀ y, (f y).isSome = true ↔ ∃ j, j < k ∧ (l.getD j ([], [], false)).1 = y
def appOne (t : Int) (L : List Item) (c : Chg) : List Item := setL L c.1 (addL (lkD c.1 L) t c.2.1 c.2.2)
def appK (t : Int) (L : List Item) (l : List Chg) (k : Nat) : List Item := (l.take k).foldl (appOne t) L
def appL (t : Int) (L : List Item) (l : List Chg) : List Item := l.foldl (appOne t) L
theorem appK_step {t : Int} {L : List Item} {l : List Chg} {k : Nat} (hk : k < l.length) : appK t L l (k + 1) = appOne t (appK t L l k) (l.getD k ([], [], false)) := by
  unfold appK
  rw [take_snoc (d := ([], [], false)) hk, List.foldl_append]; rfl
theorem len_appK (t : Int) (L : List Item) (l : List Chg) : ∀ k, k ≤ l.length → (appK t L l k).length ≤ L.length + k
  | 0, _ => Nat.le_refl _
  | k + 1, h => by
    rw [appK_step (by omega)]
    have := len_appK t L l k (by omega)
    have := len_setL (appK t L l k) (l.getD k ([], [], false)).1 (addL (lkD (l.getD k ([], [], false)).1 (appK t L l k)) t (l.getD k ([], [], false)).2.1 (l.getD k ([], [], false)).2.2)
    unfold appOne; omega
theorem appK_all {t : Int} {L : List Item} {l : List Chg} : appK t L l l.length = appL t L l := by unfold appK appL; rw [List.take_length]
theorem spi_set {L : List Item} {k : Str} {v : List Ver} (h : SpI L) : SpI (setL L k v) := by
  refine ⟨up_setL h.1, ?_⟩
  unfold setL
  by_cases h0 : v.length = 0
  · rw [decide_eq_true h0, cond_true]
    intro p hp
    exact h.2 p (List.mem_filter.1 hp).1
  · rw [decide_eq_false h0, cond_false]
    have : ∀ {L : List Item}, (∀ p, p ∈ L → p.2 ≠ []) → ∀ p, p ∈ putL L k v → p.2 ≠ [] := by
      intro L
      induction L with
      | nil =>
        intro _ p hp
        simp [putL] at hp
        subst hp
        intro e; exact h0 (by simp at e; rw [e]; rfl)
      | cons q L ih =>
        intro hL p hp
        rw [putL] at hp
        have hv : v ≠ [] := fun e => h0 (by rw [e]; rfl)
        split at hp
        · rcases List.mem_cons.1 hp with e | e
          · rw [e]; exact hL q (by simp)
          · exact ih (fun p hp => hL p (List.mem_cons_of_mem _ hp)) p e
        · split at hp
          · rcases List.mem_cons.1 hp with e | e
            · rw [e]; exact hv
            · exact hL p (List.mem_cons_of_mem _ e)
          · rcases List.mem_cons.1 hp with e | e
            · rw [e]; exact hv
            · exact hL p e
    exact this h.2
theorem spi_nil : SpI [] := ⟨List.Pairwise.nil, fun p hp => by cases hp⟩
theorem lkD_set {L : List Item} {k : Str} {v : List Ver} (h : UP (keysOf L)) (y : Str) : lkD y (setL L k v) = if k = y then v else lkD y L := by
  unfold lkD setL
  by_cases h0 : v.length = 0
  · rw [decide_eq_true h0, cond_true, lk_del]
    split
    · exact (List.eq_nil_of_length_eq_zero h0).symm
    · rfl
  · rw [decide_eq_false h0, cond_false, lk_put h]
    split <;> rfl
theorem len_addL (l : List Ver) (t : Int) (s : Str) (d : Bool) : (addL l t s d).length ≤ l.length + 1 := by
  unfold addL
  cases addOk l t s d with
  | true => simp
  | false => simp
theorem spi_appK {t : Int} {L : List Item} {l : List Chg} (h : SpI L) : ∀ k, k ≤ l.length → SpI (appK t L l k)
  | 0, _ => h
  | k + 1, hk => by rw [appK_step (by omega)]; exact spi_set (spi_appK h k (by omega))
theorem lk_appK_len {t : Int} {L : List Item} {l : List Chg} (h : SpI L) (y : Str) : ∀ k, k ≤ l.length → (lkD y (appK t L l k)).length ≤ (lkD y L).length + k
  | 0, _ => Nat.le_refl _
  | k + 1, hk => by
    rw [appK_step (by omega)]
    have ih := lk_appK_len (t := t) (l := l) h y k (by omega)
    show (lkD y (setL _ _ _)).length ≤ _
    rw [lkD_set (spi_appK h k (by omega)).1]
    split
    · rename_i e
      have := len_addL (lkD (l.getD k ([], [], false)).1 (appK t L l k)) t (l.getD k ([], [], false)).2.1 (l.getD k ([], [], false)).2.2
      rw [e] at this ⊢
      omega
    · omega
def appOk (t la : Int) (l : List Chg) : Bool := !decide (t ≤ la) && !decide (1152921504606846976 < t) && fitB l
def appE (t la : Int) (l : List Chg) : Int := bif decide (t ≤ la) || decide (1152921504606846976 < t) then 18 else bif fitB l then 0 else 2
def appS (t : Int) (L : List Item) (la : Int) (l : List Chg) : List Item := bif appOk t la l then appL t L l else L
def appT (t la : Int) (l : List Chg) : Int := bif appOk t la l then t else la
theorem fitK_step {l : List Chg} {k : Nat} {f : Str → Option Int} (h : fitK l k = true) (hs : SeenI l k f) (h1 : (f (l.getD k ([], [], false)).1).isSome = false) (h2 : ¬ (128 : Int) < ((l.getD k ([], [], false)).1.length : Int)) (h3 : ¬ (200 : Int) < ((l.getD k ([], [], false)).2.1.length : Int)) (h4 : (l.getD k ([], [], false)).2.2 = false ∨ (l.getD k ([], [], false)).2.1 = []) : fitK l (k + 1) = true := by
  rw [fitK_iff] at h ⊢
  intro i hi
  by_cases e : i = k
  · subst e
    refine ⟨fun j hj he => ?_, by omega, by omega, fun hd => h4.resolve_left (fun h5 => by rw [hd] at h5; cases h5)⟩
    have := (hs (l.getD i ([], [], false)).1).2 ⟨j, hj, he⟩
    rw [h1] at this; cases this
  · exact h i (by omega)
theorem seen_0 (l : List Chg) : SeenI l 0 (fun _ => none) := fun y => ⟨fun h => (by cases h), fun ⟨j, hj, _⟩ => (by omega)⟩
theorem seen_step {l : List Chg} {k : Nat} {f : Str → Option Int} {x : Int} (hs : SeenI l k f) : SeenI l (k + 1) (fun k_ => if (l.getD k ([], [], false)).1 = k_ then some x else f k_) := by
  intro y
  simp only
  split
  · rename_i e
    exact ⟨fun _ => ⟨k, by omega, e⟩, fun _ => rfl⟩
  · rename_i e
    rw [hs y]
    constructor
    · rintro ⟨j, hj, he⟩; exact ⟨j, by omega, he⟩
    · rintro ⟨j, hj, he⟩
      by_cases ej : j = k
      · subst ej; exact absurd he e
      · exact ⟨j, by omega, he⟩
theorem fitB_no {l : List Chg} {k : Nat} {f : Str → Option Int} (hk : k < l.length) (hs : SeenI l k f) (h : (f (l.getD k ([], [], false)).1).isSome = true ∨ (128 : Int) < ((l.getD k ([], [], false)).1.length : Int) ∨ (200 : Int) < ((l.getD k ([], [], false)).2.1.length : Int) ∨ ((l.getD k ([], [], false)).2.2 = true ∧ ¬ (l.getD k ([], [], false)).2.1 = [])) : fitB l = false := by
  cases hb : fitB l with
  | false => rfl
  | true =>
    obtain ⟨h1, h2, h3, h4⟩ := fitK_iff.1 hb k hk
    rcases h with h | h | h | h
    · obtain ⟨j, hj, he⟩ := (hs _).1 h
      exact absurd he (h1 j hj)
    · omega
    · omega
    · exact absurd (h4 h.1) h.2
theorem fitB_yes {l : List Chg} (h : fitK l l.length = true) : fitB l = true := h
def mayB (k : Str) (v : List Ver) (ahead : Str) (first : Bool) (la : Int) : Bool := decide ((k.length : Int) ≤ 128) && (first || decide (ahead < k)) && decide ((0 : Int) < (v.length : Int)) && chnB v && decide ((v.getD 0 (0, [], false)).1 ≤ la)
def aheadK (l : List Item) (k : Nat) : Str := if k = 0 then [] else (l.getD (k - 1) ([], [])).1
def ldK (l : List Item) (la : Int) (k : Nat) : Bool := decide (∀ i, i < k → mayB (l.getD i ([], [])).1 (l.getD i ([], [])).2 (aheadK l i) (decide ((i : Int) = 0)) la = true)
def ldR (la ma : Int) : Bool := !decide (la < 0) && !decide (1152921504606846976 < la) && !decide (ma < 0) && !decide (la < ma)
def ldB (l : List Item) (la ma : Int) : Bool := ldR la ma && ldK l la l.length
theorem ldK_iff {l : List Item} {la : Int} {k : Nat} : ldK l la k = true ↔ ∀ i, i < k → mayB (l.getD i ([], [])).1 (l.getD i ([], [])).2 (aheadK l i) (decide ((i : Int) = 0)) la = true := by simp only [ldK, decide_eq_true_eq]
theorem ldK_step {l : List Item} {la : Int} {k : Nat} (h : ldK l la k = true) (h1 : mayB (l.getD k ([], [])).1 (l.getD k ([], [])).2 (aheadK l k) (decide ((k : Int) = 0)) la = true) : ldK l la (k + 1) = true := by
  rw [ldK_iff] at h ⊢
  intro i hi
  by_cases e : i = k
  · subst e; exact h1
  · exact h i (by omega)
theorem chn_dec (l : List Ver) : decide (chnE l = 0) = chnB l := by
  unfold chnE
  cases chnB l <;> rfl
theorem ld_rng {l : List Item} {la ma : Int} (h : ldB l la ma = true) : 0 ≤ la ∧ la ≤ 1152921504606846976 ∧ 0 ≤ ma ∧ ma ≤ la := by
  simp only [ldB, ldR, Bool.and_eq_true, Bool.not_eq_true', decide_eq_false_iff_not] at h
  omega
theorem ld_bad {l : List Item} {la ma : Int} (h : ldB l la ma = false) (h1 : 0 ≤ la) (h2 : la ≤ 1152921504606846976) (h3 : 0 ≤ ma) (h4 : ma ≤ la) : ldK l la l.length = false := by
  unfold ldB at h
  have : ldR la ma = true := by
    simp only [ldR, Bool.and_eq_true, Bool.not_eq_true', decide_eq_false_iff_not]
    omega
  rw [this, Bool.true_and] at h
  exact h
theorem ahead_step (l : List Item) (k : Nat) : (l.getD k ([], [])).1 = aheadK l (k + 1) := by
  unfold aheadK
  rw [if_neg (by omega), Nat.add_sub_cancel]
theorem ldB_no {l : List Item} {la ma : Int} {k : Nat} (hk : k < l.length) (h1 : mayB (l.getD k ([], [])).1 (l.getD k ([], [])).2 (aheadK l k) (decide ((k : Int) = 0)) la = false) : ldB l la ma = false := by
  cases hb : ldB l la ma with
  | false => rfl
  | true =>
    simp only [ldB, Bool.and_eq_true] at hb
    have := ldK_iff.1 hb.2 k hk
    rw [h1] at this; cases this
theorem put_last {k : Str} {v : List Ver} : ∀ {L : List Item}, (∀ y, y ∈ keysOf L → y < k) → putL L k v = L ++ [(k, v)]
  | [], _ => rfl
  | p :: L, h => by
    rw [putL, if_pos (h p.1 (by simp [keysOf])), put_last (fun y hy => h y (by rw [keys_cons]; exact List.mem_cons_of_mem _ hy))]
    rfl
theorem set_last {L : List Item} {k : Str} {v : List Ver} (hv : v ≠ []) (h : ∀ y, y ∈ keysOf L → y < k) : setL L k v = L ++ [(k, v)] := by
  unfold setL
  rw [decide_eq_false (fun e => hv (List.eq_nil_of_length_eq_zero e)), cond_false, put_last h]
theorem keys_take (L : List Item) (k : Nat) : keysOf (L.take k) = (keysOf L).take k := by unfold keysOf; rw [List.map_take]
theorem keys_getD (L : List Item) (k : Nat) : (keysOf L).getD k [] = (L.getD k ([], [])).1 := by
  unfold keysOf
  simp only [List.getD_eq_getElem?_getD, List.getElem?_map]
  cases L[k]? <;> rfl
theorem set_take {L : List Item} {k : Nat} (h : UP (keysOf L)) (hk : k < L.length) (hv : (L.getD k ([], [])).2 ≠ []) : setL (L.take k) (L.getD k ([], [])).1 (L.getD k ([], [])).2 = L.take (k + 1) := by
  rw [set_last hv, take_snoc (d := ([], [])) hk]
  intro y hy
  rw [keys_take] at hy
  obtain ⟨i, hi, rfl⟩ := mem_getD [] hy
  simp only [List.length_take, len_keys] at hi
  have e1 : ((keysOf L).take k).getD i [] = (keysOf L).getD i [] := by simp only [List.getD_eq_getElem?_getD, List.getElem?_take, if_pos (show i < k by omega)]
  rw [e1, ← keys_getD]
  exact (pair_getD []).1 h i k (by omega) (by rw [len_keys]; exact hk)
theorem ld_up {l : List Item} {la : Int} {k : Nat} (hk : k ≤ l.length) (h : ldK l la k = true) : UP (keysOf (l.take k)) ∧ ∀ p, p ∈ l.take k → p.2 ≠ [] := by
  rw [ldK_iff] at h
  have hm : ∀ i, i < k → 0 < i → (l.getD (i - 1) ([], [])).1 < (l.getD i ([], [])).1 := fun i hi h0 => by
    have := h i hi
    simp only [mayB, Bool.and_eq_true, Bool.or_eq_true, decide_eq_true_eq] at this
    have h3 := this.1.1.1.2.resolve_left (by omega)
    rwa [aheadK, if_neg (by omega)] at h3
  refine ⟨(pair_getD []).2 fun i j hij hj => ?_, fun p hp => ?_⟩
  · rw [len_keys, List.length_take] at hj
    have e1 : ∀ i, i < k → (keysOf (l.take k)).getD i [] = (l.getD i ([], [])).1 := fun i hi => by
      rw [keys_getD]
      congr 1
      simp only [List.getD_eq_getElem?_getD, List.getElem?_take, if_pos hi]
    rw [e1 i (by omega), e1 j (by omega)]
    induction j with
    | zero => omega
    | succ j ih =>
      have h1 := hm (j + 1) (by omega) (by omega)
      rw [Nat.add_sub_cancel] at h1
      by_cases e : i = j
      · rw [e]; exact h1
      · exact List.lt_trans (ih (by omega) (by omega)) h1
  · obtain ⟨i, hi, rfl⟩ := mem_getD ([], []) hp
    simp only [List.length_take] at hi
    have e1 : (l.take k).getD i ([], []) = l.getD i ([], []) := by simp only [List.getD_eq_getElem?_getD, List.getElem?_take, if_pos (show i < k by omega)]
    rw [e1]
    have := h i (by omega)
    simp only [mayB, Bool.and_eq_true, decide_eq_true_eq] at this
    intro e
    rw [e] at this
    simp at this
theorem ld_set {l : List Item} {la : Int} {k : Nat} (hk : k < l.length) (h : ldK l la k = true) (h1 : mayB (l.getD k ([], [])).1 (l.getD k ([], [])).2 (aheadK l k) (decide ((k : Int) = 0)) la = true) : setL (l.take k) (l.getD k ([], [])).1 (l.getD k ([], [])).2 = l.take (k + 1) := by
  obtain ⟨u1, u2⟩ := ld_up (by omega : k + 1 ≤ l.length) (ldK_step h h1)
  have e1 : (l.take (k + 1)).take k = l.take k := by rw [List.take_take]; congr 1; omega
  have e2 : (l.take (k + 1)).getD k ([], []) = l.getD k ([], []) := by simp only [List.getD_eq_getElem?_getD, List.getElem?_take, if_pos (show k < k + 1 by omega)]
  have hm : l.getD k ([], []) ∈ l.take (k + 1) := by rw [← e2]; exact getD_mem (by simp; omega)
  have := set_take (L := l.take (k + 1)) (k := k) u1 (by simp; omega) (by rw [e2]; exact u2 _ hm)
  rw [e1, e2, List.take_take] at this
  rw [this]; congr 1; omega
def vacP (t : Int) (p : Item) : List Item := bif decide ((vacL p.2 t).length = 0) then [] else [(p.1, vacL p.2 t)]
def vacM (t : Int) (L : List Item) : List Item := L.flatMap (vacP t)
def vacK (t : Int) (L : List Item) (k : Nat) : List Item := vacM t (L.take k) ++ L.drop k
theorem vacK_0 (t : Int) (L : List Item) : vacK t L 0 = L := by simp [vacK, vacM]
end Go.Vk
