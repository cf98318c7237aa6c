import Derived.Test.YtnibbocbefnnnaaVk20
import Derived.Test.YtnibbocbefnnnaaProg
set_option linter.unusedVariables false
namespace Go.Vk
theorem any_getD {α : Type} {φ : α → Bool} {xs : List α} (d : α) {k : Nat} (hk : k < xs.length) (h : φ (xs.getD k d) = true) : xs.any φ = true := by
  rw [List.any_eq_true]
  refine ⟨xs[k], List.getElem_mem hk, ?_⟩
  simpa [List.getD_eq_getElem?_getD, hk] using h
theorem any_none {α : Type} {φ : α → Bool} {xs : List α} (d : α) (h : ∀ i, i < xs.length → φ (xs.getD i d) = false) : xs.any φ = false := by
  rw [List.any_eq_false]
  intro x hx
  obtain ⟨i, hi, rfl⟩ := List.getElem_of_mem hx
  have := h i hi
  simpa [List.getD_eq_getElem?_getD, hi] using this

theorem eq_step {α : Type} {a b : List α} {d : α} {k : Nat} (h : ∀ i, i < k → a.getD i d = b.getD i d) (hk : a.getD k d = b.getD k d) : ∀ i, i < k + 1 → a.getD i d = b.getD i d := by
  intro i hi
  rcases Nat.lt_or_ge i k with h1 | h1
  · exact h i h1
  · obtain rfl : i = k := by omega
    exact hk
theorem ext_getD {α : Type} {a b : List α} {d : α} (hl : a.length = b.length) (h : ∀ i, i < a.length → a.getD i d = b.getD i d) : a = b := by
  refine List.ext_getElem hl (fun i h1 h2 => ?_)
  have := h i h1
  simpa [List.getD_eq_getElem?_getD, h1, h2] using this
/-- sort.Search's course. -/
def srch (φ : Nat → Bool) (i j : Nat) : Nat := if i < j then (bif φ ((i + j) / 2) then srch φ i ((i + j) / 2) else srch φ ((i + j) / 2 + 1) j) else i
termination_by j - i
theorem srch_t {φ : Nat → Bool} {i j : Nat} (h : i < j) (hp : φ ((i + j) / 2) = true) : srch φ i ((i + j) / 2) = srch φ i j := by
  rw [srch.eq_def φ i j, if_pos h, hp, cond_true]
theorem srch_f {φ : Nat → Bool} {i j : Nat} (h : i < j) (hp : φ ((i + j) / 2) = false) : srch φ ((i + j) / 2 + 1) j = srch φ i j := by
  rw [srch.eq_def φ i j, if_pos h, hp, cond_false]
theorem srch_end {φ : Nat → Bool} {i j : Nat} (h : ¬ i < j) : srch φ i j = i := by
  rw [srch.eq_def, if_neg h]
theorem below_at {a b : Str} {k : Nat} (ha : k < a.length) (hb : k < b.length) (he : ∀ j, j < k → a.getD j 0 = b.getD j 0) (hne : ¬ ((a.getD k 0).toNat : Int) = ((b.getD k 0).toNat : Int)) : decide (((a.getD k 0).toNat : Int) < ((b.getD k 0).toNat : Int)) = decide (a < b) := by
  induction k generalizing a b with
  | zero =>
    cases a with
    | nil => simp at ha
    | cons x a => cases b with
      | nil => simp at hb
      | cons y b =>
        simp only [List.getD_cons_zero] at hne ⊢
        rw [decide_eq_decide, List.cons_lt_cons_iff]
        rw [show x < y ↔ x.toNat < y.toNat from UInt8.lt_iff_toNat_lt]
        constructor
        · intro h; exact .inl (by omega)
        · rintro (h | ⟨rfl, _⟩)
          · omega
          · exact absurd rfl hne
  | succ k ih =>
    cases a with
    | nil => simp at ha
    | cons x a => cases b with
      | nil => simp at hb
      | cons y b =>
        have h0 : x = y := by simpa using he 0 (by omega)
        subst h0
        simp only [List.getD_cons_succ] at hne ⊢
        rw [ih (by simpa using ha) (by simpa using hb) (fun j hj => by simpa using he (j + 1) (by omega)) hne]
        rw [decide_eq_decide, List.cons_lt_cons_iff]
        constructor
        · intro h; exact .inr ⟨rfl, h⟩
        · rintro (h | ⟨_, h⟩)
          · rw [show x < x ↔ x.toNat < x.toNat from UInt8.lt_iff_toNat_lt] at h; omega
          · exact h
theorem below_end {a b : Str} {k : Nat} (hk : ¬ (k < a.length ∧ k < b.length)) (ha : k ≤ a.length) (hb : k ≤ b.length) (he : ∀ j, j < k → a.getD j 0 = b.getD j 0) : decide ((a.length : Int) < (b.length : Int)) = decide (a < b) := by
  induction k generalizing a b with
  | zero =>
    cases a with
    | nil => cases b <;> simp
    | cons x a => cases b with
      | nil => simp; omega
      | cons y b => simp at hk
  | succ k ih =>
    cases a with
    | nil => simp at ha
    | cons x a => cases b with
      | nil => simp at hb
      | cons y b =>
        have h0 : x = y := by simpa using he 0 (by omega)
        subst h0
        have := ih (a := a) (b := b) (by simpa using hk) (by simpa using ha) (by simpa using hb) (fun j hj => by simpa using he (j + 1) (by omega))
        rw [decide_eq_decide] at this ⊢
        rw [List.cons_lt_cons_iff]
        constructor
        · intro h; exact .inr ⟨rfl, this.1 (by simp only [List.length_cons] at h; omega)⟩
        · rintro (h | ⟨_, h⟩)
          · rw [show x < x ↔ x.toNat < x.toNat from UInt8.lt_iff_toNat_lt] at h; omega
          · have := this.2 h; simp only [List.length_cons]; omega
theorem all_step {p : Nat → Prop} {k : Nat} (h : ∀ i, i < k → p i) (hk : p k) : ∀ i, i < k + 1 → p i := all_snoc hk h
theorem take_snoc {α : Type} {l : List α} {d : α} {k : Nat} (h : k < l.length) : l.take (k + 1) = l.take k ++ [l.getD k d] := by
  rw [List.take_add_one, List.getD_eq_getElem?_getD, List.getElem?_eq_getElem h]
  simp
theorem srch_le (φ : Nat → Bool) : ∀ (d i j : Nat), j - i ≤ d → i ≤ j → i ≤ srch φ i j ∧ srch φ i j ≤ j := by
  intro d
  induction d with
  | zero => intro i j hd hij; rw [srch_end (by omega)]; omega
  | succ d ih =>
    intro i j hd hij
    by_cases h : i < j
    · cases hp : φ ((i + j) / 2) with
      | true => rw [← srch_t h hp]; have := ih i ((i + j) / 2) (by omega) (by omega); omega
      | false => rw [← srch_f h hp]; have := ih ((i + j) / 2 + 1) j (by omega) (by omega); omega
    · rw [srch_end h]; omega
/-- What a search tells of a rising row. -/
theorem srch_spec {φ : Nat → Bool} {n : Nat} (hm : ∀ a b, a ≤ b → b < n → φ a = true → φ b = true) : ∀ (d i j : Nat), j - i ≤ d → i ≤ j → j ≤ n → (∀ k, k < i → φ k = false) → (j = n ∨ φ j = true) → (∀ k, k < srch φ i j → φ k = false) ∧ (srch φ i j = n ∨ φ (srch φ i j) = true) := by
  intro d
  induction d with
  | zero => intro i j hd hij hjn h1 h2; rw [srch_end (by omega)]; obtain rfl : i = j := by omega
            exact ⟨h1, h2⟩
  | succ d ih =>
    intro i j hd hij hjn h1 h2
    by_cases h : i < j
    · cases hp : φ ((i + j) / 2) with
      | true => rw [← srch_t h hp]; exact ih i ((i + j) / 2) (by omega) (by omega) (by omega) h1 (.inr hp)
      | false =>
        rw [← srch_f h hp]
        refine ih ((i + j) / 2 + 1) j (by omega) (by omega) hjn (fun k hk => ?_) h2
        cases hk' : φ k with
        | false => rfl
        | true => rw [hm k ((i + j) / 2) (by omega) (by omega) hk'] at hp; cases hp
    · rw [srch_end h]; obtain rfl : i = j := by omega
      exact ⟨h1, h2⟩
theorem getD_drop {α : Type} {l : List α} {d : α} {a k : Nat} : (l.drop a).getD k d = l.getD (a + k) d := by
  simp only [List.getD_eq_getElem?_getD, List.getElem?_drop]
theorem getD_set {α : Type} {l : List α} {x d : α} {i : Nat} (hi : i < l.length) (k : Nat) : (l.set i x).getD k d = if k = i then x else l.getD k d := by
  simp only [List.getD_eq_getElem?_getD, List.getElem?_set]
  by_cases e : k = i
  · subst e; rw [if_pos rfl, if_pos rfl, if_pos hi]; rfl
  · rw [if_neg (fun h => e h.symm), if_neg e]
theorem Rd.isNil {α : Type} {K : Kd α} {V : VT} {A : Option Addr} {c : Nat} {xs : List α} (h : Rd K V A c xs) (hA : A.isNone = true) : xs = [] := by
  cases xs with
  | nil => rfl
  | cons x xs => obtain ⟨b, o, rfl, _⟩ := h.cells (by simp); cases hA
def withinB (f t k : Str) : Bool := !decide (k < f) && (decide (t = []) || decide (k < t))
def hasB (f t : Str) : Bool := decide (t = []) || decide (f < t)
def apB (t f : Str) : Bool := !decide (t = []) && decide (t < f)
def spB (l : List (Str × Str)) (k : Str) : Bool := l.any fun s => withinB s.1 s.2 k
def upS (sp : List (Str × Str)) : Nat → Bool
  | 0 => true
  | k + 1 => upS sp k && (hasB (sp.getD k ([], [])).1 (sp.getD k ([], [])).2 && (decide (k = 0) || apB (sp.getD (k - 1) ([], [])).2 (sp.getD k ([], [])).1))
def upK (ks : List Str) (sp : List (Str × Str)) : Nat → Bool
  | 0 => true
  | k + 1 => upK ks sp k && ((decide (k = 0) || decide (ks.getD (k - 1) [] < ks.getD k [])) && !spB sp (ks.getD k []))
def rightB (ks : List Str) (sp : List (Str × Str)) : Bool := !decide ((64 : Int) < (ks.length : Int)) && !decide ((64 : Int) < (sp.length : Int)) && upS sp sp.length && upK ks sp ks.length
def chkM (ks : List Str) (sp : List (Str × Str)) : Int := bif rightB ks sp then 0 else 4
theorem upS_le {sp : List (Str × Str)} : ∀ {m k : Nat}, k ≤ m → upS sp m = true → upS sp k = true
  | 0, k, h, hm => by obtain rfl : k = 0 := by omega
                      exact hm
  | m + 1, k, h, hm => by
    by_cases e : k = m + 1
    · subst e; exact hm
    · refine upS_le (m := m) (by omega) ?_
      simp only [upS, Bool.and_eq_true] at hm
      exact hm.1
theorem upK_le {ks : List Str} {sp : List (Str × Str)} : ∀ {m k : Nat}, k ≤ m → upK ks sp m = true → upK ks sp k = true
  | 0, k, h, hm => by obtain rfl : k = 0 := by omega
                      exact hm
  | m + 1, k, h, hm => by
    by_cases e : k = m + 1
    · subst e; exact hm
    · refine upK_le (m := m) (by omega) ?_
      simp only [upK, Bool.and_eq_true] at hm
      exact hm.1
theorem right_S {ks : List Str} {sp : List (Str × Str)} {k : Nat} (hk : k < sp.length) (h : upS sp (k + 1) = false) : rightB ks sp = false := by
  cases hr : rightB ks sp with
  | false => rfl
  | true =>
    simp only [rightB, Bool.and_eq_true] at hr
    rw [upS_le (k := k + 1) (by omega) hr.1.2] at h
    cases h
theorem right_K {ks : List Str} {sp : List (Str × Str)} {k : Nat} (hk : k < ks.length) (h : upK ks sp (k + 1) = false) : rightB ks sp = false := by
  cases hr : rightB ks sp with
  | false => rfl
  | true =>
    simp only [rightB, Bool.and_eq_true] at hr
    rw [upK_le (k := k + 1) (by omega) hr.2] at h
    cases h
theorem right_long {ks : List Str} {sp : List (Str × Str)} (h : (64 : Int) < (ks.length : Int) ∨ (64 : Int) < (sp.length : Int)) : rightB ks sp = false := by
  rcases h with h | h <;> simp only [rightB, decide_eq_true h, Bool.not_true, Bool.false_and, Bool.and_false]
theorem right_yes {ks : List Str} {sp : List (Str × Str)} (h1 : ¬ (64 : Int) < (ks.length : Int)) (h2 : ¬ (64 : Int) < (sp.length : Int)) (h3 : upS sp sp.length = true) (h4 : upK ks sp ks.length = true) : rightB ks sp = true := by
  simp only [rightB, decide_eq_false h1, decide_eq_false h2, h3, h4, Bool.not_false, Bool.and_self]
theorem upS_step {sp : List (Str × Str)} {k : Nat} (h : upS sp k = true) (h1 : hasB (sp.getD k ([], [])).1 (sp.getD k ([], [])).2 = true) (h2 : k = 0 ∨ apB (sp.getD (k - 1) ([], [])).2 (sp.getD k ([], [])).1 = true) : upS sp (k + 1) = true := by
  simp only [upS, h, h1, Bool.true_and]
  rcases h2 with h2 | h2
  · simp [h2]
  · rw [h2, Bool.or_true]
theorem upS_no {sp : List (Str × Str)} {k : Nat} (h : hasB (sp.getD k ([], [])).1 (sp.getD k ([], [])).2 = false ∨ (0 < k ∧ apB (sp.getD (k - 1) ([], [])).2 (sp.getD k ([], [])).1 = false)) : upS sp (k + 1) = false := by
  rcases h with h | ⟨h0, h⟩
  · simp only [upS, h, Bool.false_and, Bool.and_false]
  · simp only [upS, h, decide_eq_false (p := k = 0) (by omega), Bool.or_false, Bool.and_false]
theorem upK_step {ks : List Str} {sp : List (Str × Str)} {k : Nat} (h : upK ks sp k = true) (h1 : k = 0 ∨ ks.getD (k - 1) [] < ks.getD k []) (h2 : spB sp (ks.getD k []) = false) : upK ks sp (k + 1) = true := by
  simp only [upK, h, h2, Bool.true_and, Bool.not_false, Bool.and_true]
  rcases h1 with h1 | h1
  · simp [h1]
  · rw [decide_eq_true h1, Bool.or_true]
theorem upK_no {ks : List Str} {sp : List (Str × Str)} {k : Nat} (h : spB sp (ks.getD k []) = true ∨ (0 < k ∧ ¬ ks.getD (k - 1) [] < ks.getD k [])) : upK ks sp (k + 1) = false := by
  rcases h with h | ⟨h0, h⟩
  · simp only [upK, h, Bool.not_true, Bool.and_false]
  · simp only [upK, decide_eq_false h, decide_eq_false (p := k = 0) (by omega), Bool.or_false, Bool.false_and, Bool.and_false]
def fewR (ks : List Str) (sp : List (Str × Str)) : Bool := decide ((ks.length : Int) ≤ 100) && decide ((sp.length : Int) ≤ 100)
def bsN (l : List Str) (y : Str) : Nat := srch (fun (j_ : Nat) => !decide (l.getD j_ [] < y)) 0 l.length
def bsB (l : List Str) (y : Str) : Bool := decide (((bsN l y : Nat) : Int) < (l.length : Int)) && decide (l.getD (bsN l y) [] = y)
theorem bs_lo {l : List Str} {y : Str} {i j : Nat} (h : i < j) (hp : l.getD ((i + j) / 2) [] < y) : srch (fun (j_ : Nat) => !decide (l.getD j_ [] < y)) ((i + j) / 2 + 1) j = srch (fun (j_ : Nat) => !decide (l.getD j_ [] < y)) i j := srch_f h (by simp only [decide_eq_true hp, Bool.not_true])
theorem bs_hi {l : List Str} {y : Str} {i j : Nat} (h : i < j) (hp : ¬ l.getD ((i + j) / 2) [] < y) : srch (fun (j_ : Nat) => !decide (l.getD j_ [] < y)) i ((i + j) / 2) = srch (fun (j_ : Nat) => !decide (l.getD j_ [] < y)) i j := srch_t h (by simp only [decide_eq_false hp, Bool.not_false])
theorem sameP_eq {x y : Str × Str} (h : sameP x.1 x.2 y.1 y.2 = true) : x = y := by
  simp only [sameP, Bool.and_eq_true, decide_eq_true_eq] at h
  exact Prod.ext h.1 h.2
theorem sameP_ne {x y : Str × Str} (h : sameP x.1 x.2 y.1 y.2 = false) : x ≠ y := by
  rintro rfl
  simp [sameP] at h
theorem apB_yes {t f : Str} (h1 : ¬ t = []) (h2 : t < f) : apB t f = true := by simp only [apB, decide_eq_false h1, decide_eq_true h2, Bool.not_false, Bool.and_self]
theorem apB_no {t f : Str} (h : t = [] ∨ ¬ t < f) : apB t f = false := by
  rcases h with h | h
  · simp only [apB, decide_eq_true h, Bool.not_true, Bool.false_and]
  · simp only [apB, decide_eq_false h, Bool.and_false]
theorem filter_all_no {φ : Str → Bool} {xs : List Str} (h : ∀ i, i < xs.length → φ (xs.getD i []) = false) : xs.filter (fun y => !φ y) = xs := by
  rw [List.filter_eq_self]
  intro y hy
  obtain ⟨i, hi, rfl⟩ := List.getElem_of_mem hy
  have := h i hi
  simp only [List.getD_eq_getElem?_getD, List.getElem?_eq_getElem hi, Option.getD_some] at this
  rw [this]; rfl
/-- What stands in the midst of deleting. -/
def Kept (φ : Str → Bool) (xs : List Str) (i j : Nat) (m : List Str) : Prop := m.length = xs.length ∧ i < j ∧ j ≤ xs.length ∧ m.take i = (xs.take j).filter (fun y => !φ y) ∧ m.drop j = xs.drop j
theorem filter_take {φ : Str → Bool} {xs : List Str} {j : Nat} (hj : j < xs.length) : (xs.take (j + 1)).filter (fun y => !φ y) = (xs.take j).filter (fun y => !φ y) ++ (bif φ (xs.getD j []) then [] else [xs.getD j []]) := by
  rw [take_snoc (d := []) hj, List.filter_append]
  congr 1
  generalize xs.getD j [] = y
  cases h : φ y <;> simp [h]
theorem kept_first {φ : Str → Bool} {xs : List Str} {k : Nat} (hk : k < xs.length) (hy : φ (xs.getD k []) = true) (hn : ∀ i, i < k → φ (xs.getD i []) = false) : Kept φ xs k (k + 1) xs := by
  refine ⟨rfl, by omega, by omega, ?_, rfl⟩
  rw [filter_take hk, hy, cond_true, List.append_nil]
  refine (filter_all_no fun i hi => ?_).symm
  simp only [List.length_take] at hi
  have : (xs.take k).getD i [] = xs.getD i [] := by simp only [List.getD_eq_getElem?_getD, List.getElem?_take, if_pos (show i < k by omega)]
  rw [this]
  exact hn i (by omega)
theorem kept_at {φ : Str → Bool} {xs m : List Str} {i j : Nat} (h : Kept φ xs i j m) : m.getD j [] = xs.getD j [] := by
  have := congrArg (fun l => l.getD 0 ([] : Str)) h.2.2.2.2
  simpa only [getD_drop, Nat.add_zero] using this
theorem kept_yes {φ : Str → Bool} {xs m : List Str} {i j : Nat} (h : Kept φ xs i j m) (hj : j < xs.length) (hφ : φ (m.getD j []) = false) : Kept φ xs (i + 1) (j + 1) (m.set i (m.getD j [])) := by
  have ha := kept_at h
  obtain ⟨h1, h2, h3, h4, h5⟩ := h
  refine ⟨by simpa using h1, by omega, by omega, ?_, ?_⟩
  · rw [filter_take hj, ← ha, hφ, cond_false, ← h4, take_snoc (d := []) (by simp; omega), getD_set (by omega), if_pos rfl, List.take_set_of_le (Nat.le_refl _)]
  · rw [List.drop_set_of_lt (by omega)]
    have := congrArg (List.drop 1) h5
    simpa only [List.drop_drop] using this
theorem kept_no {φ : Str → Bool} {xs m : List Str} {i j : Nat} (h : Kept φ xs i j m) (hj : j < xs.length) (hφ : φ (m.getD j []) = true) : Kept φ xs i (j + 1) m := by
  have ha := kept_at h
  obtain ⟨h1, h2, h3, h4, h5⟩ := h
  refine ⟨h1, by omega, by omega, ?_, ?_⟩
  · rw [filter_take hj, ← ha, hφ, cond_true, List.append_nil, h4]
  · have := congrArg (List.drop 1) h5
    simpa only [List.drop_drop] using this
theorem kept_len {φ : Str → Bool} {xs m : List Str} {i j : Nat} (h : Kept φ xs i j m) : (m.take i ++ List.replicate (m.length - i) ([] : Str)).length = xs.length := by
  obtain ⟨h1, h2, h3, _⟩ := h
  simp; omega
theorem kept_end {φ : Str → Bool} {xs m : List Str} {i j : Nat} (h : Kept φ xs i j m) (hj : ¬ j < xs.length) : (m.take i ++ List.replicate (m.length - i) ([] : Str)).take i = xs.filter (fun y => !φ y) ∧ i = (xs.filter (fun y => !φ y)).length := by
  obtain ⟨h1, h2, h3, h4, _⟩ := h
  have hl : (m.take i).length = i := by simp; omega
  rw [List.take_of_length_le (show xs.length ≤ j by omega)] at h4
  refine ⟨?_, ?_⟩
  · rw [List.take_append_of_le_length (by omega), List.take_take, Nat.min_self, h4]
  · rw [← h4, hl]
def mkK (ks : List Str) (sp : List (Str × Str)) : List Str := ks.filter (fun y => !spB sp y)
def mkOk (ks : List Str) (sp : List (Str × Str)) : Bool := !decide ((64 : Int) < ((mkK ks sp).length : Int)) && !decide ((64 : Int) < (sp.length : Int))
def mdK (ks : List Str) (sp : List (Str × Str)) : List Str := bif mkOk ks sp then mkK ks sp else []
def mdS (ks : List Str) (sp : List (Str × Str)) : List (Str × Str) := bif mkOk ks sp then sp else []
def mdE (ks : List Str) (sp : List (Str × Str)) : Int := bif mkOk ks sp then 0 else 9
def insK (ks : List Str) (y : Str) : List Str := bif bsB ks y then ks else ks.take (bsN ks y) ++ [y] ++ ks.drop (bsN ks y)
def kyK (ks : List Str) (sp : List (Str × Str)) (y : Str) : List Str := bif rightB ks sp then mdK (insK ks y) sp else []
def kyS (ks : List Str) (sp : List (Str × Str)) (y : Str) : List (Str × Str) := bif rightB ks sp then mdS (insK ks y) sp else []
def kyE (ks : List Str) (sp : List (Str × Str)) (y : Str) : Int := bif rightB ks sp then mdE (insK ks y) sp else 4
def jnT (a b : Str) : Str := bif decide (a = []) || decide (b = []) then [] else maxS a b
def stepP (r : List (Str × Str) × Bool × Str × Str) (s : Str × Str) : List (Str × Str) × Bool × Str × Str :=
  bif apB s.2 r.2.2.1 then (r.1 ++ [s], r.2.1, r.2.2.1, r.2.2.2)
  else bif apB r.2.2.2 s.1 then (bif r.2.1 then (r.1 ++ [s], true, r.2.2.1, r.2.2.2) else (r.1 ++ [(r.2.2.1, r.2.2.2)] ++ [s], true, r.2.2.1, r.2.2.2))
  else (r.1, r.2.1, minS r.2.2.1 s.1, jnT r.2.2.2 s.2)
def runP (sp : List (Str × Str)) (f t : Str) : Nat → List (Str × Str) × Bool × Str × Str
  | 0 => ([], false, f, t)
  | k + 1 => stepP (runP sp f t k) (sp.getD k ([], []))
def spO (sp : List (Str × Str)) (f t : Str) : List (Str × Str) := bif (runP sp f t sp.length).2.1 then (runP sp f t sp.length).1 else (runP sp f t sp.length).1 ++ [((runP sp f t sp.length).2.2.1, (runP sp f t sp.length).2.2.2)]
def snS (sp : List (Str × Str)) (f t : Str) : List (Str × Str) := bif hasB f t then spO sp f t else sp
def snK (ks : List Str) (sp : List (Str × Str)) (f t : Str) : List Str := bif rightB ks sp then mdK ks (snS sp f t) else []
def snQ (ks : List Str) (sp : List (Str × Str)) (f t : Str) : List (Str × Str) := bif rightB ks sp then mdS ks (snS sp f t) else []
def snE (ks : List Str) (sp : List (Str × Str)) (f t : Str) : Int := bif rightB ks sp then mdE ks (snS sp f t) else 4
theorem runP_a {sp o : List (Str × Str)} {l : Bool} {f t f0 t0 : Str} {k : Nat} (h : runP sp f0 t0 k = (o, l, f, t)) (h1 : apB (sp.getD k ([], [])).2 f = true) : runP sp f0 t0 (k + 1) = (o ++ [((sp.getD k ([], [])).1, (sp.getD k ([], [])).2)], l, f, t) := by
  simp only [runP, h, stepP, h1, cond_true]
theorem runP_j {sp o : List (Str × Str)} {l : Bool} {f t f0 t0 : Str} {k : Nat} (h : runP sp f0 t0 k = (o, l, f, t)) (h1 : apB (sp.getD k ([], [])).2 f = false) (h2 : apB t (sp.getD k ([], [])).1 = false) : runP sp f0 t0 (k + 1) = (o, l, minS f (sp.getD k ([], [])).1, jnT t (sp.getD k ([], [])).2) := by
  simp only [runP, h, stepP, h1, h2, cond_false]
theorem runP_l {sp o : List (Str × Str)} {f t f0 t0 : Str} {k : Nat} (h : runP sp f0 t0 k = (o, true, f, t)) (h1 : apB (sp.getD k ([], [])).2 f = false) (h2 : apB t (sp.getD k ([], [])).1 = true) : runP sp f0 t0 (k + 1) = (o ++ [((sp.getD k ([], [])).1, (sp.getD k ([], [])).2)], true, f, t) := by
  simp only [runP, h, stepP, h1, h2, cond_false, cond_true]
theorem runP_f {sp o : List (Str × Str)} {f t f0 t0 : Str} {k : Nat} (h : runP sp f0 t0 k = (o, false, f, t)) (h1 : apB (sp.getD k ([], [])).2 f = false) (h2 : apB t (sp.getD k ([], [])).1 = true) : runP sp f0 t0 (k + 1) = (o ++ [(f, t)] ++ [((sp.getD k ([], [])).1, (sp.getD k ([], [])).2)], true, f, t) := by
  simp only [runP, h, stepP, h1, h2, cond_false, cond_true]
theorem chk_0 {ks : List Str} {sp : List (Str × Str)} (h : chkM ks sp = 0) : rightB ks sp = true := by
  cases e : rightB ks sp with
  | true => rfl
  | false => simp [chkM, e] at h
theorem chk_n {ks : List Str} {sp : List (Str × Str)} (h : ¬ chkM ks sp = 0) : rightB ks sp = false ∧ chkM ks sp = 4 := by
  cases e : rightB ks sp with
  | true => exact absurd (by simp [chkM, e]) h
  | false => exact ⟨rfl, by simp [chkM, e]⟩
theorem right_len {ks : List Str} {sp : List (Str × Str)} (h : rightB ks sp = true) : ks.length ≤ 64 ∧ sp.length ≤ 64 := by
  simp only [rightB, Bool.and_eq_true, Bool.not_eq_true', decide_eq_false_iff_not] at h
  omega
theorem bsN_le (l : List Str) (y : Str) : bsN l y ≤ l.length := (srch_le _ _ 0 _ (Nat.le_refl _) (by omega)).2
theorem jnT_len {a b : Str} {n : Nat} (ha : a.length ≤ n) (hb : b.length ≤ n) : (jnT a b).length ≤ n := by
  unfold jnT
  cases decide (a = []) || decide (b = []) with
  | true => simp
  | false => exact maxS_len ha hb
def cvB (ks : List Str) (sp : List (Str × Str)) (y : Str) : Bool := bsB ks y || spB sp y
def coB (ks : List Str) (sp : List (Str × Str)) (y : Str) : Bool := rightB ks sp && cvB ks sp y
def hitB (ks : List Str) (sp : List (Str × Str)) (l : List (Str × Str × Bool)) : Bool := rightB ks sp && l.any fun c => cvB ks sp c.1
end Go.Vk
