/- The page's words in plain Lean. -/
import Derived.Test.YtpaljghjoajhfaaVk13
import Derived.Test.YtpaljghjoajhfaaProg
set_option linter.unusedVariables false
namespace Go.Vk
theorem any_getD {α : Type} {φ : α → Bool} {xs : List α} (d : α) {k : Nat} (hk : k < xs.length) (h : φ (xs.getD k d) = true) : xs.any φ = true := by
  rw [List.any_eq_true]
  refine ⟨xs[k], List.getElem_mem hk, ?_⟩
  simpa [List.getD_eq_getElem?_getD, hk] using h
theorem any_none {α : Type} {φ : α → Bool} {xs : List α} (d : α) (h : ∀ i, i < xs.length → φ (xs.getD i d) = false) : xs.any φ = false := by
  rw [List.any_eq_false]
  intro x hx
  obtain ⟨i, hi, rfl⟩ := List.getElem_of_mem hx
  have := h i hi
  simpa [List.getD_eq_getElem?_getD, hi] using this

/-- The first keys rise and are short. -/
def upTo (ks : List Str) : Nat → Bool
  | 0 => true
  | k + 1 => upTo ks k && (!decide ((128 : Int) < ((ks.getD k []).length : Int)) && (decide (k = 0) || decide (ks.getD (k - 1) [] < ks.getD k [])))
def stands (leaf : Bool) (ks vs : List Str) (kids : List Int) : Bool :=
  upTo ks ks.length && cond leaf (decide ((vs.length : Int) = (ks.length : Int)) && decide ((kids.length : Int) = 0) && !vs.any (fun v => decide ((200 : Int) < (v.length : Int))))
    (decide ((vs.length : Int) = 0) && decide ((kids.length : Int) = (ks.length : Int) + 1) && !kids.any (fun k => decide (k < (0 : Int)) || decide ((16384 : Int) ≤ k)))
def preK (leaf : Bool) (ks : List Str) : Nat → Int
  | 0 => cond leaf 3 7
  | k + 1 => preK leaf ks k + (cond leaf 3 5 + ((ks.getD k []).length : Int))
def preV (leaf : Bool) (ks vs : List Str) : Nat → Int
  | 0 => preK leaf ks ks.length
  | k + 1 => preV leaf ks vs k + ((vs.getD k []).length : Int)
def sizeM (leaf : Bool) (ks vs : List Str) : Int := cond leaf (preV leaf ks vs vs.length) (preK leaf ks ks.length)
theorem upTo_step {ks : List Str} {k : Nat} (h : upTo ks k = true) (hl : ¬ (128 : Int) < ((ks.getD k []).length : Int)) (hr : k = 0 ∨ ks.getD (k - 1) [] < ks.getD k []) : upTo ks (k + 1) = true := by
  simp only [upTo, h, decide_eq_false hl, Bool.not_false, Bool.true_and]
  rcases hr with hr | hr
  · simp [hr]
  · rw [decide_eq_true hr]; simp
theorem upTo_le {ks : List Str} : ∀ {m k : Nat}, k ≤ m → upTo ks m = true → upTo ks k = true
  | 0, k, h, hm => by obtain rfl : k = 0 := by omega
                      exact hm
  | m + 1, k, h, hm => by
    by_cases e : k = m + 1
    · subst e; exact hm
    · refine upTo_le (m := m) (by omega) ?_
      simp only [upTo, Bool.and_eq_true] at hm
      exact hm.1
theorem stands_up {leaf : Bool} {ks vs : List Str} {kids : List Int} (h : stands leaf ks vs kids = true) : upTo ks ks.length = true := by
  simp only [stands, Bool.and_eq_true] at h
  exact h.1
theorem stands_long {leaf : Bool} {ks vs : List Str} {kids : List Int} {k : Nat} (hk : k < ks.length) (h : (128 : Int) < ((ks.getD k []).length : Int)) : stands leaf ks vs kids = false := by
  cases hs : stands leaf ks vs kids with
  | false => rfl
  | true =>
    have := upTo_le (k := k + 1) (by omega) (stands_up hs)
    simp only [upTo, decide_eq_true h, Bool.not_true, Bool.false_and, Bool.and_false] at this
    cases this
theorem stands_rise {leaf : Bool} {ks vs : List Str} {kids : List Int} {k : Nat} (hk : k < ks.length) (h0 : 0 < k) (h : ¬ ks.getD (k - 1) [] < ks.getD k []) : stands leaf ks vs kids = false := by
  cases hs : stands leaf ks vs kids with
  | false => rfl
  | true =>
    have := upTo_le (k := k + 1) (by omega) (stands_up hs)
    simp only [upTo, decide_eq_false h, Bool.or_false, Bool.and_eq_true, decide_eq_true_eq] at this
    omega
theorem stands_all {leaf : Bool} {ks vs : List Str} {kids : List Int} (h : upTo ks ks.length = true) : stands leaf ks vs kids = cond leaf (decide ((vs.length : Int) = (ks.length : Int)) && decide ((kids.length : Int) = 0) && !vs.any (fun v => decide ((200 : Int) < (v.length : Int))))
    (decide ((vs.length : Int) = 0) && decide ((kids.length : Int) = (ks.length : Int) + 1) && !kids.any (fun k => decide (k < (0 : Int)) || decide ((16384 : Int) ≤ k))) := by
  simp [stands, h]
theorem eq_step {α : Type} {a b : List α} {d : α} {k : Nat} (h : ∀ i, i < k → a.getD i d = b.getD i d) (hk : a.getD k d = b.getD k d) : ∀ i, i < k + 1 → a.getD i d = b.getD i d := by
  intro i hi
  rcases Nat.lt_or_ge i k with h1 | h1
  · exact h i h1
  · obtain rfl : i = k := by omega
    exact hk
theorem ext_getD {α : Type} {a b : List α} {d : α} (hl : a.length = b.length) (h : ∀ i, i < a.length → a.getD i d = b.getD i d) : a = b := by
  refine List.ext_getElem hl (fun i h1 h2 => ?_)
  have := h i h1
  simpa [List.getD_eq_getElem?_getD, h1, h2] using this
/-- sort.Search's course. -/
def srch (φ : Nat → Bool) (i j : Nat) : Nat := if i < j then (bif φ ((i + j) / 2) then srch φ i ((i + j) / 2) else srch φ ((i + j) / 2 + 1) j) else i
termination_by j - i
theorem srch_t {φ : Nat → Bool} {i j : Nat} (h : i < j) (hp : φ ((i + j) / 2) = true) : srch φ i ((i + j) / 2) = srch φ i j := by
  rw [srch.eq_def φ i j, if_pos h, hp, cond_true]
theorem srch_f {φ : Nat → Bool} {i j : Nat} (h : i < j) (hp : φ ((i + j) / 2) = false) : srch φ ((i + j) / 2 + 1) j = srch φ i j := by
  rw [srch.eq_def φ i j, if_pos h, hp, cond_false]
theorem srch_end {φ : Nat → Bool} {i j : Nat} (h : ¬ i < j) : srch φ i j = i := by
  rw [srch.eq_def, if_neg h]
/-- page.Find. -/
def findN (leaf : Bool) (ks : List Str) (y : Str) : Nat := bif leaf then srch (fun j => !decide (ks.getD j [] < y)) 0 ks.length else srch (fun j => decide (y < ks.getD j [])) 0 ks.length
def findI (leaf : Bool) (ks vs : List Str) (kids : List Int) (y : Str) : Int := bif stands leaf ks vs kids then (findN leaf ks y : Int) else 0
def findB (leaf : Bool) (ks vs : List Str) (kids : List Int) (y : Str) : Bool := stands leaf ks vs kids && leaf && decide (((findN leaf ks y : Nat) : Int) < (ks.length : Int)) && decide (ks.getD (findN leaf ks y) [] = y)
/-! ### ambryref08.Size -/
def refK (leaf : Bool) (ks : List Str) : Nat → Int
  | 0 => 3
  | k + 1 => (refK leaf ks k + ((ks.getD k []).length : Int)) + cond leaf 3 5
def refV (leaf : Bool) (ks vs : List Str) : Nat → Int
  | 0 => refK leaf ks ks.length
  | k + 1 => refV leaf ks vs k + ((vs.getD k []).length : Int)
theorem refK_eq (leaf : Bool) (ks : List Str) : ∀ k, preK leaf ks k = refK leaf ks k + cond leaf 0 4
  | 0 => by cases leaf <;> rfl
  | k + 1 => by simp only [preK, refK, refK_eq leaf ks k]; cases leaf <;> simp only [cond_true, cond_false] <;> omega
theorem refV_eq (ks vs : List Str) : ∀ k, preV true ks vs k = refV true ks vs k
  | 0 => by simp only [preV, refV, refK_eq, cond_true]; omega
  | k + 1 => by simp only [preV, refV, refV_eq ks vs k]
theorem refK_bound (leaf : Bool) (ks : List Str) (h : ∀ k, (ks.getD k []).length ≤ 140737488355328) : ∀ k, 0 ≤ refK leaf ks k ∧ refK leaf ks k ≤ 3 + 140737488355333 * (k : Int)
  | 0 => by simp [refK]
  | k + 1 => by have := refK_bound leaf ks h k; have := h k; simp only [refK]; cases leaf <;> simp only [cond_true, cond_false] <;> omega
/-! ### ambryref02.Below -/
theorem below_at {a b : Str} {k : Nat} (ha : k < a.length) (hb : k < b.length) (he : ∀ j, j < k → a.getD j 0 = b.getD j 0) (hne : ¬ ((a.getD k 0).toNat : Int) = ((b.getD k 0).toNat : Int)) : decide (((a.getD k 0).toNat : Int) < ((b.getD k 0).toNat : Int)) = decide (a < b) := by
  induction k generalizing a b with
  | zero =>
    cases a with
    | nil => simp at ha
    | cons x a => cases b with
      | nil => simp at hb
      | cons y b =>
        simp only [List.getD_cons_zero] at hne ⊢
        rw [decide_eq_decide, List.cons_lt_cons_iff]
        rw [show x < y ↔ x.toNat < y.toNat from UInt8.lt_iff_toNat_lt]
        constructor
        · intro h; exact .inl (by omega)
        · rintro (h | ⟨rfl, _⟩)
          · omega
          · exact absurd rfl hne
  | succ k ih =>
    cases a with
    | nil => simp at ha
    | cons x a => cases b with
      | nil => simp at hb
      | cons y b =>
        have h0 : x = y := by simpa using he 0 (by omega)
        subst h0
        simp only [List.getD_cons_succ] at hne ⊢
        rw [ih (by simpa using ha) (by simpa using hb) (fun j hj => by simpa using he (j + 1) (by omega)) hne]
        rw [decide_eq_decide, List.cons_lt_cons_iff]
        constructor
        · intro h; exact .inr ⟨rfl, h⟩
        · rintro (h | ⟨_, h⟩)
          · rw [show x < x ↔ x.toNat < x.toNat from UInt8.lt_iff_toNat_lt] at h; omega
          · exact h
theorem below_end {a b : Str} {k : Nat} (hk : ¬ (k < a.length ∧ k < b.length)) (ha : k ≤ a.length) (hb : k ≤ b.length) (he : ∀ j, j < k → a.getD j 0 = b.getD j 0) : decide ((a.length : Int) < (b.length : Int)) = decide (a < b) := by
  induction k generalizing a b with
  | zero =>
    cases a with
    | nil => cases b <;> simp
    | cons x a => cases b with
      | nil => simp; omega
      | cons y b => simp at hk
  | succ k ih =>
    cases a with
    | nil => simp at ha
    | cons x a => cases b with
      | nil => simp at hb
      | cons y b =>
        have h0 : x = y := by simpa using he 0 (by omega)
        subst h0
        have := ih (a := a) (b := b) (by simpa using hk) (by simpa using ha) (by simpa using hb) (fun j hj => by simpa using he (j + 1) (by omega))
        rw [decide_eq_decide] at this ⊢
        rw [List.cons_lt_cons_iff]
        constructor
        · intro h; exact .inr ⟨rfl, this.1 (by simp only [List.length_cons] at h; omega)⟩
        · rintro (h | ⟨_, h⟩)
          · rw [show x < x ↔ x.toNat < x.toNat from UInt8.lt_iff_toNat_lt] at h; omega
          · have := this.2 h; simp only [List.length_cons]; omega
def checkM (leaf : Bool) (ks vs : List Str) (kids : List Int) : Int := bif stands leaf ks vs kids then (bif decide ((1024 : Int) < sizeM leaf ks vs) then 5 else 0) else 2
def fewM (ks vs : List Str) (kids : List Int) : Bool := decide ((ks.length : Int) ≤ 500) && decide ((vs.length : Int) ≤ 500) && decide ((kids.length : Int) ≤ 500)
theorem stands_val {ks vs : List Str} {kids : List Int} {k : Nat} (hk : k < vs.length) (h : (200 : Int) < ((vs.getD k []).length : Int)) : stands true ks vs kids = false := by
  have : vs.any (fun v => decide ((200 : Int) < (v.length : Int))) = true := any_getD [] hk (decide_eq_true h)
  simp only [stands, cond_true, this, Bool.not_true, Bool.and_false]
theorem stands_kid {ks vs : List Str} {kids : List Int} {k : Nat} (hk : k < kids.length) (h : kids.getD k 0 < 0 ∨ 16384 ≤ kids.getD k 0) : stands false ks vs kids = false := by
  have : kids.any (fun k => decide (k < (0 : Int)) || decide ((16384 : Int) ≤ k)) = true := any_getD 0 hk (by rcases h with h | h <;> rw [decide_eq_true h] <;> simp)
  simp only [stands, cond_false, this, Bool.not_true, Bool.and_false]
theorem vals_none {vs : List Str} (h : ∀ i, i < vs.length → ¬ (200 : Int) < ((vs.getD i []).length : Int)) : vs.any (fun v => decide ((200 : Int) < (v.length : Int))) = false := any_none [] fun i hi => decide_eq_false (h i hi)
theorem kids_none {kids : List Int} (h : ∀ i, i < kids.length → ¬ kids.getD i 0 < 0 ∧ ¬ 16384 ≤ kids.getD i 0) : kids.any (fun k => decide (k < (0 : Int)) || decide ((16384 : Int) ≤ k)) = false := any_none 0 fun i hi => by
  have := h i hi
  rw [decide_eq_false this.1, decide_eq_false this.2]; rfl
theorem all_step {p : Nat → Prop} {k : Nat} (h : ∀ i, i < k → p i) (hk : p k) : ∀ i, i < k + 1 → p i := all_snoc hk h
/-! ### Finding -/
theorem not_gt {x y : Str} (h : x < y) : ¬ y < x := by
  have := less_or x y
  rw [decide_eq_true h, Bool.true_or] at this
  intro h2; rw [decide_eq_true h2] at this; cases this
theorem not_gt_eq {x y : Str} (h : x = y) : ¬ y < x := by subst h; exact List.lt_irrefl x
theorem tri {x y : Str} (h : ¬ x < y) (hne : ¬ x = y) : y < x := by
  have := less_or x y
  rw [decide_eq_false h, Bool.false_or] at this
  have h2 : (x == y) = false := by simpa using hne
  rw [h2] at this
  cases hd : decide (y < x) with
  | true => exact of_decide_eq_true hd
  | false => rw [hd] at this; cases this
theorem upTo_lt {ks : List Str} {n : Nat} (h : upTo ks n = true) : ∀ {b a : Nat}, a < b → b < n → ks.getD a [] < ks.getD b [] := by
  intro b
  induction b with
  | zero => intro a h1; omega
  | succ b ih =>
    intro a h1 h2
    have h3 := upTo_le (k := b + 2) (by omega) h
    simp only [upTo, Bool.and_eq_true, Bool.or_eq_true, decide_eq_true_eq, Nat.add_sub_cancel] at h3
    have h4 : ks.getD b [] < ks.getD (b + 1) [] := by rcases h3.2.2 with h5 | h5 <;> first | omega | exact h5
    rcases Nat.lt_or_ge a b with h5 | h5
    · exact List.lt_trans (ih h5 (by omega)) h4
    · obtain rfl : a = b := by omega
      exact h4
theorem srch_is {φ : Nat → Bool} {n r : Nat} (hm : ∀ a b, a ≤ b → b < n → φ a = true → φ b = true) (h1 : ∀ j, j < r → φ j = false) (h2 : r = n ∨ φ r = true) : ∀ (d i j : Nat), j - i ≤ d → i ≤ r → r ≤ j → j ≤ n → srch φ i j = r := by
  intro d
  induction d with
  | zero => intro i j hd hi hj hn; rw [srch_end (by omega)]; omega
  | succ d ih =>
    intro i j hd hi hj hn
    by_cases hij : i < j
    · cases hp : φ ((i + j) / 2) with
      | true =>
        rw [← srch_t hij hp]
        refine ih _ _ (by omega) hi ?_ (by omega)
        rcases Nat.lt_or_ge ((i + j) / 2) r with h | h
        · rw [h1 _ h] at hp; cases hp
        · exact h
      | false =>
        rw [← srch_f hij hp]
        refine ih _ _ (by omega) ?_ hj hn
        rcases Nat.lt_or_ge ((i + j) / 2) r with h | h
        · omega
        · rcases h2 with h2 | h2
          · omega
          · rw [hm r _ h (by omega) h2] at hp; cases hp
    · rw [srch_end hij]; omega
theorem find_t {ks vs : List Str} {kids : List Int} {y : Str} {i : Nat} (hs : stands true ks vs kids = true) (hi : i ≤ ks.length) (h1 : ∀ j, j < i → ks.getD j [] < y) (h2 : ¬ (i : Int) < (ks.length : Int) ∨ ¬ ks.getD i [] < y) : findN true ks y = i := by
  unfold findN
  rw [cond_true]
  refine srch_is ?_ (fun j hj => by rw [decide_eq_true (h1 j hj)]; rfl) ?_ _ 0 _ (Nat.le_refl _) (by omega) hi (Nat.le_refl _)
  · intro a b hab hb ha
    rcases Nat.lt_or_ge a b with h | h
    · simp only [Bool.not_eq_true', decide_eq_false_iff_not] at ha ⊢
      exact fun h2 => ha (List.lt_trans (upTo_lt (stands_up hs) h hb) h2)
    · obtain rfl : a = b := by omega
      exact ha
  · rcases h2 with h2 | h2
    · exact .inl (by omega)
    · exact .inr (by rw [decide_eq_false h2]; rfl)
theorem find_f {ks vs : List Str} {kids : List Int} {y : Str} {i : Nat} (hs : stands false ks vs kids = true) (hi : i ≤ ks.length) (h1 : ∀ j, j < i → ¬ y < ks.getD j []) (h2 : ¬ (i : Int) < (ks.length : Int) ∨ y < ks.getD i []) : findN false ks y = i := by
  unfold findN
  rw [cond_false]
  refine srch_is ?_ (fun j hj => decide_eq_false (h1 j hj)) ?_ _ 0 _ (Nat.le_refl _) (by omega) hi (Nat.le_refl _)
  · intro a b hab hb ha
    rcases Nat.lt_or_ge a b with h | h
    · exact decide_eq_true (List.lt_trans (of_decide_eq_true ha) (upTo_lt (stands_up hs) h hb))
    · obtain rfl : a = b := by omega
      exact ha
  · rcases h2 with h2 | h2
    · exact .inl (by omega)
    · exact .inr (decide_eq_true h2)
/-! ### Numbers as bytes -/
def byt (n : Int) (i : Nat) : UInt8 := UInt8.ofNat (n / 2 ^ (8 * i)).toNat
def putM (b : Str) (n : Int) (w : Nat) : Nat → Str
  | 0 => b
  | k + 1 => putM b n w k ++ [byt n (w - 1 - k)]
theorem putM_len (b : Str) (n : Int) (w : Nat) : ∀ k, (putM b n w k).length = b.length + k
  | 0 => rfl
  | k + 1 => by simp only [putM, List.length_append, putM_len b n w k, List.length_cons, List.length_nil]; omega
theorem putM_app (b : Str) (n : Int) (w : Nat) : ∀ k, putM b n w k = b ++ putM [] n w k
  | 0 => by simp [putM]
  | k + 1 => by simp only [putM, putM_app b n w k, List.append_assoc]
theorem shr_eq {a b : Int} {e : Nat} (hb : b = (e : Int)) (he : e ≤ 64) : a.fdiv (2 ^ min b.toNat IntKind.u64.bits) = a / 2 ^ e := by
  subst hb
  have : min ((e : Int).toNat) IntKind.u64.bits = e := by
    have : IntKind.u64.bits = 64 := rfl
    rw [this]; omega
  rw [this, Int.fdiv_eq_ediv_of_nonneg _ (Int.le_of_lt (Int.pow_pos (by omega)))]
theorem byt_wrap {n : Int} {i : Nat} (h : 0 ≤ n) : IntKind.u8.wrap (n / 2 ^ (8 * i)) = ((byt n i).toNat : Int) := by
  have h0 : 0 ≤ n / 2 ^ (8 * i) := Int.ediv_nonneg h (Int.le_of_lt (Int.pow_pos (by omega)))
  unfold byt
  generalize n / 2 ^ (8 * i) = m at h0 ⊢
  obtain ⟨k, rfl⟩ := Int.eq_ofNat_of_zero_le h0
  have : (UInt8.ofNat (k : Int).toNat).toNat = k % 256 := by simp
  rw [this]
  simp [IntKind.wrap, IntKind.bits, IntKind.signed]
/-! ### A page's bytes -/
def headM (leaf : Bool) (n : Int) (c : Int) : Str := cond leaf (putM [76] n 2 2) (putM (putM [73] n 2 2) c 4 4)
def bodyM (leaf : Bool) (ks vs : List Str) (kids : List Int) : Nat → Str
  | 0 => headM leaf (ks.length : Int) (kids.getD 0 0)
  | k + 1 => cond leaf (putM (putM (bodyM leaf ks vs kids k) ((ks.getD k []).length : Int) 1 1 ++ ks.getD k []) ((vs.getD k []).length : Int) 2 2 ++ vs.getD k [])
      (putM (putM (bodyM leaf ks vs kids k) ((ks.getD k []).length : Int) 1 1 ++ ks.getD k []) (kids.getD (k + 1) 0) 4 4)
def pageM (leaf : Bool) (ks vs : List Str) (kids : List Int) : Str := bodyM leaf ks vs kids ks.length ++ List.replicate (1024 - (bodyM leaf ks vs kids ks.length).length) 0
def bytesM (leaf : Bool) (ks vs : List Str) (kids : List Int) : Str := bif decide (checkM leaf ks vs kids = 0) then pageM leaf ks vs kids else []
theorem check_stands {leaf : Bool} {ks vs : List Str} {kids : List Int} (h : checkM leaf ks vs kids = 0) : stands leaf ks vs kids = true := by
  unfold checkM at h
  cases hs : stands leaf ks vs kids with
  | true => rfl
  | false => rw [hs] at h; cases h
theorem check_size {leaf : Bool} {ks vs : List Str} {kids : List Int} (h : checkM leaf ks vs kids = 0) : sizeM leaf ks vs ≤ 1024 := by
  have hs := check_stands h
  unfold checkM at h
  rw [hs, cond_true] at h
  cases hd : decide ((1024 : Int) < sizeM leaf ks vs) with
  | true => rw [hd] at h; cases h
  | false => have := of_decide_eq_false hd; omega
theorem key_short {leaf : Bool} {ks vs : List Str} {kids : List Int} (h : stands leaf ks vs kids = true) {k : Nat} (hk : k < ks.length) : (ks.getD k []).length ≤ 128 := by
  have := upTo_le (k := k + 1) (by omega) (stands_up h)
  simp only [upTo, Bool.and_eq_true, Bool.not_eq_true', decide_eq_false_iff_not] at this
  omega
theorem stands_leaf {ks vs : List Str} {kids : List Int} (h : stands true ks vs kids = true) : vs.length = ks.length ∧ kids.length = 0 ∧ ∀ k, k < vs.length → (vs.getD k []).length ≤ 200 := by
  simp only [stands, cond_true, Bool.and_eq_true, decide_eq_true_eq, Bool.not_eq_true', List.any_eq_false, decide_eq_true_eq] at h
  refine ⟨by omega, by omega, fun k hk => ?_⟩
  have := h.2.2 (vs[k]) (List.getElem_mem hk)
  simp only [List.getD_eq_getElem?_getD, List.getElem?_eq_getElem hk, Option.getD_some]
  omega
theorem stands_kids {ks vs : List Str} {kids : List Int} (h : stands false ks vs kids = true) : vs.length = 0 ∧ kids.length = ks.length + 1 ∧ ∀ k, k < kids.length → 0 ≤ kids.getD k 0 ∧ kids.getD k 0 < 16384 := by
  simp only [stands, cond_false, Bool.and_eq_true, decide_eq_true_eq, Bool.not_eq_true', List.any_eq_false, Bool.or_eq_true, not_or] at h
  refine ⟨by omega, by omega, fun k hk => ?_⟩
  have := h.2.2 (kids[k]) (List.getElem_mem hk)
  simp only [List.getD_eq_getElem?_getD, List.getElem?_eq_getElem hk, Option.getD_some]
  omega
/-- How long the first keys' part is. -/
theorem body_leaf (ks vs : List Str) (kids : List Int) : ∀ k, ((bodyM true ks vs kids k).length : Int) + 2 * 0 = preK true ks k + (preV true ks vs k - preK true ks ks.length)
  | 0 => by simp only [bodyM, headM, cond_true, putM_len, preK, preV]; simp
  | k + 1 => by
    have := body_leaf ks vs kids k
    simp only [bodyM, cond_true, putM_len, List.length_append, preK, preV] at this ⊢
    omega
theorem body_kids (ks vs : List Str) (kids : List Int) : ∀ k, ((bodyM false ks vs kids k).length : Int) = preK false ks k
  | 0 => by simp only [bodyM, headM, cond_false, putM_len, preK]; simp
  | k + 1 => by
    have := body_kids ks vs kids k
    simp only [bodyM, cond_false, putM_len, List.length_append, preK] at this ⊢
    omega
theorem body_size {leaf : Bool} {ks vs : List Str} {kids : List Int} (h : stands leaf ks vs kids = true) : ((bodyM leaf ks vs kids ks.length).length : Int) = sizeM leaf ks vs := by
  cases leaf with
  | true =>
    have h1 := body_leaf ks vs kids ks.length
    have h2 := (stands_leaf h).1
    simp only [sizeM, cond_true, h2]
    omega
  | false => simp only [sizeM, cond_false, body_kids]
/-! ### ambryref08.put -/
def headR (leaf : Bool) (n : Int) (c : Int) : Str := cond leaf ([76] ++ putM [] n 2 2) (([73] ++ putM [] n 2 2) ++ putM [] c 4 4)
def bodyR (leaf : Bool) (ks vs : List Str) (kids : List Int) : Nat → Str
  | 0 => headR leaf (ks.length : Int) (kids.getD 0 0)
  | k + 1 => cond leaf ((((bodyR leaf ks vs kids k ++ putM [] ((ks.getD k []).length : Int) 1 1) ++ ks.getD k []) ++ putM [] ((vs.getD k []).length : Int) 2 2) ++ vs.getD k [])
      (((bodyR leaf ks vs kids k ++ putM [] ((ks.getD k []).length : Int) 1 1) ++ ks.getD k []) ++ putM [] (kids.getD (k + 1) 0) 4 4)
theorem bodyR_eq (leaf : Bool) (ks vs : List Str) (kids : List Int) : ∀ k, bodyR leaf ks vs kids k = bodyM leaf ks vs kids k
  | 0 => by cases leaf <;> simp only [bodyR, bodyM, headR, headM, cond_true, cond_false] <;> simp only [putM_app [76], putM_app [73], putM_app ([73] ++ _)]
  | k + 1 => by
    have := bodyR_eq leaf ks vs kids k
    cases leaf <;> simp only [bodyR, bodyM, cond_true, cond_false, this, putM_app (bodyM _ _ _ _ _), putM_app (_ ++ _)]
theorem few_le {ks vs : List Str} {kids : List Int} (h : fewM ks vs kids = true) : ks.length ≤ 500 ∧ vs.length ≤ 500 ∧ kids.length ≤ 500 := by
  simp only [fewM, Bool.and_eq_true, decide_eq_true_eq] at h
  omega
theorem live0 : (decide ((((bytesM (true) (([([97] : Str)] : List Str)) (([([49] : Str)] : List Str)) ([] : List Int)).length : Int)) = (1024))) = true := by decide +kernel
theorem live1 : (decide (((bytesM (true) (([([97] : Str)] : List Str)) (([([49] : Str)] : List Str)) ([] : List Int)).take (9)) = (([76, 0, 1, 1, 97, 0, 1, 49, 0] : Str)))) = true := by decide +kernel
theorem live2 : (decide ((checkM (true) (([([97] : Str)] : List Str)) (([([49] : Str)] : List Str)) ([] : List Int)) = (0))) = true := by decide +kernel
theorem live3 : (decide ((sizeM (true) (([([97] : Str)] : List Str)) (([([49] : Str)] : List Str))) = (8))) = true := by decide +kernel
theorem live4 : (decide ((findI (true) (([([97] : Str)] : List Str)) (([([49] : Str)] : List Str)) ([] : List Int) (([98] : Str))) = (1))) = true := by
  simp [findI, findN, stands, upTo, srch]
  try decide
theorem live5 : (decide ((findI (false) (([([98] : Str), ([100] : Str)] : List Str)) ([] : List Str) (([5, 6, 7] : List Int)) (([98] : Str))) = (1))) = true := by
  simp [findI, findN, stands, upTo, srch]
  try decide
theorem live6 : (decide ((findI (false) (([([98] : Str), ([100] : Str)] : List Str)) ([] : List Str) (([5, 6, 7] : List Int)) (([97] : Str))) = (0))) = true := by
  simp [findI, findN, stands, upTo, srch]
  try decide
theorem live7 : (decide ((findI (false) (([([98] : Str), ([100] : Str)] : List Str)) ([] : List Str) (([5, 6, 7] : List Int)) (([122] : Str))) = (2))) = true := by
  simp [findI, findN, stands, upTo, srch]
  try decide
theorem live8 : (findB (true) (([([97] : Str)] : List Str)) (([([49] : Str)] : List Str)) ([] : List Int) (([98] : Str))) = false := by
  simp [findB, findN, stands, upTo, srch]
  decide
theorem Rd.isNil {α : Type} {K : Kd α} {V : VT} {A : Option Addr} {c : Nat} {xs : List α} (h : Rd K V A c xs) (hA : A.isNone = true) : xs = [] := by
  cases xs with
  | nil => rfl
  | cons x xs => obtain ⟨b, o, rfl, _⟩ := h.cells (by simp); cases hA
/-! ### Parts of a node -/
def partV (leaf : Bool) (vs : List Str) (a b : Nat) : List Str := bif leaf then (vs.take b).drop a else []
def partC (leaf : Bool) (kids : List Int) (a b : Nat) : List Int := bif leaf then [] else (kids.take (b + 1)).drop a
theorem stands_fit {leaf : Bool} {ks vs : List Str} {kids : List Int} (h : stands leaf ks vs kids = true) : (leaf = true → vs.length = ks.length) ∧ (leaf = false → kids.length = ks.length + 1) := by
  cases leaf with
  | true => exact ⟨fun _ => (stands_leaf h).1, fun h => by cases h⟩
  | false => exact ⟨fun h => by (cases h), fun _ => (stands_kids h).2.1⟩
theorem partV_le (leaf : Bool) (vs : List Str) (a b : Nat) : (partV leaf vs a b).length ≤ vs.length := by
  cases leaf <;> simp [partV] <;> omega
/-! ### Splitting -/
def sumV (vs : List Str) : Nat → Int
  | 0 => 0
  | k + 1 => sumV vs k + ((vs.getD k []).length : Int)
theorem preV_eq (leaf : Bool) (ks vs : List Str) : ∀ k, preV leaf ks vs k = preK leaf ks ks.length + sumV vs k
  | 0 => by simp [preV, sumV]
  | k + 1 => by simp only [preV, sumV, preV_eq leaf ks vs k]; omega
theorem getD_take {α : Type} {l : List α} {d : α} {m j : Nat} (h : j < m) : (l.take m).getD j d = l.getD j d := by
  simp only [List.getD_eq_getElem?_getD, List.getElem?_take, if_pos h]
theorem preK_take (leaf : Bool) (ks : List Str) (m : Nat) : ∀ j, j ≤ m → preK leaf (ks.take m) j = preK leaf ks j
  | 0, _ => rfl
  | j + 1, h => by simp only [preK, preK_take leaf ks m j (by omega), getD_take (show j < m by omega)]
theorem sumV_take (vs : List Str) (m : Nat) : ∀ j, j ≤ m → sumV (vs.take m) j = sumV vs j
  | 0, _ => rfl
  | j + 1, h => by simp only [sumV, sumV_take vs m j (by omega), getD_take (show j < m by omega)]
theorem preK_mono (leaf : Bool) (ks : List Str) {a : Nat} : ∀ {b : Nat}, a ≤ b → preK leaf ks a ≤ preK leaf ks b
  | 0, h => by obtain rfl : a = 0 := by omega
               exact Int.le_refl _
  | b + 1, h => by
    by_cases e : a = b + 1
    · subst e; exact Int.le_refl _
    · have := preK_mono leaf ks (a := a) (b := b) (by omega)
      simp only [preK]
      cases leaf <;> simp only [cond_true, cond_false] <;> omega
theorem sumV_mono (vs : List Str) {a : Nat} : ∀ {b : Nat}, a ≤ b → sumV vs a ≤ sumV vs b
  | 0, h => by obtain rfl : a = 0 := by omega
               exact Int.le_refl _
  | b + 1, h => by
    by_cases e : a = b + 1
    · subst e; exact Int.le_refl _
    · have := sumV_mono vs (a := a) (b := b) (by omega)
      simp only [sumV]
      omega
/-- A part's size, from the first key on. -/
theorem size_part {leaf : Bool} {ks vs : List Str} {m : Nat} (hm : m ≤ ks.length) (hv : leaf = true → m ≤ vs.length) : sizeM leaf ((ks.take m).drop 0) (partV leaf vs 0 m) = preK leaf ks m + cond leaf (sumV vs m) 0 := by
  have hl : (ks.take m).length = m := by simp; omega
  cases leaf with
  | true =>
    have hl2 : (vs.take m).length = m := by have := hv rfl; simp; omega
    simp only [sizeM, partV, cond_true, List.drop_zero, preV_eq, hl, hl2, preK_take true ks m m (Nat.le_refl _), sumV_take vs m m (Nat.le_refl _)]
  | false => simp only [sizeM, cond_false, List.drop_zero, hl, preK_take false ks m m (Nat.le_refl _), Int.add_zero]
theorem preK_bound {leaf : Bool} {ks vs : List Str} {kids : List Int} (hs : stands leaf ks vs kids = true) : ∀ k, k ≤ ks.length → 0 ≤ preK leaf ks k ∧ preK leaf ks k ≤ 7 + 133 * (k : Int)
  | 0, _ => by cases leaf <;> simp [preK]
  | k + 1, h => by
    have := preK_bound hs k (by omega)
    have := key_short hs (k := k) (by omega)
    simp only [preK]
    cases leaf <;> simp only [cond_true, cond_false] <;> omega
theorem sumV_bound {ks vs : List Str} {kids : List Int} (hs : stands true ks vs kids = true) : ∀ k, k ≤ vs.length → 0 ≤ sumV vs k ∧ sumV vs k ≤ 200 * (k : Int)
  | 0, _ => by simp [sumV]
  | k + 1, h => by
    have := sumV_bound hs k (by omega)
    have := (stands_leaf hs).2.2 k (by omega)
    simp only [sumV]
    omega
theorem sizeM_stands {leaf : Bool} {ks vs : List Str} {kids : List Int} (hs : stands leaf ks vs kids = true) : 0 ≤ sizeM leaf ks vs ∧ sizeM leaf ks vs ≤ 7 + 333 * (ks.length : Int) := by
  have h1 := preK_bound hs ks.length (Nat.le_refl _)
  cases leaf with
  | true =>
    have h2 := sumV_bound hs vs.length (Nat.le_refl _)
    have h3 := (stands_leaf hs).1
    simp only [sizeM, cond_true, preV_eq]
    omega
  | false => simp only [sizeM, cond_false]; omega
def mostN (leaf : Bool) (ks : List Str) : Nat := ks.length - 1 - (bif leaf then 0 else 1)
def spK (leaf : Bool) (ks vs : List Str) (hf : Int) (j : Nat) : Bool := decide (hf ≤ sizeM leaf ((ks.take (1 + j)).drop 0) (partV leaf vs 0 (1 + j)))
def splitK (leaf : Bool) (ks vs : List Str) : Nat := 1 + srch (spK leaf ks vs (sizeM leaf ks vs / 2)) 0 (mostN leaf ks - 1)
def splitOk (leaf : Bool) (ks vs : List Str) (kids : List Int) : Bool := stands leaf ks vs kids && !decide (((ks.length : Int) - 1 - (bif leaf then 0 else 1)) < 1)
def btw (leaf : Bool) : Nat := bif leaf then 0 else 1
def spL (leaf : Bool) (ks vs : List Str) (kids : List Int) : Bool := splitOk leaf ks vs kids && leaf
def spAk (leaf : Bool) (ks vs : List Str) (kids : List Int) : List Str := bif splitOk leaf ks vs kids then ks.take (splitK leaf ks vs) else []
def spAv (leaf : Bool) (ks vs : List Str) (kids : List Int) : List Str := bif splitOk leaf ks vs kids then partV leaf vs 0 (splitK leaf ks vs) else []
def spAc (leaf : Bool) (ks vs : List Str) (kids : List Int) : List Int := bif splitOk leaf ks vs kids then partC leaf kids 0 (splitK leaf ks vs) else []
def spKey (leaf : Bool) (ks vs : List Str) (kids : List Int) : Str := bif splitOk leaf ks vs kids then ks.getD (splitK leaf ks vs) [] else []
def spBk (leaf : Bool) (ks vs : List Str) (kids : List Int) : List Str := bif splitOk leaf ks vs kids then ks.drop (splitK leaf ks vs + btw leaf) else []
def spBv (leaf : Bool) (ks vs : List Str) (kids : List Int) : List Str := bif splitOk leaf ks vs kids then partV leaf vs (splitK leaf ks vs + btw leaf) ks.length else []
def spBc (leaf : Bool) (ks vs : List Str) (kids : List Int) : List Int := bif splitOk leaf ks vs kids then partC leaf kids (splitK leaf ks vs + btw leaf) ks.length else []
theorem spK_mono {leaf : Bool} {ks vs : List Str} {kids : List Int} {hf : Int} (hs : stands leaf ks vs kids = true) {a b : Nat} (hab : a ≤ b) (hb : b < mostN leaf ks - 1) (h : spK leaf ks vs hf a = true) : spK leaf ks vs hf b = true := by
  unfold mostN at hb
  have hfit := (stands_fit hs).1
  simp only [spK, decide_eq_true_eq] at h ⊢
  rw [size_part (by omega) (fun e => by have := hfit e; omega)] at h ⊢
  have h1 := preK_mono leaf ks (a := 1 + a) (b := 1 + b) (by omega)
  have h2 := sumV_mono vs (a := 1 + a) (b := 1 + b) (by omega)
  cases leaf <;> simp only [cond_true, cond_false] at h ⊢ <;> omega
theorem splitK_is {leaf : Bool} {ks vs : List Str} {kids : List Int} {k : Nat} (hs : stands leaf ks vs kids = true) (h1 : 1 ≤ k) (hk : k ≤ mostN leaf ks) (hall : ∀ j, j + 1 < k → spK leaf ks vs (sizeM leaf ks vs / 2) j = false)
    (hend : k = mostN leaf ks ∨ spK leaf ks vs (sizeM leaf ks vs / 2) (k - 1) = true) : k = splitK leaf ks vs := by
  have := srch_is (φ := spK leaf ks vs (sizeM leaf ks vs / 2)) (n := mostN leaf ks - 1) (r := k - 1) (fun a b hab hb ha => spK_mono hs hab hb ha) (fun j hj => hall j (by omega)) (hend.elim (fun h => .inl (by omega)) .inr) _ 0 _ (Nat.le_refl _) (by omega) (by omega) (Nat.le_refl _)
  unfold splitK
  rw [this]
  omega
theorem splitK_le {leaf : Bool} {ks vs : List Str} (h : 1 ≤ mostN leaf ks) : 1 ≤ splitK leaf ks vs ∧ splitK leaf ks vs ≤ mostN leaf ks := by
  have : ∀ (φ : Nat → Bool) (d i j : Nat), j - i ≤ d → i ≤ j → srch φ i j ≤ j := by
    intro φ d
    induction d with
    | zero => intro i j hd hij; rw [srch_end (by omega)]; exact hij
    | succ d ih =>
      intro i j hd hij
      by_cases h : i < j
      · cases hp : φ ((i + j) / 2) with
        | true => rw [← srch_t h hp]; exact Nat.le_trans (ih i ((i + j) / 2) (by omega) (by omega)) (by omega)
        | false => rw [← srch_f h hp]; exact ih _ j (by omega) (by omega)
      · rw [srch_end h]; exact hij
  have := this (spK leaf ks vs (sizeM leaf ks vs / 2)) _ 0 (mostN leaf ks - 1) (Nat.le_refl _) (by omega)
  unfold splitK
  omega
theorem spK_step {leaf : Bool} {ks vs : List Str} {hf : Int} {k : Nat} (h : ∀ j, j + 1 < k → spK leaf ks vs hf j = false) (hk : sizeM leaf ((ks.take k).drop 0) (partV leaf vs 0 k) < hf) : ∀ j, j + 1 < k + 1 → spK leaf ks vs hf j = false := by
  intro j hj
  by_cases e : j + 1 = k
  · subst e
    unfold spK
    rw [Nat.add_comm 1 j]
    exact decide_eq_false (by omega)
  · exact h j (by omega)
theorem spK_end {leaf : Bool} {ks vs : List Str} {hf : Int} {k : Nat} (h1 : 1 ≤ k) (hk : ¬ sizeM leaf ((ks.take k).drop 0) (partV leaf vs 0 k) < hf) : spK leaf ks vs hf (k - 1) = true := by
  unfold spK
  rw [show 1 + (k - 1) = k by omega]
  exact decide_eq_true (by omega)
theorem sp_no {leaf : Bool} {ks vs : List Str} {kids : List Int} (h : splitOk leaf ks vs kids = false) : spL leaf ks vs kids = false ∧ spAk leaf ks vs kids = [] ∧ spAv leaf ks vs kids = [] ∧ spAc leaf ks vs kids = [] ∧ spKey leaf ks vs kids = [] ∧ spBk leaf ks vs kids = [] ∧ spBv leaf ks vs kids = [] ∧ spBc leaf ks vs kids = [] := by
  simp [spL, spAk, spAv, spAc, spKey, spBk, spBv, spBc, h]
theorem sp_yes {leaf : Bool} {ks vs : List Str} {kids : List Int} (h : splitOk leaf ks vs kids = true) {k : Nat} (hk : k = splitK leaf ks vs) : spL leaf ks vs kids = leaf ∧ spAk leaf ks vs kids = (ks.take k).drop 0 ∧ spAv leaf ks vs kids = partV leaf vs 0 k ∧ spAc leaf ks vs kids = partC leaf kids 0 k ∧ spKey leaf ks vs kids = ks.getD k [] ∧ spBk leaf ks vs kids = (ks.take ks.length).drop (k + btw leaf) ∧ spBv leaf ks vs kids = partV leaf vs (k + btw leaf) ks.length ∧ spBc leaf ks vs kids = partC leaf kids (k + btw leaf) ks.length := by
  subst hk
  simp [spL, spAk, spAv, spAc, spKey, spBk, spBv, spBc, h]
theorem split_no1 {leaf : Bool} {ks vs : List Str} {kids : List Int} (h : stands leaf ks vs kids = false) : splitOk leaf ks vs kids = false := by simp [splitOk, h]
/-! ### Reading numbers -/
def beA (s : Str) (a : Nat) : Nat → Nat
  | 0 => 0
  | k + 1 => beA s a k * 256 + (s.getD (a + k) 0).toNat
theorem beA_lt (s : Str) (a : Nat) : ∀ k, beA s a k < 256 ^ k
  | 0 => by simp [beA]
  | k + 1 => by
    have := beA_lt s a k
    have h2 : (s.getD (a + k) 0).toNat < 256 := UInt8.toNat_lt _
    simp only [beA, Nat.pow_succ]
    omega
theorem beA_4 (s : Str) (a k : Nat) (h : k ≤ 4) : beA s a k < 4294967296 := by
  have := beA_lt s a k
  have h2 : 256 ^ k ≤ 256 ^ 4 := Nat.pow_le_pow_right (by omega) h
  omega
theorem getD_cut {α : Type} {l : List α} {d : α} {a m k : Nat} (h : a + k < m) : ((l.take m).drop a).getD k d = l.getD (a + k) d := by
  simp only [List.getD_eq_getElem?_getD, List.getElem?_drop, List.getElem?_take, if_pos h]
theorem shl8 {n : Nat} (h : n < 4294967296) : IntKind.i64.wrap ((n : Int) * 2 ^ min (8 : Int).toNat IntKind.i64.bits) = ((n * 256 : Nat) : Int) := by
  have : (2 : Int) ^ min (8 : Int).toNat IntKind.i64.bits = 256 := by decide
  rw [this, wrap64_ok _ (by omega)]
  omega
theorem shl8u {n : Nat} (h : n < 4294967296) : IntKind.u64.wrap ((n : Int) * 2 ^ min (8 : Int).toNat IntKind.u64.bits) = ((n * 256 : Nat) : Int) := by
  have : (2 : Int) ^ min (8 : Int).toNat IntKind.u64.bits = 256 := by decide
  rw [this, wrapu64_ok _ (by omega)]
  omega
theorem or_low (n c : Nat) (hn : n < 4294967296) (hc : c < 256) : ((BitVec.ofInt 64 ((n * 256 : Nat) : Int) ||| BitVec.ofInt 64 (c : Int)).toNat : Int) = ((n * 256 + c : Nat) : Int) := by
  have h1 : (BitVec.ofInt 64 ((n * 256 : Nat) : Int)).toNat = n * 256 := by
    rw [BitVec.toNat_ofInt]; omega
  have h2 : (BitVec.ofInt 64 (c : Int)).toNat = c := by
    rw [BitVec.toNat_ofInt]; omega
  rw [BitVec.toNat_or, h1, h2]
  congr 1
  rw [show n * 256 = n <<< 8 by rw [Nat.shiftLeft_eq], Nat.shiftLeft_add_eq_or_of_lt (by omega)]
theorem or8 {n c : Nat} (hn : n < 4294967296) (hc : c < 256) : IntKind.i64.wrap ((BitVec.ofInt IntKind.i64.bits ((n * 256 : Nat) : Int) ||| BitVec.ofInt IntKind.i64.bits (c : Int)).toNat : Int) = ((n * 256 + c : Nat) : Int) := by
  have := or_low n c hn hc
  show IntKind.i64.wrap ((BitVec.ofInt 64 ((n * 256 : Nat) : Int) ||| BitVec.ofInt 64 (c : Int)).toNat : Int) = _
  rw [this, wrap64_ok _ (by omega)]
theorem or8u {n c : Nat} (hn : n < 4294967296) (hc : c < 256) : IntKind.u64.wrap ((BitVec.ofInt IntKind.u64.bits ((n * 256 : Nat) : Int) ||| BitVec.ofInt IntKind.u64.bits (c : Int)).toNat : Int) = ((n * 256 + c : Nat) : Int) := by
  have := or_low n c hn hc
  show IntKind.u64.wrap ((BitVec.ofInt 64 ((n * 256 : Nat) : Int) ||| BitVec.ofInt 64 (c : Int)).toNat : Int) = _
  rw [this, wrapu64_ok _ (by omega)]
/-- The scanner: may so many bytes be read; the number; where it stands. -/
def okS (b : Str) (a : Nat) (ok : Bool) (w : Nat) : Bool := ok && decide ((w : Int) ≤ (b.length : Int) - (a : Int))
def numS (b : Str) (a : Nat) (ok : Bool) (w : Nat) : Nat := bif okS b a ok w then beA b a w else 0
def atS (b : Str) (a : Nat) (ok : Bool) (w : Nat) : Nat := bif okS b a ok w then a + w else a
def okP (b : Str) (a : Nat) (ok : Bool) (w : Nat) : Bool := okS b (atS b a ok w) (okS b a ok w) (numS b a ok w)
def strP (b : Str) (a : Nat) (ok : Bool) (w : Nat) : Str := bif okP b a ok w then (b.take (atS b a ok w + numS b a ok w)).drop (atS b a ok w) else []
def atP (b : Str) (a : Nat) (ok : Bool) (w : Nat) : Nat := atS b (atS b a ok w) (okS b a ok w) (numS b a ok w)
theorem numS_4 (b : Str) (a : Nat) (ok : Bool) (w : Nat) (h : w ≤ 4) : numS b a ok w < 4294967296 := by
  have := beA_4 b a w h
  unfold numS
  cases okS b a ok w <;> simp <;> omega
theorem atS_le (b : Str) (a : Nat) (ok : Bool) (w : Nat) (h : a ≤ b.length) : atS b a ok w ≤ b.length ∧ a ≤ atS b a ok w := by
  unfold atS
  cases hk : okS b a ok w with
  | false => simp; exact h
  | true =>
    simp only [okS, Bool.and_eq_true, decide_eq_true_eq] at hk
    simp
    omega
theorem okP_t {b : Str} {a : Nat} {ok : Bool} {w : Nat} (h1 : okS b a ok w = true) (h2 : decide (((numS b a ok w : Nat) : Int) ≤ (b.length : Int) - ((atS b a ok w : Nat) : Int)) = true) : okP b a ok w = true := by
  unfold okP
  rw [h1, okS, h2]; rfl
theorem okP_f1 {b : Str} {a : Nat} {ok : Bool} {w : Nat} (h1 : okS b a ok w = false) : okP b a ok w = false := by
  unfold okP
  rw [h1, okS]; rfl
theorem okP_f2 {b : Str} {a : Nat} {ok : Bool} {w : Nat} (h2 : decide (((numS b a ok w : Nat) : Int) ≤ (b.length : Int) - ((atS b a ok w : Nat) : Int)) = false) : okP b a ok w = false := by
  unfold okP
  rw [okS, h2, Bool.and_false]
theorem atP_t {b : Str} {a : Nat} {ok : Bool} {w : Nat} (h : okP b a ok w = true) : atP b a ok w = atS b a ok w + numS b a ok w := by
  unfold okP at h
  unfold atP
  rw [atS, h]; rfl
theorem atP_f {b : Str} {a : Nat} {ok : Bool} {w : Nat} (h : okP b a ok w = false) : atP b a ok w = atS b a ok w := by
  unfold okP at h
  unfold atP
  rw [atS, h]; rfl
theorem strP_len (b : Str) (a : Nat) (ok : Bool) (w : Nat) : (strP b a ok w).length ≤ b.length := by
  unfold strP
  cases okP b a ok w <;> simp <;> omega
theorem cut_eq {α : Type} {l : List α} {x y x' y' : Nat} (h1 : x = x') (h2 : y = y') : (l.take y).drop x = (l.take y').drop x' := by subst h1; subst h2; rfl
/-! ### Reading a page -/
theorem i64_range {n : Nat} (h : n < 4294967296) : IntKind.i64.min ≤ ((n : Nat) : Int) ∧ ((n : Nat) : Int) ≤ IntKind.i64.max := by
  have h1 : IntKind.i64.min = -9223372036854775808 := rfl
  have h2 : IntKind.i64.max = 9223372036854775807 := rfl
  rw [h1, h2]; omega
structure RS where
  ad : Nat
  ok : Bool
  ks : List Str
  vs : List Str
  cs : List Int
def rs0 (b : Str) (leaf : Bool) : RS :=
  let a := atS b 1 true 2
  let o := okS b 1 true 2
  bif leaf then ⟨a, o, [], [], []⟩ else ⟨atS b a o 4, okS b a o 4, [], [], [((numS b a o 4 : Nat) : Int)]⟩
def rsStep (b : Str) (leaf : Bool) (r : RS) : RS :=
  let a := atP b r.ad r.ok 1
  let o := okP b r.ad r.ok 1
  bif leaf then ⟨atP b a o 2, okP b a o 2, r.ks ++ [strP b r.ad r.ok 1], r.vs ++ [strP b a o 2], r.cs⟩
  else ⟨atS b a o 4, okS b a o 4, r.ks ++ [strP b r.ad r.ok 1], r.vs, r.cs ++ [((numS b a o 4 : Nat) : Int)]⟩
def rsN (b : Str) (leaf : Bool) : Nat → RS
  | 0 => rs0 b leaf
  | k + 1 => rsStep b leaf (rsN b leaf k)
def cntR (b : Str) : Nat := numS b 1 true 2
theorem okS_le {b : Str} {a : Nat} {ok : Bool} {w : Nat} (h : okS b a ok w = true) : ok = true ∧ a + w ≤ b.length ∧ atS b a ok w = a + w ∧ numS b a ok w = beA b a w := by
  have h0 := h
  simp only [okS, Bool.and_eq_true, decide_eq_true_eq] at h0
  refine ⟨h0.1, by omega, ?_, ?_⟩
  · unfold atS; rw [h]; rfl
  · unfold numS; rw [h]; rfl
theorem okP_le {b : Str} {a : Nat} {ok : Bool} {w : Nat} (h : okP b a ok w = true) : ok = true ∧ a + w + beA b a w ≤ b.length ∧ atP b a ok w = a + w + beA b a w ∧ strP b a ok w = (b.take (a + w + beA b a w)).drop (a + w) := by
  have h1 := okS_le (show okS b (atS b a ok w) (okS b a ok w) (numS b a ok w) = true from h)
  have h2 := okS_le h1.1
  refine ⟨h2.1, by omega, ?_, ?_⟩
  · rw [atP_t h, h2.2.2.1, h2.2.2.2]
  · unfold strP; rw [h, cond_true, h2.2.2.1, h2.2.2.2]
theorem atP_le (b : Str) (a : Nat) (ok : Bool) (w : Nat) (h : a ≤ b.length) : atP b a ok w ≤ b.length ∧ a ≤ atP b a ok w := by
  have h1 := atS_le b a ok w h
  have h2 := atS_le b (atS b a ok w) (okS b a ok w) (numS b a ok w) h1.1
  unfold atP
  omega
theorem rsN_inv {b : Str} (leaf : Bool) (hb : b.length = 1024) : ∀ k, (rsN b leaf k).ks.length = k ∧ (rsN b leaf k).vs.length = (bif leaf then k else 0) ∧ (rsN b leaf k).cs.length = (bif leaf then 0 else k + 1) ∧ (rsN b leaf k).ad ≤ b.length ∧ ((rsN b leaf k).ok = true → k + 3 ≤ (rsN b leaf k).ad)
  | 0 => by
    have h1 := atS_le b 1 true 2 (by omega)
    have h2 := atS_le b (atS b 1 true 2) (okS b 1 true 2) 4 h1.1
    cases leaf with
    | true =>
      simp only [rsN, rs0, cond_true]
      exact ⟨rfl, rfl, rfl, h1.1, fun h => by have := okS_le h; omega⟩
    | false =>
      simp only [rsN, rs0, cond_false]
      exact ⟨rfl, rfl, rfl, h2.1, fun h => by have := okS_le h; have := okS_le this.1; omega⟩
  | k + 1 => by
    obtain ⟨h1, h2, h3, h4, h5⟩ := rsN_inv leaf hb k
    have a1 := atP_le b (rsN b leaf k).ad (rsN b leaf k).ok 1 h4
    cases leaf with
    | true =>
      have a2 := atP_le b (atP b (rsN b true k).ad (rsN b true k).ok 1) (okP b (rsN b true k).ad (rsN b true k).ok 1) 2 a1.1
      simp only [rsN, rsStep, cond_true, List.length_append, List.length_cons, List.length_nil] at *
      refine ⟨by omega, by omega, by omega, a2.1, fun h => ?_⟩
      have := okP_le h
      have := okP_le this.1
      have := h5 this.1
      omega
    | false =>
      have a2 := atS_le b (atP b (rsN b false k).ad (rsN b false k).ok 1) (okP b (rsN b false k).ad (rsN b false k).ok 1) 4 a1.1
      simp only [rsN, rsStep, cond_false, List.length_append, List.length_cons, List.length_nil] at *
      refine ⟨by omega, by omega, by omega, a2.1, fun h => ?_⟩
      have := okS_le h
      have := okP_le this.1
      have := h5 this.1
      omega
theorem rsN_bad {b : Str} {leaf : Bool} {k : Nat} (h : (rsN b leaf k).ok = false) : ∀ m, k ≤ m → (rsN b leaf m).ok = false := by
  intro m hm
  induction m with
  | zero => obtain rfl : k = 0 := by omega
            exact h
  | succ m ih =>
    by_cases e : k = m + 1
    · subst e; exact h
    · have := ih (by omega)
      cases hk : (rsN b leaf (m + 1)).ok with
      | false => rfl
      | true =>
        cases leaf with
        | true =>
          simp only [rsN, rsStep, cond_true] at hk
          have := okP_le hk
          have := (okP_le this.1).1
          simp_all
        | false =>
          simp only [rsN, rsStep, cond_false] at hk
          have := okS_le hk
          have := (okP_le this.1).1
          simp_all
def leafB (b : Str) : Bool := decide (((b.getD 0 0).toNat : Int) = 76)
def innB (b : Str) : Bool := decide (((b.getD 0 0).toNat : Int) = 73)
def endR (b : Str) (leaf : Bool) : RS := rsN b leaf (cntR b)
def readOk (b : Str) : Bool := decide ((b.length : Int) = 1024) && (leafB b || innB b) && (endR b (leafB b)).ok && decide (checkM (leafB b) (endR b (leafB b)).ks (endR b (leafB b)).vs (endR b (leafB b)).cs = 0) && !(b.drop (endR b (leafB b)).ad).any (fun c => !decide ((c.toNat : Int) = 0))
def rdE (b : Str) : Int := bif readOk b then 0 else 4
def rdL (b : Str) : Bool := readOk b && leafB b
def rdK (b : Str) : List Str := bif readOk b then (endR b (leafB b)).ks else []
def rdV (b : Str) : List Str := bif readOk b then (endR b (leafB b)).vs else []
def rdC (b : Str) : List Int := bif readOk b then (endR b (leafB b)).cs else []
theorem rd_no {b : Str} (h : readOk b = false) : rdE b = 4 ∧ rdL b = false ∧ rdK b = [] ∧ rdV b = [] ∧ rdC b = [] := by
  simp [rdE, rdL, rdK, rdV, rdC, h]
theorem rd_no1 {b : Str} (h : decide ((b.length : Int) = 1024) = false) : readOk b = false := by simp only [readOk, h, Bool.false_and]
theorem rd_no2 {b : Str} (h1 : decide (((b.getD 0 0).toNat : Int) = 76) = false) (h2 : decide (((b.getD 0 0).toNat : Int) = 73) = false) : readOk b = false := by
  simp only [readOk, leafB, innB, h1, h2, Bool.or_self, Bool.and_false, Bool.false_and]
theorem rd_no3 {b : Str} {leaf : Bool} {k : Nat} (hl : decide (((b.getD 0 0).toNat : Int) = 76) = leaf) (hk : k ≤ cntR b) (h : (rsN b leaf k).ok = false) : readOk b = false := by
  have := rsN_bad h (cntR b) hk
  simp only [readOk, leafB, hl, endR, this, Bool.and_false, Bool.false_and]
theorem rd_no4 {b : Str} {leaf : Bool} {k : Nat} (hl : decide (((b.getD 0 0).toNat : Int) = 76) = leaf) (hk : k = cntR b) (h : decide (checkM leaf (rsN b leaf k).ks (rsN b leaf k).vs (rsN b leaf k).cs = 0) = false) : readOk b = false := by
  subst hk
  simp only [readOk, leafB, hl, endR, h, Bool.and_false, Bool.false_and]
theorem rd_no5 {b : Str} {leaf : Bool} {k : Nat} (hl : decide (((b.getD 0 0).toNat : Int) = 76) = leaf) (hk : k = cntR b) (h : (b.drop (rsN b leaf k).ad).any (fun c => !decide ((c.toNat : Int) = 0)) = true) : readOk b = false := by
  subst hk
  simp only [readOk, leafB, hl, endR, h, Bool.not_true, Bool.and_false]
theorem rd_yes {b : Str} {leaf : Bool} {k : Nat} (hb : decide ((b.length : Int) = 1024) = true) (hl : decide (((b.getD 0 0).toNat : Int) = 76) = leaf) (hi : leaf = true ∨ decide (((b.getD 0 0).toNat : Int) = 73) = true) (hk : k = cntR b) (h1 : (rsN b leaf k).ok = true)
    (h2 : decide (checkM leaf (rsN b leaf k).ks (rsN b leaf k).vs (rsN b leaf k).cs = 0) = true) (h3 : (b.drop (rsN b leaf k).ad).any (fun c => !decide ((c.toNat : Int) = 0)) = false) : rdE b = 0 ∧ rdL b = leaf ∧ rdK b = (rsN b leaf k).ks ∧ rdV b = (rsN b leaf k).vs ∧ rdC b = (rsN b leaf k).cs := by
  subst hk
  have : readOk b = true := by
    simp only [readOk, leafB, innB, hl, endR, hb, h1, h2, h3, Bool.true_and, Bool.not_false, Bool.and_true, Bool.or_eq_true]
    exact hi
  have hl' : leafB b = leaf := hl
  refine ⟨by simp only [rdE, this, cond_true], by simp only [rdL, this, hl', Bool.true_and], by simp only [rdK, this, cond_true, endR, hl'], by simp only [rdV, this, cond_true, endR, hl'], by simp only [rdC, this, cond_true, endR, hl']⟩
theorem rsN_leafc (b : Str) : ∀ k, (rsN b true k).cs = []
  | 0 => rfl
  | k + 1 => by simp only [rsN, rsStep, cond_true, rsN_leafc b k]
theorem rsN_innv (b : Str) : ∀ k, (rsN b false k).vs = []
  | 0 => rfl
  | k + 1 => by simp only [rsN, rsStep, cond_false, rsN_innv b k]
/-! ### What is read of bytes has just these -/
theorem beA_div (s : Str) (a m : Nat) : ∀ j, beA s a (m + j) / 256 ^ j = beA s a m
  | 0 => by simp
  | j + 1 => by
    have h : (s.getD (a + (m + j)) 0).toNat < 256 := UInt8.toNat_lt _
    rw [← Nat.add_assoc, beA, Nat.pow_succ, Nat.mul_comm (256 ^ j) 256, ← Nat.div_div_eq_div_mul, show (beA s a (m + j) * 256 + (s.getD (a + (m + j)) 0).toNat) / 256 = beA s a (m + j) by omega]
    exact beA_div s a m j
theorem pow_int (j : Nat) : ((2 : Int) ^ (8 * j)) = ((256 ^ j : Nat) : Int) := by
  rw [Int.pow_mul, Int.natCast_pow]
  rfl
theorem byt_nat (n j : Nat) : byt (n : Int) j = UInt8.ofNat (n / 256 ^ j) := by
  unfold byt
  rw [pow_int, ← Int.natCast_ediv, Int.toNat_natCast]
theorem byt_beA {s : Str} {a w k : Nat} (hk : k < w) (h : a + w ≤ s.length) : byt ((beA s a w : Nat) : Int) (w - 1 - k) = s.getD (a + k) 0 := by
  rw [byt_nat]
  have h1 := beA_div s a (k + 1) (w - 1 - k)
  rw [show k + 1 + (w - 1 - k) = w by omega] at h1
  rw [h1, beA]
  apply UInt8.toNat_inj.1
  have h2 : (s.getD (a + k) 0).toNat < 256 := UInt8.toNat_lt _
  simp only [UInt8.toNat_ofNat']
  omega
theorem take_snoc {α : Type} {l : List α} {d : α} {k : Nat} (h : k < l.length) : l.take (k + 1) = l.take k ++ [l.getD k d] := by
  rw [List.take_add_one, List.getD_eq_getElem?_getD, List.getElem?_eq_getElem h]
  simp
theorem putM_beA {s : Str} {a w : Nat} (h : a + w ≤ s.length) : ∀ k, k ≤ w → putM [] ((beA s a w : Nat) : Int) w k = (s.drop a).take k
  | 0, _ => by simp [putM]
  | k + 1, hk => by
    rw [putM, putM_beA h k (by omega), byt_beA (by omega) h, take_snoc (d := 0) (by simp; omega)]
    simp only [List.getD_eq_getElem?_getD, List.getElem?_drop]
theorem drop_take' {α : Type} (l : List α) (a m : Nat) : (l.take (a + m)).drop a = (l.drop a).take m := by
  rw [List.drop_take, Nat.add_sub_cancel_left]
theorem cut_cut {α : Type} {l : List α} {a c m : Nat} (h1 : a ≤ c) (h2 : c ≤ m) : (l.take c).drop a ++ (l.take m).drop c = (l.take m).drop a := by
  have e1 := drop_take' l a (c - a)
  have e2 := drop_take' l c (m - c)
  have e3 := drop_take' l a (m - a)
  rw [show a + (c - a) = c by omega] at e1
  rw [show c + (m - c) = m by omega] at e2
  rw [show a + (m - a) = m by omega] at e3
  rw [e1, e2, e3, show m - a = (c - a) + (m - c) by omega, List.take_add, List.drop_drop, show a + (c - a) = c by omega]
/-- The pairs' bytes. -/
def tlM (leaf : Bool) (ks vs : List Str) (kids : List Int) : Nat → Str
  | 0 => []
  | k + 1 => tlM leaf ks vs kids k ++ (putM [] ((ks.getD k []).length : Int) 1 1 ++ ks.getD k []) ++ (bif leaf then putM [] ((vs.getD k []).length : Int) 2 2 ++ vs.getD k [] else putM [] (kids.getD (k + 1) 0) 4 4)
theorem body_tl (leaf : Bool) (ks vs : List Str) (kids : List Int) : ∀ k, bodyM leaf ks vs kids k = headM leaf (ks.length : Int) (kids.getD 0 0) ++ tlM leaf ks vs kids k
  | 0 => by simp [bodyM, tlM]
  | k + 1 => by
    have := body_tl leaf ks vs kids k
    cases leaf with
    | true =>
      simp only [bodyM, tlM, cond_true, this]
      rw [putM_app (_ ++ _), putM_app (_ ++ tlM _ _ _ _ _)]
      simp only [List.append_assoc]
    | false =>
      simp only [bodyM, tlM, cond_false, this]
      rw [putM_app (_ ++ _), putM_app (_ ++ tlM _ _ _ _ _)]
      simp only [List.append_assoc]
theorem tl_pre (leaf : Bool) {ks vs ks' vs' : List Str} {kids kids' : List Int} : ∀ k, (∀ j, j < k → ks.getD j [] = ks'.getD j []) → (∀ j, j < k → vs.getD j [] = vs'.getD j []) → (∀ j, j < k → kids.getD (j + 1) 0 = kids'.getD (j + 1) 0) → tlM leaf ks vs kids k = tlM leaf ks' vs' kids' k
  | 0, _, _, _ => rfl
  | k + 1, h1, h2, h3 => by
    simp only [tlM, tl_pre leaf k (fun j hj => h1 j (by omega)) (fun j hj => h2 j (by omega)) (fun j hj => h3 j (by omega)), h1 k (by omega), h2 k (by omega), h3 k (by omega)]
theorem getD_app1 {α : Type} {l m : List α} {d : α} {j : Nat} (h : j < l.length) : (l ++ m).getD j d = l.getD j d := by
  simp only [List.getD_eq_getElem?_getD, List.getElem?_append_left h]
theorem getD_app2 {α : Type} {l : List α} {x d : α} : (l ++ [x]).getD l.length d = x := by
  simp [List.getD_eq_getElem?_getD]
theorem beA_one (b : Str) (a : Nat) (h : a + 1 ≤ b.length) : putM [] ((beA b a 1 : Nat) : Int) 1 1 = (b.take (a + 1)).drop a := by rw [putM_beA h 1 (by omega), drop_take']
theorem beA_w (b : Str) (a w : Nat) (h : a + w ≤ b.length) : putM [] ((beA b a w : Nat) : Int) w w = (b.take (a + w)).drop a := by rw [putM_beA h w (by omega), drop_take']
theorem piece_back {b : Str} {a : Nat} {ok : Bool} {w : Nat} (h : okP b a ok w = true) : putM [] (((strP b a ok w).length : Nat) : Int) w w ++ strP b a ok w = (b.take (atP b a ok w)).drop a := by
  obtain ⟨_, h1, h2, h3⟩ := okP_le h
  have hl : (strP b a ok w).length = beA b a w := by rw [h3]; simp; omega
  rw [hl, beA_w b a w (by omega), h3, h2]
  exact cut_cut (by omega) (by omega)
theorem kid_back {b : Str} {a : Nat} {ok : Bool} {w : Nat} (h : okS b a ok w = true) : putM [] ((numS b a ok w : Nat) : Int) w w = (b.take (atS b a ok w)).drop a := by
  obtain ⟨_, h1, h2, h3⟩ := okS_le h
  rw [h3, beA_w b a w h1, h2]
def hdR (leaf : Bool) : Nat := bif leaf then 3 else 7
theorem rs_ok_back {b : Str} {leaf : Bool} {k : Nat} (h : (rsN b leaf (k + 1)).ok = true) : (rsN b leaf k).ok = true := by
  cases hk : (rsN b leaf k).ok with
  | true => rfl
  | false => rw [rsN_bad hk (k + 1) (by omega)] at h; cases h
theorem rsN_len {b : Str} (leaf : Bool) : ∀ k, (rsN b leaf k).ks.length = k ∧ (rsN b leaf k).vs.length = (bif leaf then k else 0) ∧ (rsN b leaf k).cs.length = (bif leaf then 0 else k + 1)
  | 0 => by cases leaf <;> simp [rsN, rs0]
  | k + 1 => by
    obtain ⟨h1, h2, h3⟩ := rsN_len (b := b) leaf k
    cases leaf <;> simp only [rsN, rsStep, cond_true, cond_false, List.length_append, List.length_cons, List.length_nil] at * <;> omega
theorem rs_tl {b : Str} {leaf : Bool} : ∀ k, (rsN b leaf k).ok = true → hdR leaf ≤ (rsN b leaf k).ad ∧ (rsN b leaf k).ad ≤ b.length ∧ tlM leaf (rsN b leaf k).ks (rsN b leaf k).vs (rsN b leaf k).cs k = (b.take (rsN b leaf k).ad).drop (hdR leaf)
  | 0, h => by
    cases leaf with
    | true =>
      simp only [rsN, rs0, cond_true] at h ⊢
      have := okS_le h
      simp only [tlM, hdR, cond_true, this.2.2.1]
      exact ⟨by omega, by omega, by simp⟩
    | false =>
      have h0 : okS b (atS b 1 true 2) (okS b 1 true 2) 4 = true := h
      have h1 := okS_le h0
      have h2 := okS_le h1.1
      have e : (rsN b false 0).ad = 7 := by
        show atS b (atS b 1 true 2) (okS b 1 true 2) 4 = 7
        rw [h1.2.2.1, h2.2.2.1]
      have q := h1.2.1
      rw [h2.2.2.1] at q
      rw [e]
      exact ⟨by simp [hdR], by omega, by simp [tlM, hdR]⟩
  | k + 1, h => by
    have hk := rs_ok_back h
    obtain ⟨i1, i2, i3⟩ := rs_tl k hk
    obtain ⟨l1, l2, l3⟩ := rsN_len (b := b) leaf k
    cases leaf with
    | true =>
      simp only [rsN, rsStep, cond_true] at h ⊢
      have h2 := okP_le h
      have h1 := okP_le h2.1
      have e1 := piece_back h2.1
      have e2 := piece_back h
      have p1 := atP_le b (rsN b true k).ad (rsN b true k).ok 1 i2
      have p2 := atP_le b (atP b (rsN b true k).ad (rsN b true k).ok 1) (okP b (rsN b true k).ad (rsN b true k).ok 1) 2 p1.1
      refine ⟨by omega, p2.1, ?_⟩
      have g1 : ((rsN b true k).ks ++ [strP b (rsN b true k).ad (rsN b true k).ok 1]).getD k [] = strP b (rsN b true k).ad (rsN b true k).ok 1 := by have := getD_app2 (l := (rsN b true k).ks) (x := strP b (rsN b true k).ad (rsN b true k).ok 1) (d := []); rwa [l1] at this
      have g2 : ((rsN b true k).vs ++ [strP b (atP b (rsN b true k).ad (rsN b true k).ok 1) (okP b (rsN b true k).ad (rsN b true k).ok 1) 2]).getD k [] = strP b (atP b (rsN b true k).ad (rsN b true k).ok 1) (okP b (rsN b true k).ad (rsN b true k).ok 1) 2 := by
        have := getD_app2 (l := (rsN b true k).vs) (x := strP b (atP b (rsN b true k).ad (rsN b true k).ok 1) (okP b (rsN b true k).ad (rsN b true k).ok 1) 2) (d := [])
        simp only [cond_true] at l2
        rwa [l2] at this
      rw [tlM, cond_true, g1, g2, e1, e2, tl_pre true (ks' := (rsN b true k).ks) (vs' := (rsN b true k).vs) (kids' := (rsN b true k).cs) k (fun j hj => getD_app1 (by omega)) (fun j hj => getD_app1 (by simp only [cond_true] at l2; omega)) (fun _ _ => rfl), i3]
      rw [cut_cut i1 p1.2, cut_cut (by omega) p2.2]
    | false =>
      simp only [rsN, rsStep, cond_false] at h ⊢
      have h2 := okS_le h
      have h1 := okP_le h2.1
      have e1 := piece_back h2.1
      have e2 := kid_back h
      have p1 := atP_le b (rsN b false k).ad (rsN b false k).ok 1 i2
      have p2 := atS_le b (atP b (rsN b false k).ad (rsN b false k).ok 1) (okP b (rsN b false k).ad (rsN b false k).ok 1) 4 p1.1
      refine ⟨by omega, p2.1, ?_⟩
      have g1 : ((rsN b false k).ks ++ [strP b (rsN b false k).ad (rsN b false k).ok 1]).getD k [] = strP b (rsN b false k).ad (rsN b false k).ok 1 := by have := getD_app2 (l := (rsN b false k).ks) (x := strP b (rsN b false k).ad (rsN b false k).ok 1) (d := []); rwa [l1] at this
      have g2 : ((rsN b false k).cs ++ [((numS b (atP b (rsN b false k).ad (rsN b false k).ok 1) (okP b (rsN b false k).ad (rsN b false k).ok 1) 4 : Nat) : Int)]).getD (k + 1) 0 = ((numS b (atP b (rsN b false k).ad (rsN b false k).ok 1) (okP b (rsN b false k).ad (rsN b false k).ok 1) 4 : Nat) : Int) := by
        have := getD_app2 (l := (rsN b false k).cs) (x := ((numS b (atP b (rsN b false k).ad (rsN b false k).ok 1) (okP b (rsN b false k).ad (rsN b false k).ok 1) 4 : Nat) : Int)) (d := 0)
        simp only [cond_false] at l3
        rwa [l3] at this
      rw [tlM, cond_false, g1, g2, e1, e2, tl_pre false (ks' := (rsN b false k).ks) (vs' := (rsN b false k).vs) (kids' := (rsN b false k).cs) k (fun j hj => getD_app1 (by omega)) (fun _ _ => rfl) (fun j hj => getD_app1 (by simp only [cond_false] at l3; omega)), i3]
      rw [cut_cut i1 p1.2, cut_cut (by omega) p2.2]
theorem zeros_iff {l : Str} : l.any (fun c => !decide ((c.toNat : Int) = 0)) = false ↔ l = List.replicate l.length 0 := by
  rw [List.any_eq_false]
  constructor
  · intro h
    refine List.eq_replicate_iff.2 ⟨rfl, fun x hx => ?_⟩
    have := h x hx
    simp only [Bool.not_eq_true', decide_eq_false_iff_not, Decidable.not_not] at this
    exact UInt8.toNat_inj.1 (by simpa using this)
  · intro h x hx
    have := (List.eq_replicate_iff.1 h).2 x hx
    subst this
    simp
theorem header {b : Str} {m : Nat} (h : m ≤ b.length) (h1 : 1 ≤ m) : b.take m = [b.getD 0 0] ++ (b.take m).drop 1 := by
  cases b with
  | nil => simp at h; omega
  | cons x b =>
    obtain ⟨j, rfl⟩ : ∃ j, m = j + 1 := ⟨m - 1, by omega⟩
    simp
/-- What is read has just these bytes. -/
theorem body_back {b : Str} {leaf : Bool} (hok : (endR b leaf).ok = true) : bodyM leaf (endR b leaf).ks (endR b leaf).vs (endR b leaf).cs (endR b leaf).ks.length = [bif leaf then 76 else 73] ++ (b.take (endR b leaf).ad).drop 1 ∧ 1 ≤ (endR b leaf).ad ∧ (endR b leaf).ad ≤ b.length := by
  unfold endR at *
  obtain ⟨l1, l2, l3⟩ := rsN_len (b := b) leaf (cntR b)
  obtain ⟨t1, t2, t3⟩ := rs_tl (cntR b) hok
  have h0 : (rsN b leaf 0).ok = true := by
    have : ∀ k, (rsN b leaf k).ok = true → (rsN b leaf 0).ok = true := by
      intro k
      induction k with
      | zero => exact id
      | succ k ih => exact fun h => ih (rs_ok_back h)
    exact this _ hok
  rw [l1, body_tl, t3, l1]
  have hd7 : hdR leaf = 3 ∨ hdR leaf = 7 := by cases leaf <;> simp [hdR]
  refine ⟨?_, by omega, t2⟩
  have hh : headM leaf ((cntR b : Nat) : Int) ((rsN b leaf (cntR b)).cs.getD 0 0) = [bif leaf then 76 else 73] ++ (b.take (hdR leaf)).drop 1 := by
    have g0 : ∀ k, leaf = false → (rsN b leaf k).cs.getD 0 0 = (rsN b leaf 0).cs.getD 0 0 := by
      intro k hl
      subst hl
      induction k with
      | zero => rfl
      | succ k ih =>
        rw [← ih]
        simp only [rsN, rsStep, cond_false]
        exact getD_app1 (by have := (rsN_len (b := b) false k).2.2; simp only [cond_false] at this; omega)
    cases leaf with
    | true =>
      have h1 := okS_le (show okS b 1 true 2 = true from h0)
      simp only [headM, cond_true, hdR]
      rw [putM_app, show cntR b = beA b 1 2 from h1.2.2.2, beA_w b 1 2 (by omega)]
    | false =>
      have h1 := okS_le (show okS b (atS b 1 true 2) (okS b 1 true 2) 4 = true from h0)
      have h2 := okS_le h1.1
      simp only [headM, cond_false, hdR]
      rw [g0 _ rfl, putM_app (putM _ _ _ _), putM_app [73], show cntR b = beA b 1 2 from h2.2.2.2, beA_w b 1 2 (by omega)]
      have e : (rsN b false 0).cs.getD 0 0 = ((numS b (atS b 1 true 2) (okS b 1 true 2) 4 : Nat) : Int) := rfl
      have q := h1.2.1
      rw [e, h1.2.2.2, beA_w b _ 4 h1.2.1]
      rw [h2.2.2.1] at q ⊢
      rw [List.append_assoc, cut_cut (by omega) (by omega)]
  rw [hh, List.append_assoc, cut_cut (by omega) t1]
theorem page_iff {b : Str} {leaf : Bool} (hb : b.length = 1024) (hok : (endR b leaf).ok = true) : pageM leaf (endR b leaf).ks (endR b leaf).vs (endR b leaf).cs = b ↔ b.getD 0 0 = (bif leaf then 76 else 73) ∧ (b.drop (endR b leaf).ad).any (fun c => !decide ((c.toNat : Int) = 0)) = false := by
  obtain ⟨h1, h2, h3⟩ := body_back hok
  have hl : ((bif leaf then (76 : UInt8) else 73) :: (b.take (endR b leaf).ad).drop 1).length = (endR b leaf).ad := by simp; omega
  rw [zeros_iff]
  unfold pageM
  rw [h1]
  have hb2 : b = [b.getD 0 0] ++ (b.take (endR b leaf).ad).drop 1 ++ b.drop (endR b leaf).ad := by
    rw [← header h3 h2, List.take_append_drop]
  have hlen : ([bif leaf then (76 : UInt8) else 73] ++ (b.take (endR b leaf).ad).drop 1).length = (endR b leaf).ad := hl
  rw [hlen]
  constructor
  · intro h
    have h4 := h.trans hb2
    have h5 := List.append_inj h4 (by simp)
    have h6 := (List.append_inj h5.1 rfl).1
    refine ⟨(List.cons.inj h6).1.symm, ?_⟩
    rw [← h5.2]
    simp
  · rintro ⟨h4, h5⟩
    rw [← h4]
    conv => rhs; rw [hb2, h5]
    simp [hb]
theorem rd_ref {b : Str} {leaf : Bool} {k : Nat} (hb : decide ((b.length : Int) = 1024) = true) (hl : decide (((b.getD 0 0).toNat : Int) = 76) = leaf) (hk : k = cntR b) (h1 : (rsN b leaf k).ok = true)
    (h2 : decide (checkM leaf (rsN b leaf k).ks (rsN b leaf k).vs (rsN b leaf k).cs = 0) = true) : readOk b = decide (pageM leaf (rsN b leaf k).ks (rsN b leaf k).vs (rsN b leaf k).cs = b) := by
  subst hk
  have hb' : b.length = 1024 := by have := of_decide_eq_true hb; omega
  have hi := page_iff (leaf := leaf) hb' h1
  simp only [endR] at hi
  rw [Bool.eq_iff_iff, decide_eq_true_eq, hi]
  simp only [readOk, leafB, innB, hl, endR, hb, h1, h2, Bool.true_and, Bool.and_true, Bool.and_eq_true, Bool.or_eq_true, Bool.not_eq_true']
  have e76 : ∀ x : UInt8, x = 76 ↔ ((x.toNat : Int) = 76) := fun x => by
    rw [← UInt8.toNat_inj]; simp; omega
  have e73 : ∀ x : UInt8, x = 73 ↔ ((x.toNat : Int) = 73) := fun x => by
    rw [← UInt8.toNat_inj]; simp; omega
  cases leaf with
  | true =>
    have := of_decide_eq_true hl
    simp only [cond_true, true_or, true_and, (e76 _).2 this]
  | false =>
    simp only [cond_false, Bool.false_eq_true, false_or, decide_eq_true_eq, e73]
theorem okS_in {b : Str} {a w : Nat} (h : a + w ≤ b.length) : okS b a true w = true := by
  simp only [okS, Bool.true_and, decide_eq_true_eq]; omega
theorem okS_out {b : Str} {a w : Nat} (h : ¬ a + w ≤ b.length) : okS b a true w = false := by
  simp only [okS, Bool.true_and, decide_eq_false_iff_not]; omega
theorem okP_in {b : Str} {a w : Nat} (h : okS b a true w = true) (h2 : a + w + beA b a w ≤ b.length) : okP b a true w = true := by
  have := okS_le h
  unfold okP
  rw [h, this.2.2.1, this.2.2.2]
  exact okS_in h2
theorem okP_out {b : Str} {a w : Nat} (h : okS b a true w = true) (h2 : ¬ a + w + beA b a w ≤ b.length) : okP b a true w = false := by
  have := okS_le h
  unfold okP
  rw [h, this.2.2.1, this.2.2.2]
  exact okS_out h2
theorem start_at {b : Str} (h : b.length = 1024) : (3 : Int) = (bif okS b 1 true 2 then ((atS b 1 true 2 : Nat) : Int) else -1) := by
  have h1 := okS_in (b := b) (a := 1) (w := 2) (by omega)
  rw [h1, (okS_le h1).2.2.1]; rfl
theorem start_cnt {b : Str} (h : b.length = 1024) : ((beA b 1 2 : Nat) : Int) = ((cntR b : Nat) : Int) := by
  have h1 := okS_in (b := b) (a := 1) (w := 2) (by omega)
  unfold cntR
  rw [(okS_le h1).2.2.2]
theorem at_neg {o : Bool} {a : Nat} (h : (bif o then (a : Int) else -1) < 0) : o = false := by
  cases o with
  | false => rfl
  | true => simp at h; omega
theorem at_pos {o : Bool} {a : Nat} (h : ¬ (bif o then (a : Int) else -1) < 0) : o = true := by
  cases o with
  | true => rfl
  | false => simp at h
theorem at_ge {o : Bool} {a : Nat} (h : 0 ≤ (bif o then (a : Int) else -1)) : o = true := by
  cases o with
  | true => rfl
  | false => simp at h
theorem rd_yes2 {b : Str} {leaf : Bool} {k : Nat} (hl : decide (((b.getD 0 0).toNat : Int) = 76) = leaf) (hk : k = cntR b) (h : readOk b = true) : rdE b = 0 ∧ rdL b = leaf ∧ rdK b = (rsN b leaf k).ks ∧ rdV b = (rsN b leaf k).vs ∧ rdC b = (rsN b leaf k).cs := by
  subst hk
  have hl' : leafB b = leaf := hl
  refine ⟨by simp only [rdE, h, cond_true], by simp only [rdL, h, hl', Bool.true_and], by simp only [rdK, h, cond_true, endR, hl'], by simp only [rdV, h, cond_true, endR, hl'], by simp only [rdC, h, cond_true, endR, hl']⟩
/-! ### A node's bytes are read as the node -/
theorem putM_getD (n : Int) (w : Nat) : ∀ m k, k < m → (putM [] n w m).getD k 0 = byt n (w - 1 - k)
  | 0, k, h => by omega
  | m + 1, k, h => by
    have hl := putM_len [] n w m
    simp only [List.length_nil, Nat.zero_add] at hl
    rw [putM]
    by_cases e : k = m
    · subst e
      have := getD_app2 (l := putM [] n w k) (x := byt n (w - 1 - k)) (d := 0)
      rwa [hl] at this
    · rw [getD_app1 (by omega)]
      exact putM_getD n w m k (by omega)
theorem getD_mid {α : Type} {X F Y : List α} {d : α} {k : Nat} (h : k < F.length) : (X ++ F ++ Y).getD (X.length + k) d = F.getD k d := by
  simp only [List.getD_eq_getElem?_getD, List.append_assoc]
  rw [List.getElem?_append_right (by omega), Nat.add_sub_cancel_left, List.getElem?_append_left h]
theorem beA_put {X Y : Str} {n w : Nat} (hn : n < 256 ^ w) : ∀ j, j ≤ w → beA (X ++ putM [] (n : Int) w w ++ Y) X.length j = n / 256 ^ (w - j)
  | 0, _ => by rw [beA, Nat.sub_zero, Nat.div_eq_of_lt hn]
  | j + 1, h => by
    have hl := putM_len [] (n : Int) w w
    simp only [List.length_nil, Nat.zero_add] at hl
    rw [beA, beA_put hn j (by omega), getD_mid (by omega), putM_getD _ _ _ _ (by omega), byt_nat]
    rw [show w - j = (w - (j + 1)) + 1 by omega, Nat.pow_succ, ← Nat.div_div_eq_div_mul, show w - 1 - j = w - (j + 1) by omega]
    simp only [UInt8.toNat_ofNat']
    omega
theorem num_at {X Y P : Str} {n w : Nat} (hP : P = X ++ putM [] (n : Int) w w ++ Y) (hn : n < 256 ^ w) : okS P X.length true w = true ∧ atS P X.length true w = X.length + w ∧ numS P X.length true w = n := by
  subst hP
  have hl := putM_len [] (n : Int) w w
  simp only [List.length_nil, Nat.zero_add] at hl
  have h1 := okS_in (b := X ++ putM [] (n : Int) w w ++ Y) (a := X.length) (w := w) (by simp only [List.length_append]; omega)
  have h2 := okS_le h1
  refine ⟨h1, h2.2.2.1, ?_⟩
  rw [h2.2.2.2, beA_put hn w (Nat.le_refl _), Nat.sub_self, Nat.pow_zero, Nat.div_one]
theorem piece_at {X Y P s : Str} {w : Nat} (hP : P = X ++ (putM [] (s.length : Int) w w ++ s) ++ Y) (hn : s.length < 256 ^ w) : okP P X.length true w = true ∧ atP P X.length true w = X.length + w + s.length ∧ strP P X.length true w = s := by
  have hl := putM_len [] (s.length : Int) w w
  simp only [List.length_nil, Nat.zero_add] at hl
  have hP' : P = X ++ putM [] (s.length : Int) w w ++ (s ++ Y) := by rw [hP]; simp only [List.append_assoc]
  have h1 := num_at hP' hn
  have hb : beA P X.length w = s.length := by rw [← (okS_le h1.1).2.2.2]; exact h1.2.2
  have h2 := okP_in h1.1 (by rw [hb, hP]; simp only [List.length_append]; omega)
  have h3 := okP_le h2
  refine ⟨h2, by rw [h3.2.2.1, hb], ?_⟩
  rw [h3.2.2.2, hb, hP]
  have e1 : X.length + w + s.length = (X ++ putM [] (s.length : Int) w w ++ s).length := by simp only [List.length_append]; omega
  have e2 : X.length + w = (X ++ putM [] (s.length : Int) w w).length := by simp only [List.length_append]; omega
  rw [show X ++ (putM [] (s.length : Int) w w ++ s) ++ Y = (X ++ putM [] (s.length : Int) w w ++ s) ++ Y by simp only [List.append_assoc], e1, List.take_left, e2, List.append_assoc X, ← List.append_assoc X, List.drop_left]
theorem body_succ (leaf : Bool) (ks vs : List Str) (kids : List Int) (k : Nat) : bodyM leaf ks vs kids (k + 1) = bodyM leaf ks vs kids k ++ (putM [] ((ks.getD k []).length : Int) 1 1 ++ ks.getD k []) ++ (bif leaf then putM [] ((vs.getD k []).length : Int) 2 2 ++ vs.getD k [] else putM [] (kids.getD (k + 1) 0) 4 4) := by
  rw [body_tl, body_tl, tlM]
  simp only [List.append_assoc]
theorem body_pre (leaf : Bool) (ks vs : List Str) (kids : List Int) {k : Nat} : ∀ {m : Nat}, k ≤ m → ∃ R, bodyM leaf ks vs kids m = bodyM leaf ks vs kids k ++ R
  | 0, h => by obtain rfl : k = 0 := by omega
               exact ⟨[], by simp⟩
  | m + 1, h => by
    by_cases e : k = m + 1
    · subst e; exact ⟨[], by simp⟩
    · obtain ⟨R, hR⟩ := body_pre leaf ks vs kids (k := k) (m := m) (by omega)
      rw [body_succ, hR]
      exact ⟨R ++ (putM [] ((ks.getD m []).length : Int) 1 1 ++ ks.getD m []) ++ (bif leaf then putM [] ((vs.getD m []).length : Int) 2 2 ++ vs.getD m [] else putM [] (kids.getD (m + 1) 0) 4 4), by simp only [List.append_assoc]⟩
theorem page_pre (leaf : Bool) (ks vs : List Str) (kids : List Int) {k : Nat} (h : k ≤ ks.length) : ∃ R, pageM leaf ks vs kids = bodyM leaf ks vs kids k ++ R := by
  obtain ⟨R, hR⟩ := body_pre leaf ks vs kids h
  unfold pageM
  exact ⟨R ++ List.replicate (1024 - (bodyM leaf ks vs kids ks.length).length) 0, by rw [hR, List.append_assoc]⟩
theorem page_len {leaf : Bool} {ks vs : List Str} {kids : List Int} (h : checkM leaf ks vs kids = 0) : (pageM leaf ks vs kids).length = 1024 ∧ (bodyM leaf ks vs kids ks.length).length ≤ 1024 := by
  have h1 := body_size (check_stands h)
  have h2 := check_size h
  unfold pageM
  simp only [List.length_append, List.length_replicate]
  omega
theorem nat_of_kid {c : Int} (h : 0 ≤ c) : c = ((c.toNat : Nat) : Int) := by omega
theorem read_at {leaf : Bool} {ks vs : List Str} {kids : List Int} (hc : checkM leaf ks vs kids = 0) (hN : ks.length < 65536) : cntR (pageM leaf ks vs kids) = ks.length ∧ ∀ k, k ≤ ks.length → rsN (pageM leaf ks vs kids) leaf k = ⟨(bodyM leaf ks vs kids k).length, true, ks.take k, bif leaf then vs.take k else [], bif leaf then [] else kids.take (k + 1)⟩ := by
  have hs := check_stands hc
  obtain ⟨R0, hR0⟩ := page_pre leaf ks vs kids (k := 0) (by omega)
  have h0 : okS (pageM leaf ks vs kids) 1 true 2 = true ∧ atS (pageM leaf ks vs kids) 1 true 2 = 3 ∧ numS (pageM leaf ks vs kids) 1 true 2 = ks.length := by
    cases leaf with
    | true =>
      have := num_at (X := [76]) (n := ks.length) (w := 2) (Y := R0) (P := pageM true ks vs kids) (by rw [hR0, bodyM, headM, cond_true, putM_app]) (by omega)
      simpa using this
    | false =>
      have := num_at (X := [73]) (n := ks.length) (w := 2) (Y := putM [] (kids.getD 0 0) 4 4 ++ R0) (P := pageM false ks vs kids) (by rw [hR0, bodyM, headM, cond_false, putM_app (putM _ _ _ _), putM_app [73]]; simp only [List.append_assoc]) (by omega)
      simpa using this
  refine ⟨h0.2.2, fun k => ?_⟩
  induction k with
  | zero =>
    intro _
    cases leaf with
    | true =>
      simp only [rsN, rs0, cond_true, h0.1, h0.2.1, List.take_zero, bodyM, headM, putM_len, List.length_cons, List.length_nil]
    | false =>
      have hk := (stands_kids hs).2.2 0 (by have := (stands_kids hs).2.1; omega)
      have hlen := (stands_kids hs).2.1
      have hX : (putM (putM [73] (ks.length : Int) 2 2) (kids.getD 0 0) 4 4).length = 7 := by simp only [putM_len, List.length_cons, List.length_nil]
      have h1 := num_at (X := putM [73] (ks.length : Int) 2 2) (n := (kids.getD 0 0).toNat) (w := 4) (Y := R0) (P := pageM false ks vs kids) (by rw [← nat_of_kid hk.1, ← putM_app, hR0, bodyM, headM, cond_false]) (by omega)
      simp only [putM_len, List.length_cons, List.length_nil] at h1
      simp only [rsN, rs0, cond_false, h0.1, h0.2.1]
      rw [h1.1, h1.2.1, h1.2.2, ← nat_of_kid hk.1]
      simp only [bodyM, headM, cond_false, hX, List.take_zero, Nat.zero_add]
      rw [take_snoc (d := 0) (by omega)]
      rfl
  | succ k ih =>
    intro hk
    have ih := ih (by omega)
    obtain ⟨R, hR⟩ := page_pre leaf ks vs kids hk
    rw [body_succ] at hR
    have hkey := key_short hs (k := k) (by omega)
    cases leaf with
    | true =>
      have hv := (stands_leaf hs).2.2 k (by have := (stands_leaf hs).1; omega)
      have hvl := (stands_leaf hs).1
      simp only [cond_true] at hR ih
      have p1 := piece_at (X := bodyM true ks vs kids k) (s := ks.getD k []) (w := 1) (Y := (putM [] ((vs.getD k []).length : Int) 2 2 ++ vs.getD k []) ++ R) (P := pageM true ks vs kids) (by rw [hR]; simp only [List.append_assoc]) (by omega)
      have p2 := piece_at (X := bodyM true ks vs kids k ++ (putM [] ((ks.getD k []).length : Int) 1 1 ++ ks.getD k [])) (s := vs.getD k []) (w := 2) (Y := R) (P := pageM true ks vs kids) hR (by omega)
      have e1 : (bodyM true ks vs kids k ++ (putM [] ((ks.getD k []).length : Int) 1 1 ++ ks.getD k [])).length = (bodyM true ks vs kids k).length + 1 + (ks.getD k []).length := by simp only [List.length_append, putM_len, List.length_nil]; omega
      rw [e1] at p2
      rw [rsN, ih]
      simp only [rsStep, cond_true]
      rw [p1.1, p1.2.1, p1.2.2, p2.1, p2.2.1, p2.2.2, take_snoc (d := []) (show k < ks.length by omega), take_snoc (d := []) (show k < vs.length by omega), body_succ]
      simp only [cond_true, List.length_append, putM_len, List.length_nil]
      congr 1
      omega
    | false =>
      have hlen := (stands_kids hs).2.1
      have hv := (stands_kids hs).2.2 (k + 1) (by omega)
      simp only [cond_false] at hR ih
      have p1 := piece_at (X := bodyM false ks vs kids k) (s := ks.getD k []) (w := 1) (Y := putM [] (kids.getD (k + 1) 0) 4 4 ++ R) (P := pageM false ks vs kids) (by rw [hR]; simp only [List.append_assoc]) (by omega)
      have p2 := num_at (X := bodyM false ks vs kids k ++ (putM [] ((ks.getD k []).length : Int) 1 1 ++ ks.getD k [])) (n := (kids.getD (k + 1) 0).toNat) (w := 4) (Y := R) (P := pageM false ks vs kids) (by rw [← nat_of_kid hv.1]; exact hR) (by omega)
      have e1 : (bodyM false ks vs kids k ++ (putM [] ((ks.getD k []).length : Int) 1 1 ++ ks.getD k [])).length = (bodyM false ks vs kids k).length + 1 + (ks.getD k []).length := by simp only [List.length_append, putM_len, List.length_nil]; omega
      rw [e1] at p2
      rw [rsN, ih]
      simp only [rsStep, cond_false]
      rw [p1.1, p1.2.1, p1.2.2, p2.1, p2.2.1, p2.2.2, ← nat_of_kid hv.1, take_snoc (d := []) (show k < ks.length by omega), take_snoc (d := 0) (show k + 1 < kids.length by omega), body_succ]
      simp only [cond_false, List.length_append, putM_len, List.length_nil]
      congr 1
      omega
theorem page_first {leaf : Bool} {ks vs : List Str} {kids : List Int} : (pageM leaf ks vs kids).getD 0 0 = (bif leaf then 76 else 73) := by
  obtain ⟨R0, hR0⟩ := page_pre leaf ks vs kids (k := 0) (by omega)
  rw [hR0, bodyM]
  cases leaf with
  | true => rw [headM, cond_true, putM_app]; rfl
  | false => rw [headM, cond_false, putM_app (putM _ _ _ _), putM_app [73]]; rfl
theorem read_page {leaf : Bool} {ks vs : List Str} {kids : List Int} (hc : checkM leaf ks vs kids = 0) (hN : ks.length < 65536) : rdE (pageM leaf ks vs kids) = 0 ∧ rdL (pageM leaf ks vs kids) = leaf ∧ rdK (pageM leaf ks vs kids) = ks ∧ rdV (pageM leaf ks vs kids) = vs ∧ rdC (pageM leaf ks vs kids) = kids := by
  obtain ⟨hcnt, hall⟩ := read_at hc hN
  have hs := check_stands hc
  have hN' := hall ks.length (Nat.le_refl _)
  have hlen := page_len hc
  have hks : ks.take ks.length = ks := List.take_length
  have hvs : (bif leaf then vs.take ks.length else []) = vs := by
    cases leaf with
    | true => rw [cond_true, ← (stands_leaf hs).1, List.take_length]
    | false => rw [cond_false]; exact (List.eq_nil_of_length_eq_zero (stands_kids hs).1).symm
  have hkd : (bif leaf then [] else kids.take (ks.length + 1)) = kids := by
    cases leaf with
    | true => rw [cond_true]; exact (List.eq_nil_of_length_eq_zero (stands_leaf hs).2.1).symm
    | false => rw [cond_false, ← (stands_kids hs).2.1, List.take_length]
  rw [hks, hvs, hkd] at hN'
  have h0 := page_first (leaf := leaf) (ks := ks) (vs := vs) (kids := kids)
  have hl : decide ((((pageM leaf ks vs kids).getD 0 0).toNat : Int) = 76) = leaf := by rw [h0]; cases leaf <;> rfl
  have hz : ((pageM leaf ks vs kids).drop (rsN (pageM leaf ks vs kids) leaf ks.length).ad).any (fun c => !decide ((c.toNat : Int) = 0)) = false := by
    rw [hN']
    simp only [pageM, List.drop_left]
    rw [zeros_iff]
    simp
  have := rd_yes (b := pageM leaf ks vs kids) (leaf := leaf) (k := ks.length) (decide_eq_true (by omega)) hl (by cases leaf with | true => exact .inl rfl | false => exact .inr (by rw [h0]; rfl)) hcnt.symm (by rw [hN']) (by rw [hN']; exact decide_eq_true hc) hz
  rw [hN'] at this
  exact this
theorem rdE_no {b : Str} (h : ¬ rdE b = 0) : readOk b = false := by
  cases hr : readOk b with
  | false => rfl
  | true => exact absurd (by simp only [rdE, hr, cond_true]) h
theorem rdE_yes {b : Str} (h : rdE b = 0) : readOk b = true := by
  cases hr : readOk b with
  | true => rfl
  | false => simp only [rdE, hr, cond_false] at h; cases h
theorem read_back {b : Str} (h : rdE b = 0) : checkM (rdL b) (rdK b) (rdV b) (rdC b) = 0 ∧ bytesM (rdL b) (rdK b) (rdV b) (rdC b) = b := by
  have hr := rdE_yes h
  have hr0 := hr
  simp only [readOk, Bool.and_eq_true, decide_eq_true_eq, Bool.not_eq_true', Bool.or_eq_true] at hr0
  obtain ⟨⟨⟨⟨h1, h2⟩, h3⟩, h4⟩, h5⟩ := hr0
  obtain ⟨_, e2, e3, e4, e5⟩ := rd_yes2 (b := b) (leaf := leafB b) (k := cntR b) rfl rfl hr
  rw [e2, e3, e4, e5]
  have h4' : checkM (leafB b) (rsN b (leafB b) (cntR b)).ks (rsN b (leafB b) (cntR b)).vs (rsN b (leafB b) (cntR b)).cs = 0 := h4
  refine ⟨h4', ?_⟩
  simp only [bytesM, h4', decide_true, cond_true]
  refine (page_iff (leaf := leafB b) (by omega) h3).2 ⟨?_, h5⟩
  cases hl : leafB b with
  | true =>
    have := of_decide_eq_true (show decide (((b.getD 0 0).toNat : Int) = 76) = true from hl)
    apply UInt8.toNat_inj.1
    show (b.getD 0 0).toNat = 76
    omega
  | false =>
    rw [hl] at h2
    have := of_decide_eq_true (show decide (((b.getD 0 0).toNat : Int) = 73) = true from h2.resolve_left (by simp))
    apply UInt8.toNat_inj.1
    show (b.getD 0 0).toNat = 73
    omega
theorem rd_short (b : Str) : (rdK b).length ≤ 1024 ∧ (rdV b).length ≤ 1024 ∧ (rdC b).length ≤ 1025 := by
  cases hr : readOk b with
  | false =>
    obtain ⟨_, _, e3, e4, e5⟩ := rd_no hr
    rw [e3, e4, e5]; simp
  | true =>
    have hr0 := hr
    simp only [readOk, Bool.and_eq_true, decide_eq_true_eq, Bool.not_eq_true', Bool.or_eq_true] at hr0
    obtain ⟨_, e2, e3, e4, e5⟩ := rd_yes2 (b := b) (leaf := leafB b) (k := cntR b) rfl rfl hr
    rw [e3, e4, e5]
    obtain ⟨i1, i2, i3, i4, i5⟩ := rsN_inv (b := b) (leafB b) (by omega) (cntR b)
    have := i5 hr0.1.1.2
    have h6 : (rsN b (leafB b) (cntR b)).vs.length ≤ cntR b := by rw [i2]; cases leafB b <;> simp
    have h7 : (rsN b (leafB b) (cntR b)).cs.length ≤ cntR b + 1 := by rw [i3]; cases leafB b <;> simp
    omega
/-! ### Joined nodes -/
theorem findI_st {leaf : Bool} {ks vs : List Str} {kids : List Int} {y : Str} (h : stands leaf ks vs kids = true) : findI leaf ks vs kids y = ((findN leaf ks y : Nat) : Int) := by simp only [findI, h, cond_true]
theorem findB_st {leaf : Bool} {ks vs : List Str} {kids : List Int} {y : Str} (h : stands leaf ks vs kids = true) : findB leaf ks vs kids y = (leaf && decide (((findN leaf ks y : Nat) : Int) < (ks.length : Int)) && decide (ks.getD (findN leaf ks y) [] = y)) := by simp only [findB, h, Bool.true_and]
theorem srch_le (φ : Nat → Bool) : ∀ (d i j : Nat), j - i ≤ d → i ≤ j → i ≤ srch φ i j ∧ srch φ i j ≤ j := by
  intro d
  induction d with
  | zero => intro i j hd hij; rw [srch_end (by omega)]; omega
  | succ d ih =>
    intro i j hd hij
    by_cases h : i < j
    · cases hp : φ ((i + j) / 2) with
      | true => rw [← srch_t h hp]; have := ih i ((i + j) / 2) (by omega) (by omega); omega
      | false => rw [← srch_f h hp]; have := ih ((i + j) / 2 + 1) j (by omega) (by omega); omega
    · rw [srch_end h]; omega
theorem findN_le (leaf : Bool) (ks : List Str) (y : Str) : findN leaf ks y ≤ ks.length := by
  unfold findN
  cases leaf with
  | true => exact (srch_le _ _ 0 _ (Nat.le_refl _) (by omega)).2
  | false => exact (srch_le _ _ 0 _ (Nat.le_refl _) (by omega)).2
/-- What a search tells of a rising row. -/
theorem srch_spec {φ : Nat → Bool} {n : Nat} (hm : ∀ a b, a ≤ b → b < n → φ a = true → φ b = true) : ∀ (d i j : Nat), j - i ≤ d → i ≤ j → j ≤ n → (∀ k, k < i → φ k = false) → (j = n ∨ φ j = true) → (∀ k, k < srch φ i j → φ k = false) ∧ (srch φ i j = n ∨ φ (srch φ i j) = true) := by
  intro d
  induction d with
  | zero => intro i j hd hij hjn h1 h2; rw [srch_end (by omega)]; obtain rfl : i = j := by omega
            exact ⟨h1, h2⟩
  | succ d ih =>
    intro i j hd hij hjn h1 h2
    by_cases h : i < j
    · cases hp : φ ((i + j) / 2) with
      | true => rw [← srch_t h hp]; exact ih i ((i + j) / 2) (by omega) (by omega) (by omega) h1 (.inr hp)
      | false =>
        rw [← srch_f h hp]
        refine ih ((i + j) / 2 + 1) j (by omega) (by omega) hjn (fun k hk => ?_) h2
        cases hk' : φ k with
        | false => rfl
        | true => rw [hm k ((i + j) / 2) (by omega) (by omega) hk'] at hp; cases hp
    · rw [srch_end h]; obtain rfl : i = j := by omega
      exact ⟨h1, h2⟩
theorem findN_t {ks vs : List Str} {kids : List Int} (hs : stands true ks vs kids = true) (y : Str) : (∀ j, j < findN true ks y → ks.getD j [] < y) ∧ (findN true ks y = ks.length ∨ ¬ ks.getD (findN true ks y) [] < y) := by
  have := srch_spec (φ := fun j => !decide (ks.getD j [] < y)) (n := ks.length) (fun a b hab hb ha => by
    rcases Nat.lt_or_ge a b with h | h
    · simp only [Bool.not_eq_true', decide_eq_false_iff_not] at ha ⊢
      exact fun h2 => ha (List.lt_trans (upTo_lt (stands_up hs) h hb) h2)
    · obtain rfl : a = b := by omega
      exact ha) _ 0 ks.length (Nat.le_refl _) (by omega) (Nat.le_refl _) (fun k hk => by omega) (.inl rfl)
  simp only [Bool.not_eq_false', decide_eq_true_eq, Bool.not_eq_true', decide_eq_false_iff_not] at this
  unfold findN
  rw [cond_true]
  exact this
theorem findN_f {ks vs : List Str} {kids : List Int} (hs : stands false ks vs kids = true) (y : Str) : (∀ j, j < findN false ks y → ¬ y < ks.getD j []) ∧ (findN false ks y = ks.length ∨ y < ks.getD (findN false ks y) []) := by
  have := srch_spec (φ := fun j => decide (y < ks.getD j [])) (n := ks.length) (fun a b hab hb ha => by
    rcases Nat.lt_or_ge a b with h | h
    · exact decide_eq_true (List.lt_trans (of_decide_eq_true ha) (upTo_lt (stands_up hs) h hb))
    · obtain rfl : a = b := by omega
      exact ha) _ 0 ks.length (Nat.le_refl _) (by omega) (Nat.le_refl _) (fun k hk => by omega) (.inl rfl)
  simp only [decide_eq_false_iff_not, decide_eq_true_eq] at this
  unfold findN
  rw [cond_false]
  exact this
theorem upTo_iff {ks : List Str} : ∀ {n : Nat}, upTo ks n = true ↔ ∀ k, k < n → (ks.getD k []).length ≤ 128 ∧ (k = 0 ∨ ks.getD (k - 1) [] < ks.getD k [])
  | 0 => by simp [upTo]
  | n + 1 => by
    simp only [upTo, Bool.and_eq_true, upTo_iff (n := n), Bool.not_eq_true', decide_eq_false_iff_not, Bool.or_eq_true, decide_eq_true_eq]
    constructor
    · rintro ⟨h1, h2, h3⟩ k hk
      rcases Nat.lt_or_ge k n with h | h
      · exact h1 k h
      · obtain rfl : k = n := by omega
        exact ⟨by omega, h3⟩
    · intro h
      exact ⟨fun k hk => h k (by omega), by have := (h n (by omega)).1; omega, (h n (by omega)).2⟩
theorem getD_drop {α : Type} {l : List α} {d : α} {a k : Nat} : (l.drop a).getD k d = l.getD (a + k) d := by
  simp only [List.getD_eq_getElem?_getD, List.getElem?_drop]
theorem upTo_cut {ks : List Str} {n a b : Nat} (h : upTo ks n = true) (hb : b ≤ n) (hn : n ≤ ks.length) : upTo ((ks.take b).drop a) ((ks.take b).drop a).length = true := by
  have hl : ((ks.take b).drop a).length = b - a := by simp; omega
  rw [upTo_iff]
  rw [upTo_iff] at h
  intro k hk
  rw [hl] at hk
  rw [getD_cut (by omega)]
  have h1 := h (a + k) (by omega)
  refine ⟨h1.1, ?_⟩
  by_cases e : k = 0
  · exact .inl e
  · rw [getD_cut (by omega)]
    have h2 := h1.2.resolve_left (by omega)
    rw [show a + k - 1 = a + (k - 1) by omega] at h2
    exact .inr h2
theorem stands_mk_t {ks vs : List Str} (h1 : upTo ks ks.length = true) (h2 : vs.length = ks.length) (h3 : ∀ k, k < vs.length → (vs.getD k []).length ≤ 200) : stands true ks vs [] = true := by
  have hv : vs.any (fun v => decide ((200 : Int) < (v.length : Int))) = false := any_none [] fun i hi => decide_eq_false (by have := h3 i hi; omega)
  rw [stands_all h1, hv]
  simp [h2]
theorem stands_mk_f {ks : List Str} {kids : List Int} (h1 : upTo ks ks.length = true) (h2 : kids.length = ks.length + 1) (h3 : ∀ k, k < kids.length → 0 ≤ kids.getD k 0 ∧ kids.getD k 0 < 16384) : stands false ks [] kids = true := by
  have hv : kids.any (fun k => decide (k < (0 : Int)) || decide ((16384 : Int) ≤ k)) = false := any_none 0 fun i hi => by
    have := h3 i hi
    rw [decide_eq_false (by omega), decide_eq_false (by omega)]; rfl
  rw [stands_all h1, hv]
  simp [h2]
theorem stands_cut {leaf : Bool} {ks vs : List Str} {kids : List Int} (hs : stands leaf ks vs kids = true) {a b : Nat} (hab : a ≤ b) (hb : b ≤ ks.length) : stands leaf ((ks.take b).drop a) (partV leaf vs a b) (partC leaf kids a b) = true := by
  have hu := upTo_cut (a := a) (stands_up hs) hb (Nat.le_refl _)
  cases leaf with
  | true =>
    obtain ⟨h1, h2, h3⟩ := stands_leaf hs
    refine stands_mk_t hu (by simp only [partV, cond_true, List.length_drop, List.length_take]; omega) (fun k hk => ?_)
    simp only [partV, cond_true, List.length_drop, List.length_take] at hk ⊢
    rw [getD_cut (by omega)]
    exact h3 _ (by omega)
  | false =>
    obtain ⟨h1, h2, h3⟩ := stands_kids hs
    refine stands_mk_f hu (by simp only [partC, cond_false, List.length_drop, List.length_take]; omega) (fun k hk => ?_)
    simp only [partC, cond_false, List.length_drop, List.length_take] at hk ⊢
    rw [getD_cut (by omega)]
    exact h3 _ (by omega)
theorem preK_drop (leaf : Bool) (l : List Str) (a : Nat) : ∀ j, preK leaf (l.drop a) j = preK leaf l (a + j) - preK leaf l a + cond leaf 3 7
  | 0 => by simp only [preK, Nat.add_zero]; omega
  | j + 1 => by
    rw [← Nat.add_assoc]
    simp only [preK, preK_drop leaf l a j, getD_drop]; omega
theorem sumV_drop (l : List Str) (a : Nat) : ∀ j, sumV (l.drop a) j = sumV l (a + j) - sumV l a
  | 0 => by simp only [sumV, Nat.add_zero]; omega
  | j + 1 => by
    rw [← Nat.add_assoc]
    simp only [sumV, sumV_drop l a j, getD_drop]; omega
theorem size_cut {leaf : Bool} {ks vs : List Str} {a b : Nat} (hab : a ≤ b) (hb : b ≤ ks.length) (hv : leaf = true → b ≤ vs.length) : sizeM leaf ((ks.take b).drop a) (partV leaf vs a b) = preK leaf ks b - preK leaf ks a + cond leaf 3 7 + cond leaf (sumV vs b - sumV vs a) 0 := by
  have hl : ((ks.take b).drop a).length = b - a := by simp; omega
  cases leaf with
  | true =>
    have hb2 := hv rfl
    have hl2 : ((vs.take b).drop a).length = b - a := by simp; omega
    simp only [sizeM, partV, cond_true, preV_eq, hl, hl2, preK_drop, sumV_drop, show a + (b - a) = b by omega, preK_take true ks b b (Nat.le_refl _), preK_take true ks b a hab, sumV_take vs b b (Nat.le_refl _), sumV_take vs b a hab]
  | false => simp only [sizeM, cond_false, hl, preK_drop, show a + (b - a) = b by omega, preK_take false ks b b (Nat.le_refl _), preK_take false ks b a hab, Int.add_zero]
theorem size_all (leaf : Bool) (ks vs : List Str) : sizeM leaf ks vs = preK leaf ks ks.length + cond leaf (sumV vs vs.length) 0 := by
  cases leaf <;> simp only [sizeM, cond_true, cond_false, preV_eq, Int.add_zero]
theorem check_of {leaf : Bool} {ks vs : List Str} {kids : List Int} (hs : stands leaf ks vs kids = true) (hz : sizeM leaf ks vs ≤ 1024) : checkM leaf ks vs kids = 0 := by
  unfold checkM
  rw [hs, cond_true, decide_eq_false (by omega)]; rfl
theorem preK_step {leaf : Bool} {ks vs : List Str} {kids : List Int} (hs : stands leaf ks vs kids = true) {k : Nat} (hk : k < ks.length) : preK leaf ks (k + 1) ≤ preK leaf ks k + 133 := by
  have := key_short hs hk
  simp only [preK]
  cases leaf <;> simp only [cond_true, cond_false] <;> omega
theorem sumV_step {ks vs : List Str} {kids : List Int} (hs : stands true ks vs kids = true) {k : Nat} (hk : k < vs.length) : sumV vs (k + 1) ≤ sumV vs k + 200 := by
  have := (stands_leaf hs).2.2 k hk
  simp only [sumV]; omega
/-- The halves of what is a little too large are right. -/
theorem halves {leaf : Bool} {ks vs : List Str} {kids : List Int} (hok : splitOk leaf ks vs kids = true) (hz : sizeM leaf ks vs ≤ 1355) : 1 ≤ splitK leaf ks vs ∧ splitK leaf ks vs + btw leaf < ks.length ∧ checkM leaf (spAk leaf ks vs kids) (spAv leaf ks vs kids) (spAc leaf ks vs kids) = 0 ∧ checkM leaf (spBk leaf ks vs kids) (spBv leaf ks vs kids) (spBc leaf ks vs kids) = 0 := by
  have hs : stands leaf ks vs kids = true := by simp only [splitOk, Bool.and_eq_true] at hok; exact hok.1
  have hmost : 1 ≤ mostN leaf ks := by
    simp only [splitOk, Bool.and_eq_true, Bool.not_eq_true', decide_eq_false_iff_not] at hok
    unfold mostN
    cases leaf <;> simp only [cond_true, cond_false] at hok ⊢ <;> omega
  obtain ⟨k1, k2⟩ := splitK_le (vs := vs) hmost
  have hmN : mostN leaf ks = ks.length - 1 - (bif leaf then 0 else 1) := rfl
  have hfit := (stands_fit hs).1
  obtain ⟨_, f2, f3, f4, _, f6, f7, f8⟩ := sp_yes hok rfl
  rw [f2, f3, f4, f6, f7, f8]
  have hsp := srch_spec (φ := spK leaf ks vs (sizeM leaf ks vs / 2)) (n := mostN leaf ks - 1) (fun a b hab hb ha => spK_mono hs hab hb ha) _ 0 (mostN leaf ks - 1) (Nat.le_refl _) (by omega) (Nat.le_refl _) (fun k hk => by omega) (.inl rfl)
  have hkk : splitK leaf ks vs = 1 + srch (spK leaf ks vs (sizeM leaf ks vs / 2)) 0 (mostN leaf ks - 1) := rfl
  have hbw : splitK leaf ks vs + btw leaf < ks.length := by
    unfold btw
    cases leaf <;> simp only [cond_true, cond_false] at hmN ⊢ <;> omega
  refine ⟨k1, hbw, check_of (stands_cut hs (by omega) (by omega)) ?_, check_of (stands_cut hs (by omega) (Nat.le_refl _)) ?_⟩
  · rw [size_part (by omega) (fun e => by have := hfit e; omega)]
    by_cases h1 : splitK leaf ks vs = 1
    · rw [h1]
      have e1 := preK_step hs (k := 0) (by omega)
      cases leaf with
      | true =>
        have e2 := sumV_step hs (k := 0) (by have := hfit rfl; omega)
        simp only [cond_true, preK, sumV] at *
        omega
      | false => simp only [cond_false, preK] at *; omega
    · have h3 := hsp.1 (splitK leaf ks vs - 2) (by omega)
      simp only [spK, decide_eq_false_iff_not] at h3
      rw [show 1 + (splitK leaf ks vs - 2) = splitK leaf ks vs - 1 by omega, size_part (by omega) (fun e => by have := hfit e; omega)] at h3
      have e1 := preK_step hs (k := splitK leaf ks vs - 1) (by omega)
      rw [show splitK leaf ks vs - 1 + 1 = splitK leaf ks vs by omega] at e1
      cases leaf with
      | true =>
        have e2 := sumV_step hs (k := splitK true ks vs - 1) (by have := hfit rfl; omega)
        rw [show splitK true ks vs - 1 + 1 = splitK true ks vs by omega] at e2
        simp only [cond_true] at *
        omega
      | false => simp only [cond_false] at *; omega
  · rw [size_cut (by omega) (Nat.le_refl _) (fun e => by have := hfit e; omega)]
    have hall := size_all leaf ks vs
    have hb1 := preK_mono leaf ks (a := splitK leaf ks vs) (b := splitK leaf ks vs + btw leaf) (by omega)
    have hb2 := sumV_mono vs (a := splitK leaf ks vs) (b := splitK leaf ks vs + btw leaf) (by omega)
    rcases hsp.2 with h3 | h3
    · -- one key is left
      have hlast : splitK leaf ks vs + btw leaf + 1 = ks.length := by
        unfold btw
        cases leaf <;> simp only [cond_true, cond_false] at hmN ⊢ <;> omega
      have e1 := preK_step hs (k := splitK leaf ks vs + btw leaf) (by omega)
      rw [hlast] at e1
      cases leaf with
      | true =>
        have e2 := sumV_step hs (k := splitK true ks vs + btw true) (by have := hfit rfl; omega)
        rw [hlast] at e2
        simp only [cond_true] at *
        omega
      | false => simp only [cond_false] at *; omega
    · simp only [spK, decide_eq_true_eq] at h3
      rw [← hkk, size_part (by omega) (fun e => by have := hfit e; omega)] at h3
      cases leaf with
      | true =>
        have := hfit rfl
        simp only [cond_true, this] at *
        omega
      | false => simp only [cond_false] at *; omega
/-! ### One key and kid more -/
def lenS (l : List Str) : Nat := (l.map List.length).sum
theorem lenS_app (a b : List Str) : lenS (a ++ b) = lenS a + lenS b := by simp [lenS]
theorem lenS_one (x : Str) : lenS [x] = x.length := by simp [lenS]
theorem lenS_cut (l : List Str) (i : Nat) : lenS (l.take i) + lenS (l.drop i) = lenS l := by rw [← lenS_app, List.take_append_drop]
theorem preK_sum (leaf : Bool) (l : List Str) : ∀ j, j ≤ l.length → preK leaf l j = cond leaf 3 7 + cond leaf 3 5 * (j : Int) + (lenS (l.take j) : Int)
  | 0, _ => by cases leaf <;> simp [preK, lenS]
  | j + 1, h => by
    rw [take_snoc (d := []) (by omega), lenS_app, lenS_one, preK, preK_sum leaf l j (by omega)]
    cases leaf <;> simp only [cond_true, cond_false] <;> omega
theorem sumV_sum (l : List Str) : ∀ j, j ≤ l.length → sumV l j = (lenS (l.take j) : Int)
  | 0, _ => by simp [sumV, lenS]
  | j + 1, h => by
    rw [take_snoc (d := []) (by omega), lenS_app, lenS_one, sumV, sumV_sum l j (by omega)]
    omega
theorem size_sum (leaf : Bool) (ks vs : List Str) : sizeM leaf ks vs = cond leaf 3 7 + cond leaf 3 5 * (ks.length : Int) + (lenS ks : Int) + cond leaf (lenS vs : Int) 0 := by
  rw [size_all, preK_sum leaf ks _ (Nat.le_refl _), sumV_sum vs _ (Nat.le_refl _), List.take_length, List.take_length]
theorem getD_ins {α : Type} {l : List α} {x d : α} {i : Nat} (hi : i ≤ l.length) (j : Nat) : ((l.take i ++ [x]) ++ l.drop i).getD j d = if j < i then l.getD j d else if j = i then x else l.getD (j - 1) d := by
  have hl : (l.take i).length = i := by simp; omega
  simp only [List.getD_eq_getElem?_getD]
  by_cases h1 : j < i
  · rw [if_pos h1, List.append_assoc, List.getElem?_append_left (by omega), List.getElem?_take, if_pos h1]
  · rw [if_neg h1, List.append_assoc, List.getElem?_append_right (by omega), hl]
    by_cases h2 : j = i
    · subst h2; simp
    · rw [if_neg h2, List.getElem?_append_right (by simp; omega)]
      simp only [List.length_cons, List.length_nil, List.getElem?_drop]
      congr 2
      omega
theorem len_ins {α : Type} {l : List α} {x : α} {i : Nat} (hi : i ≤ l.length) : ((l.take i ++ [x]) ++ l.drop i).length = l.length + 1 := by simp; omega
theorem upTo_ins {ks : List Str} {y : Str} {i : Nat} (h : upTo ks ks.length = true) (hi : i ≤ ks.length) (hy : y.length ≤ 128) (h1 : ∀ j, j < i → ks.getD j [] < y) (h2 : i = ks.length ∨ y < ks.getD i []) : upTo ((ks.take i ++ [y]) ++ ks.drop i) ((ks.take i ++ [y]) ++ ks.drop i).length = true := by
  rw [len_ins hi, upTo_iff]
  rw [upTo_iff] at h
  intro k hk
  rw [getD_ins hi, getD_ins hi]
  by_cases a1 : k < i
  · rw [if_pos a1, if_pos (by omega)]
    exact h k (by omega)
  · rw [if_neg a1]
    by_cases a2 : k = i
    · subst a2
      rw [if_pos rfl]
      refine ⟨hy, ?_⟩
      by_cases a3 : k = 0
      · exact .inl a3
      · rw [if_pos (by omega)]
        exact .inr (h1 _ (by omega))
    · rw [if_neg a2]
      refine ⟨(h (k - 1) (by omega)).1, .inr ?_⟩
      rw [if_neg (by omega)]
      by_cases a3 : k - 1 = i
      · rw [if_pos a3, a3]
        rcases h2 with h2 | h2
        · omega
        · exact h2
      · rw [if_neg a3]
        have := (h (k - 1) (by omega)).2.resolve_left (by omega)
        exact this
theorem check_2 {leaf : Bool} {ks vs : List Str} {kids : List Int} (h : checkM leaf ks vs kids = 2) : stands leaf ks vs kids = false := by
  cases hs : stands leaf ks vs kids with
  | false => rfl
  | true =>
    unfold checkM at h
    rw [hs, cond_true] at h
    cases hd : decide ((1024 : Int) < sizeM leaf ks vs) <;> rw [hd] at h <;> cases h
theorem check_n2 {leaf : Bool} {ks vs : List Str} {kids : List Int} (h : ¬ checkM leaf ks vs kids = 2) : stands leaf ks vs kids = true := by
  cases hs : stands leaf ks vs kids with
  | true => rfl
  | false => exact absurd (by unfold checkM; rw [hs]; rfl) h
theorem kids_bad {ks vs : List Str} {kids : List Int} {y : Str} {c : Int} (hs : stands false ks vs kids = true) (hy : y.length ≤ 128) (hc : 0 ≤ c ∧ c < 16384) (h : checkM false ((ks.take (findN false ks y) ++ [y]) ++ ks.drop (findN false ks y)) [] ((kids.take (findN false ks y + 1) ++ [c]) ++ kids.drop (findN false ks y + 1)) = 2) :
    0 < findN false ks y ∧ ks.getD (findN false ks y - 1) [] = y := by
  have hle := findN_le false ks y
  obtain ⟨f1, f2⟩ := findN_f hs y
  obtain ⟨k1, k2, k3⟩ := stands_kids hs
  refine Classical.byContradiction fun hn => ?_
  have hst := check_2 h
  have h1 : ∀ j, j < findN false ks y → ks.getD j [] < y := by
    intro j hj
    have hlast : ks.getD (findN false ks y - 1) [] < y := by
      rcases Decidable.em (ks.getD (findN false ks y - 1) [] < y) with h | h
      · exact h
      · exact absurd ⟨by omega, Classical.byContradiction fun hne => f1 (findN false ks y - 1) (by omega) (tri h hne)⟩ hn
    by_cases e : j = findN false ks y - 1
    · rw [e]; exact hlast
    · exact List.lt_trans (upTo_lt (stands_up hs) (show j < findN false ks y - 1 by omega) (by omega)) hlast
  have := stands_mk_f (kids := (kids.take (findN false ks y + 1) ++ [c]) ++ kids.drop (findN false ks y + 1)) (upTo_ins (stands_up hs) hle hy h1 f2) (by rw [len_ins hle, len_ins (by omega)]; omega) (fun k hk => by
    rw [len_ins (by omega)] at hk
    rw [getD_ins (by omega)]
    split
    · exact k3 k (by omega)
    · split
      · exact hc
      · exact k3 _ (by omega))
  rw [this] at hst; cases hst
theorem kids_size {ks vs : List Str} {y : Str} (hz : sizeM false ks vs ≤ 1024) (hy : y.length ≤ 128) (i : Nat) (hi : i ≤ ks.length) : sizeM false ((ks.take i ++ [y]) ++ ks.drop i) [] ≤ 1355 := by
  rw [size_sum] at hz ⊢
  rw [len_ins hi, lenS_app, lenS_app, lenS_one]
  have := lenS_cut ks i
  simp only [cond_false] at *
  omega
theorem split_few {leaf : Bool} {ks vs : List Str} {kids : List Int} (hs : stands leaf ks vs kids = true) (h : splitOk leaf ks vs kids = false) : (ks.length : Int) < 2 + (bif leaf then 0 else 1) := by
  simp only [splitOk, hs, Bool.true_and, Bool.not_eq_false', decide_eq_true_eq] at h
  cases leaf <;> simp only [cond_true, cond_false] at h ⊢ <;> omega
theorem take_key {α : Type} {l : List α} {d : α} {k : Nat} (h : k < l.length) : (l.take k ++ [l.getD k d]) ++ l.drop (k + 1) = l := by
  rw [← take_snoc h, List.take_append_drop]
theorem join_f {ks vs : List Str} {kids : List Int} (hok : splitOk false ks vs kids = true) (hz : sizeM false ks vs ≤ 1355) : (spAk false ks vs kids ++ [spKey false ks vs kids]) ++ spBk false ks vs kids = ks ∧ spAc false ks vs kids ++ spBc false ks vs kids = kids := by
  have hs : stands false ks vs kids = true := by simp only [splitOk, Bool.and_eq_true] at hok; exact hok.1
  have hh := halves hok hz
  simp only [btw, cond_false] at hh
  obtain ⟨_, f2, f3, f4, f5, f6, f7, f8⟩ := sp_yes hok rfl
  rw [f2, f4, f5, f6, f8]
  have hl := (stands_kids hs).2.1
  refine ⟨?_, ?_⟩
  · simp only [List.drop_zero, List.take_length, btw, cond_false]
    exact take_key (by omega)
  · simp only [partC, cond_false, List.drop_zero, btw]
    rw [← hl, List.take_length, List.take_append_drop]
theorem sp_len {leaf : Bool} {ks vs : List Str} {kids : List Int} (h : splitOk leaf ks vs kids = true) : (spAk leaf ks vs kids).length ≤ ks.length ∧ (spAv leaf ks vs kids).length ≤ vs.length ∧ (spBk leaf ks vs kids).length ≤ ks.length ∧ (spBv leaf ks vs kids).length ≤ vs.length ∧ (spAc leaf ks vs kids).length ≤ kids.length ∧ (spBc leaf ks vs kids).length ≤ kids.length ∧ spL leaf ks vs kids = leaf := by
  obtain ⟨f1, f2, f3, f4, f5, f6, f7, f8⟩ := sp_yes h rfl
  rw [f1, f2, f3, f4, f6, f7, f8]
  refine ⟨?_, ?_, ?_, ?_, ?_, ?_, ?_⟩ <;> cases leaf <;> simp only [partV, partC, cond_true, cond_false, List.length_drop, List.length_take, List.length_nil] <;> omega
theorem spKey_len {leaf : Bool} {ks vs : List Str} {kids : List Int} (h : splitOk leaf ks vs kids = true) : (spKey leaf ks vs kids).length ≤ 128 := by
  have hs : stands leaf ks vs kids = true := by have h' := h; simp only [splitOk, Bool.and_eq_true] at h'; exact h'.1
  rw [(sp_yes h rfl).2.2.2.2.1]
  by_cases hk : splitK leaf ks vs < ks.length
  · have := key_short hs hk; omega
  · rw [List.getD_eq_getElem?_getD, List.getElem?_eq_none (by omega)]; simp
/-! ### Put and Drop -/
def putOk (leaf : Bool) (ks vs : List Str) (kids : List Int) (y v : Str) : Bool := stands leaf ks vs kids && leaf && !decide ((128 : Int) < (y.length : Int)) && !decide ((200 : Int) < (v.length : Int))
def putK (leaf : Bool) (ks vs : List Str) (kids : List Int) (y v : Str) : List Str := bif putOk leaf ks vs kids y v then (bif findB leaf ks vs kids y then ks else ks.take (findN leaf ks y) ++ [y] ++ ks.drop (findN leaf ks y)) else []
def putV (leaf : Bool) (ks vs : List Str) (kids : List Int) (y v : Str) : List Str := bif putOk leaf ks vs kids y v then (bif findB leaf ks vs kids y then vs.set (findN leaf ks y) v else vs.take (findN leaf ks y) ++ [v] ++ vs.drop (findN leaf ks y)) else []
def putE (leaf : Bool) (ks vs : List Str) (kids : List Int) (y v : Str) : Int := bif putOk leaf ks vs kids y v then 0 else 2
def drK (leaf : Bool) (ks vs : List Str) (kids : List Int) (y : Str) : List Str := bif findB leaf ks vs kids y then ks.take (findN leaf ks y) ++ ks.drop (findN leaf ks y + 1) else []
def drV (leaf : Bool) (ks vs : List Str) (kids : List Int) (y : Str) : List Str := bif findB leaf ks vs kids y then vs.take (findN leaf ks y) ++ vs.drop (findN leaf ks y + 1) else []
theorem findB_yes {leaf : Bool} {ks vs : List Str} {kids : List Int} {y : Str} (h : findB leaf ks vs kids y = true) : leaf = true ∧ stands leaf ks vs kids = true ∧ findN leaf ks y < ks.length ∧ ks.getD (findN leaf ks y) [] = y := by
  simp only [findB, Bool.and_eq_true, decide_eq_true_eq] at h
  obtain ⟨⟨⟨hs, hl⟩, h1⟩, h2⟩ := h
  exact ⟨hl, hs, by omega, h2⟩
theorem find_lens {leaf : Bool} {ks vs : List Str} {kids : List Int} {y : Str} (h : findB leaf ks vs kids y = true) : findI leaf ks vs kids y = ((findN leaf ks y : Nat) : Int) ∧ findN leaf ks y < ks.length ∧ findN leaf ks y < vs.length ∧ vs.length = ks.length := by
  obtain ⟨rfl, hs, h1, h2⟩ := findB_yes h
  have h3 := (stands_leaf hs).1
  exact ⟨findI_st hs, h1, by omega, h3⟩
theorem dr_yes {leaf : Bool} {ks vs : List Str} {kids : List Int} {y : Str} (h : findB leaf ks vs kids y = true) : drK leaf ks vs kids y = ks.take (findN leaf ks y) ++ ks.drop (findN leaf ks y + 1) ∧ drV leaf ks vs kids y = vs.take (findN leaf ks y) ++ vs.drop (findN leaf ks y + 1) := by simp only [drK, drV, h, cond_true, and_self]
theorem dr_len {leaf : Bool} {ks vs : List Str} {kids : List Int} {y : Str} (h : findB leaf ks vs kids y = true) : (drK leaf ks vs kids y).length + 1 = ks.length ∧ (drV leaf ks vs kids y).length + 1 = vs.length := by
  obtain ⟨h1, h2⟩ := dr_yes h
  obtain ⟨_, h3, h4, _⟩ := find_lens h
  rw [h1, h2]
  simp; omega
theorem getD_del {α : Type} {l : List α} {d : α} {i : Nat} (hi : i < l.length) (k : Nat) : (l.take i ++ l.drop (i + 1)).getD k d = if k < i then l.getD k d else l.getD (k + 1) d := by
  have hl : (l.take i).length = i := by simp; omega
  simp only [List.getD_eq_getElem?_getD]
  by_cases h : k < i
  · rw [if_pos h, List.getElem?_append_left (by omega), List.getElem?_take, if_pos h]
  · rw [if_neg h, List.getElem?_append_right (by omega), hl, List.getElem?_drop]
    congr 2
    omega
theorem len_del {α : Type} {l : List α} {i : Nat} (hi : i < l.length) : (l.take i ++ l.drop (i + 1)).length = l.length - 1 := by simp; omega
theorem set_mid {α : Type} {l : List α} {x : α} {i : Nat} (hi : i < l.length) : l.set i x = l.take i ++ [x] ++ l.drop (i + 1) := by
  rw [List.set_eq_take_append_cons_drop, if_pos hi, List.append_assoc]; rfl
theorem ins_del {α : Type} {l : List α} {x : α} {i : Nat} (hi : i < l.length) : (l.take i ++ l.drop (i + 1)).take i ++ [x] ++ (l.take i ++ l.drop (i + 1)).drop i = l.set i x := by
  have hl : (l.take i).length = i := by simp; omega
  rw [set_mid hi]
  have h1 : (l.take i ++ l.drop (i + 1)).take i = l.take i := by rw [List.take_append_of_le_length (by omega), List.take_take, Nat.min_self]
  have h2 : (l.take i ++ l.drop (i + 1)).drop i = l.drop (i + 1) := by rw [List.drop_append_of_le_length (by omega), List.drop_take, Nat.sub_self]; simp
  rw [h1, h2]
theorem set_same {α : Type} {l : List α} {d x : α} {i : Nat} (hi : i < l.length) (h : l.getD i d = x) : l.set i x = l := by
  rw [set_mid hi, ← h]
  exact take_key hi
theorem upTo_del {ks : List Str} {i : Nat} (h : upTo ks ks.length = true) (hi : i < ks.length) : upTo (ks.take i ++ ks.drop (i + 1)) (ks.take i ++ ks.drop (i + 1)).length = true := by
  rw [len_del hi, upTo_iff]
  have h0 := h
  rw [upTo_iff] at h
  intro k hk
  rw [getD_del hi, getD_del hi]
  by_cases a1 : k < i
  · rw [if_pos a1, if_pos (by omega)]
    exact h k (by omega)
  · rw [if_neg a1]
    refine ⟨(h (k + 1) (by omega)).1, ?_⟩
    by_cases a2 : k = 0
    · exact .inl a2
    · right
      by_cases a3 : k - 1 < i
      · rw [if_pos a3]
        exact upTo_lt h0 (show k - 1 < k + 1 by omega) (by omega)
      · rw [if_neg a3]
        exact upTo_lt h0 (show k - 1 + 1 < k + 1 by omega) (by omega)
theorem stands_del {ks vs : List Str} {kids : List Int} (hs : stands true ks vs kids = true) {i : Nat} (hi : i < ks.length) : stands true (ks.take i ++ ks.drop (i + 1)) (vs.take i ++ vs.drop (i + 1)) [] = true := by
  obtain ⟨h1, h2, h3⟩ := stands_leaf hs
  refine stands_mk_t (upTo_del (stands_up hs) hi) (by rw [len_del hi, len_del (by omega)]; omega) (fun k hk => ?_)
  rw [len_del (by omega)] at hk
  rw [getD_del (by omega)]
  split
  · exact h3 _ (by omega)
  · exact h3 _ (by omega)
theorem findN_uniq {ks vs : List Str} {kids : List Int} (hs : stands true ks vs kids = true) {y : Str} {i : Nat} (hi : i ≤ ks.length) (h1 : ∀ j, j < i → ks.getD j [] < y) (h2 : i = ks.length ∨ ¬ ks.getD i [] < y) : findN true ks y = i := by
  obtain ⟨f1, f2⟩ := findN_t hs y
  have hle := findN_le true ks y
  rcases Nat.lt_trichotomy (findN true ks y) i with h | h | h
  · rcases f2 with f2 | f2
    · omega
    · exact absurd (h1 _ h) f2
  · exact h
  · rcases h2 with h2 | h2
    · omega
    · exact absurd (f1 _ h) h2
theorem drop_find {leaf : Bool} {ks vs : List Str} {kids : List Int} {y : Str} (h : findB leaf ks vs kids y = true) : stands true (drK leaf ks vs kids y) (drV leaf ks vs kids y) [] = true ∧ findN true (drK leaf ks vs kids y) y = findN leaf ks y ∧ findI (findB leaf ks vs kids y) (drK leaf ks vs kids y) (drV leaf ks vs kids y) [] y = ((findN leaf ks y : Nat) : Int) ∧ findB true (drK leaf ks vs kids y) (drV leaf ks vs kids y) [] y = false := by
  obtain ⟨h1, h2⟩ := dr_yes h
  obtain ⟨rfl, hs, h3, h4⟩ := findB_yes h
  have hs2 := stands_del hs h3
  have hn : findN true (ks.take (findN true ks y) ++ ks.drop (findN true ks y + 1)) y = findN true ks y := by
    refine findN_uniq hs2 (by rw [len_del h3]; omega) (fun j hj => ?_) ?_
    · rw [getD_del h3, if_pos hj]
      exact (findN_t hs y).1 j hj
    · rw [len_del h3, getD_del h3, if_neg (by omega)]
      by_cases e : findN true ks y = ks.length - 1
      · exact .inl e
      · right
        have hlt := upTo_lt (stands_up hs) (show findN true ks y < findN true ks y + 1 by omega) (by omega)
        rw [h4] at hlt
        exact fun h => List.lt_irrefl _ (List.lt_trans h hlt)
  rw [h, h1, h2]
  refine ⟨hs2, hn, ?_, ?_⟩
  · rw [findI_st hs2, hn]
  · rw [findB_st hs2, hn, len_del h3, getD_del h3, if_neg (by omega)]
    by_cases e : findN true ks y = ks.length - 1
    · rw [decide_eq_false (p := ((findN true ks y : Nat) : Int) < ((ks.length - 1 : Nat) : Int)) (by omega)]; rfl
    · have hlt := upTo_lt (stands_up hs) (show findN true ks y < findN true ks y + 1 by omega) (by omega)
      rw [h4] at hlt
      rw [decide_eq_false (p := ks.getD (findN true ks y + 1) [] = y) (fun e2 => by rw [e2] at hlt; exact List.lt_irrefl _ hlt), Bool.and_false]
theorem put_back {leaf : Bool} {ks vs : List Str} {kids : List Int} {y v : Str} (h : findB leaf ks vs kids y = true) : (drK leaf ks vs kids y).take (findN leaf ks y) ++ [y] ++ (drK leaf ks vs kids y).drop (findN leaf ks y) = ks ∧ (drV leaf ks vs kids y).take (findN leaf ks y) ++ [v] ++ (drV leaf ks vs kids y).drop (findN leaf ks y) = vs.set (findN leaf ks y) v := by
  obtain ⟨h1, h2⟩ := dr_yes h
  obtain ⟨_, h3, h4, _⟩ := find_lens h
  rw [h1, h2, ins_del h3, ins_del h4]
  exact ⟨set_same h3 (findB_yes h).2.2.2, rfl⟩
/-! ### What Put makes -/
theorem putOk_yes {leaf : Bool} {ks vs : List Str} {kids : List Int} {y u : Str} (h : putOk leaf ks vs kids y u = true) : leaf = true ∧ stands leaf ks vs kids = true ∧ y.length ≤ 128 ∧ u.length ≤ 200 := by
  simp only [putOk, Bool.and_eq_true, Bool.not_eq_true', decide_eq_false_iff_not] at h
  obtain ⟨⟨⟨h1, h2⟩, h3⟩, h4⟩ := h
  exact ⟨h2, h1, by omega, by omega⟩
theorem put_t {leaf : Bool} {ks vs : List Str} {kids : List Int} {y u : Str} (h : putOk leaf ks vs kids y u = true) (hb : findB leaf ks vs kids y = true) : putK leaf ks vs kids y u = ks ∧ putV leaf ks vs kids y u = vs.set (findN leaf ks y) u := by simp only [putK, putV, h, hb, cond_true, and_self]
theorem put_f {leaf : Bool} {ks vs : List Str} {kids : List Int} {y u : Str} (h : putOk leaf ks vs kids y u = true) (hb : findB leaf ks vs kids y = false) : putK leaf ks vs kids y u = ks.take (findN leaf ks y) ++ [y] ++ ks.drop (findN leaf ks y) ∧ putV leaf ks vs kids y u = vs.take (findN leaf ks y) ++ [u] ++ vs.drop (findN leaf ks y) := by simp only [putK, putV, h, hb, cond_true, cond_false, and_self]
theorem put_no {leaf : Bool} {ks vs : List Str} {kids : List Int} {y u : Str} (h : putOk leaf ks vs kids y u = false) : putK leaf ks vs kids y u = [] ∧ putV leaf ks vs kids y u = [] ∧ putE leaf ks vs kids y u = 2 := by simp only [putK, putV, putE, h, cond_false, and_self]
theorem putE_0 {leaf : Bool} {ks vs : List Str} {kids : List Int} {y u : Str} (h : putE leaf ks vs kids y u = 0) : putOk leaf ks vs kids y u = true := by
  cases e : putOk leaf ks vs kids y u with
  | true => rfl
  | false => rw [(put_no e).2.2] at h; cases h
theorem putE_n {leaf : Bool} {ks vs : List Str} {kids : List Int} {y u : Str} (h : ¬ putE leaf ks vs kids y u = 0) : putOk leaf ks vs kids y u = false := by
  cases e : putOk leaf ks vs kids y u with
  | true => exact absurd (by simp only [putE, e, cond_true]) h
  | false => rfl
theorem getD_set {α : Type} {l : List α} {x d : α} {i : Nat} (hi : i < l.length) (k : Nat) : (l.set i x).getD k d = if k = i then x else l.getD k d := by
  simp only [List.getD_eq_getElem?_getD, List.getElem?_set]
  by_cases e : k = i
  · subst e; rw [if_pos rfl, if_pos rfl, if_pos hi]; rfl
  · rw [if_neg (fun h => e h.symm), if_neg e]
theorem put_facts {leaf : Bool} {ks vs : List Str} {kids : List Int} {y u : Str} (h : putOk leaf ks vs kids y u = true) :
    stands true (putK leaf ks vs kids y u) (putV leaf ks vs kids y u) [] = true ∧ findN true (putK leaf ks vs kids y u) y = findN leaf ks y ∧ findN leaf ks y < (putK leaf ks vs kids y u).length ∧ (putV leaf ks vs kids y u).length = (putK leaf ks vs kids y u).length ∧ (putK leaf ks vs kids y u).length ≤ ks.length + 1 ∧ (putK leaf ks vs kids y u).getD (findN leaf ks y) [] = y ∧ (putV leaf ks vs kids y u).getD (findN leaf ks y) [] = u ∧ (putK leaf ks vs kids y u).length = ks.length + cond (findB leaf ks vs kids y) 0 1 := by
  obtain ⟨rfl, hs, hy, hu⟩ := putOk_yes h
  obtain ⟨l1, l2, l3⟩ := stands_leaf hs
  have hle := findN_le true ks y
  obtain ⟨f1, f2⟩ := findN_t hs y
  cases hb : findB true ks vs kids y with
  | true =>
    obtain ⟨e1, e2⟩ := put_t h hb
    obtain ⟨_, b2, b3, b4⟩ := find_lens hb
    rw [e1, e2]
    refine ⟨stands_mk_t (stands_up hs) (by simpa using b4) (fun k hk => ?_), rfl, b2, by simpa using b4, by omega, (findB_yes hb).2.2.2, ?_, by simp⟩
    · rw [getD_set b3]
      split
      · exact hu
      · exact l3 k (by simpa using hk)
    · rw [getD_set b3, if_pos rfl]
  | false =>
    obtain ⟨e1, e2⟩ := put_f h hb
    rw [e1, e2, len_ins hle, len_ins (by omega)]
    have f3 : findN true ks y = ks.length ∨ y < ks.getD (findN true ks y) [] := by
      rcases f2 with f2 | f2
      · exact .inl f2
      · rcases Nat.lt_or_ge (findN true ks y) ks.length with hlt | hge
        · right
          refine tri f2 (fun e => ?_)
          rw [findB_st hs, e, decide_eq_true rfl, decide_eq_true (by omega)] at hb
          cases hb
        · exact .inl (by omega)
    have hst : stands true (ks.take (findN true ks y) ++ [y] ++ ks.drop (findN true ks y)) (vs.take (findN true ks y) ++ [u] ++ vs.drop (findN true ks y)) [] = true := by
      refine stands_mk_t (upTo_ins (stands_up hs) hle hy f1 f3) (by rw [len_ins hle, len_ins (by omega)]; omega) (fun k hk => ?_)
      rw [len_ins (by omega)] at hk
      rw [getD_ins (by omega)]
      split
      · exact l3 k (by omega)
      · split
        · exact hu
        · exact l3 _ (by omega)
    refine ⟨hst, findN_uniq hst (by rw [len_ins hle]; omega) (fun j hj => ?_) (.inr ?_), by omega, by omega, by omega, ?_, ?_, rfl⟩
    · rw [getD_ins hle, if_pos hj]; exact f1 j hj
    · rw [getD_ins hle, if_neg (by omega), if_pos rfl]; exact List.lt_irrefl _
    · rw [getD_ins hle, if_neg (by omega), if_pos rfl]
    · rw [getD_ins (by omega), if_neg (by omega), if_pos rfl]
theorem put_find {leaf : Bool} {ks vs : List Str} {kids : List Int} {y u : Str} (h : putOk leaf ks vs kids y u = true) :
    findB (putOk leaf ks vs kids y u) (putK leaf ks vs kids y u) (putV leaf ks vs kids y u) [] y = true ∧ findI (putOk leaf ks vs kids y u) (putK leaf ks vs kids y u) (putV leaf ks vs kids y u) [] y = ((findN leaf ks y : Nat) : Int) := by
  obtain ⟨h1, h2, h3, h4, _, h5, h6, _⟩ := put_facts h
  rw [h, findB_st h1, findI_st h1, h2, h5, decide_eq_true rfl, decide_eq_true (by omega)]
  exact ⟨rfl, rfl⟩
theorem put_findI {leaf : Bool} {ks vs : List Str} {kids : List Int} {y u : Str} (h : putOk leaf ks vs kids y u = true) (z : Str) :
    findI (putOk leaf ks vs kids y u) (putK leaf ks vs kids y u) (putV leaf ks vs kids y u) [] z = ((findN true (putK leaf ks vs kids y u) z : Nat) : Int) := by
  rw [h, findI_st (put_facts h).1]
theorem findN_at {ks vs : List Str} {kids : List Int} (hs : stands true ks vs kids = true) {z : Str} {j : Nat} (hj : j < ks.length) (h : ks.getD j [] = z) : findN true ks z = j ∧ findB true ks vs kids z = true := by
  have hn : findN true ks z = j := findN_uniq hs (by omega) (fun i hi => by rw [← h]; exact upTo_lt (stands_up hs) hi hj) (.inr (by rw [h]; exact List.lt_irrefl _))
  refine ⟨hn, ?_⟩
  rw [findB_st hs, hn, h, decide_eq_true rfl, decide_eq_true (by omega)]; rfl
/-- The other keys stand where they stood, with their values. -/
theorem put_other {leaf : Bool} {ks vs : List Str} {kids : List Int} {y u z : Str} (h : putOk leaf ks vs kids y u = true) (hz : ¬ y = z) :
    findB (putOk leaf ks vs kids y u) (putK leaf ks vs kids y u) (putV leaf ks vs kids y u) [] z = findB leaf ks vs kids z ∧ (findB leaf ks vs kids z = true → findN leaf ks z < vs.length ∧ findN true (putK leaf ks vs kids y u) z < (putV leaf ks vs kids y u).length ∧ vs.getD (findN leaf ks z) [] = (putV leaf ks vs kids y u).getD (findN true (putK leaf ks vs kids y u) z) []) := by
  rw [h]
  obtain ⟨p1, p2, p3, p4, _, p5, p6, p7⟩ := put_facts h
  obtain ⟨rfl, hs, hy, hu⟩ := putOk_yes h
  obtain ⟨l1, l2, l3⟩ := stands_leaf hs
  have hle := findN_le true ks y
  -- from there to here
  have back : findB true (putK true ks vs kids y u) (putV true ks vs kids y u) [] z = true → findB true ks vs kids z = true := by
    intro hp
    obtain ⟨_, _, q1, q2⟩ := findB_yes hp
    cases hb : findB true ks vs kids y with
    | true =>
      rw [(put_t h hb).1] at q1 q2
      exact (findN_at hs q1 q2).2
    | false =>
      rw [(put_f h hb).1, len_ins hle] at q1
      rw [(put_f h hb).1, getD_ins hle] at q2
      revert q2
      split
      · intro q2; exact (findN_at hs (by omega) q2).2
      · split
        · intro q2; exact absurd q2 hz
        · intro q2; exact (findN_at hs (by omega) q2).2
  have forth : findB true ks vs kids z = true → findB true (putK true ks vs kids y u) (putV true ks vs kids y u) [] z = true ∧ findN true ks z < vs.length ∧ findN true (putK true ks vs kids y u) z < (putV true ks vs kids y u).length ∧ vs.getD (findN true ks z) [] = (putV true ks vs kids y u).getD (findN true (putK true ks vs kids y u) z) [] := by
    intro hp
    obtain ⟨_, _, q1, q2⟩ := findB_yes hp
    cases hb : findB true ks vs kids y with
    | true =>
      obtain ⟨_, b2, b3, b4⟩ := find_lens hb
      have e1 := put_t h hb
      have hn := findN_at p1 (z := z) (j := findN true ks z) (by rw [e1.1]; exact q1) (by rw [e1.1]; exact q2)
      refine ⟨hn.2, by omega, by rw [hn.1, p4, e1.1]; exact q1, ?_⟩
      rw [hn.1, e1.2, getD_set b3, if_neg]
      intro e
      rw [e, (findB_yes hb).2.2.2] at q2
      exact hz q2
    | false =>
      have e1 := put_f h hb
      by_cases hlt : findN true ks z < findN true ks y
      · have hn := findN_at p1 (z := z) (j := findN true ks z) (by rw [e1.1, len_ins hle]; omega) (by rw [e1.1, getD_ins hle, if_pos hlt]; exact q2)
        refine ⟨hn.2, by omega, by rw [hn.1, p4, e1.1, len_ins hle]; omega, ?_⟩
        rw [hn.1, e1.2, getD_ins (by omega), if_pos hlt]
      · have hn := findN_at p1 (z := z) (j := findN true ks z + 1) (by rw [e1.1, len_ins hle]; omega) (by rw [e1.1, getD_ins hle, if_neg (by omega), if_neg (by omega), Nat.add_sub_cancel]; exact q2)
        refine ⟨hn.2, by omega, by rw [hn.1, p4, e1.1, len_ins hle]; omega, ?_⟩
        rw [hn.1, e1.2, getD_ins (by omega), if_neg (by omega), if_neg (by omega), Nat.add_sub_cancel]
  refine ⟨?_, fun hp => (forth hp).2⟩
  cases hp : findB true ks vs kids z with
  | true => exact (forth hp).1
  | false =>
    cases hq : findB true (putK true ks vs kids y u) (putV true ks vs kids y u) [] z with
    | false => rfl
    | true => rw [back hq] at hp; cases hp
/-- Put's node without its key. -/
theorem put_drop {leaf : Bool} {ks vs : List Str} {kids : List Int} {y u : Str} (h : putOk leaf ks vs kids y u = true) : findB (findB (putOk leaf ks vs kids y u) (putK leaf ks vs kids y u) (putV leaf ks vs kids y u) [] y) (drK (putOk leaf ks vs kids y u) (putK leaf ks vs kids y u) (putV leaf ks vs kids y u) [] y) (drV (putOk leaf ks vs kids y u) (putK leaf ks vs kids y u) (putV leaf ks vs kids y u) [] y) [] y = false ∧
    (drK (putOk leaf ks vs kids y u) (putK leaf ks vs kids y u) (putV leaf ks vs kids y u) [] y).length + 1 = ks.length + cond (findB leaf ks vs kids y) 0 1 := by
  have hf := (put_find h).1
  have h1 := (drop_find hf).2.2.2
  have h2 := (dr_len hf).1
  have h3 := (put_facts h).2.2.2.2.2.2.2
  refine ⟨?_, by omega⟩
  rw [hf]; exact h1
/-! ### Halves of a leaf -/
theorem lenS_set {l : List Str} {u : Str} {i : Nat} (hi : i < l.length) : lenS (l.set i u) ≤ lenS l + u.length := by
  rw [set_mid hi, lenS_app, lenS_app, lenS_one]
  have h1 := lenS_cut l i
  have h2 : lenS (l.drop (i + 1)) ≤ lenS (l.drop i) := by
    have e : lenS (l[i] :: l.drop (i + 1)) = l[i].length + lenS (l.drop (i + 1)) := by simp only [lenS, List.map_cons, List.sum_cons]
    rw [List.drop_eq_getElem_cons hi, e]
    omega
  omega
theorem lenS_ins {l : List Str} {u : Str} {i : Nat} : lenS (l.take i ++ [u] ++ l.drop i) = lenS l + u.length := by
  rw [lenS_app, lenS_app, lenS_one]
  have h1 := lenS_cut l i
  omega
theorem put_size {leaf : Bool} {ks vs : List Str} {kids : List Int} {y u : Str} (h : putOk leaf ks vs kids y u = true) (hz : sizeM leaf ks vs ≤ 1024) : sizeM true (putK leaf ks vs kids y u) (putV leaf ks vs kids y u) ≤ 1355 := by
  obtain ⟨rfl, hs, hy, hu⟩ := putOk_yes h
  have hle := findN_le true ks y
  have hl := (stands_leaf hs).1
  rw [size_sum] at hz ⊢
  simp only [cond_true] at hz ⊢
  cases hb : findB true ks vs kids y with
  | true =>
    obtain ⟨e1, e2⟩ := put_t h hb
    obtain ⟨_, b2, b3, b4⟩ := find_lens hb
    rw [e1, e2]
    have := lenS_set (u := u) b3
    omega
  | false =>
    obtain ⟨e1, e2⟩ := put_f h hb
    rw [e1, e2, len_ins hle, lenS_ins, lenS_ins]
    omega
theorem put_small {leaf : Bool} {ks vs : List Str} {kids : List Int} {y u : Str} (h : putOk leaf ks vs kids y u = true) (hf : splitOk true (putK leaf ks vs kids y u) (putV leaf ks vs kids y u) [] = false) : ((putK leaf ks vs kids y u).length : Int) < 2 ∧ checkM true (putK leaf ks vs kids y u) (putV leaf ks vs kids y u) [] = 0 := by
  have hp := put_facts h
  have h1 := split_few hp.1 hf
  simp only [cond_true, Int.add_zero] at h1
  refine ⟨h1, check_of hp.1 ?_⟩
  generalize putK leaf ks vs kids y u = K at *
  generalize putV leaf ks vs kids y u = W at *
  obtain ⟨l1, l2, l3⟩ := stands_leaf hp.1
  match K, W, l1, h1 with
  | [], [], _, _ => decide
  | [a], [b], _, _ =>
    have ha := key_short hp.1 (k := 0) (by simp)
    have hb := l3 0 (by simp)
    simp only [List.getD_cons_zero] at ha hb
    rw [size_sum]
    simp only [cond_true, lenS_one, List.length_cons, List.length_nil]
    omega
  | a :: b :: r, _, _, h1 => simp at h1; omega
  | [], _ :: _, l1, _ => cases l1
  | [_], [], l1, _ => cases l1
  | [_], _ :: _ :: _, l1, _ => simp at l1
theorem join_t {ks vs : List Str} {kids : List Int} (hok : splitOk true ks vs kids = true) (hz : sizeM true ks vs ≤ 1355) : spAk true ks vs kids ++ spBk true ks vs kids = ks ∧ spAv true ks vs kids ++ spBv true ks vs kids = vs ∧ 0 < (spAk true ks vs kids).length ∧ 0 < (spBk true ks vs kids).length ∧ (spBk true ks vs kids).getD 0 [] = spKey true ks vs kids := by
  have hs : stands true ks vs kids = true := by have h' := hok; simp only [splitOk, Bool.and_eq_true] at h'; exact h'.1
  have hh := halves hok hz
  simp only [btw, cond_true] at hh
  obtain ⟨_, f2, f3, f4, f5, f6, f7, f8⟩ := sp_yes hok rfl
  rw [f2, f3, f5, f6, f7]
  have hl := (stands_leaf hs).1
  refine ⟨?_, ?_, ?_, ?_, ?_⟩
  · simp only [List.drop_zero, List.take_length, btw, cond_true, Nat.add_zero, List.take_append_drop]
  · simp only [partV, cond_true, List.drop_zero, btw, Nat.add_zero]
    rw [← hl, List.take_length, List.take_append_drop]
  · simp; omega
  · simp [btw]; omega
  · simp only [List.take_length, btw, cond_true, Nat.add_zero, getD_drop]
theorem join_tl {leaf : Bool} {ks vs : List Str} {kids : List Int} (hl : leaf = true) (hok : splitOk leaf ks vs kids = true) (hz : sizeM leaf ks vs ≤ 1355) : spAk leaf ks vs kids ++ spBk leaf ks vs kids = ks ∧ spAv leaf ks vs kids ++ spBv leaf ks vs kids = vs ∧ 0 < (spAk leaf ks vs kids).length ∧ 0 < (spBk leaf ks vs kids).length ∧ (spBk leaf ks vs kids).getD 0 [] = spKey leaf ks vs kids := by subst hl; exact join_t hok hz
theorem put_size2 {leaf : Bool} {ks vs : List Str} {kids : List Int} {y u : Str} (h : putOk leaf ks vs kids y u = true) (hz : sizeM leaf ks vs ≤ 1024) : sizeM (putOk leaf ks vs kids y u) (putK leaf ks vs kids y u) (putV leaf ks vs kids y u) ≤ 1355 := by rw [h]; exact put_size h hz
theorem put_long {leaf : Bool} {ks vs : List Str} {kids : List Int} {y u : Str} (h : putOk leaf ks vs kids y u = false) (hs : stands leaf ks vs kids = true) (hl : leaf = true) (hy : ¬ (128 : Int) < (y.length : Int)) : (200 : Int) < (u.length : Int) := by
  subst hl
  refine Classical.byContradiction fun hn => ?_
  simp [putOk, hs, decide_eq_false hy, decide_eq_false hn] at h
end Go.Vk
