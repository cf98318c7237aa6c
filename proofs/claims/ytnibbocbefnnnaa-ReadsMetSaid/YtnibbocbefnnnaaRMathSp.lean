import Derived.Test.YtnibbocbefnnnaaRIt
import Derived.Test.YtnibbocbefnnnaaVk22
set_option linter.unusedVariables false
set_option linter.unusedSimpArgs false
set_option linter.unnecessarySimpa false
namespace Go.Vk
open Go.Proofs
theorem not_t {b : Bool} (h : (!b) = true) : b = false := by cases b; rfl; cases h
theorem may_yes {k : Str} {v : List Ver} {a : Str} {f : Bool} {la : Int} (h1 : ¬ (128 : Int) < (k.length : Int)) (h2 : f = true ∨ decide (a < k) = true) (h3 : ¬ (v.length : Int) = 0) (h4 : chnB v = true) (h5 : ¬ la < (v.getD 0 (0, [], false)).1) : mayB k v a f la = true := by
  unfold mayB
  simp only [Bool.and_eq_true, Bool.or_eq_true, decide_eq_true_eq]
  refine ⟨⟨⟨⟨by omega, h2.imp id of_decide_eq_true⟩, by omega⟩, h4⟩, by omega⟩
theorem may_no {k : Str} {v : List Ver} {a : Str} {f : Bool} {la : Int} (h : (128 : Int) < (k.length : Int) ∨ (f = false ∧ decide (a < k) = false) ∨ (v.length : Int) = 0 ∨ chnB v = false ∨ la < (v.getD 0 (0, [], false)).1) : mayB k v a f la = false := by
  cases hb : mayB k v a f la with
  | false => rfl
  | true =>
    unfold mayB at hb
    simp only [Bool.and_eq_true, Bool.or_eq_true, decide_eq_true_eq] at hb
    obtain ⟨⟨⟨⟨h1, h2⟩, h3⟩, h4⟩, h5⟩ := hb
    rcases h with h | ⟨h, h'⟩ | h | h | h
    · omega
    · rcases h2 with h2 | h2
      · rw [h] at h2; cases h2
      · rw [decide_eq_true h2] at h'; cases h'
    · omega
    · rw [h] at h4; cases h4
    · omega
theorem ahead_pos {l : List Item} {k : Nat} (h : (0 : Int) < (k : Int)) : aheadK l k = (l.getD (k - 1) ([], [])).1 := by unfold aheadK; rw [if_neg (by omega)]
theorem ld14_step {l : List Item} {la : Int} {k : Nat} (h : ldK l la k = true) (h1 : ¬ (128 : Int) < ((l.getD k ([], [])).1.length : Int)) (h2 : ¬ (0 : Int) < (k : Int) ∨ decide ((l.getD (k - 1) ([], [])).1 < (l.getD k ([], [])).1) = true) (h3 : ¬ ((l.getD k ([], [])).2.length : Int) = 0) (h4 : chnB (l.getD k ([], [])).2 = true) (h5 : ¬ la < ((l.getD k ([], [])).2.getD 0 (0, [], false)).1) : ldK l la (k + 1) = true := by
  refine ldK_step h (may_yes h1 ?_ h3 h4 h5)
  by_cases h0 : (0 : Int) < (k : Int)
  · right; rw [ahead_pos h0]; exact h2.resolve_left (fun h => h h0)
  · left; exact decide_eq_true (by omega)
theorem ld14_no {l : List Item} {la ma : Int} {k : Nat} (hk : k < l.length) (h : (128 : Int) < ((l.getD k ([], [])).1.length : Int) ∨ ((0 : Int) < (k : Int) ∧ decide ((l.getD (k - 1) ([], [])).1 < (l.getD k ([], [])).1) = false) ∨ ((l.getD k ([], [])).2.length : Int) = 0 ∨ chnB (l.getD k ([], [])).2 = false ∨ la < ((l.getD k ([], [])).2.getD 0 (0, [], false)).1) : ldB l la ma = false := by
  refine ldB_no hk (may_no ?_)
  rcases h with h | ⟨h, h'⟩ | h | h | h
  · exact .inl h
  · exact .inr (.inl ⟨decide_eq_false (by omega), by rw [ahead_pos h]; exact h'⟩)
  · exact .inr (.inr (.inl h))
  · exact .inr (.inr (.inr (.inl h)))
  · exact .inr (.inr (.inr (.inr h)))
theorem ld14_rng {l : List Item} {la ma : Int} (h : la < 0 ∨ 1152921504606846976 < la ∨ ma < 0 ∨ la < ma) : ldB l la ma = false := by
  cases hb : ldB l la ma with
  | false => rfl
  | true => have := ld_rng hb; omega
theorem ld14_yes {l : List Item} {la ma : Int} (h0 : ¬ la < 0) (h1 : ¬ 1152921504606846976 < la) (h2 : ¬ ma < 0) (h3 : ¬ la < ma) (h : ldK l la l.length = true) : ldB l la ma = true := by
  cases hb : ldB l la ma with
  | true => rfl
  | false => have := ld_bad hb (by omega) (by omega) (by omega) (by omega); rw [h] at this; cases this
theorem lkD_at {L : List Item} {y : Str} {k : Nat} (hk : k < L.length) (h : ∀ i, i < k → ¬ (L.getD i ([], [])).1 = y) (h1 : (L.getD k ([], [])).1 = y) : lkD y L = (L.getD k ([], [])).2 := by
  induction L generalizing k with
  | nil => simp at hk
  | cons p L ih =>
    unfold lkD; rw [lk]
    cases k with
    | zero => rw [List.getD_cons_zero] at h1 ⊢; rw [if_pos h1]; rfl
    | succ k =>
      have h0 := h 0 (by omega)
      rw [List.getD_cons_zero] at h0
      rw [if_neg h0, List.getD_cons_succ]
      exact ih (by simpa using hk) (fun i hi => by have := h (i + 1) (by omega); rwa [List.getD_cons_succ] at this) (by rwa [List.getD_cons_succ] at h1)
def rsiK (t : Int) (f u : Str) (L : List Item) : Bool := L.any fun p => withinB f u p.1 && sncB p.2 t
theorem lkD_bnd {L : List Item} {n : Nat} (h : ∀ i, i < L.length → (L.getD i ([], [])).2.length ≤ n) (y : Str) : (lkD y L).length ≤ n := by
  by_cases hm : y ∈ keysOf L
  · have : ∀ L : List Item, (∀ p, p ∈ L → p.2.length ≤ n) → (lkD y L).length ≤ n := by
      intro L
      induction L with
      | nil => intro _; exact Nat.zero_le _
      | cons p L ih =>
        intro hL
        unfold lkD at ih ⊢
        rw [lk]
        split
        · exact hL p (by simp)
        · exact ih (fun q hq => hL q (List.mem_cons_of_mem _ hq))
    refine this L (fun p hp => ?_)
    obtain ⟨i, hi, rfl⟩ := mem_getD ([], []) hp
    exact h i hi
  · unfold lkD; rw [lk_none_of hm]; exact Nat.zero_le _
theorem at_lk {L : List Item} (h : UP (keysOf L)) {p : Item} (hp : p ∈ L) : lkD p.1 L = p.2 := by
  obtain ⟨k, hk, rfl⟩ := mem_getD ([], []) hp
  refine lkD_at hk (fun i hi e => ?_) rfl
  have := (pair_getD []).1 h i k hi (by rw [len_keys]; exact hk)
  rw [keys_getD, keys_getD, e] at this
  exact List.lt_irrefl _ this
theorem btw_eq (f u : Str) {ks : List Str} (h : UP ks) : btwL ks f u = ks.filter fun k => withinB f u k := by
  unfold btwL
  have hs := bsN_spec h f
  have h1 : ∀ (ks : List Str), UP ks → (∀ k, k ∈ ks → ¬ k < f) → ks.takeWhile (btwF u) = ks.filter fun k => withinB f u k := by
    intro ks
    induction ks with
    | nil => intro _ _; rfl
    | cons k ks ih =>
      intro hu hf
      have hu' : (∀ y, y ∈ ks → k < y) ∧ UP ks := List.pairwise_cons.1 hu
      have e1 : withinB f u k = btwF u k := by unfold withinB btwF; rw [decide_eq_false (hf k (by simp)), Bool.not_false, Bool.true_and]
      rw [List.takeWhile_cons, List.filter_cons, e1]
      cases hb : btwF u k with
      | true => simp only [if_true]; rw [ih hu'.2 (fun y hy => hf y (List.mem_cons_of_mem _ hy))]
      | false =>
        simp only [Bool.false_eq_true, if_false]
        symm; rw [List.filter_eq_nil_iff]
        intro y hy hw
        unfold btwF at hb
        simp only [Bool.or_eq_false_iff, decide_eq_false_iff_not] at hb
        unfold withinB at hw
        simp only [Bool.and_eq_true, Bool.or_eq_true, decide_eq_true_eq] at hw
        exact hb.2 (List.lt_trans (hu'.1 y hy) (hw.2.resolve_left hb.1))
  have h2 : (ks.take (bsN ks f)).filter (fun k => withinB f u k) = [] := by
    rw [List.filter_eq_nil_iff]
    intro y hy hw
    obtain ⟨i, hi, rfl⟩ := mem_getD [] hy
    simp only [List.length_take] at hi
    have e1 : (ks.take (bsN ks f)).getD i [] = ks.getD i [] := by simp only [List.getD_eq_getElem?_getD, List.getElem?_take, if_pos (show i < bsN ks f by omega)]
    rw [e1] at hw
    unfold withinB at hw
    simp only [Bool.and_eq_true, Bool.not_eq_true', decide_eq_false_iff_not] at hw
    exact hw.1 (hs.1 i (by omega))
  conv => rhs; rw [← List.take_append_drop (bsN ks f) ks]
  rw [List.filter_append, h2, List.nil_append, h1 _ (h.sublist (List.drop_sublist _ _))]
  · intro y hy
    obtain ⟨i, hi, rfl⟩ := mem_getD [] hy
    simp only [List.length_drop] at hi
    rw [getD_drop]
    intro hlt
    have h0 := (pair_getD []).1 h
    rcases hs.2 with h2 | h2
    · omega
    · by_cases e : i = 0
      · subst e; exact h2 hlt
      · exact h2 (List.lt_trans (h0 (bsN ks f) (bsN ks f + i) (by omega) (by omega)) hlt)
theorem sin_eq {L : List Item} (f u : Str) (t : Int) (h : UP (keysOf L)) : sinB L f u t = rsiK t f u L := by
  unfold sinB sinL rsiK
  rw [btw_eq f u h, List.any_filter]
  unfold keysOf
  rw [List.any_map]
  rw [Bool.eq_iff_iff, List.any_eq_true, List.any_eq_true]
  constructor
  · rintro ⟨p, hp, hq⟩; refine ⟨p, hp, ?_⟩; rw [← at_lk h hp]; exact hq
  · rintro ⟨p, hp, hq⟩; refine ⟨p, hp, ?_⟩; show (_ && sncB (lkD p.1 L) t) = true; rw [at_lk h hp]; exact hq
end Go.Vk
