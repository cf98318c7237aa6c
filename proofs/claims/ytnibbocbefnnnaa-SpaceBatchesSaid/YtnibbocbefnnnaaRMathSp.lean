import Derived.Test.YtnibbocbefnnnaaRIt
import Derived.Test.YtnibbocbefnnnaaVk23
set_option linter.unusedVariables false
set_option linter.unusedSimpArgs false
set_option linter.unnecessarySimpa false
namespace Go.Vk
open Go.Proofs
theorem may_yes {k : Str} {v : List Ver} {a : Str} {f : Bool} {la : Int} (h1 : ¬ (128 : Int) < (k.length : Int)) (h2 : f = true ∨ decide (a < k) = true) (h3 : ¬ (v.length : Int) = 0) (h4 : chnB v = true) (h5 : ¬ la < (v.getD 0 (0, [], false)).1) : mayB k v a f la = true := by
  unfold mayB
  simp only [Bool.and_eq_true, Bool.or_eq_true, decide_eq_true_eq]
  refine ⟨⟨⟨⟨by omega, h2.imp id of_decide_eq_true⟩, by omega⟩, h4⟩, by omega⟩
theorem ahead_pos {l : List Item} {k : Nat} (h : (0 : Int) < (k : Int)) : aheadK l k = (l.getD (k - 1) ([], [])).1 := by unfold aheadK; rw [if_neg (by omega)]
theorem lkD_at {L : List Item} {y : Str} {k : Nat} (hk : k < L.length) (h : ∀ i, i < k → ¬ (L.getD i ([], [])).1 = y) (h1 : (L.getD k ([], [])).1 = y) : lkD y L = (L.getD k ([], [])).2 := by
  induction L generalizing k with
  | nil => simp at hk
  | cons p L ih =>
    unfold lkD; rw [lk]
    cases k with
    | zero => rw [List.getD_cons_zero] at h1 ⊢; rw [if_pos h1]; rfl
    | succ k =>
      have h0 := h 0 (by omega)
      rw [List.getD_cons_zero] at h0
      rw [if_neg h0, List.getD_cons_succ]
      exact ih (by simpa using hk) (fun i hi => by have := h (i + 1) (by omega); rwa [List.getD_cons_succ] at this) (by rwa [List.getD_cons_succ] at h1)
/-- What the reference's Scan has of some items. -/
def rprs (t : Int) (f u : Str) (L : List Item) : List (Str × Str) := L.flatMap fun p => bif atO p.2 t && withinB f u p.1 then [(p.1, atS p.2 t)] else []
def rscK (t : Int) (f u : Str) (n : Int) (L : List Item) : List (Str × Str) := bif decide (n < 0) then rprs t f u L else (rprs t f u L).take n.toNat
def rscR (L : List Item) (la ma : Int) (f u : Str) (t n : Int) : List (Str × Str) := bif decide (kepE t la ma = 0) then rscK t f u n L else []
theorem rsc_len (t : Int) (f u : Str) (n : Int) (L : List Item) : (rscK t f u n L).length ≤ L.length := by
  have h : ∀ L : List Item, (rprs t f u L).length ≤ L.length := by
    intro L
    induction L with
    | nil => exact Nat.le_refl _
    | cons p L ih =>
      show ((bif atO p.2 t && withinB f u p.1 then [(p.1, atS p.2 t)] else [] : List (Str × Str)) ++ rprs t f u L).length ≤ _
      rw [List.length_append]
      have h1 : (bif atO p.2 t && withinB f u p.1 then [(p.1, atS p.2 t)] else [] : List (Str × Str)).length ≤ 1 := by cases atO p.2 t && withinB f u p.1 <;> simp
      rw [List.length_cons]; omega
  have := h L
  unfold rscK
  cases decide (n < 0) with
  | true => exact this
  | false => rw [cond_false, List.length_take]; omega
theorem all_one {P : Nat → Prop} {k : Nat} (h : ∀ i, i < k → P i) (h1 : P k) : ∀ i, i < k + 1 → P i := by
  intro i hi
  by_cases e : i = k
  · rw [e]; exact h1
  · exact h i (by omega)
theorem at_lk {L : List Item} (h : UP (keysOf L)) {p : Item} (hp : p ∈ L) : lkD p.1 L = p.2 := by
  obtain ⟨k, hk, rfl⟩ := mem_getD ([], []) hp
  refine lkD_at hk (fun i hi e => ?_) rfl
  have := (pair_getD []).1 h i k hi (by rw [len_keys]; exact hk)
  rw [keys_getD, keys_getD, e] at this
  exact List.lt_irrefl _ this
theorem btw_eq (f u : Str) {ks : List Str} (h : UP ks) : btwL ks f u = ks.filter fun k => withinB f u k := by
  unfold btwL
  have hs := bsN_spec h f
  have h1 : ∀ (ks : List Str), UP ks → (∀ k, k ∈ ks → ¬ k < f) → ks.takeWhile (btwF u) = ks.filter fun k => withinB f u k := by
    intro ks
    induction ks with
    | nil => intro _ _; rfl
    | cons k ks ih =>
      intro hu hf
      have hu' : (∀ y, y ∈ ks → k < y) ∧ UP ks := List.pairwise_cons.1 hu
      have e1 : withinB f u k = btwF u k := by unfold withinB btwF; rw [decide_eq_false (hf k (by simp)), Bool.not_false, Bool.true_and]
      rw [List.takeWhile_cons, List.filter_cons, e1]
      cases hb : btwF u k with
      | true => simp only [if_true]; rw [ih hu'.2 (fun y hy => hf y (List.mem_cons_of_mem _ hy))]
      | false =>
        simp only [Bool.false_eq_true, if_false]
        symm; rw [List.filter_eq_nil_iff]
        intro y hy hw
        unfold btwF at hb
        simp only [Bool.or_eq_false_iff, decide_eq_false_iff_not] at hb
        unfold withinB at hw
        simp only [Bool.and_eq_true, Bool.or_eq_true, decide_eq_true_eq] at hw
        exact hb.2 (List.lt_trans (hu'.1 y hy) (hw.2.resolve_left hb.1))
  have h2 : (ks.take (bsN ks f)).filter (fun k => withinB f u k) = [] := by
    rw [List.filter_eq_nil_iff]
    intro y hy hw
    obtain ⟨i, hi, rfl⟩ := mem_getD [] hy
    simp only [List.length_take] at hi
    have e1 : (ks.take (bsN ks f)).getD i [] = ks.getD i [] := by simp only [List.getD_eq_getElem?_getD, List.getElem?_take, if_pos (show i < bsN ks f by omega)]
    rw [e1] at hw
    unfold withinB at hw
    simp only [Bool.and_eq_true, Bool.not_eq_true', decide_eq_false_iff_not] at hw
    exact hw.1 (hs.1 i (by omega))
  conv => rhs; rw [← List.take_append_drop (bsN ks f) ks]
  rw [List.filter_append, h2, List.nil_append, h1 _ (h.sublist (List.drop_sublist _ _))]
  · intro y hy
    obtain ⟨i, hi, rfl⟩ := mem_getD [] hy
    simp only [List.length_drop] at hi
    rw [getD_drop]
    intro hlt
    have h0 := (pair_getD []).1 h
    rcases hs.2 with h2 | h2
    · omega
    · by_cases e : i = 0
      · subst e; exact h2 hlt
      · exact h2 (List.lt_trans (h0 (bsN ks f) (bsN ks f + i) (by omega) (by omega)) hlt)
theorem prs_eq {L : List Item} (t : Int) (f u : Str) (h : UP (keysOf L)) : prs L t (btwL (keysOf L) f u) = rprs t f u L := by
  rw [btw_eq f u h]
  have : ∀ M : List Item, (∀ p, p ∈ M → lkD p.1 L = p.2) → prs L t ((keysOf M).filter fun k => withinB f u k) = rprs t f u M := by
    intro M
    induction M with
    | nil => intro _; rfl
    | cons p M ih =>
      intro hM
      have e := ih (fun q hq => hM q (List.mem_cons_of_mem _ hq))
      rw [keys_cons, List.filter_cons]
      show _ = (bif atO p.2 t && withinB f u p.1 then [(p.1, atS p.2 t)] else [] : List (Str × Str)) ++ rprs t f u M
      cases hw : withinB f u p.1 with
      | false => simp only [Bool.false_eq_true, if_false, Bool.and_false, cond_false, List.nil_append]; exact e
      | true =>
        simp only [if_true, Bool.and_true]
        show (bif atO (lkD p.1 L) t then [(p.1, atS (lkD p.1 L) t)] else [] : List (Str × Str)) ++ prs L t _ = _
        rw [hM p (by simp), e]
  exact this L (fun p hp => at_lk h hp)
theorem scn_eq {L : List Item} (la ma : Int) (f u : Str) (t n : Int) (h : UP (keysOf L)) : scnR L la ma f u t n = rscR L la ma f u t n := by
  unfold scnR rscR scnL rscK; rw [prs_eq t f u h]
end Go.Vk
