import Derived.Test.YtnibbocbefnnnaaRMathSr
set_option linter.unusedVariables false
set_option linter.unusedSimpArgs false
set_option linter.unnecessarySimpa false
namespace Go.Vk
def vwC (c : List Ver) (t : Int) : Option Str := bif atO c t then some (atS c t) else none
def vw (L : List Item) (t : Int) (y : Str) : Option Str := vwC (lkD y L) t
theorem plc_take (t : Int) : ∀ (l : List Ver) (n : Nat), plc (l.take n) t = min (plc l t) n
  | [], n => by simp [plc]
  | v :: l, 0 => by simp [plc]
  | v :: l, n + 1 => by
    rw [List.take_succ_cons, plc, plc]
    split
    · simp
    · rw [plc_take t l n]; omega
theorem plc_mono {l : List Ver} {m t : Int} (h : m ≤ t) : plc l t ≤ plc l m := by
  induction l with
  | nil => exact Nat.le_refl _
  | cons v l ih =>
    rw [plc, plc]
    by_cases h1 : v.1 ≤ t
    · rw [if_pos h1]; exact Nat.zero_le _
    · rw [if_neg h1, if_neg (by omega)]; omega
theorem vwC_cons {v : Ver} {l : List Ver} {t : Int} (h : chnB l = true) (h1 : chnB (v :: l) = true) (h2 : t < v.1) : vwC (v :: l) t = vwC l t := by
  have e : plc (v :: l) t = plc l t + 1 := by rw [plc, if_neg (by omega)]
  unfold vwC atO atS
  rw [h, h1, e, List.getD_cons_succ]
  have : decide (plc l t + 1 < (v :: l).length) = decide (plc l t < l.length) := decide_eq_decide.2 (by simp)
  rw [this]
theorem vwC_vac {l : List Ver} {m t : Int} (h : chnB l = true) (hm : m ≤ t) : vwC (vacL l m) t = vwC l t := by
  have ev : vacL l m = l.take (vacN l m) := by unfold vacL; rw [h]; rfl
  have hc := chn_take h (vacN l m)
  have hle := plc_mono (l := l) hm
  have hpl := plc_le l m
  have hn := vacN_le l m
  unfold vwC atO atS
  rw [ev, hc, h, plc_take, List.length_take, Nat.min_eq_left hn]
  by_cases hj : plc l t < vacN l m
  · rw [Nat.min_eq_left (by omega), decide_eq_true hj, decide_eq_true (show plc l t < l.length by omega)]
    have : (l.take (vacN l m)).getD (plc l t) (0, [], false) = l.getD (plc l t) (0, [], false) := by simp only [List.getD_eq_getElem?_getD, List.getElem?_take, if_pos hj]
    rw [this]
  · rw [Nat.min_eq_right (by omega), decide_eq_false (Nat.lt_irrefl _)]
    have hi : vacN l m = plc l m ∧ plc l t = plc l m := by
      unfold vacN at hj ⊢
      cases hb : decide (plc l m < l.length) && !(l.getD (plc l m) (0, [], false)).2.2 with
      | true => rw [hb, cond_true] at hj; omega
      | false => rw [hb, cond_false] at hj; rw [cond_false]; omega
    rw [hi.2]
    have : (decide (plc l m < l.length) && !(l.getD (plc l m) (0, [], false)).2.2) = false := by
      cases hb : decide (plc l m < l.length) && !(l.getD (plc l m) (0, [], false)).2.2 with
      | false => rfl
      | true => have := hi.1; unfold vacN at this; rw [hb, cond_true] at this; omega
    simp only [Bool.and_false, Bool.false_and, cond_false, Bool.true_and]
    rw [this]; rfl
theorem chn_lkD {L : List Item} {la ma : Int} (h : ldB L la ma = true) (y : Str) : chnB (lkD y L) = true ∧ (lkD y L = [] ∨ ((lkD y L).getD 0 (0, [], false)).1 ≤ la) := by
  by_cases e : lkD y L = []
  · rw [e]; exact ⟨by decide, .inl rfl⟩
  · have := (ldB_iff.1 h).2.2 _ (lkD_mem e)
    exact ⟨this.2.2.1, .inr this.2.2.2⟩
theorem vw_appK {L : List Item} {la ma t x : Int} {l : List Chg} (h : ldB L la ma = true) (h1 : la < t) (h2 : t ≤ 1152921504606846976) (hf : fitB l = true) (hx : x ≤ la) (y : Str) : ∀ i, i ≤ l.length → vw (appK t L l i) x y = vw L x y
  | 0, _ => rfl
  | i + 1, hi => by
    have ih := vw_appK h h1 h2 hf hx y i (by omega)
    obtain ⟨k1, k2, k3, k4⟩ := fitK_iff.1 hf i (by omega)
    obtain ⟨hc, hl⟩ := chn_lkD h (l.getD i ([], [], false)).1
    obtain ⟨e1, e2⟩ := add_item (d := (l.getD i ([], [], false)).2.2) hc hl h1 (ld_rng h).1 h2 k3 k4
    unfold vw at ih ⊢
    rw [appK_step (by omega)]
    unfold appOne
    rw [lkD_appK (ld_spi h) _ i (by omega) k1, lkD_set (spi_appK (ld_spi h) i (by omega)).1]
    by_cases e : (l.getD i ([], [], false)).1 = y
    · rw [if_pos e, e1, vwC_cons hc e2 (by show x < t; omega), e]
    · rw [if_neg e]; exact ih
theorem vw_appS {L : List Item} {la ma t x : Int} {l : List Chg} (h : ldB L la ma = true) (hx : x ≤ la) (y : Str) : vw (appS t L la l) x y = vw L x y := by
  unfold appS
  cases ha : appOk t la l with
  | false => rfl
  | true =>
    unfold appOk at ha
    simp only [Bool.and_eq_true, Bool.not_eq_true', decide_eq_false_iff_not] at ha
    rw [cond_true, ← appK_all]
    exact vw_appK h (by omega) (by omega) ha.2 hx y _ (Nat.le_refl _)
theorem lkD_vacM {t : Int} (y : Str) : ∀ {L : List Item}, UP (keysOf L) → lkD y (vacM t L) = vacL (lkD y L) t
  | [], _ => by
    show lkD y [] = vacL (lkD y []) t
    have : lkD y [] = [] := rfl
    rw [this]; unfold vacL; simp
  | p :: L, h => by
    obtain ⟨h1, h2⟩ := up_cons h
    have ih := lkD_vacM (t := t) y h1
    have e : vacM t (p :: L) = vacP t p ++ vacM t L := rfl
    rw [e]
    have el : lkD y (p :: L) = if p.1 = y then p.2 else lkD y L := by unfold lkD; rw [lk]; split <;> rfl
    rw [el]
    unfold vacP
    by_cases e0 : (vacL p.2 t).length = 0
    · rw [decide_eq_true e0, cond_true, List.nil_append, ih]
      by_cases ey : p.1 = y
      · rw [if_pos ey]
        have hn : y ∉ keysOf L := fun hy => by have := h2 y hy; rw [ey] at this; exact List.lt_irrefl _ this
        have : lkD y L = [] := by unfold lkD; rw [lk_none_of hn]; rfl
        rw [this, List.eq_nil_of_length_eq_zero e0]; unfold vacL; simp
      · rw [if_neg ey]
    · rw [decide_eq_false e0, cond_false]
      show lkD y ((p.1, vacL p.2 t) :: vacM t L) = _
      have el2 : lkD y ((p.1, vacL p.2 t) :: vacM t L) = if p.1 = y then vacL p.2 t else lkD y (vacM t L) := by unfold lkD; rw [lk]; split <;> rfl
      rw [el2]
      split
      · rfl
      · exact ih
theorem vw_vmS {L : List Item} {la ma t x : Int} (h : ldB L la ma = true) (hx : t ≤ x) (y : Str) : vw (vmS t L la ma) x y = vw L x y := by
  unfold vmS
  cases hb : decide (t < ma) || decide (la < t) with
  | true => rfl
  | false =>
    rw [cond_false]; unfold vw
    rw [lkD_vacM y (ld_spi h).1]
    exact vwC_vac (chn_lkD h y).1 hx
/-- What a step leaves. -/
theorem vw_step {L : List Item} {la ma k n x : Int} {l : List Chg} (h : ldB L la ma = true) (h0 : kepE x la ma = 0) (hk : ¬ (k = 1 ∧ x < ma + n)) : kepE x (stpT la k n l) (stpM la ma k n) = 0 ∧ ∀ y, vw (stpS L la ma k n l) x y = vw L x y := by
  obtain ⟨h1, h2⟩ := kep_0 h0
  have hkep : ∀ {a b : Int}, b ≤ x → x ≤ a → kepE x a b = 0 := fun ha hb => by unfold kepE; rw [decide_eq_false (by omega), decide_eq_false (by omega)]; rfl
  unfold stpS stpT stpM
  by_cases k1 : k = 1
  · rw [decide_eq_true k1]
    simp only [cond_true]
    refine ⟨?_, fun y => vw_vmS h (by omega) y⟩
    unfold vmM
    cases hb : decide (ma + n < ma) || decide (la < ma + n) with
    | true => exact h0
    | false => exact hkep (by rw [cond_false]; omega) (by omega)
  · rw [decide_eq_false k1]
    simp only [cond_false]
    by_cases k2 : k = 2
    · rw [decide_eq_true k2]; exact ⟨h0, fun y => rfl⟩
    · rw [decide_eq_false k2]
      simp only [cond_false]
      by_cases k3 : k = 3
      · rw [decide_eq_true k3]; exact ⟨h0, fun y => rfl⟩
      · rw [decide_eq_false k3]
        simp only [cond_false]
        refine ⟨?_, fun y => vw_appS h (by omega) y⟩
        unfold appT
        cases ha : appOk (la + n) la l with
        | false => exact h0
        | true =>
          unfold appOk at ha
          simp only [Bool.and_eq_true, Bool.not_eq_true', decide_eq_false_iff_not] at ha
          exact hkep (by omega) (by rw [cond_true]; omega)
theorem getS_vw {L : List Item} {a b t : Int} {y : Str} (h : kepE t a b = 0) : getS L a b y t = (vw L t y).getD [] := by
  unfold getS vw vwC
  rw [decide_eq_true h, Bool.true_and]
  cases atO (lkD y L) t <;> rfl
theorem getE_vw {L : List Item} {a b t : Int} {y : Str} (h : kepE t a b = 0) : getE L a b y t = bif (vw L t y).isSome then 0 else 7 := by
  unfold getE vw vwC
  rw [decide_eq_true h, cond_true]
  cases atO (lkD y L) t <;> rfl
theorem up_ext : ∀ {a b : List (Str × Str)}, UP (a.map (·.1)) → UP (b.map (·.1)) → (∀ x, x ∈ a ↔ x ∈ b) → a = b
  | [], [], _, _, _ => rfl
  | [], y :: b, _, _, h => by have := (h y).2 (by simp); cases this
  | x :: a, [], _, _, h => by have := (h x).1 (by simp); cases this
  | x :: a, y :: b, ha, hb, h => by
    obtain ⟨a1, a2⟩ := List.pairwise_cons.1 ha
    obtain ⟨b1, b2⟩ := List.pairwise_cons.1 hb
    have hxa : ∀ z, z ∈ a → x.1 < z.1 := fun z hz => a1 z.1 (List.mem_map.2 ⟨z, hz, rfl⟩)
    have hyb : ∀ z, z ∈ b → y.1 < z.1 := fun z hz => b1 z.1 (List.mem_map.2 ⟨z, hz, rfl⟩)
    have hxy : x = y := by
      rcases List.mem_cons.1 ((h x).1 (by simp)) with e | e
      · exact e
      · rcases List.mem_cons.1 ((h y).2 (by simp)) with e2 | e2
        · exact e2.symm
        · exact absurd (List.lt_trans (hyb x e) (hxa y e2)) (List.lt_irrefl _)
    subst hxy
    rw [up_ext a2 b2 (fun z => ⟨fun hz => ?_, fun hz => ?_⟩)]
    · rcases List.mem_cons.1 ((h z).1 (List.mem_cons_of_mem _ hz)) with e | e
      · exact absurd (hxa z hz) (by rw [e]; exact List.lt_irrefl _)
      · exact e
    · rcases List.mem_cons.1 ((h z).2 (List.mem_cons_of_mem _ hz)) with e | e
      · exact absurd (hyb z hz) (by rw [e]; exact List.lt_irrefl _)
      · exact e
theorem rprs_up {t : Int} {f u : Str} : ∀ {L : List Item}, UP (keysOf L) → UP ((rprs t f u L).map (·.1)) ∧ ∀ x, x ∈ rprs t f u L → x.1 ∈ keysOf L
  | [], _ => ⟨List.Pairwise.nil, fun x hx => by cases hx⟩
  | p :: L, h => by
    obtain ⟨h1, h2⟩ := up_cons h
    obtain ⟨i1, i2⟩ := rprs_up (t := t) (f := f) (u := u) h1
    have e : rprs t f u (p :: L) = (bif atO p.2 t && withinB f u p.1 then [(p.1, atS p.2 t)] else []) ++ rprs t f u L := rfl
    rw [e]
    cases atO p.2 t && withinB f u p.1 with
    | false => exact ⟨i1, fun x hx => by rw [keys_cons]; exact List.mem_cons_of_mem _ (i2 x hx)⟩
    | true =>
      refine ⟨List.pairwise_cons.2 ⟨fun y hy => ?_, i1⟩, fun x hx => ?_⟩
      · obtain ⟨z, hz, rfl⟩ := List.mem_map.1 hy
        exact h2 _ (i2 z hz)
      · rw [keys_cons]
        rcases List.mem_cons.1 hx with e | e
        · rw [e]; exact List.mem_cons_self
        · exact List.mem_cons_of_mem _ (i2 x e)
theorem rprs_mem {t : Int} {f u : Str} {L : List Item} (h : UP (keysOf L)) (x : Str × Str) : x ∈ rprs t f u L ↔ withinB f u x.1 = true ∧ vw L t x.1 = some x.2 := by
  constructor
  · intro hx
    obtain ⟨p, hp, hx⟩ := List.mem_flatMap.1 hx
    cases hb : atO p.2 t && withinB f u p.1 with
    | false => rw [hb] at hx; cases hx
    | true =>
      rw [hb, cond_true, List.mem_singleton] at hx
      subst hx
      simp only [Bool.and_eq_true] at hb
      refine ⟨hb.2, ?_⟩
      unfold vw vwC
      rw [at_lk h hp, hb.1]; rfl
  · rintro ⟨h1, h2⟩
    unfold vw vwC at h2
    cases ha : atO (lkD x.1 L) t with
    | false => rw [ha] at h2; cases h2
    | true =>
      rw [ha, cond_true, Option.some.injEq] at h2
      have hne : lkD x.1 L ≠ [] := fun e => by rw [e] at ha; simp [atO] at ha
      refine List.mem_flatMap.2 ⟨_, lkD_mem hne, ?_⟩
      rw [ha, h1, Bool.and_self, cond_true, List.mem_singleton]; exact Prod.ext rfl h2.symm
theorem scn_vw {L M : List Item} {a b c d t n : Int} {f u : Str} (h1 : UP (keysOf L)) (h2 : UP (keysOf M)) (h3 : kepE t a b = 0) (h4 : kepE t c d = 0) (h : ∀ y, vw M t y = vw L t y) : scnR M c d f u t n = scnR L a b f u t n := by
  rw [scn_eq _ _ _ _ _ _ h1, scn_eq _ _ _ _ _ _ h2]
  have : rprs t f u M = rprs t f u L := up_ext (rprs_up h2).1 (rprs_up h1).1 fun x => by rw [rprs_mem h2, rprs_mem h1, h]
  unfold rscR rscK
  rw [decide_eq_true h3, decide_eq_true h4, this]
theorem good_mono {N M : Nat} {z : Sta} (h : Good N z) (hm : N ≤ M) : Good M z := ⟨h.1, by have := h.2.1; omega, fun y => Nat.le_trans (h.2.2 y) hm⟩
theorem get_no {L : List Item} {a b t : Int} {y : Str} (h : ¬ kepE t a b = 0) : getE L a b y t = kepE t a b := by unfold getE; rw [decide_eq_false h]; rfl
theorem get_07 {L : List Item} {a b t : Int} {y : Str} (h : kepE t a b = 0) (h1 : ¬ getE L a b y t = 0) : getE L a b y t = 7 := by
  unfold getE at h1 ⊢
  rw [decide_eq_true h, cond_true] at h1 ⊢
  cases ha : atO (lkD y L) t with
  | true => rw [ha] at h1; exact absurd rfl h1
  | false => rfl
end Go.Vk
