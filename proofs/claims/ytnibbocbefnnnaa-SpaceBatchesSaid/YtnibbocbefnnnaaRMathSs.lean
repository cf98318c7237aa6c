import Derived.Test.YtnibbocbefnnnaaRMathSr
set_option linter.unusedVariables false
set_option linter.unusedSimpArgs false
set_option linter.unnecessarySimpa false
namespace Go.Vk
def vwC (c : List Ver) (t : Int) : Option Str := bif atO c t then some (atS c t) else none
def vw (L : List Item) (t : Int) (y : Str) : Option Str := vwC (lkD y L) t
theorem vwC_cons {v : Ver} {l : List Ver} {t : Int} (h : chnB l = true) (h1 : chnB (v :: l) = true) (h2 : t < v.1) : vwC (v :: l) t = vwC l t := by
  have e : plc (v :: l) t = plc l t + 1 := by rw [plc, if_neg (by omega)]
  unfold vwC atO atS
  rw [h, h1, e, List.getD_cons_succ]
  have : decide (plc l t + 1 < (v :: l).length) = decide (plc l t < l.length) := decide_eq_decide.2 (by simp)
  rw [this]
theorem chn_lkD {L : List Item} {la ma : Int} (h : ldB L la ma = true) (y : Str) : chnB (lkD y L) = true ∧ (lkD y L = [] ∨ ((lkD y L).getD 0 (0, [], false)).1 ≤ la) := by
  by_cases e : lkD y L = []
  · rw [e]; exact ⟨by decide, .inl rfl⟩
  · have := (ldB_iff.1 h).2.2 _ (lkD_mem e)
    exact ⟨this.2.2.1, .inr this.2.2.2⟩
theorem vw_appK {L : List Item} {la ma t x : Int} {l : List Chg} (h : ldB L la ma = true) (h1 : la < t) (h2 : t ≤ 1152921504606846976) (hf : fitB l = true) (hx : x ≤ la) (y : Str) : ∀ i, i ≤ l.length → vw (appK t L l i) x y = vw L x y
  | 0, _ => rfl
  | i + 1, hi => by
    have ih := vw_appK h h1 h2 hf hx y i (by omega)
    obtain ⟨k1, k2, k3, k4⟩ := fitK_iff.1 hf i (by omega)
    obtain ⟨hc, hl⟩ := chn_lkD h (l.getD i ([], [], false)).1
    obtain ⟨e1, e2⟩ := add_item (d := (l.getD i ([], [], false)).2.2) hc hl h1 (ld_rng h).1 h2 k3 k4
    unfold vw at ih ⊢
    rw [appK_step (by omega)]
    unfold appOne
    rw [lkD_appK (ld_spi h) _ i (by omega) k1, lkD_set (spi_appK (ld_spi h) i (by omega)).1]
    by_cases e : (l.getD i ([], [], false)).1 = y
    · rw [if_pos e, e1, vwC_cons hc e2 (by show x < t; omega), e]
    · rw [if_neg e]; exact ih
theorem vw_appS {L : List Item} {la ma t x : Int} {l : List Chg} (h : ldB L la ma = true) (hx : x ≤ la) (y : Str) : vw (appS t L la l) x y = vw L x y := by
  unfold appS
  cases ha : appOk t la l with
  | false => rfl
  | true =>
    unfold appOk at ha
    simp only [Bool.and_eq_true, Bool.not_eq_true', decide_eq_false_iff_not] at ha
    rw [cond_true, ← appK_all]
    exact vw_appK h (by omega) (by omega) ha.2 hx y _ (Nat.le_refl _)
theorem up_ext : ∀ {a b : List (Str × Str)}, UP (a.map (·.1)) → UP (b.map (·.1)) → (∀ x, x ∈ a ↔ x ∈ b) → a = b
  | [], [], _, _, _ => rfl
  | [], y :: b, _, _, h => by have := (h y).2 (by simp); cases this
  | x :: a, [], _, _, h => by have := (h x).1 (by simp); cases this
  | x :: a, y :: b, ha, hb, h => by
    obtain ⟨a1, a2⟩ := List.pairwise_cons.1 ha
    obtain ⟨b1, b2⟩ := List.pairwise_cons.1 hb
    have hxa : ∀ z, z ∈ a → x.1 < z.1 := fun z hz => a1 z.1 (List.mem_map.2 ⟨z, hz, rfl⟩)
    have hyb : ∀ z, z ∈ b → y.1 < z.1 := fun z hz => b1 z.1 (List.mem_map.2 ⟨z, hz, rfl⟩)
    have hxy : x = y := by
      rcases List.mem_cons.1 ((h x).1 (by simp)) with e | e
      · exact e
      · rcases List.mem_cons.1 ((h y).2 (by simp)) with e2 | e2
        · exact e2.symm
        · exact absurd (List.lt_trans (hyb x e) (hxa y e2)) (List.lt_irrefl _)
    subst hxy
    rw [up_ext a2 b2 (fun z => ⟨fun hz => ?_, fun hz => ?_⟩)]
    · rcases List.mem_cons.1 ((h z).1 (List.mem_cons_of_mem _ hz)) with e | e
      · exact absurd (hxa z hz) (by rw [e]; exact List.lt_irrefl _)
      · exact e
    · rcases List.mem_cons.1 ((h z).2 (List.mem_cons_of_mem _ hz)) with e | e
      · exact absurd (hyb z hz) (by rw [e]; exact List.lt_irrefl _)
      · exact e
theorem rprs_up {t : Int} {f u : Str} : ∀ {L : List Item}, UP (keysOf L) → UP ((rprs t f u L).map (·.1)) ∧ ∀ x, x ∈ rprs t f u L → x.1 ∈ keysOf L
  | [], _ => ⟨List.Pairwise.nil, fun x hx => by cases hx⟩
  | p :: L, h => by
    obtain ⟨h1, h2⟩ := up_cons h
    obtain ⟨i1, i2⟩ := rprs_up (t := t) (f := f) (u := u) h1
    have e : rprs t f u (p :: L) = (bif atO p.2 t && withinB f u p.1 then [(p.1, atS p.2 t)] else []) ++ rprs t f u L := rfl
    rw [e]
    cases atO p.2 t && withinB f u p.1 with
    | false => exact ⟨i1, fun x hx => by rw [keys_cons]; exact List.mem_cons_of_mem _ (i2 x hx)⟩
    | true =>
      refine ⟨List.pairwise_cons.2 ⟨fun y hy => ?_, i1⟩, fun x hx => ?_⟩
      · obtain ⟨z, hz, rfl⟩ := List.mem_map.1 hy
        exact h2 _ (i2 z hz)
      · rw [keys_cons]
        rcases List.mem_cons.1 hx with e | e
        · rw [e]; exact List.mem_cons_self
        · exact List.mem_cons_of_mem _ (i2 x e)
theorem rprs_mem {t : Int} {f u : Str} {L : List Item} (h : UP (keysOf L)) (x : Str × Str) : x ∈ rprs t f u L ↔ withinB f u x.1 = true ∧ vw L t x.1 = some x.2 := by
  constructor
  · intro hx
    obtain ⟨p, hp, hx⟩ := List.mem_flatMap.1 hx
    cases hb : atO p.2 t && withinB f u p.1 with
    | false => rw [hb] at hx; cases hx
    | true =>
      rw [hb, cond_true, List.mem_singleton] at hx
      subst hx
      simp only [Bool.and_eq_true] at hb
      refine ⟨hb.2, ?_⟩
      unfold vw vwC
      rw [at_lk h hp, hb.1]; rfl
  · rintro ⟨h1, h2⟩
    unfold vw vwC at h2
    cases ha : atO (lkD x.1 L) t with
    | false => rw [ha] at h2; cases h2
    | true =>
      rw [ha, cond_true, Option.some.injEq] at h2
      have hne : lkD x.1 L ≠ [] := fun e => by rw [e] at ha; simp [atO] at ha
      refine List.mem_flatMap.2 ⟨_, lkD_mem hne, ?_⟩
      rw [ha, h1, Bool.and_self, cond_true, List.mem_singleton]; exact Prod.ext rfl h2.symm
end Go.Vk
