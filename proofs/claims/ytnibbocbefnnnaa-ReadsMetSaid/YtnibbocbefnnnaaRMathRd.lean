import Derived.Test.YtnibbocbefnnnaaRMathSs
set_option linter.unusedVariables false
set_option linter.unusedSimpArgs false
set_option linter.unnecessarySimpa false
namespace Go.Vk
theorem co_n {ks : List Str} {sp : List (Str × Str)} {y : Str} (h : rightB ks sp = false) : coB ks sp y = false := by unfold coB; rw [h]; rfl
theorem co_mem {ks : List Str} {sp : List (Str × Str)} {y : Str} (h : rightB ks sp = true) : coB ks sp y = (decide (y ∈ ks) || spB sp y) := by
  unfold coB
  rw [h, Bool.true_and, cv_iff (right_iff.1 h).2.2.2.1]
theorem hit_any (ks : List Str) (sp : List (Str × Str)) (l : List Chg) : hitB ks sp l = l.any fun c => coB ks sp c.1 := by
  unfold hitB coB
  cases rightB ks sp with
  | true => simp
  | false => simp
/-- Stale, as the reference tells it. -/
def rstB (ks : List Str) (sp : List (Str × Str)) (L : List Item) (t : Int) : Bool := L.any fun p => coB ks sp p.1 && rsiK t p.1 (p.1 ++ [0]) L
/-- Stale, as the space tells it. -/
def stlB (ks : List Str) (sp : List (Str × Str)) (L : List Item) (t : Int) : Bool := rightB ks sp && (ks.any (fun y => sinB L y (y ++ [0]) t) || sp.any fun s => sinB L s.1 s.2 t)
theorem lt_snoc {k y : Str} : k < y ++ [0] ↔ k < y ∨ k = y := by
  constructor
  · intro h
    by_cases h1 : k < y
    · exact .inl h1
    · by_cases h2 : k = y
      · exact .inr h2
      · exfalso
        have h3 := str_tri h1 h2
        have : ∀ {y k : Str}, y < k → ¬ k < y ++ [0] := by
          intro y
          induction y with
          | nil =>
            intro k hk hlt
            cases k with
            | nil => exact List.not_lt_nil _ hk
            | cons b k =>
              rw [List.nil_append, List.cons_lt_cons_iff] at hlt
              rcases hlt with h | ⟨_, h⟩
              · exact absurd h (by exact UInt8.not_lt.2 (UInt8.le_iff_toNat_le.2 (Nat.zero_le _)))
              · exact List.not_lt_nil _ h
          | cons a y ih =>
            intro k hk hlt
            cases k with
            | nil => exact List.not_lt_nil _ hk
            | cons b k =>
              rw [List.cons_append, List.cons_lt_cons_iff] at hlt
              rw [List.cons_lt_cons_iff] at hk
              rcases hk with hk | ⟨e, hk⟩
              · rcases hlt with h | ⟨e, _⟩
                · exact absurd (UInt8.lt_trans hk h) (UInt8.lt_irrefl _)
                · rw [e] at hk; exact UInt8.lt_irrefl _ hk
              · rcases hlt with h | ⟨_, h⟩
                · rw [e] at h; exact UInt8.lt_irrefl _ h
                · exact ih hk h
        exact this h3 h
  · have hy : ∀ y : Str, y < y ++ [0] := by
      intro y
      induction y with
      | nil => exact List.nil_lt_cons _ _
      | cons a y ih => rw [List.cons_append, List.cons_lt_cons_iff]; exact .inr ⟨rfl, ih⟩
    rintro (h | rfl)
    · exact List.lt_trans h (hy y)
    · exact hy k
theorem within_one {k y : Str} : withinB y (y ++ [0]) k = true ↔ k = y := by
  rw [wtn_iff]; unfold wtn
  rw [lt_snoc]
  constructor
  · rintro ⟨h1, h2 | h2 | h2⟩
    · exact absurd h2 (by simp)
    · exact absurd h2 h1
    · exact h2
  · rintro rfl; exact ⟨List.lt_irrefl _, .inr (.inr rfl)⟩
theorem rsi_iff {t : Int} {f u : Str} {L : List Item} : rsiK t f u L = true ↔ ∃ p, p ∈ L ∧ withinB f u p.1 = true ∧ sncB p.2 t = true := by
  unfold rsiK; rw [List.any_eq_true]; simp only [Bool.and_eq_true]
theorem stale_eq {ks : List Str} {sp : List (Str × Str)} {L : List Item} {la ma t : Int} (h : ldB L la ma = true) : stlB ks sp L t = rstB ks sp L t := by
  have hu := (ld_spi h).1
  rw [Bool.eq_iff_iff]
  unfold stlB rstB
  rw [Bool.and_eq_true, Bool.or_eq_true, List.any_eq_true, List.any_eq_true, List.any_eq_true]
  constructor
  · rintro ⟨hr, hx⟩
    obtain ⟨p, hp, hs, hc⟩ : ∃ p, p ∈ L ∧ sncB p.2 t = true ∧ coB ks sp p.1 = true := by
      rcases hx with ⟨y, hy, hz⟩ | ⟨s, hs, hz⟩
      · rw [sin_eq _ _ _ hu, rsi_iff] at hz
        obtain ⟨p, hp, h1, h2⟩ := hz
        rw [within_one] at h1
        exact ⟨p, hp, h2, by rw [co_mem hr, decide_eq_true (by rw [h1]; exact hy)]; rfl⟩
      · rw [sin_eq _ _ _ hu, rsi_iff] at hz
        obtain ⟨p, hp, h1, h2⟩ := hz
        refine ⟨p, hp, h2, ?_⟩
        rw [co_mem hr]
        have : spB sp p.1 = true := List.any_eq_true.2 ⟨s, hs, h1⟩
        rw [this, Bool.or_true]
    exact ⟨p, hp, by rw [hc, Bool.true_and, rsi_iff]; exact ⟨p, hp, within_one.2 rfl, hs⟩⟩
  · rintro ⟨p, hp, hx⟩
    rw [Bool.and_eq_true, rsi_iff] at hx
    obtain ⟨hc, q, hq, h1, h2⟩ := hx
    rw [within_one] at h1
    have hr : rightB ks sp = true := by
      cases hb : rightB ks sp with
      | true => rfl
      | false => rw [co_n hb] at hc; cases hc
    refine ⟨hr, ?_⟩
    rw [co_mem hr, Bool.or_eq_true, decide_eq_true_eq] at hc
    rcases hc with hc | hc
    · left; exact ⟨p.1, hc, by rw [sin_eq _ _ _ hu, rsi_iff]; exact ⟨q, hq, within_one.2 h1, h2⟩⟩
    · right
      obtain ⟨s, hs, hw⟩ := List.any_eq_true.1 hc
      exact ⟨s, hs, by rw [sin_eq _ _ _ hu, rsi_iff]; exact ⟨q, hq, by rw [h1]; exact hw, h2⟩⟩
theorem rst_iff {ks : List Str} {sp : List (Str × Str)} {L : List Item} {t : Int} : rstB ks sp L t = true ↔ ∃ p, p ∈ L ∧ coB ks sp p.1 = true ∧ sncB p.2 t = true := by
  unfold rstB
  rw [List.any_eq_true]
  constructor
  · rintro ⟨p, hp, hx⟩
    rw [Bool.and_eq_true, rsi_iff] at hx
    obtain ⟨hc, q, hq, h1, h2⟩ := hx
    rw [within_one] at h1
    exact ⟨q, hq, by rw [h1]; exact hc, h2⟩
  · rintro ⟨p, hp, hc, hs⟩
    exact ⟨p, hp, by rw [hc, Bool.true_and, rsi_iff]; exact ⟨p, hp, within_one.2 rfl, hs⟩⟩
theorem snc_nil (t : Int) : sncB [] t = false := by unfold sncB; simp [plc]
theorem stl_iff {ks : List Str} {sp : List (Str × Str)} {L : List Item} {la ma t : Int} (h : ldB L la ma = true) : stlB ks sp L t = true ↔ ∃ y, coB ks sp y = true ∧ sncB (lkD y L) t = true := by
  rw [stale_eq h, rst_iff]
  constructor
  · rintro ⟨p, hp, hc, hs⟩
    exact ⟨p.1, hc, by rw [at_lk (ld_spi h).1 hp]; exact hs⟩
  · rintro ⟨y, hc, hs⟩
    have hne : lkD y L ≠ [] := fun e => by rw [e, snc_nil] at hs; cases hs
    exact ⟨_, lkD_mem hne, hc, hs⟩
theorem snc_appK {L : List Item} {la ma t x : Int} {b : List Chg} (h : ldB L la ma = true) (h1 : la < t) (h2 : t ≤ 1152921504606846976) (hf : fitB b = true) (hx : x ≤ la) (y : Str) : ∀ i, i ≤ b.length → (sncB (lkD y (appK t L b i)) x = true ↔ sncB (lkD y L) x = true ∨ ∃ j, j < i ∧ (b.getD j ([], [], false)).1 = y)
  | 0, _ => ⟨fun h => .inl h, fun h => h.elim id (fun ⟨j, hj, _⟩ => by omega)⟩
  | i + 1, hi => by
    have ih := snc_appK h h1 h2 hf hx y i (by omega)
    obtain ⟨k1, k2, k3, k4⟩ := fitK_iff.1 hf i (by omega)
    obtain ⟨hc, hl⟩ := chn_lkD h (b.getD i ([], [], false)).1
    obtain ⟨e1, e2⟩ := add_item (d := (b.getD i ([], [], false)).2.2) hc hl h1 (ld_rng h).1 h2 k3 k4
    rw [appK_step (by omega)]
    unfold appOne
    rw [lkD_appK (ld_spi h) _ i (by omega) k1, lkD_set (spi_appK (ld_spi h) i (by omega)).1]
    by_cases e : (b.getD i ([], [], false)).1 = y
    · rw [if_pos e, e1]
      refine ⟨fun _ => .inr ⟨i, by omega, e⟩, fun _ => ?_⟩
      unfold sncB
      rw [e2, plc, if_neg (show ¬ t ≤ x by omega)]
      simp
    · rw [if_neg e, ih]
      constructor
      · rintro (h | ⟨j, hj, he⟩)
        · exact .inl h
        · exact .inr ⟨j, by omega, he⟩
      · rintro (h | ⟨j, hj, he⟩)
        · exact .inl h
        · by_cases ej : j = i
          · rw [ej] at he; exact absurd he e
          · exact .inr ⟨j, by omega, he⟩
theorem app_no {t la : Int} {L : List Item} {b : List Chg} (h : ¬ appE t la b = 0) : appS t L la b = L := by
  have : appOk t la b = false := by
    cases ho : appOk t la b with
    | false => rfl
    | true =>
      unfold appOk at ho
      simp only [Bool.and_eq_true, Bool.not_eq_true'] at ho
      exact absurd (by unfold appE; rw [ho.1.1, ho.1.2, ho.2]; rfl) h
  unfold appS; rw [this]; rfl
theorem app_yes {t la : Int} {b : List Chg} (h : appE t la b = 0) : appOk t la b = true := by
  unfold appE at h
  unfold appOk
  cases h1 : decide (t ≤ la) with
  | true => rw [h1] at h; simp at h
  | false =>
    cases h2 : decide ((1152921504606846976 : Int) < t) with
    | true => rw [h1, h2] at h; simp at h
    | false =>
      cases h3 : fitB b with
      | true => rfl
      | false => rw [h1, h2, h3] at h; simp at h
theorem stale_app {ks : List Str} {sp : List (Str × Str)} {L : List Item} {la ma t x : Int} {b : List Chg} (h : ldB L la ma = true) (h0 : appE t la b = 0) (hx : x ≤ la) : stlB ks sp (appS t L la b) x = (stlB ks sp L x || hitB ks sp b) := by
  have ho := app_yes h0
  have hl := ld_appS (t := t) (l := b) h
  have eS : appS t L la b = appL t L b := by unfold appS; rw [ho]; rfl
  unfold appOk at ho
  simp only [Bool.and_eq_true, Bool.not_eq_true', decide_eq_false_iff_not] at ho
  rw [Bool.eq_iff_iff, stl_iff hl, Bool.or_eq_true, stl_iff h, hit_any, List.any_eq_true, eS, ← appK_all]
  constructor
  · rintro ⟨y, hc, hs⟩
    rcases (snc_appK h (by omega) (by omega) ho.2 hx y b.length (Nat.le_refl _)).1 hs with hs | ⟨j, hj, he⟩
    · exact .inl ⟨y, hc, hs⟩
    · exact .inr ⟨_, getD_mem (d := ([], [], false)) hj, by rw [he]; exact hc⟩
  · rintro (⟨y, hc, hs⟩ | ⟨c, hm, hc⟩)
    · exact ⟨y, hc, (snc_appK h (by omega) (by omega) ho.2 hx y b.length (Nat.le_refl _)).2 (.inl hs)⟩
    · obtain ⟨j, hj, rfl⟩ := mem_getD ([], [], false) hm
      exact ⟨_, hc, (snc_appK h (by omega) (by omega) ho.2 hx _ b.length (Nat.le_refl _)).2 (.inr ⟨j, hj, rfl⟩)⟩
theorem len_appS (t : Int) (L : List Item) (la : Int) (b : List Chg) : (appS t L la b).length ≤ L.length + b.length := by
  unfold appS
  cases appOk t la b with
  | false => exact Nat.le_add_right _ _
  | true => rw [cond_true, ← appK_all]; exact len_appK _ _ _ _ (Nat.le_refl _)
end Go.Vk
