import Derived.Test.YtnibbocbefnnnaaRMathSr
set_option linter.unusedVariables false
set_option linter.unusedSimpArgs false
set_option linter.unnecessarySimpa false
namespace Go.Vk
theorem co_n {ks : List Str} {sp : List (Str × Str)} {y : Str} (h : rightB ks sp = false) : coB ks sp y = false := by unfold coB; rw [h]; rfl
theorem co_mem {ks : List Str} {sp : List (Str × Str)} {y : Str} (h : rightB ks sp = true) : coB ks sp y = (decide (y ∈ ks) || spB sp y) := by
  unfold coB
  rw [h, Bool.true_and, cv_iff (right_iff.1 h).2.2.2.1]
theorem co_at {ks : List Str} {sp : List (Str × Str)} {y : Str} {k : Nat} (h : rightB ks sp = true) (hk : k < ks.length) (e : ks.getD k [] = y) : coB ks sp y = true := by
  rw [co_mem h, decide_eq_true (by rw [← e]; exact getD_mem hk)]; rfl
theorem co_sp {ks : List Str} {sp : List (Str × Str)} {y : Str} (h : rightB ks sp = true) (hn : ∀ i, i < ks.length → ¬ ks.getD i [] = y) : coB ks sp y = spB sp y := by
  rw [co_mem h, decide_eq_false]
  · rfl
  · intro hm
    obtain ⟨i, hi, e⟩ := mem_getD [] hm
    exact hn i hi e
theorem hit_any (ks : List Str) (sp : List (Str × Str)) (l : List Chg) : hitB ks sp l = l.any fun c => coB ks sp c.1 := by
  unfold hitB coB
  cases rightB ks sp with
  | true => simp
  | false => simp
theorem hit_yes {ks : List Str} {sp : List (Str × Str)} {l : List Chg} {k : Nat} (hk : k < l.length) (h : coB ks sp (l.getD k ([], [], false)).1 = true) : hitB ks sp l = true := by
  rw [hit_any]; exact List.any_eq_true.2 ⟨_, getD_mem hk, h⟩
theorem hit_no {ks : List Str} {sp : List (Str × Str)} {l : List Chg} (h : ∀ i, i < l.length → coB ks sp (l.getD i ([], [], false)).1 = false) : hitB ks sp l = false := by
  rw [hit_any, List.any_eq_false]
  intro x hx
  obtain ⟨i, hi, rfl⟩ := mem_getD ([], [], false) hx
  rw [h i hi]; exact Bool.false_ne_true
/-- Stale, as the reference tells it. -/
def rstB (ks : List Str) (sp : List (Str × Str)) (L : List Item) (t : Int) : Bool := L.any fun p => coB ks sp p.1 && rsiK t p.1 (p.1 ++ [0]) L
theorem rst_yes {ks : List Str} {sp : List (Str × Str)} {L : List Item} {t : Int} {k : Nat} (hk : k < L.length) (h1 : coB ks sp (L.getD k ([], [])).1 = true) (h2 : rsiK t (L.getD k ([], [])).1 ((L.getD k ([], [])).1 ++ [0]) L = true) : rstB ks sp L t = true := List.any_eq_true.2 ⟨_, getD_mem hk, by rw [h1, h2]; rfl⟩
theorem rst_no {ks : List Str} {sp : List (Str × Str)} {L : List Item} {t : Int} (h : ∀ i, i < L.length → (coB ks sp (L.getD i ([], [])).1 && rsiK t (L.getD i ([], [])).1 ((L.getD i ([], [])).1 ++ [0]) L) = false) : rstB ks sp L t = false := by
  unfold rstB
  rw [List.any_eq_false]
  intro p hp
  obtain ⟨i, hi, rfl⟩ := mem_getD ([], []) hp
  rw [h i hi]; exact Bool.false_ne_true
/-- Stale, as the space tells it. -/
def stlB (ks : List Str) (sp : List (Str × Str)) (L : List Item) (t : Int) : Bool := rightB ks sp && (ks.any (fun y => sinB L y (y ++ [0]) t) || sp.any fun s => sinB L s.1 s.2 t)
theorem any_false {α : Type} (l : List α) : l.any (fun _ => false) = false := by induction l with
  | nil => rfl
  | cons x l ih => rw [List.any_cons, ih]; rfl
theorem lt_snoc {k y : Str} : k < y ++ [0] ↔ k < y ∨ k = y := by
  constructor
  · intro h
    by_cases h1 : k < y
    · exact .inl h1
    · by_cases h2 : k = y
      · exact .inr h2
      · exfalso
        have h3 := str_tri h1 h2
        have : ∀ {y k : Str}, y < k → ¬ k < y ++ [0] := by
          intro y
          induction y with
          | nil =>
            intro k hk hlt
            cases k with
            | nil => exact List.not_lt_nil _ hk
            | cons b k =>
              rw [List.nil_append, List.cons_lt_cons_iff] at hlt
              rcases hlt with h | ⟨_, h⟩
              · exact absurd h (by exact UInt8.not_lt.2 (UInt8.le_iff_toNat_le.2 (Nat.zero_le _)))
              · exact List.not_lt_nil _ h
          | cons a y ih =>
            intro k hk hlt
            cases k with
            | nil => exact List.not_lt_nil _ hk
            | cons b k =>
              rw [List.cons_append, List.cons_lt_cons_iff] at hlt
              rw [List.cons_lt_cons_iff] at hk
              rcases hk with hk | ⟨e, hk⟩
              · rcases hlt with h | ⟨e, _⟩
                · exact absurd (UInt8.lt_trans hk h) (UInt8.lt_irrefl _)
                · rw [e] at hk; exact UInt8.lt_irrefl _ hk
              · rcases hlt with h | ⟨_, h⟩
                · rw [e] at h; exact UInt8.lt_irrefl _ h
                · exact ih hk h
        exact this h3 h
  · have hy : ∀ y : Str, y < y ++ [0] := by
      intro y
      induction y with
      | nil => exact List.nil_lt_cons _ _
      | cons a y ih => rw [List.cons_append, List.cons_lt_cons_iff]; exact .inr ⟨rfl, ih⟩
    rintro (h | rfl)
    · exact List.lt_trans h (hy y)
    · exact hy k
theorem within_one {k y : Str} : withinB y (y ++ [0]) k = true ↔ k = y := by
  rw [wtn_iff]; unfold wtn
  rw [lt_snoc]
  constructor
  · rintro ⟨h1, h2 | h2 | h2⟩
    · exact absurd h2 (by simp)
    · exact absurd h2 h1
    · exact h2
  · rintro rfl; exact ⟨List.lt_irrefl _, .inr (.inr rfl)⟩
theorem rsi_iff {t : Int} {f u : Str} {L : List Item} : rsiK t f u L = true ↔ ∃ p, p ∈ L ∧ withinB f u p.1 = true ∧ sncB p.2 t = true := by
  unfold rsiK; rw [List.any_eq_true]; simp only [Bool.and_eq_true]
theorem stale_eq {ks : List Str} {sp : List (Str × Str)} {L : List Item} {la ma t : Int} (h : ldB L la ma = true) : stlB ks sp L t = rstB ks sp L t := by
  have hu := (ld_spi h).1
  rw [Bool.eq_iff_iff]
  unfold stlB rstB
  rw [Bool.and_eq_true, Bool.or_eq_true, List.any_eq_true, List.any_eq_true, List.any_eq_true]
  constructor
  · rintro ⟨hr, hx⟩
    obtain ⟨p, hp, hs, hc⟩ : ∃ p, p ∈ L ∧ sncB p.2 t = true ∧ coB ks sp p.1 = true := by
      rcases hx with ⟨y, hy, hz⟩ | ⟨s, hs, hz⟩
      · rw [sin_eq _ _ _ hu, rsi_iff] at hz
        obtain ⟨p, hp, h1, h2⟩ := hz
        rw [within_one] at h1
        exact ⟨p, hp, h2, by rw [co_mem hr, decide_eq_true (by rw [h1]; exact hy)]; rfl⟩
      · rw [sin_eq _ _ _ hu, rsi_iff] at hz
        obtain ⟨p, hp, h1, h2⟩ := hz
        refine ⟨p, hp, h2, ?_⟩
        rw [co_mem hr]
        have : spB sp p.1 = true := List.any_eq_true.2 ⟨s, hs, h1⟩
        rw [this, Bool.or_true]
    exact ⟨p, hp, by rw [hc, Bool.true_and, rsi_iff]; exact ⟨p, hp, within_one.2 rfl, hs⟩⟩
  · rintro ⟨p, hp, hx⟩
    rw [Bool.and_eq_true, rsi_iff] at hx
    obtain ⟨hc, q, hq, h1, h2⟩ := hx
    rw [within_one] at h1
    have hr : rightB ks sp = true := by
      cases hb : rightB ks sp with
      | true => rfl
      | false => rw [co_n hb] at hc; cases hc
    refine ⟨hr, ?_⟩
    rw [co_mem hr, Bool.or_eq_true, decide_eq_true_eq] at hc
    rcases hc with hc | hc
    · left; exact ⟨p.1, hc, by rw [sin_eq _ _ _ hu, rsi_iff]; exact ⟨q, hq, within_one.2 h1, h2⟩⟩
    · right
      obtain ⟨s, hs, hw⟩ := List.any_eq_true.1 hc
      exact ⟨s, hs, by rw [sin_eq _ _ _ hu, rsi_iff]; exact ⟨q, hq, by rw [h1]; exact hw, h2⟩⟩
end Go.Vk
