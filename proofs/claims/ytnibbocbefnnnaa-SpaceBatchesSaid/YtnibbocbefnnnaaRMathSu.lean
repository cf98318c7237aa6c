import Derived.Test.YtnibbocbefnnnaaRMathSt
set_option linter.unusedVariables false
set_option linter.unusedSimpArgs false
set_option linter.unnecessarySimpa false
namespace Go.Vk
theorem within_all (k : Str) : withinB [] [] k = true := by
  unfold withinB
  rw [decide_eq_false (List.not_lt_nil k), decide_eq_true rfl]; rfl
theorem rprs_vw {L M : List Item} {t x : Int} {f u : Str} (h1 : UP (keysOf L)) (h2 : UP (keysOf M)) (h : ∀ y, vw M t y = vw L x y) : rprs t f u M = rprs x f u L := up_ext (rprs_up h2).1 (rprs_up h1).1 fun z => by rw [rprs_mem h2, rprs_mem h1, h]
theorem vwC_late {c : List Ver} {a t : Int} (hl : c = [] ∨ (c.getD 0 (0, [], false)).1 ≤ a) (ha : a ≤ t) : vwC c t = vwC c a := by
  have : plc c t = plc c a := by
    cases c with
    | nil => rfl
    | cons v c =>
      have hv : v.1 ≤ a := by simpa using hl
      rw [plc, plc, if_pos (by omega), if_pos hv]
  unfold vwC atO atS; rw [this]
theorem vw_late {L : List Item} {la ma t : Int} (h : ldB L la ma = true) (ht : la ≤ t) (y : Str) : vw L t y = vw L la y := vwC_late (chn_lkD h y).2 ht
theorem vwC_new {l : List Ver} {t : Int} {s : Str} {d : Bool} (h : chnB ((t, s, d) :: l) = true) : vwC ((t, s, d) :: l) t = bif d then none else some s := by
  unfold vwC atO atS
  rw [h, plc, if_pos (Int.le_refl _)]
  cases d <;> rfl
theorem bat_i {L : List Item} {la ma t : Int} {b : List Chg} (h : ldB L la ma = true) (h1 : la < t) (h2 : t ≤ 1152921504606846976) (hf : fitB b = true) : ∀ i, i ≤ b.length → UP (keysP (cdK (rprs la [] [] L) b i)) ∧ ∀ x, x ∈ cdK (rprs la [] [] L) b i ↔ vw (appK t L b i) t x.1 = some x.2
  | 0, _ => by
    refine ⟨(rprs_up (ld_spi h).1).1, fun x => ?_⟩
    show x ∈ rprs la [] [] L ↔ vw L t x.1 = some x.2
    rw [rprs_mem (ld_spi h).1, vw_late (t := t) h (by omega)]
    exact ⟨fun h => h.2, fun h => ⟨within_all _, h⟩⟩
  | i + 1, hi => by
    obtain ⟨hu, hm⟩ := bat_i h h1 h2 hf i (by omega)
    obtain ⟨k1, k2, k3, k4⟩ := fitK_iff.1 hf i (by omega)
    obtain ⟨hc, hl⟩ := chn_lkD h (b.getD i ([], [], false)).1
    obtain ⟨e1, e2⟩ := add_item (d := (b.getD i ([], [], false)).2.2) hc hl h1 (ld_rng h).1 h2 k3 k4
    have hv : ∀ y, vw (appK t L b (i + 1)) t y = if (b.getD i ([], [], false)).1 = y then (bif (b.getD i ([], [], false)).2.2 then none else some (b.getD i ([], [], false)).2.1) else vw (appK t L b i) t y := by
      intro y
      unfold vw
      rw [appK_step (by omega)]
      unfold appOne
      rw [lkD_appK (ld_spi h) _ i (by omega) k1, lkD_set (spi_appK (ld_spi h) i (by omega)).1]
      by_cases e : (b.getD i ([], [], false)).1 = y
      · rw [if_pos e, if_pos e, e1, vwC_new e2]
      · rw [if_neg e, if_neg e]
    rw [cd_step (by omega)]
    unfold cd1
    cases hd : (b.getD i ([], [], false)).2.2 with
    | true =>
      rw [cond_true]
      refine ⟨up_delP hu, fun x => ?_⟩
      rw [mem_delP, hm, hv, hd]
      by_cases e : (b.getD i ([], [], false)).1 = x.1
      · rw [if_pos e]
        constructor
        · rintro ⟨_, h⟩; exact absurd e.symm h
        · intro h; cases h
      · rw [if_neg e]
        exact ⟨fun h => h.1, fun h => ⟨h, fun e2 => e e2.symm⟩⟩
    | false =>
      rw [cond_false]
      have he : putE (b.getD i ([], [], false)).1 (b.getD i ([], [], false)).2.1 = false := put_ok (by omega) (by omega)
      unfold putB
      rw [he, cond_false]
      refine ⟨up_putP hu, fun x => ?_⟩
      rw [mem_putP hu, hm, hv, hd]
      by_cases e : (b.getD i ([], [], false)).1 = x.1
      · rw [if_pos e, cond_false, Option.some.injEq]
        constructor
        · rintro (h | ⟨_, h⟩)
          · rw [h]
          · exact absurd e.symm h
        · intro h; left; exact Prod.ext e.symm h.symm
      · rw [if_neg e]
        constructor
        · rintro (h | h)
          · exact absurd (by rw [h]) e
          · exact h.1
        · intro h; exact .inr ⟨h, fun e2 => e e2.symm⟩
theorem bat_fit {L : List Item} {la ma t : Int} {b : List Chg} (h : ldB L la ma = true) (h1 : la < t) (h2 : t ≤ 1152921504606846976) (hf : fitB b = true) : cdK (rprs la [] [] L) b b.length = rprs t [] [] (appL t L b) := by
  obtain ⟨hu, hm⟩ := bat_i h h1 h2 hf b.length (Nat.le_refl _)
  have hs := (ld_app h h1 h2 hf b.length (Nat.le_refl _)).1
  rw [appK_all] at hm hs
  refine up_ext hu (rprs_up hs).1 fun x => ?_
  rw [hm, rprs_mem hs]
  exact ⟨fun h => ⟨within_all _, h⟩, fun h => h.2⟩
/-- How it stands behind k batches. -/
structure BatI (q : Int) (k : Nat) (L : List Item) (a : Int) (s z : List Pr) : Prop where
  ld : ldB L a 0 = true
  la : a = (k : Int)
  len : L.length ≤ 31 * k
  ch : ∀ y, (lkD y L).length ≤ 31 * k
  s : s = rprs a [] [] L
  z : 0 ≤ q → q < (k : Int) → z = rprs q [] [] L
theorem bat_0 (q : Int) : BatI q 0 [] 0 [] [] := ⟨by decide, rfl, Nat.le_refl _, fun y => Nat.le_refl _, rfl, fun h1 h2 => by omega⟩
theorem bat_app {q : Int} {k : Nat} {L : List Item} {a : Int} {s z : List Pr} {b : List Chg} (h : BatI q k L a s z) (hk : k < 61) (hf : fitB b = true) : appOk ((k : Int) + 1) a b = true := by
  unfold appOk
  rw [hf, decide_eq_false (show ¬ (k : Int) + 1 ≤ a by have := h.la; omega), decide_eq_false (show ¬ (1152921504606846976 : Int) < (k : Int) + 1 by omega)]; rfl
theorem bat_e {q : Int} {k : Nat} {L : List Item} {a : Int} {s z : List Pr} {b : List Chg} (h : BatI q k L a s z) (hk : k < 61) : appE ((k : Int) + 1) a b = bif fitB b then 0 else 2 := by
  unfold appE
  rw [decide_eq_false (show ¬ (k : Int) + 1 ≤ a by have := h.la; omega), decide_eq_false (show ¬ (1152921504606846976 : Int) < (k : Int) + 1 by omega)]; rfl
theorem bat_e0 {q : Int} {k : Nat} {L : List Item} {a : Int} {s z : List Pr} {b : List Chg} (h : BatI q k L a s z) (hk : k < 61) (h0 : appE ((k : Int) + 1) a b = 0) : fitB b = true := by
  rw [bat_e h hk] at h0
  cases hb : fitB b with
  | true => rfl
  | false => rw [hb] at h0; cases h0
theorem bat_en {q : Int} {k : Nat} {L : List Item} {a : Int} {s z : List Pr} {b : List Chg} (h : BatI q k L a s z) (hk : k < 61) (h0 : ¬ appE ((k : Int) + 1) a b = 0) : fitB b = false ∧ appE ((k : Int) + 1) a b = 2 ∧ appS ((k : Int) + 1) L a b = L ∧ appT ((k : Int) + 1) a b = a := by
  have hb : fitB b = false := by
    cases hb : fitB b with
    | false => rfl
    | true => exact absurd (by rw [bat_e h hk, hb]; rfl) h0
  have ho : appOk ((k : Int) + 1) a b = false := by unfold appOk; rw [hb, Bool.and_false]
  exact ⟨hb, by rw [bat_e h hk, hb]; rfl, by unfold appS; rw [ho]; rfl, by unfold appT; rw [ho]; rfl⟩
theorem fit_nil : fitB [] = true := by decide
theorem bat_yes {q : Int} {k : Nat} {L : List Item} {a : Int} {s z : List Pr} {b : List Chg} (h : BatI q k L a s z) (hk : k < 61) (hf : fitB b = true) (hb : b.length ≤ 30) : BatI q (k + 1) (appS ((k : Int) + 1) L a b) (appT ((k : Int) + 1) a b) (cdK s b b.length) (if (k : Int) = q then s else z) := by
  have ho := bat_app h hk hf
  have hla := h.la
  have eS : appS ((k : Int) + 1) L a b = appL ((k : Int) + 1) L b := by unfold appS; rw [ho]; rfl
  have eT : appT ((k : Int) + 1) a b = (k : Int) + 1 := by unfold appT; rw [ho]; rfl
  have hl := ld_appS (t := (k : Int) + 1) (l := b) h.ld
  have hup := (ld_spi hl).1
  refine ⟨hl, by rw [eT]; omega, ?_, fun y => ?_, ?_, fun h1 h2 => ?_⟩
  · have := len_appK ((k : Int) + 1) L b b.length (Nat.le_refl _)
    have := h.len
    rw [eS, ← appK_all]; omega
  · have := lk_appK_len (t := (k : Int) + 1) (l := b) (ld_spi h.ld) y b.length (Nat.le_refl _)
    have := h.ch y
    rw [eS, ← appK_all]; omega
  · rw [h.s, bat_fit h.ld (t := (k : Int) + 1) (by omega) (by omega) hf, eS, eT]
  · rw [eS] at hup ⊢
    have hv : q ≤ a → ∀ y, vw (appL ((k : Int) + 1) L b) q y = vw L q y := fun hq y => by have := vw_appS (t := (k : Int) + 1) (l := b) h.ld hq y; rwa [eS] at this
    by_cases e : (k : Int) = q
    · rw [if_pos e, h.s]
      have : a = q := by omega
      rw [this]
      exact (rprs_vw (ld_spi h.ld).1 hup (hv (by omega))).symm
    · rw [if_neg e, h.z h1 (by omega)]
      exact (rprs_vw (ld_spi h.ld).1 hup (hv (by omega))).symm
theorem bat_no {q : Int} {k : Nat} {L : List Item} {a : Int} {s z : List Pr} (h : BatI q k L a s z) (hk : k < 61) : BatI q (k + 1) (appS ((k : Int) + 1) L a []) (appT ((k : Int) + 1) a []) s (if (k : Int) = q then s else z) := by
  have := bat_yes h hk fit_nil (by simp)
  exact this
theorem bat_scan {q : Int} {k : Nat} {L : List Item} {a : Int} {s z : List Pr} (h : BatI q k L a s z) : kepE (k : Int) a 0 = 0 ∧ scnR L a 0 [] [] (k : Int) (-1) = s := by
  have hk : kepE (k : Int) a 0 = 0 := by
    unfold kepE
    rw [decide_eq_false (by omega), decide_eq_false (show ¬ a < (k : Int) by have := h.la; omega)]; rfl
  exact ⟨hk, by rw [scn_1 hk (ld_spi h.ld).1, h.s, h.la]⟩
theorem bat_then {q : Int} {k : Nat} {L : List Item} {a : Int} {s z : List Pr} (h : BatI q k L a s z) (h1 : 0 ≤ q) (h2 : q < (k : Int)) : kepE q a 0 = 0 ∧ scnR L a 0 [] [] q (-1) = z := by
  have hk : kepE q a 0 = 0 := by
    unfold kepE
    rw [decide_eq_false (by omega), decide_eq_false (show ¬ a < q by have := h.la; omega)]; rfl
  exact ⟨hk, by rw [scn_1 hk (ld_spi h.ld).1, h.z h1 h2]⟩
theorem bat_no2 {q : Int} {k : Nat} {L : List Item} {a : Int} {s z : List Pr} {b : List Chg} (h : BatI q k L a s z) (hk : k < 61) (h0 : ¬ appE ((k : Int) + 1) a b = 0) : BatI q (k + 1) (appS ((k : Int) + 1) (appS ((k : Int) + 1) L a b) (appT ((k : Int) + 1) a b) []) (appT ((k : Int) + 1) (appT ((k : Int) + 1) a b) []) s (if (k : Int) = q then s else z) := by
  obtain ⟨_, _, e1, e2⟩ := bat_en h hk h0
  rw [e1, e2]
  exact bat_no h hk
theorem bat_sl {q : Int} {k : Nat} {L : List Item} {a : Int} {s z : List Pr} (h : BatI q k L a s z) : s.length ≤ L.length := by
  rw [h.s]
  have : (rscK a [] [] (-1) L).length ≤ L.length := rsc_len _ _ _ _ _
  unfold rscK at this
  rwa [decide_eq_true (by decide : (-1 : Int) < 0)] at this
end Go.Vk
