/- A span and a key more: the laws' mathematics, second part. -/
import Derived.Test.YtnibbocbefnnnaaRMath
set_option linter.unusedVariables false
set_option linter.unusedSimpArgs false
set_option linter.unnecessarySimpa false
namespace Go.Vk
/-! ### A span more -/
def RunI (sp : List Spn) (f t : Str) (k : Nat) (r : List Spn × Bool × Str × Str) : Prop :=
  CN r.1 ∧ r.1.length + cond r.2.1 0 1 ≤ k + 1 ∧
  (r.2.1 = false → (∀ s, s ∈ r.1 → ∃ i, i < k ∧ s = sp.getD i ([], [])) ∧ (∀ s, s ∈ r.1 → apB s.2 r.2.2.1 = true) ∧ hasB r.2.2.1 r.2.2.2 = true ∧ ∀ y, (spB r.1 y || withinB r.2.2.1 r.2.2.2 y) = (spB (sp.take k) y || withinB f t y)) ∧
  (r.2.1 = true → (∀ s, s ∈ r.1 → ∀ j, k ≤ j → j < sp.length → apB s.2 (sp.getD j ([], [])).1 = true) ∧ (r.2.2.1, r.2.2.2) ∈ r.1 ∧ ∀ y, spB r.1 y = (spB (sp.take k) y || withinB f t y))
theorem CN_snoc {l : List Spn} {s : Spn} (h : CN l) (h1 : ∀ a, a ∈ l → apB a.2 s.1 = true) (h2 : hasB s.1 s.2 = true) : CN (l ++ [s]) := by
  refine ⟨fun a ha => ?_, List.pairwise_append.2 ⟨h.2, List.pairwise_singleton _ _, fun a ha b hb => by rw [List.mem_singleton.1 hb]; exact h1 a ha⟩⟩
  rcases List.mem_append.1 ha with ha | ha
  · exact h.1 a ha
  · rw [List.mem_singleton.1 ha]; exact h2
theorem run_inv {sp : List Spn} {f t : Str} (hc : CN sp) (hx : hasB f t = true) : ∀ k, k ≤ sp.length → RunI sp f t k (runP sp f t k)
  | 0, _ => by
    refine ⟨⟨fun s hs => (by cases hs), List.Pairwise.nil⟩, by simp [runP], fun _ => ⟨fun s hs => (by cases hs), fun s hs => (by cases hs), hx, fun y => by simp [runP, spB]⟩, fun h => by cases h⟩
  | k + 1, hk => by
    have hkl : k < sp.length := by omega
    obtain ⟨i1, i2, i3, i4⟩ := run_inv hc hx k (by omega)
    have hs := hc.1 _ (getD_mem (d := ([], [])) hkl)
    have hp := (pair_getD ([], [])).1 hc.2
    have htk : sp.take (k + 1) = sp.take k ++ [sp.getD k ([], [])] := take_snoc hkl
    simp only [runP]
    generalize runP sp f t k = r at *
    obtain ⟨o, ld, f', t'⟩ := r
    generalize hse : sp.getD k ([], []) = s at *
    have hcv : ∀ y, spB (sp.take (k + 1)) y = (spB (sp.take k) y || withinB s.1 s.2 y) := fun y => by rw [htk, spB_app, ← spB_one]
    have hsp : ∀ y, spB (o ++ [s]) y = (spB o y || withinB s.1 s.2 y) := fun y => by rw [spB_app, ← spB_one]
    cases ld with
    | false =>
      obtain ⟨a1, a2, a3, a4⟩ := i3 rfl
      simp only at i1 i2 a1 a2 a3 a4
      have hos : ∀ a, a ∈ o → apB a.2 s.1 = true := fun a ha => by
        obtain ⟨i, hi, rfl⟩ := a1 a ha
        rw [← hse]; exact hp i k hi hkl
      cases h1 : apB s.2 f' with
      | true =>
        simp only [stepP, h1, cond_true]
        refine ⟨CN_snoc i1 hos hs, by simp at i2 ⊢; omega, fun _ => ⟨fun a ha => ?_, fun a ha => ?_, a3, fun y => ?_⟩, fun h => by cases h⟩
        · rcases List.mem_append.1 ha with ha | ha
          · obtain ⟨i, hi, e⟩ := a1 a ha
            exact ⟨i, by omega, e⟩
          · exact ⟨k, by omega, by rw [List.mem_singleton.1 ha, hse]⟩
        · rcases List.mem_append.1 ha with ha | ha
          · exact a2 a ha
          · rw [List.mem_singleton.1 ha]; exact h1
        · have ih := a4 y
          simp only at ih ⊢
          rw [hsp, hcv]
          revert ih
          cases spB o y <;> cases withinB s.1 s.2 y <;> cases withinB f' t' y <;> cases spB (sp.take k) y <;> cases withinB f t y <;> simp
      | false =>
        cases h2 : apB t' s.1 with
        | true =>
          simp only [stepP, h1, h2, cond_true, cond_false]
          have hox : CN (o ++ [(f', t')]) := CN_snoc i1 a2 a3
          have hxs : ∀ a, a ∈ o ++ [(f', t')] → apB a.2 s.1 = true := fun a ha => by
            rcases List.mem_append.1 ha with ha | ha
            · exact hos a ha
            · rw [List.mem_singleton.1 ha]; exact h2
          refine ⟨CN_snoc hox hxs hs, by simp at i2 ⊢; omega, fun h => (by cases h), fun _ => ⟨fun a ha j hj1 hj2 => ?_, by simp, fun y => ?_⟩⟩
          · have hsj : apB s.2 (sp.getD j ([], [])).1 = true := by rw [← hse]; exact hp k j (by omega) hj2
            rcases List.mem_append.1 ha with ha | ha
            · exact ap_trans (hxs a ha) hs hsj
            · rw [List.mem_singleton.1 ha]; exact hsj
          · have ih := a4 y
            simp only at ih ⊢
            rw [spB_app, spB_app, hcv, spB_one, show spB [s] y = withinB s.1 s.2 y from spB_one s.1 s.2 y]
            revert ih
            cases spB o y <;> cases withinB s.1 s.2 y <;> cases withinB f' t' y <;> cases spB (sp.take k) y <;> cases withinB f t y <;> simp
        | false =>
          simp only [stepP, h1, h2, cond_false]
          refine ⟨i1, by simp at i2 ⊢; omega, fun _ => ⟨fun a ha => ?_, fun a ha => ?_, join_has a3 hs h1 h2, fun y => ?_⟩, fun h => by cases h⟩
          · obtain ⟨i, hi, e⟩ := a1 a ha
            exact ⟨i, by omega, e⟩
          · rcases minS_cases f' s.1 with ⟨_, e⟩ | ⟨_, e⟩
            · simp only [e]; exact a2 a ha
            · simp only [e]; exact hos a ha
          · have ih := a4 y
            simp only at ih ⊢
            rw [hcv, join_within a3 hs h1 h2]
            revert ih
            cases spB o y <;> cases withinB s.1 s.2 y <;> cases withinB f' t' y <;> cases spB (sp.take k) y <;> cases withinB f t y <;> simp
    | true =>
      obtain ⟨a1, a2, a3⟩ := i4 rfl
      simp only at i1 i2 a1 a2 a3
      have hos : ∀ a, a ∈ o → apB a.2 s.1 = true := fun a ha => by
        rw [← hse]; exact a1 a ha k (Nat.le_refl _) hkl
      have h2 : apB t' s.1 = true := hos _ a2
      have hstep : stepP (o, true, f', t') s = (o ++ [s], true, f', t') := by
        cases h1 : apB s.2 f' <;> simp only [stepP, h1, h2, cond_true, cond_false]
      rw [hstep]
      refine ⟨CN_snoc i1 hos hs, by simp at i2 ⊢; omega, fun h => (by cases h), fun _ => ⟨fun a ha j hj1 hj2 => ?_, List.mem_append_left _ a2, fun y => ?_⟩⟩
      · rcases List.mem_append.1 ha with ha | ha
        · exact a1 a ha j (by omega) hj2
        · rw [List.mem_singleton.1 ha, ← hse]; exact hp k j (by omega) hj2
      · have ih := a3 y
        simp only at ih ⊢
        rw [hsp, hcv, ih]
        cases withinB s.1 s.2 y <;> cases spB (sp.take k) y <;> cases withinB f t y <;> rfl
theorem spO_facts {sp : List Spn} {f t : Str} (hc : CN sp) (hx : hasB f t = true) : CN (spO sp f t) ∧ (∀ y, spB (spO sp f t) y = (spB sp y || withinB f t y)) ∧ (spO sp f t).length ≤ sp.length + 1 := by
  have h := run_inv hc hx sp.length (Nat.le_refl _)
  unfold spO
  generalize runP sp f t sp.length = r at *
  obtain ⟨o, ld, f', t'⟩ := r
  obtain ⟨i1, i2, i3, i4⟩ := h
  simp only [List.take_length] at *
  cases ld with
  | true => exact ⟨i1, (i4 rfl).2.2, by simpa using i2⟩
  | false =>
    obtain ⟨a1, a2, a3, a4⟩ := i3 rfl
    refine ⟨CN_snoc i1 a2 a3, fun y => ?_, by simpa using i2⟩
    rw [cond_false, spB_app, spB_one]; exact a4 y
theorem snS_facts {sp : List Spn} (hc : CN sp) (f t : Str) : CN (snS sp f t) ∧ (∀ y, spB (snS sp f t) y = (spB sp y || withinB f t y)) ∧ (snS sp f t).length ≤ sp.length + 1 := by
  unfold snS
  cases hx : hasB f t with
  | true => exact spO_facts hc hx
  | false =>
    refine ⟨hc, fun y => ?_, by simp⟩
    have : withinB f t y = false := by
      cases e : withinB f t y with
      | false => rfl
      | true =>
        have h1 := within_iff.1 e
        have : hasB f t = true := has_iff.2 (h1.2.imp id fun h => by
          by_cases e2 : y = f
          · rw [← e2]; exact h
          · exact List.lt_trans (tri h1.1 e2) h)
        rw [hx] at this; cases this
    rw [this, cond_false, Bool.or_false]
/-! ### Rising keys -/
theorem upK_iff {ks : List Str} {sp : List Spn} : ∀ {n : Nat}, upK ks sp n = true ↔ ∀ k, k < n → (k = 0 ∨ ks.getD (k - 1) [] < ks.getD k []) ∧ spB sp (ks.getD k []) = false
  | 0 => by simp [upK]
  | n + 1 => by
    simp only [upK, Bool.and_eq_true, upK_iff (n := n), Bool.or_eq_true, decide_eq_true_eq, Bool.not_eq_true']
    constructor
    · rintro ⟨h1, h2, h3⟩ k hk
      rcases Nat.lt_or_ge k n with h | h
      · exact h1 k h
      · obtain rfl : k = n := by omega
        exact ⟨h2, h3⟩
    · intro h
      exact ⟨fun k hk => h k (by omega), (h n (by omega)).1, (h n (by omega)).2⟩

theorem keys_iff {ks : List Str} {sp : List Spn} : upK ks sp ks.length = true ↔ UP ks ∧ ∀ k, k ∈ ks → spB sp k = false := by
  rw [upK_iff]
  constructor
  · intro h
    refine ⟨(pair_getD []).2 fun i j hij hj => ?_, fun k hk => ?_⟩
    · induction j with
      | zero => omega
      | succ j ih =>
        have h1 := (h (j + 1) hj).1.resolve_left (by omega)
        rw [Nat.add_sub_cancel] at h1
        by_cases e : i = j
        · rw [e]; exact h1
        · exact List.lt_trans (ih (by omega) (by omega)) h1
    · obtain ⟨i, hi, rfl⟩ := mem_getD [] hk
      exact (h i hi).2
  · rintro ⟨h1, h2⟩ k hk
    refine ⟨?_, h2 _ (getD_mem hk)⟩
    by_cases e : k = 0
    · exact .inl e
    · exact .inr ((pair_getD []).1 h1 (k - 1) k (by omega) hk)
theorem right_iff {ks : List Str} {sp : List Spn} : rightB ks sp = true ↔ ks.length ≤ 64 ∧ sp.length ≤ 64 ∧ CN sp ∧ UP ks ∧ ∀ k, k ∈ ks → spB sp k = false := by
  simp only [rightB, Bool.and_eq_true, Bool.not_eq_true', decide_eq_false_iff_not, CN_iff, keys_iff]
  constructor
  · rintro ⟨⟨⟨h1, h2⟩, h3⟩, h4, h5⟩
    exact ⟨by omega, by omega, h3, h4, h5⟩
  · rintro ⟨h1, h2, h3, h4, h5⟩
    exact ⟨⟨⟨by omega, by omega⟩, h3⟩, h4, h5⟩
theorem bsN_spec {l : List Str} (h : UP l) (y : Str) : (∀ j, j < bsN l y → l.getD j [] < y) ∧ (bsN l y = l.length ∨ ¬ l.getD (bsN l y) [] < y) := by
  have := srch_spec (φ := fun j => !decide (l.getD j [] < y)) (n := l.length) (fun a b hab hb ha => by
    rcases Nat.lt_or_ge a b with h' | h'
    · simp only [Bool.not_eq_true', decide_eq_false_iff_not] at ha ⊢
      exact fun h2 => ha (List.lt_trans ((pair_getD []).1 h a b h' hb) h2)
    · obtain rfl : a = b := by omega
      exact ha) _ 0 l.length (Nat.le_refl _) (by omega) (Nat.le_refl _) (fun k hk => by omega) (.inl rfl)
  simp only [Bool.not_eq_false', decide_eq_true_eq, Bool.not_eq_true', decide_eq_false_iff_not] at this
  exact this
theorem bsB_iff {l : List Str} (h : UP l) {y : Str} : bsB l y = true ↔ y ∈ l := by
  obtain ⟨h1, h2⟩ := bsN_spec h y
  have hle := bsN_le l y
  simp only [bsB, Bool.and_eq_true, decide_eq_true_eq]
  constructor
  · rintro ⟨h3, h4⟩
    rw [← h4]; exact getD_mem (by omega)
  · intro hy
    obtain ⟨i, hi, rfl⟩ := mem_getD [] hy
    have e : bsN l (l.getD i []) = i := by
      rcases Nat.lt_trichotomy (bsN l (l.getD i [])) i with hlt | e | hlt
      · rcases h2 with h2 | h2
        · omega
        · exact absurd ((pair_getD []).1 h _ i hlt hi) h2
      · exact e
      · exact absurd (h1 i hlt) (List.lt_irrefl _)
    rw [e]
    exact ⟨by omega, rfl⟩
/-- Rising keys that are the same are the same list. -/
theorem UP_same : ∀ {l m : List Str}, UP l → UP m → (∀ k, k ∈ l ↔ k ∈ m) → l = m
  | [], [], _, _, _ => rfl
  | [], s :: m, _, _, h => by have := (h s).2 (by simp); cases this
  | s :: l, [], _, _, h => by have := (h s).1 (by simp); cases this
  | a :: l, b :: m, hl, hm, h => by
    obtain ⟨l1, l2⟩ := List.pairwise_cons.1 hl
    obtain ⟨m1, m2⟩ := List.pairwise_cons.1 hm
    have e : a = b := by
      rcases List.mem_cons.1 ((h a).1 (by simp)) with e | e
      · exact e
      · rcases List.mem_cons.1 ((h b).2 (by simp)) with e2 | e2
        · exact e2.symm
        · exact absurd (List.lt_trans (m1 a e) (l1 b e2)) (List.lt_irrefl _)
    subst e
    rw [UP_same l2 m2 fun k => ?_]
    have hk := h k
    simp only [List.mem_cons] at hk
    constructor
    · intro hkl
      rcases hk.1 (.inr hkl) with e | e
      · rw [e] at hkl; exact absurd (l1 a hkl) (List.lt_irrefl _)
      · exact e
    · intro hkm
      rcases hk.2 (.inr hkm) with e | e
      · rw [e] at hkm; exact absurd (m1 a hkm) (List.lt_irrefl _)
      · exact e
theorem insK_facts {l : List Str} (h : UP l) (y : Str) : UP (insK l y) ∧ (∀ k, k ∈ insK l y ↔ k ∈ l ∨ k = y) ∧ (insK l y).length ≤ l.length + 1 := by
  unfold insK
  cases hb : bsB l y with
  | true =>
    refine ⟨h, fun k => ⟨.inl, fun hk => ?_⟩, by simp⟩
    rcases hk with hk | hk
    · exact hk
    · rw [hk]; exact (bsB_iff h).1 hb
  | false =>
    have hny : ¬ y ∈ l := fun hy => by rw [(bsB_iff h).2 hy] at hb; cases hb
    obtain ⟨h1, h2⟩ := bsN_spec h y
    have hle := bsN_le l y
    rw [cond_false]
    refine ⟨(pair_getD []).2 fun i j hij hj => ?_, fun k => ?_, by simp; omega⟩
    · rw [len_ins hle] at hj
      have hup := (pair_getD []).1 h
      rw [getD_ins hle, getD_ins hle]
      have hhi : ∀ q, bsN l y ≤ q → q < l.length → y < l.getD q [] := fun q hq1 hq2 => by
        have hne : ¬ l.getD q [] = y := fun e => hny (by rw [← e]; exact getD_mem hq2)
        have h3 : ¬ l.getD (bsN l y) [] < y := h2.resolve_left (by omega)
        refine tri (fun hlt => ?_) hne
        by_cases e : q = bsN l y
        · rw [e] at hlt; exact h3 hlt
        · exact h3 (List.lt_trans (hup _ q (by omega) hq2) hlt)
      by_cases a1 : j < bsN l y
      · rw [if_pos (by omega), if_pos a1]; exact hup i j hij (by omega)
      · rw [if_neg a1]
        by_cases a2 : j = bsN l y
        · rw [if_pos (show i < bsN l y by omega), if_pos a2]; exact h1 i (by omega)
        · rw [if_neg a2]
          by_cases a3 : i < bsN l y
          · rw [if_pos a3]; exact List.lt_trans (h1 i a3) (hhi _ (by omega) (by omega))
          · rw [if_neg a3]
            by_cases a4 : i = bsN l y
            · rw [if_pos a4]; exact hhi _ (by omega) (by omega)
            · rw [if_neg a4]; exact hup _ _ (by omega) (by omega)
    · rw [List.mem_append, List.mem_append, List.mem_singleton]
      have := List.take_append_drop (bsN l y) l
      constructor
      · rintro ((hk | hk) | hk)
        · exact .inl (List.mem_of_mem_take hk)
        · exact .inr hk
        · exact .inl (List.mem_of_mem_drop hk)
      · rintro (hk | hk)
        · rw [← this] at hk
          rcases List.mem_append.1 hk with hk | hk
          · exact .inl (.inl hk)
          · exact .inr hk
        · exact .inl (.inr hk)
/-! ### What Key and Span make of right reads -/
theorem cv_iff {ks : List Str} {sp : List Spn} (h : UP ks) (y : Str) : cvB ks sp y = (decide (y ∈ ks) || spB sp y) := by
  unfold cvB
  have := bsB_iff h (y := y)
  by_cases hy : y ∈ ks
  · rw [this.2 hy, decide_eq_true hy]
  · rw [decide_eq_false hy]
    cases hb : bsB ks y with
    | true => exact absurd (this.1 hb) hy
    | false => rfl
theorem mk_facts {K : List Str} {sp : List Spn} (hK : UP K) (hS : CN sp) (hok : mkOk K sp = true) : rightB (mkK K sp) sp = true ∧ UP (mkK K sp) ∧ ∀ y, cvB (mkK K sp) sp y = (decide (y ∈ K) || spB sp y) := by
  simp only [mkOk, Bool.and_eq_true, Bool.not_eq_true', decide_eq_false_iff_not] at hok
  have hu : UP (mkK K sp) := hK.filter _
  refine ⟨right_iff.2 ⟨by omega, by omega, hS, hu, fun k hk => ?_⟩, hu, fun y => ?_⟩
  · have := (List.mem_filter.1 hk).2
    simpa using this
  · rw [cv_iff hu]
    cases hs : spB sp y with
    | true => simp
    | false =>
      rw [Bool.or_false, Bool.or_false, decide_eq_decide]
      simp [mkK, List.mem_filter, hs]
theorem mdE_cases (K : List Str) (sp : List Spn) : (mkOk K sp = true ∧ mdK K sp = mkK K sp ∧ mdS K sp = sp ∧ mdE K sp = 0) ∨ (mkOk K sp = false ∧ mdE K sp = 9) := by
  cases h : mkOk K sp with
  | true => exact .inl ⟨rfl, by simp [mdK, h], by simp [mdS, h], by simp [mdE, h]⟩
  | false => exact .inr ⟨rfl, by simp [mdE, h]⟩
theorem key_facts {ks : List Str} {sp : List Spn} (hr : rightB ks sp = true) (y : Str) : (kyE ks sp y = 0 ∧ kyK ks sp y = mkK (insK ks y) sp ∧ kyS ks sp y = sp ∧ rightB (kyK ks sp y) (kyS ks sp y) = true ∧ ∀ z, cvB (kyK ks sp y) (kyS ks sp y) z = (cvB ks sp z || decide (z = y))) ∨ (kyE ks sp y = 9 ∧ mkOk (insK ks y) sp = false) := by
  obtain ⟨r1, r2, r3, r4, r5⟩ := right_iff.1 hr
  obtain ⟨i1, i2, i3⟩ := insK_facts r4 y
  simp only [kyE, kyK, kyS, hr, cond_true]
  rcases mdE_cases (insK ks y) sp with ⟨h0, h1, h2, h3⟩ | ⟨h0, h1⟩
  · obtain ⟨m1, m2, m3⟩ := mk_facts i1 r3 h0
    refine .inl ⟨h3, h1, h2, by rw [h1, h2]; exact m1, fun z => ?_⟩
    rw [h1, h2, m3, cv_iff r4]
    have : decide (z ∈ insK ks y) = (decide (z ∈ ks) || decide (z = y)) := by rw [Bool.eq_iff_iff]; simp [i2]
    rw [this]
    cases decide (z ∈ ks) <;> cases decide (z = y) <;> cases spB sp z <;> rfl
  · exact .inr ⟨h1, h0⟩
theorem span_facts {ks : List Str} {sp : List Spn} (hr : rightB ks sp = true) (f t : Str) : (snE ks sp f t = 0 ∧ snK ks sp f t = mkK ks (snS sp f t) ∧ snQ ks sp f t = snS sp f t ∧ rightB (snK ks sp f t) (snQ ks sp f t) = true ∧ ∀ z, cvB (snK ks sp f t) (snQ ks sp f t) z = (cvB ks sp z || withinB f t z)) ∨ (snE ks sp f t = 9 ∧ mkOk ks (snS sp f t) = false) := by
  obtain ⟨r1, r2, r3, r4, r5⟩ := right_iff.1 hr
  obtain ⟨i1, i2, i3⟩ := snS_facts r3 f t
  simp only [snE, snK, snQ, hr, cond_true]
  rcases mdE_cases ks (snS sp f t) with ⟨h0, h1, h2, h3⟩ | ⟨h0, h1⟩
  · obtain ⟨m1, m2, m3⟩ := mk_facts r4 i1 h0
    refine .inl ⟨h3, h1, h2, by rw [h1, h2]; exact m1, fun z => ?_⟩
    rw [h1, h2, m3, cv_iff r4, i2]
    cases decide (z ∈ ks) <;> cases withinB f t z <;> cases spB sp z <;> rfl
  · exact .inr ⟨h1, h0⟩
theorem co_right {ks : List Str} {sp : List Spn} (h : rightB ks sp = true) (y : Str) : coB ks sp y = cvB ks sp y := by simp only [coB, h, Bool.true_and]
theorem chk_right {ks : List Str} {sp : List Spn} (h : rightB ks sp = true) : chkM ks sp = 0 := by simp only [chkM, h, cond_true]
/-! ### Room -/
theorem mk_room {K : List Str} {sp : List Spn} (h1 : K.length ≤ 64) (h2 : sp.length ≤ 64) : mkOk K sp = true := by
  have : (mkK K sp).length ≤ K.length := List.length_filter_le _ _
  simp only [mkOk, decide_eq_false (p := (64 : Int) < ((mkK K sp).length : Int)) (by omega), decide_eq_false (p := (64 : Int) < (sp.length : Int)) (by omega), Bool.not_false, Bool.and_self]
theorem span_room {ks : List Str} {sp : List Spn} (hr : rightB ks sp = true) (h2 : sp.length < 64) (f t : Str) : snE ks sp f t = 0 ∧ rightB (snK ks sp f t) (snQ ks sp f t) = true ∧ snK ks sp f t = mkK ks (snQ ks sp f t) ∧ (∀ z, spB (snQ ks sp f t) z = (spB sp z || withinB f t z)) ∧ (snK ks sp f t).length ≤ ks.length ∧ (snQ ks sp f t).length ≤ sp.length + 1 := by
  obtain ⟨r1, r2, r3, r4, r5⟩ := right_iff.1 hr
  obtain ⟨i1, i2, i3⟩ := snS_facts r3 f t
  rcases span_facts hr f t with ⟨h1, e1, e2, e3, _⟩ | ⟨_, hno⟩
  · rw [e2] at e3 ⊢
    rw [e1] at e3 ⊢
    exact ⟨h1, e3, rfl, i2, List.length_filter_le _ _, i3⟩
  · rw [mk_room r1 (by omega)] at hno; cases hno
theorem key_room {ks : List Str} {sp : List Spn} (hr : rightB ks sp = true) (h1 : ks.length < 64) (y : Str) : kyE ks sp y = 0 ∧ rightB (kyK ks sp y) (kyS ks sp y) = true ∧ kyS ks sp y = sp ∧ (∀ z, z ∈ kyK ks sp y ↔ (z ∈ ks ∨ z = y) ∧ spB sp z = false) ∧ (kyK ks sp y).length ≤ ks.length + 1 := by
  obtain ⟨r1, r2, r3, r4, r5⟩ := right_iff.1 hr
  obtain ⟨i1, i2, i3⟩ := insK_facts r4 y
  rcases key_facts hr y with ⟨h1, e1, e2, e3, _⟩ | ⟨_, hno⟩
  · refine ⟨h1, e3, e2, fun z => ?_, ?_⟩
    · rw [e1]; simp [mkK, List.mem_filter, i2]
    · rw [e1]; exact Nat.le_trans (List.length_filter_le _ _) i3
  · rw [mk_room (by omega) r2] at hno; cases hno
theorem mk_same {ks : List Str} {S T : List Spn} (h : ∀ z, spB S z = true → spB T z = true) : mkK (mkK ks S) T = mkK ks T := by
  unfold mkK
  rw [List.filter_filter]
  congr 1
  funext y
  have := h y
  revert this
  cases spB S y <;> cases spB T y <;> simp
/-- Two spans in either order; and again. -/
theorem spans_order {ks : List Str} {sp : List Spn} (hr : rightB ks sp = true) (h2 : sp.length ≤ 40) (a b c d : Str) :
    snE ks sp a b = 0 ∧ snE (snK ks sp a b) (snQ ks sp a b) c d = 0 ∧ snE ks sp c d = 0 ∧ snE (snK ks sp c d) (snQ ks sp c d) a b = 0 ∧ snE (snK (snK ks sp a b) (snQ ks sp a b) c d) (snQ (snK ks sp a b) (snQ ks sp a b) c d) a b = 0 ∧
    (snK (snK ks sp a b) (snQ ks sp a b) c d = snK (snK ks sp c d) (snQ ks sp c d) a b ∧ snQ (snK ks sp a b) (snQ ks sp a b) c d = snQ (snK ks sp c d) (snQ ks sp c d) a b) ∧
    (snK (snK ks sp a b) (snQ ks sp a b) c d = snK (snK (snK ks sp a b) (snQ ks sp a b) c d) (snQ (snK ks sp a b) (snQ ks sp a b) c d) a b ∧ snQ (snK ks sp a b) (snQ ks sp a b) c d = snQ (snK (snK ks sp a b) (snQ ks sp a b) c d) (snQ (snK ks sp a b) (snQ ks sp a b) c d) a b) := by
  obtain ⟨x0, x1, x2, x3, x4, x5⟩ := span_room hr (by omega) a b
  obtain ⟨y0, y1, y2, y3, y4, y5⟩ := span_room x1 (by omega) c d
  obtain ⟨u0, u1, u2, u3, u4, u5⟩ := span_room hr (by omega) c d
  obtain ⟨v0, v1, v2, v3, v4, v5⟩ := span_room u1 (by omega) a b
  obtain ⟨w0, w1, w2, w3, w4, w5⟩ := span_room y1 (by omega) a b
  generalize snK ks sp a b = K1 at *
  generalize snQ ks sp a b = S1 at *
  generalize snK ks sp c d = K2 at *
  generalize snQ ks sp c d = S2 at *
  generalize snK K1 S1 c d = K3 at *
  generalize snQ K1 S1 c d = S3 at *
  generalize snK K2 S2 a b = K4 at *
  generalize snQ K2 S2 a b = S4 at *
  generalize snK K3 S3 a b = K5 at *
  generalize snQ K3 S3 a b = S5 at *
  have e1 : S3 = S4 := CN_same (right_iff.1 y1).2.2.1 (right_iff.1 v1).2.2.1 fun z => by
    rw [y3, x3, v3, u3]
    cases spB sp z <;> cases withinB a b z <;> cases withinB c d z <;> rfl
  have e2 : S3 = S5 := CN_same (right_iff.1 y1).2.2.1 (right_iff.1 w1).2.2.1 fun z => by
    rw [w3, y3, x3]
    cases spB sp z <;> cases withinB a b z <;> cases withinB c d z <;> rfl
  refine ⟨x0, y0, u0, v0, w0, ⟨?_, e1⟩, ⟨?_, e2⟩⟩
  · rw [y2, x2, v2, u2, mk_same (fun z hz => by rw [y3, hz, Bool.true_or]), mk_same (fun z hz => by rw [v3, hz, Bool.true_or]), e1]
  · rw [w2, y2, x2, ← e2, mk_same (fun z hz => by rw [y3, hz, Bool.true_or]), mk_same (fun z hz => hz)]
/-- Two keys in either order; and again. -/
theorem keys_order {ks : List Str} {sp : List Spn} (hr : rightB ks sp = true) (h1 : ks.length ≤ 40) (a c : Str) :
    kyE ks sp a = 0 ∧ kyE (kyK ks sp a) (kyS ks sp a) c = 0 ∧ kyE ks sp c = 0 ∧ kyE (kyK ks sp c) (kyS ks sp c) a = 0 ∧ kyE (kyK (kyK ks sp a) (kyS ks sp a) c) (kyS (kyK ks sp a) (kyS ks sp a) c) a = 0 ∧
    (kyK (kyK ks sp a) (kyS ks sp a) c = kyK (kyK ks sp c) (kyS ks sp c) a ∧ kyS (kyK ks sp a) (kyS ks sp a) c = kyS (kyK ks sp c) (kyS ks sp c) a) ∧
    (kyK (kyK ks sp a) (kyS ks sp a) c = kyK (kyK (kyK ks sp a) (kyS ks sp a) c) (kyS (kyK ks sp a) (kyS ks sp a) c) a ∧ kyS (kyK ks sp a) (kyS ks sp a) c = kyS (kyK (kyK ks sp a) (kyS ks sp a) c) (kyS (kyK ks sp a) (kyS ks sp a) c) a) := by
  obtain ⟨x0, x1, x2, x3, x5⟩ := key_room hr (by omega) a
  obtain ⟨y0, y1, y2, y3, y5⟩ := key_room x1 (by omega) c
  obtain ⟨u0, u1, u2, u3, u5⟩ := key_room hr (by omega) c
  obtain ⟨v0, v1, v2, v3, v5⟩ := key_room u1 (by omega) a
  obtain ⟨w0, w1, w2, w3, w5⟩ := key_room y1 (by omega) a
  generalize kyK ks sp a = K1 at *
  generalize kyS ks sp a = S1 at *
  subst S1
  generalize kyK ks sp c = K2 at *
  generalize kyS ks sp c = S2 at *
  subst S2
  generalize kyK K1 sp c = K3 at *
  generalize kyS K1 sp c = S3 at *
  subst S3
  generalize kyK K2 sp a = K4 at *
  generalize kyS K2 sp a = S4 at *
  subst S4
  generalize kyK K3 sp a = K5 at *
  generalize kyS K3 sp a = S5 at *
  subst S5
  have p : ∀ {K : List Str}, rightB K sp = true → UP K := fun h => (right_iff.1 h).2.2.2.1
  refine ⟨x0, y0, u0, v0, w0, ⟨UP_same (p y1) (p v1) fun z => ?_, rfl⟩, ⟨UP_same (p y1) (p w1) fun z => ?_, rfl⟩⟩
  · rw [y3, x3, v3, u3]
    by_cases hz : spB sp z = false <;> simp only [hz, and_true, and_false, true_and] <;> constructor <;> (intro h; rcases h with (h | h) | h <;> simp_all)
  · rw [w3, y3, x3]
    by_cases hz : spB sp z = false <;> simp only [hz, and_true, and_false, true_and] <;> constructor <;> (intro h; simp_all) <;> (try (rcases h with (h | h) | h <;> simp_all))
theorem within_1 {f t k : Str} (h : decide (k < f) = true) : withinB f t k = false := by simp only [withinB, h, Bool.not_true, Bool.false_and]
theorem within_2 {f t k : Str} (h : decide (k < f) = false) (h2 : decide (t = []) = true) : withinB f t k = true := by simp only [withinB, h, h2, Bool.not_false, Bool.true_or, Bool.and_self]
theorem within_3 {f t k : Str} (h : decide (k < f) = false) (h2 : decide (t = []) = false) : withinB f t k = decide (k < t) := by simp only [withinB, h, h2, Bool.not_false, Bool.false_or, Bool.true_and]
end Go.Vk
