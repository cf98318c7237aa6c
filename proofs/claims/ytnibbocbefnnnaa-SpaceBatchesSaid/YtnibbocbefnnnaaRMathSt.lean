import Derived.Test.YtnibbocbefnnnaaRMathSs
set_option linter.unusedVariables false
set_option linter.unusedSimpArgs false
set_option linter.unnecessarySimpa false
namespace Go.Vk
abbrev Pr := Str × Str
def keysP (s : List Pr) : List Str := s.map (·.1)
def putP : List Pr → Str → Str → List Pr
  | [], k, v => [(k, v)]
  | p :: s, k, v => if p.1 < k then p :: putP s k v else if p.1 = k then (k, v) :: s else (k, v) :: p :: s
def delP (s : List Pr) (k : Str) : List Pr := s.filter fun p => !decide (p.1 = k)
theorem keysP_cons (p : Pr) (s : List Pr) : keysP (p :: s) = p.1 :: keysP s := rfl
theorem upP_cons {p : Pr} {s : List Pr} (h : UP (keysP (p :: s))) : UP (keysP s) ∧ ∀ k, k ∈ keysP s → p.1 < k := by
  rw [keysP_cons, UP, List.pairwise_cons] at h
  exact ⟨h.2, h.1⟩
theorem mem_keysP {x : Pr} {s : List Pr} (h : x ∈ s) : x.1 ∈ keysP s := List.mem_map.2 ⟨x, h, rfl⟩
theorem mem_putP {k v : Str} {x : Pr} : ∀ {s : List Pr}, UP (keysP s) → (x ∈ putP s k v ↔ x = (k, v) ∨ (x ∈ s ∧ ¬ x.1 = k))
  | [], _ => by simp [putP]
  | p :: s, h => by
    obtain ⟨h1, h2⟩ := upP_cons h
    have gt : ∀ z, z ∈ s → p.1 < z.1 := fun z hz => h2 z.1 (mem_keysP hz)
    rw [putP]
    by_cases c1 : p.1 < k
    · rw [if_pos c1, List.mem_cons, mem_putP h1, List.mem_cons]
      have hp : ¬ p.1 = k := fun e => by rw [e] at c1; exact List.lt_irrefl _ c1
      constructor
      · rintro (e | e | ⟨e, e2⟩)
        · exact .inr ⟨.inl e, by rw [e]; exact hp⟩
        · exact .inl e
        · exact .inr ⟨.inr e, e2⟩
      · rintro (e | ⟨e | e, e2⟩)
        · exact .inr (.inl e)
        · exact .inl e
        · exact .inr (.inr ⟨e, e2⟩)
    · rw [if_neg c1]
      by_cases c2 : p.1 = k
      · rw [if_pos c2, List.mem_cons, List.mem_cons]
        constructor
        · rintro (e | e)
          · exact .inl e
          · exact .inr ⟨.inr e, fun e2 => by have := gt x e; rw [e2, c2] at this; exact List.lt_irrefl _ this⟩
        · rintro (e | ⟨e | e, e2⟩)
          · exact .inl e
          · exact absurd (by rw [e]; exact c2) e2
          · exact .inr e
      · rw [if_neg c2, List.mem_cons, List.mem_cons]
        have c3 : k < p.1 := str_tri c1 c2
        constructor
        · rintro (e | e | e)
          · exact .inl e
          · exact .inr ⟨.inl e, by rw [e]; exact c2⟩
          · exact .inr ⟨.inr e, fun e2 => by have := List.lt_trans c3 (gt x e); rw [e2] at this; exact List.lt_irrefl _ this⟩
        · rintro (e | ⟨e | e, _⟩)
          · exact .inl e
          · exact .inr (.inl e)
          · exact .inr (.inr e)
theorem keys_putP {k v y : Str} : ∀ {s : List Pr}, y ∈ keysP (putP s k v) → y ∈ keysP s ∨ y = k
  | [], h => by simp [putP, keysP] at h; exact .inr h
  | p :: s, h => by
    rw [putP] at h
    split at h
    · rw [keysP_cons, List.mem_cons] at h
      rw [keysP_cons, List.mem_cons]
      rcases h with h | h
      · exact .inl (.inl h)
      · exact (keys_putP h).imp .inr id
    · split at h
      · rw [keysP_cons, List.mem_cons] at h
        rw [keysP_cons, List.mem_cons]
        exact h.elim .inr (fun h => .inl (.inr h))
      · rw [keysP_cons, List.mem_cons] at h
        exact h.elim .inr .inl
theorem up_putP {k v : Str} : ∀ {s : List Pr}, UP (keysP s) → UP (keysP (putP s k v))
  | [], _ => by simp [putP, keysP, UP]
  | p :: s, h => by
    obtain ⟨h1, h2⟩ := upP_cons h
    rw [putP]
    split
    · rename_i hp
      refine List.pairwise_cons.2 ⟨fun y hy => ?_, up_putP h1⟩
      rcases keys_putP hy with hy | hy
      · exact h2 y hy
      · rw [hy]; exact hp
    · split
      · rename_i hp
        refine List.pairwise_cons.2 ⟨fun y hy => ?_, h1⟩
        have := h2 y hy; rw [hp] at this; exact this
      · rename_i h3 h4
        have hlt := str_tri h3 h4
        refine List.pairwise_cons.2 ⟨fun y hy => ?_, h⟩
        rcases List.mem_cons.1 hy with hy | hy
        · rw [hy]; exact hlt
        · exact List.lt_trans hlt (h2 y hy)
theorem mem_delP {s : List Pr} {k : Str} {x : Pr} : x ∈ delP s k ↔ x ∈ s ∧ ¬ x.1 = k := by
  unfold delP; rw [List.mem_filter]; simp
theorem up_delP {s : List Pr} {k : Str} (h : UP (keysP s)) : UP (keysP (delP s k)) := by
  unfold keysP delP
  exact h.sublist (List.filter_sublist.map _)
theorem len_putP (s : List Pr) (k v : Str) : (putP s k v).length ≤ s.length + 1 := by
  induction s with
  | nil => simp [putP]
  | cons p s ih =>
    rw [putP]
    split
    · simp; omega
    · split <;> simp
theorem len_delP (s : List Pr) (k : Str) : (delP s k).length ≤ s.length := List.length_filter_le _ _
def ptV : List Pr → Str → Str
  | [], _ => []
  | p :: s, y => if p.1 = y then p.2 else ptV s y
def ptE (s : List Pr) (y : Str) : Int := bif decide (y ∈ keysP s) then 0 else 7
theorem ptV_at : ∀ {s : List Pr} {y : Str} {k : Nat}, k < s.length → (∀ i, i < k → ¬ (s.getD i ([], [])).1 = y) → (s.getD k ([], [])).1 = y → ptV s y = (s.getD k ([], [])).2
  | [], y, k, hk, _, _ => by simp at hk
  | p :: s, y, 0, _, _, h1 => by rw [List.getD_cons_zero] at h1 ⊢; rw [ptV, if_pos h1]
  | p :: s, y, k + 1, hk, h, h1 => by
    have h0 := h 0 (by omega)
    rw [List.getD_cons_zero] at h0
    rw [ptV, if_neg h0, List.getD_cons_succ]
    exact ptV_at (by simpa using hk) (fun i hi => by have := h (i + 1) (by omega); rwa [List.getD_cons_succ] at this) (by rwa [List.getD_cons_succ] at h1)
theorem ptE_at {s : List Pr} {y : Str} {k : Nat} (hk : k < s.length) (h1 : (s.getD k ([], [])).1 = y) : ptE s y = 0 := by
  unfold ptE; rw [decide_eq_true (by rw [← h1]; exact mem_keysP (getD_mem hk))]; rfl
theorem pt_no {s : List Pr} {y : Str} (h : ∀ i, i < s.length → ¬ (s.getD i ([], [])).1 = y) : ptV s y = [] ∧ ptE s y = 7 := by
  have hn : y ∉ keysP s := fun hm => by
    obtain ⟨p, hp, e⟩ := List.mem_map.1 hm
    obtain ⟨i, hi, rfl⟩ := mem_getD ([], []) hp
    exact h i hi e
  refine ⟨?_, by unfold ptE; rw [decide_eq_false hn]; rfl⟩
  have : ∀ s : List Pr, y ∉ keysP s → ptV s y = [] := by
    intro s
    induction s with
    | nil => intro _; rfl
    | cons p s ih =>
      intro hn
      rw [keysP_cons, List.mem_cons, not_or] at hn
      rw [ptV, if_neg (fun e => hn.1 e.symm), ih hn.2]
  exact this s hn
theorem delP_no {s : List Pr} {y : Str} (h : ¬ ptE s y = 0) : delP s y = s := by
  have hn : y ∉ keysP s := fun hm => h (by unfold ptE; rw [decide_eq_true hm]; rfl)
  unfold delP
  rw [List.filter_eq_self]
  intro p hp
  simp only [Bool.not_eq_true', decide_eq_false_iff_not]
  rintro rfl
  exact hn (mem_keysP hp)
theorem ptE_7 {s : List Pr} {y : Str} (h : ¬ ptE s y = 0) : ptE s y = 7 := by
  unfold ptE at h ⊢
  cases hb : decide (y ∈ keysP s) with
  | true => rw [hb] at h; exact absurd rfl h
  | false => rfl
theorem delP_step {s : List Pr} {y : Str} {k : Nat} (hk : k < s.length) : delP (s.take (k + 1)) y = delP (s.take k) y ++ (if (s.getD k ([], [])).1 = y then [] else [s.getD k ([], [])]) := by
  unfold delP
  rw [take_snoc (d := ([], [])) hk, List.filter_append]
  congr 1
  by_cases h : (s.getD k ([], [])).1 = y
  · rw [if_pos h, List.filter_eq_nil_iff]
    intro p hp
    rw [List.mem_singleton.1 hp, decide_eq_true h]; exact Bool.false_ne_true
  · rw [if_neg h, List.filter_eq_self]
    intro p hp
    rw [List.mem_singleton.1 hp, decide_eq_false h]; rfl
theorem del_y {s o : List Pr} {y : Str} {k : Nat} (hk : k < s.length) (ho : o = delP (s.take k) y) (h : (s.getD k ([], [])).1 = y) : o = delP (s.take (k + 1)) y := by rw [delP_step hk, if_pos h, List.append_nil, ho]
theorem del_n {s o : List Pr} {y : Str} {k : Nat} (hk : k < s.length) (ho : o = delP (s.take k) y) (h : ¬ (s.getD k ([], [])).1 = y) : o ++ [((s.getD k ([], [])).1, (s.getD k ([], [])).2)] = delP (s.take (k + 1)) y := by rw [delP_step hk, if_neg h, ho]
def putE (y v : Str) : Bool := decide ((128 : Int) < (y.length : Int)) || decide ((200 : Int) < (v.length : Int))
def putB (s : List Pr) (y v : Str) : List Pr := bif putE y v then s else putP s y v
theorem put_e {y v : Str} (h : (128 : Int) < (y.length : Int) ∨ (200 : Int) < (v.length : Int)) : putE y v = true := by
  unfold putE
  rcases h with h | h
  · rw [decide_eq_true h]; rfl
  · rw [decide_eq_true h, Bool.or_true]
theorem put_ok {y v : Str} (h1 : ¬ (128 : Int) < (y.length : Int)) (h2 : ¬ (200 : Int) < (v.length : Int)) : putE y v = false := by
  unfold putE; rw [decide_eq_false h1, decide_eq_false h2]; rfl
theorem putP_app {k v : Str} {Q : List Pr} : ∀ {P : List Pr}, (∃ y, y ∈ keysP P ∧ ¬ y < k) → putP (P ++ Q) k v = putP P k v ++ Q
  | [], h => by obtain ⟨y, hy, _⟩ := h; simp [keysP] at hy
  | p :: P, h => by
    show putP (p :: (P ++ Q)) k v = putP (p :: P) k v ++ Q
    rw [putP, putP]
    by_cases h1 : p.1 < k
    · rw [if_pos h1, if_pos h1, putP_app (P := P) (Q := Q)]
      · rfl
      · obtain ⟨y, hy, hn⟩ := h
        rw [keysP_cons] at hy
        rcases List.mem_cons.1 hy with e | e
        · rw [e] at hn; exact absurd h1 hn
        · exact ⟨y, e, hn⟩
    · rw [if_neg h1, if_neg h1]
      by_cases h2 : p.1 = k
      · rw [if_pos h2, if_pos h2]; rfl
      · rw [if_neg h2, if_neg h2]; rfl
theorem putP_app0 {k v : Str} {Q : List Pr} : ∀ {P : List Pr}, (∀ y, y ∈ keysP P → y < k) → putP (P ++ Q) k v = P ++ putP Q k v
  | [], _ => rfl
  | p :: P, h => by
    show putP (p :: (P ++ Q)) k v = _
    rw [putP, if_pos (h p.1 (by simp [keysP])), putP_app0 (fun y hy => h y (by rw [keysP_cons]; exact List.mem_cons_of_mem _ hy))]
    rfl
theorem keysP_app (P Q : List Pr) : keysP (P ++ Q) = keysP P ++ keysP Q := List.map_append
theorem keysP_getD (s : List Pr) (i : Nat) : (keysP s).getD i [] = (s.getD i ([], [])).1 := by
  unfold keysP
  simp only [List.getD_eq_getElem?_getD, List.getElem?_map]
  cases s[i]? <;> rfl
theorem upP_last {s : List Pr} {i : Nat} (h : UP (keysP s)) (hi : i < s.length) : ∀ y, y ∈ keysP (s.take i) → y < (s.getD i ([], [])).1 := by
  intro y hy
  have ek : keysP (s.take i) = (keysP s).take i := by unfold keysP; rw [List.map_take]
  have el : (keysP s).length = s.length := List.length_map _
  rw [ek] at hy
  obtain ⟨j, hj, rfl⟩ := mem_getD [] hy
  simp only [List.length_take, el] at hj
  have e1 : ((keysP s).take i).getD j [] = (keysP s).getD j [] := by simp only [List.getD_eq_getElem?_getD, List.getElem?_take, if_pos (show j < i by omega)]
  rw [e1, ← keysP_getD]
  exact (pair_getD []).1 h j i (by omega) (by rw [el]; exact hi)
def WP (P : List Pr) (k v : Str) (d : Bool) (o : List Pr) : Prop :=
  (d = false ∧ (∀ y, y ∈ keysP P → y < k) ∧ o = P) ∨ (d = true ∧ (∃ y, y ∈ keysP P ∧ ¬ y < k) ∧ o = putP P k v)
theorem wp_0 (k v : Str) : WP [] k v false [] := .inl ⟨rfl, fun y hy => by simp [keysP] at hy, rfl⟩
theorem wp_new {s : List Pr} {i : Nat} {k v : Str} {d : Bool} {o o2 : List Pr} (h : UP (keysP s)) (hi : i < s.length) (hw : WP (s.take i) k v d o) (hd : d = false) (hb : ¬ (s.getD i ([], [])).1 < k) (ho : o2 = o ++ [(k, v)] ++ (if (s.getD i ([], [])).1 = k then [] else [s.getD i ([], [])])) : WP (s.take (i + 1)) k v true o2 := by
  rcases hw with ⟨_, h3, h4⟩ | ⟨h2, _⟩
  · right
    refine ⟨rfl, ⟨(s.getD i ([], [])).1, ?_, hb⟩, ?_⟩
    · rw [take_snoc (d := ([], [])) hi, keysP_app]; exact List.mem_append_right _ (by simp [keysP])
    · rw [take_snoc (d := ([], [])) hi, putP_app0 h3, ho, h4, List.append_assoc]
      congr 1
      rw [putP, if_neg hb]
      by_cases e : (s.getD i ([], [])).1 = k
      · rw [if_pos e, if_pos e]; rfl
      · rw [if_neg e, if_neg e]; rfl
  · rw [hd] at h2; cases h2
theorem wp_old {s : List Pr} {i : Nat} {k v : Str} {d : Bool} {o o2 : List Pr} (h : UP (keysP s)) (hi : i < s.length) (hw : WP (s.take i) k v d o) (hb : d = true ∨ (s.getD i ([], [])).1 < k) (ho : o2 = o ++ (if (s.getD i ([], [])).1 = k then [] else [s.getD i ([], [])])) : WP (s.take (i + 1)) k v d o2 := by
  rw [take_snoc (d := ([], [])) hi]
  rcases hw with ⟨h2, h3, h4⟩ | ⟨h2, h3, h4⟩
  · left
    have hb' := hb.resolve_left (fun e => by rw [h2] at e; cases e)
    refine ⟨h2, fun y hy => ?_, ?_⟩
    · rw [keysP_app] at hy
      rcases List.mem_append.1 hy with e | e
      · exact h3 y e
      · simp [keysP] at e; rw [e]; simpa using hb'
    · rw [ho, h4, if_neg (fun e => by rw [e] at hb'; exact List.lt_irrefl _ hb')]
  · right
    obtain ⟨y, hy, hn⟩ := h3
    have hlt := upP_last h hi y hy
    exact ⟨h2, ⟨y, by rw [keysP_app]; exact List.mem_append_left _ hy, hn⟩, by rw [putP_app ⟨y, hy, hn⟩, ho, h4, if_neg (fun e => hn (by rw [← e]; exact hlt))]⟩
theorem wp_end {s : List Pr} {k v : Str} {d : Bool} {o : List Pr} (hw : WP s k v d o) (hd : d = true) : o = putP s k v := by
  rcases hw with ⟨h2, _⟩ | ⟨_, _, h4⟩
  · rw [hd] at h2; cases h2
  · exact h4
theorem putP_last {k v : Str} : ∀ {s : List Pr}, (∀ y, y ∈ keysP s → y < k) → putP s k v = s ++ [(k, v)] := fun {s} h => by
  have := putP_app0 (v := v) (Q := []) h
  rw [List.append_nil] at this; exact this
theorem wp_end2 {s : List Pr} {k v : Str} {d : Bool} {o : List Pr} (hw : WP s k v d o) (hd : d = false) : o ++ [(k, v)] = putP s k v := by
  rcases hw with ⟨_, h3, h4⟩ | ⟨h2, _⟩
  · rw [h4, putP_last h3]
  · rw [hd] at h2; cases h2
def cd1 (s : List Pr) (c : Chg) : List Pr := bif c.2.2 then delP s c.1 else putB s c.1 c.2.1
def cdK (s : List Pr) (b : List Chg) (k : Nat) : List Pr := (b.take k).foldl cd1 s
theorem cd_step {s : List Pr} {b : List Chg} {k : Nat} (hk : k < b.length) : cdK s b (k + 1) = cd1 (cdK s b k) (b.getD k ([], [], false)) := by
  unfold cdK
  rw [take_snoc (d := ([], [], false)) hk, List.foldl_append]; rfl
theorem cd_t {s : List Pr} {b : List Chg} {k : Nat} (hk : k < b.length) (h : (b.getD k ([], [], false)).2.2 = true) : delP (cdK s b k) (b.getD k ([], [], false)).1 = cdK s b (k + 1) := by rw [cd_step hk]; unfold cd1; rw [h]; rfl
theorem cd_f {s : List Pr} {b : List Chg} {k : Nat} (hk : k < b.length) (h : (b.getD k ([], [], false)).2.2 = false) : putB (cdK s b k) (b.getD k ([], [], false)).1 (b.getD k ([], [], false)).2.1 = cdK s b (k + 1) := by rw [cd_step hk]; unfold cd1; rw [h]; rfl
theorem up_cdK {s : List Pr} {b : List Chg} (h : UP (keysP s)) : ∀ k, k ≤ b.length → UP (keysP (cdK s b k))
  | 0, _ => h
  | k + 1, hk => by
    have ih := up_cdK (b := b) h k (by omega)
    rw [cd_step (by omega)]
    unfold cd1 putB
    cases (b.getD k ([], [], false)).2.2 with
    | true => exact up_delP ih
    | false =>
      cases putE (b.getD k ([], [], false)).1 (b.getD k ([], [], false)).2.1 with
      | true => exact ih
      | false => exact up_putP ih
theorem len_cdK (s : List Pr) (b : List Chg) : ∀ k, k ≤ b.length → (cdK s b k).length ≤ s.length + k
  | 0, _ => Nat.le_refl _
  | k + 1, hk => by
    have ih := len_cdK s b k (by omega)
    rw [cd_step (by omega)]
    unfold cd1 putB
    cases (b.getD k ([], [], false)).2.2 with
    | true => have := len_delP (cdK s b k) (b.getD k ([], [], false)).1; rw [cond_true]; omega
    | false =>
      cases putE (b.getD k ([], [], false)).1 (b.getD k ([], [], false)).2.1 with
      | true => rw [cond_false, cond_true]; omega
      | false => have := len_putP (cdK s b k) (b.getD k ([], [], false)).1 (b.getD k ([], [], false)).2.1; rw [cond_false, cond_false]; omega
end Go.Vk
