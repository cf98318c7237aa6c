import Derived.Test.YtnibbocbefnnnaaVk10
import Derived.Deep.SlicePairs
import Derived.Test.YtnibbocbefnnnaaVk21
import Derived.Deep.Slices
set_option linter.unusedVariables false
set_option linter.unusedSimpArgs false
namespace Go.Vk
open Go.ChangeShapes Go.WideShapes
/-- Cells that a law was handed read as a kind's element; and what is known of it. -/
structure Opens (P : Program) (t : TypeId) {α : Type} (K : Kd α) (Φ : α → Prop) : Prop where
  go : ∀ {H : Type} {enc : TypeId × Value → H} {w : World} {base : Nat} {held : Bool} {fuel : Nat} (cs : List Value) (x : DataW H × List MemPlace), DataW.trod enc P w base (fun _ => true) held fuel t cs = some x → (∀ n ∈ x.1.weights P t, n ≤ reachBytes) →
    ∃ y, K.rep (ofW w) y cs ∧ Φ y
section
variable {P : Program}
theorem opens_int {t : TypeId} {k : IntKind} (ht : P.underlying t = some (.int k)) : Opens P t (intK k) (fun _ => True) := by
  constructor
  intro H enc w base held fuel cs x h hw
  obtain ⟨n, rfl, rfl, hwf⟩ := DataW.trod_int ht h
  exact ⟨n, ⟨rfl, wf_range hwf⟩, trivial⟩
theorem opens_bool {t : TypeId} (ht : P.underlying t = some .bool) : Opens P t boolK (fun _ => True) := by
  constructor
  intro H enc w base held fuel cs x h hw
  obtain ⟨b, rfl, rfl⟩ := DataW.trod_bool ht h
  exact ⟨b, rfl, trivial⟩
theorem mem_weightsAll {H : Type} {e : TypeId} {ds : List (DataW H)} {d : DataW H} (h : d ∈ ds) (n : Nat) (hn : n ∈ d.weights P e) : n ∈ DataW.weightsAll P e ds := weightsAll_mem h n hn
theorem opens_sl {α : Type} {K : Kd α} {Φ : α → Prop} {t e : TypeId} (ho : Opens P e K Φ) (ht : P.underlying t = some (.slice e)) (hc : P.cellsOf e = K.sz) (hb : 0 < P.bytesOf e) : Opens P t (slK K) (fun xs => xs.length * P.bytesOf e ≤ reachBytes ∧ ∀ x, x ∈ xs → Φ x) := by
  constructor
  intro H enc w base held fuel cs x h hw
  rcases Deep.open_slice ht h with ⟨rfl, rfl⟩ | ⟨a, len, cap, m, n, D, Pl, rfl, hba, hl, hm, hmm, rfl, hx⟩
  · exact ⟨[], ⟨none, 0, rfl, Rd.nil _ _⟩, by simp, fun x hx => by cases hx⟩
  · simp only [if_true] at hmm
    subst hmm
    have hwx : ∀ n, n ∈ (DataW.slice ((List.range len).map D) ((List.range (m - len)).map fun j => D (len + j))).weights P t → n ≤ reachBytes := hw
    have h2 := hwx (m * P.bytesOf e) (by simp only [DataW.weights, ht, List.length_map, List.length_range, show len + (m - len) = m by omega]; exact List.mem_cons_self)
    have each : ∀ i, ∃ y, i < len → (∃ cs, K.rep (ofW w) y cs ∧ ∀ j v, cs[j]? = some v → w.cell? (a.add (i * K.sz + j)) = some v) ∧ Φ y := by
      intro i
      by_cases hi : i < len
      · obtain ⟨cs', h3, h4⟩ := hx i (by omega)
        rw [hc] at h3
        obtain ⟨_, hlen, hcell⟩ := World.cells?_some h3
        obtain ⟨y, hy, hΦ⟩ := ho.go cs' _ h4 (fun n hn => hwx n (by
          simp only [DataW.weights, ht]
          exact List.mem_cons_of_mem _ (List.mem_append_left _ (mem_weightsAll (List.mem_map.2 ⟨i, List.mem_range.2 hi, rfl⟩) n hn))))
        refine ⟨y, fun _ => ⟨⟨cs', hy, fun j v hj => ?_⟩, hΦ⟩⟩
        have hjl : j < K.sz := by rw [← hlen]; exact (List.getElem?_eq_some_iff.1 hj).1
        have := hcell j hjl
        rw [Deep.add_add] at this
        rw [this]; exact hj
      · exact ⟨K.d, fun h => absurd h hi⟩
    obtain ⟨f, hf⟩ := Classical.axiomOfChoice each
    have hlf : ((List.range len).map f).length = len := by simp
    refine ⟨(List.range len).map f, ⟨some a, m, by rw [hlf], ?_, by rw [hlf]; omega, ?_⟩, ?_, ?_⟩
    · rw [hlf]
      have h3 : m ≤ m * P.bytesOf e := Nat.le_mul_of_pos_right _ hb
      have := reach_maxL
      omega
    · intro hne
      have hlt : 0 < len := by
        rcases Nat.eq_zero_or_pos len with h0 | h0
        · subst h0; simp at hne
        · exact h0
      have ha : a = ⟨a.block, a.off, none⟩ := by
        obtain ⟨⟨cs0, hr0, hc0⟩, _⟩ := hf 0 hlt
        have hl0 := K.len hr0
        have hp := K.pos
        have hj : cs0[0]? = some (cs0[0]'(by omega)) := by simp
        have := cell_spot (hc0 0 _ hj)
        have e0 : a.add (0 * K.sz + 0) = a := by simp [Addr.add]
        rw [e0] at this; exact this
      refine ⟨a.block, a.off, by rw [← ha], fun j hj => ?_⟩
      rw [hlf] at hj
      have hg : ((List.range len).map f).getD j K.d = f j := by simp [List.getD_eq_getElem?_getD, hj]
      rw [hg]
      obtain ⟨⟨cs', hr, hcell⟩, _⟩ := hf j hj
      refine ⟨cs', hr, fun i v hi => ?_⟩
      have := hcell i v hi
      rw [ha, addr_add] at this
      show w.cell? ⟨a.block, a.off + j * K.sz + i, none⟩ = some v
      rw [Nat.add_assoc]; exact this
    · rw [hlf]
      have : len * P.bytesOf e ≤ m * P.bytesOf e := Nat.mul_le_mul_right _ hl
      omega
    · intro x hx
      obtain ⟨i, hi, rfl⟩ := List.mem_map.1 hx
      exact (hf i (List.mem_range.1 hi)).2
/-- The fields from one on. -/
structure OpensF (P : Program) (fs : List Field) (off : Nat) {α : Type} (K : Kd α) (Φ : α → Prop) : Prop where
  go : ∀ {H : Type} {enc : TypeId × Value → H} {w : World} {base : Nat} {held : Bool} {n : Nat} (cs : List Value) (xs : List (DataW H × List MemPlace)), cs.length = off + K.sz → xs.length = fs.length →
    (∀ (i : Nat) (f : Field), fs[i]? = some f → DataW.trod enc P w base (fun _ => true) held n f.type ((cs.drop f.offset).take (P.cellsOf f.type)) = xs[i]?) → (∀ n ∈ DataW.weightsEach P (fs.map (·.type)) (xs.map (·.1)), n ≤ reachBytes) →
    ∃ y, K.rep (ofW w) y (cs.drop off) ∧ Φ y
theorem opensF_one {α : Type} {K : Kd α} {Φ : α → Prop} {f : Field} {off : Nat} (ho : Opens P f.type K Φ) (h1 : f.offset = off) (h2 : P.cellsOf f.type = K.sz) : OpensF P [f] off K Φ := by
  constructor
  intro H enc w base held n cs xs hl hx hf hw
  obtain ⟨x, rfl⟩ : ∃ x, xs = [x] := by
    match xs, hx with
    | [x], _ => exact ⟨x, rfl⟩
  have := hf 0 f rfl
  rw [h1, h2, List.take_of_length_le (by simp; omega)] at this
  exact ho.go _ x this (fun n hn => hw n (by simpa [DataW.weightsEach] using hn))
theorem opensF_cons {α β : Type} {K : Kd α} {M : Kd β} {Φ : α → Prop} {Ψ : β → Prop} {f : Field} {fs : List Field} {off : Nat} (ho : Opens P f.type K Φ) (h1 : f.offset = off) (h2 : P.cellsOf f.type = K.sz) (hs : OpensF P fs (off + K.sz) M Ψ) : OpensF P (f :: fs) off (prK K M) (fun y => Φ y.1 ∧ Ψ y.2) := by
  constructor
  intro H enc w base held n cs xs hl hx hf hw
  obtain ⟨x, xs, rfl⟩ : ∃ x xs', xs = x :: xs' := by
    match xs, hx with
    | x :: xs, _ => exact ⟨x, xs, rfl⟩
  have h0 := hf 0 f rfl
  rw [h1, h2] at h0
  have hsz : (prK K M).sz = K.sz + M.sz := rfl
  obtain ⟨y0, r0, p0⟩ := ho.go _ x h0 (fun n hn => hw n (by simp only [List.map_cons, DataW.weightsEach]; exact List.mem_append_left _ hn))
  obtain ⟨y1, r1, p1⟩ := hs.go cs xs (by rw [hl, hsz]; omega) (by simpa using hx) (fun i f hi => by simpa using hf (i + 1) f (by simpa using hi)) (fun n hn => hw n (by simp only [List.map_cons, DataW.weightsEach]; exact List.mem_append_right _ hn))
  refine ⟨(y0, y1), ⟨_, _, ?_, r0, r1⟩, p0, p1⟩
  rw [← List.drop_drop, List.take_append_drop]
theorem opens_struct {α : Type} {K : Kd α} {Φ : α → Prop} {t : TypeId} {fs : Array Field} (ht : P.underlying t = some (.struct fs)) (hc : P.cellsOf t = K.sz) (ho : OpensF P fs.toList 0 K Φ) : Opens P t K Φ := by
  constructor
  intro H enc w base held fuel cs x h hw
  obtain ⟨xs, n, _, rfl, hl, hxs, hf⟩ := DataW.trod_struct ht h
  have := ho.go (enc := enc) (w := w) (base := base) (held := held) (n := n) cs xs (by rw [hl, hc, Nat.zero_add]) (by simpa using hxs) (fun i f hi => hf i f (by simpa using hi)) (fun n hn => hw n (by simpa [DataW.weights, ht] using hn))
  simpa using this
/-- A slice that a law was handed. -/
theorem open_sl {α : Type} {K : Kd α} {Φ : List α → Prop} {t : TypeId} {H : Type} {enc : TypeId × Value → H} {w : World} {base : Nat} {held : Bool} {v : Value} {x : DataW H × List MemPlace} (ho : Opens P t (slK K) Φ) (h : ∃ n, DataW.trod enc P w base (fun _ => true) held n t [v] = some x) (hw : ∀ n ∈ x.1.weights P t, n ≤ reachBytes) :
    ∃ A c xs, v = .slice A xs.length c ∧ Rd K (ofW w) A c xs ∧ Φ xs := by
  obtain ⟨n, h⟩ := h
  obtain ⟨xs, ⟨A, c, hv, hr⟩, hp⟩ := ho.go [v] x h hw
  simp only [List.cons.injEq, and_true] at hv
  exact ⟨A, c, xs, hv, hr, hp⟩
end
end Go.Vk
