/- A law's arguments that hold pairs of texts, opened as lists. -/
import Derived.Test.YtnibbocbefnnnaaVk10
import Derived.Deep.SlicePairs
set_option linter.unusedVariables false
set_option linter.unusedSimpArgs false
namespace Go.Vk
open Go.ChangeShapes Go.WideShapes
def txt : Value → Str
  | .string s => s.data.toList
  | _ => []
section
variable {H : Type} {enc : TypeId × Value → H} {P : Program} {w : World} {base : Nat} {held : Bool}
theorem trod_txt {t : TypeId} {fuel : Nat} {v : Value} {d : DataW H} {p : List MemPlace} (ht : P.underlying t = some .string) (h : DataW.trod enc P w base (fun _ => true) held fuel t [v] = some (d, p)) (hw : ∀ n ∈ d.weights P t, n ≤ reachBytes) : v = bs (txt v) ∧ (txt v).length ≤ maxL := by
  obtain ⟨s, h1, h2, _⟩ := DataW.trod_string ht h
  simp only [List.cons.injEq, and_true] at h1
  subst h1
  refine ⟨rfl, ?_⟩
  cases h2
  exact Nat.le_trans (hw _ (by simp only [DataW.weights]; exact List.mem_singleton.2 rfl)) reach_maxL
theorem rd_pairs {t e : TypeId} {f0 f1 : Field} {fuel : Nat} {v : Value} {x : DataW H × List MemPlace} (ht : P.underlying t = some (.slice e)) (he : P.underlying e = some (.struct #[f0, f1])) (ce : P.cellsOf e = 2) (o0 : f0.offset = 0) (o1 : f1.offset = 1) (c0 : P.cellsOf f0.type = 1) (c1 : P.cellsOf f1.type = 1)
    (s0 : P.underlying f0.type = some .string) (s1 : P.underlying f1.type = some .string) (hb : 0 < P.bytesOf e)
    (h : DataW.trod enc P w base (fun _ => true) held fuel t [v] = some x) (hw : ∀ n ∈ x.1.weights P t, n ≤ reachBytes) : ∃ (A : Option Addr) (c : Nat) (xs : List (Str × Str)), v = .slice A xs.length c ∧ Rd (prK strK strK) (ofW w) A c xs := by
  rcases Go.Deep.open_slice_pairs ht he ce o0 o1 c0 c1 h with ⟨hcs, _⟩ | ⟨a, len, cap, m, n, V0, V1, D0, D1, P0, P1, hcs, _, hl, hm, hmm, hx, hcell⟩
  · simp only [List.cons.injEq, and_true] at hcs
    exact ⟨none, 0, [], hcs, Rd.nil _ _⟩
  · simp only [List.cons.injEq, and_true] at hcs
    simp only [if_true] at hmm
    subst hmm
    rw [hx] at hw
    have hlen : ((List.range len).map fun i => (txt (V0 i), txt (V1 i))).length = len := by simp
    refine ⟨some a, m, (List.range len).map fun i => (txt (V0 i), txt (V1 i)), by rw [hlen]; exact hcs, ?_, by rw [hlen]; exact hl, fun hne => ?_⟩
    · rw [hlen]
      have h1 : ((List.range len).map fun i => (DataW.agg [D0 i, D1 i] : DataW H)).length + ((List.range (m - len)).map fun j => (DataW.agg [D0 (len + j), D1 (len + j)] : DataW H)).length = m := by simp; omega
      have h2 := hw (m * P.bytesOf e) (by simp only [DataW.weights, ht, h1]; exact List.mem_cons_self)
      have h3 : m ≤ m * P.bytesOf e := Nat.le_mul_of_pos_right _ hb
      have := reach_maxL
      omega
    · have hlt : 0 < len := by
        rcases Nat.eq_zero_or_pos len with h0 | h0
        · subst h0; simp at hne
        · exact h0
      have hc0 := (hcell 0 (by omega)).1
      have hsp := cell_spot hc0
      have ha : a = ⟨a.block, a.off, none⟩ := by
        have : (a.add (0 * 2)) = a := by simp [Addr.add]
        rw [this] at hsp; exact hsp
      refine ⟨a.block, a.off, by rw [← ha], fun j hj => ?_⟩
      rw [hlen] at hj
      obtain ⟨g0, g1, g2, g3⟩ := hcell j (by omega)
      have hwj : ∀ n ∈ (DataW.agg [D0 j, D1 j] : DataW H).weights P e, n ≤ reachBytes := fun n hn => by
        refine hw n ?_
        simp only [DataW.weights, ht]
        refine List.mem_cons_of_mem _ (List.mem_append_left _ (weightsAll_mem (d := .agg [D0 j, D1 j]) ?_ n hn))
        exact List.mem_map.2 ⟨j, List.mem_range.2 hj, rfl⟩
      have hw0 : ∀ n ∈ (D0 j).weights P f0.type, n ≤ reachBytes := fun n hn => hwj n (by simp [DataW.weights, he, DataW.weightsEach, hn])
      have hw1 : ∀ n ∈ (D1 j).weights P f1.type, n ≤ reachBytes := fun n hn => hwj n (by simp [DataW.weights, he, DataW.weightsEach, hn])
      obtain ⟨q0, l0⟩ := trod_txt s0 g2 hw0
      obtain ⟨q1, l1⟩ := trod_txt s1 g3 hw1
      have hg : ((List.range len).map fun i => (txt (V0 i), txt (V1 i))).getD j (prK strK strK).d = (txt (V0 j), txt (V1 j)) := by
        simp [List.getD_eq_getElem?_getD, hj]
      rw [hg]
      refine ⟨[bs (txt (V0 j)), bs (txt (V1 j))], ⟨[bs (txt (V0 j))], [bs (txt (V1 j))], rfl, ⟨rfl, l0⟩, ⟨rfl, l1⟩⟩, fun i u hu => ?_⟩
      have e0 : a.add (j * 2) = ⟨a.block, a.off + j * 2, none⟩ := by rw [ha]; exact addr_add _ _ _
      have e1 : a.add (j * 2 + 1) = ⟨a.block, a.off + (j * 2 + 1), none⟩ := by rw [ha]; exact addr_add _ _ _
      rw [e0, q0] at g0
      rw [e1, q1] at g1
      show w.cell? ⟨a.block, a.off + j * 2 + i, none⟩ = _
      match i, hu with
      | 0, hu => simp only [List.getElem?_cons_zero, Option.some.injEq] at hu; subst hu; rw [Nat.add_zero]; exact g0
      | 1, hu => simp only [List.getElem?_cons_succ, List.getElem?_cons_zero, Option.some.injEq] at hu; subst hu; rw [Nat.add_assoc]; exact g1
      | i + 2, hu => simp at hu
theorem list2 {α : Type} {l : List α} (h : l.length = 2) : ∃ a b, l = [a, b] := by
  match l, h with
  | [a, b], _ => exact ⟨a, b, rfl⟩
/-- A struct of a slice of texts and a slice of pairs of texts. -/
theorem open_reads {t e1 e2 : TypeId} {f0 f1 g0 g1 : Field} {fuel : Nat} {cs : List Value} {x : DataW H × List MemPlace} (ht : P.underlying t = some (.struct #[f0, f1])) (hc : P.cellsOf t = 2)
    (o0 : f0.offset = 0) (o1 : f1.offset = 1) (k0 : P.cellsOf f0.type = 1) (k1 : P.cellsOf f1.type = 1)
    (u0 : P.underlying f0.type = some (.slice e1)) (u1 : P.underlying f1.type = some (.slice e2)) (s1 : P.underlying e1 = some .string) (c1 : P.cellsOf e1 = 1) (b1 : 0 < P.bytesOf e1)
    (he : P.underlying e2 = some (.struct #[g0, g1])) (ce : P.cellsOf e2 = 2) (p0 : g0.offset = 0) (p1 : g1.offset = 1) (q0 : P.cellsOf g0.type = 1) (q1 : P.cellsOf g1.type = 1) (z0 : P.underlying g0.type = some .string) (z1 : P.underlying g1.type = some .string) (b2 : 0 < P.bytesOf e2)
    (h : DataW.trod enc P w base (fun _ => true) held fuel t cs = some x) (hw : ∀ n ∈ x.1.weights P t, n ≤ reachBytes) :
    ∃ (A1 : Option Addr) (n1 : Nat) (ks : List Str) (A2 : Option Addr) (n2 : Nat) (sp : List (Str × Str)), cs = [.slice A1 ks.length n1, .slice A2 sp.length n2] ∧ Rd strK (ofW w) A1 n1 ks ∧ Rd (prK strK strK) (ofW w) A2 n2 sp := by
  obtain ⟨xs, n, _, rfl, hl, hxs, hf⟩ := DataW.trod_struct ht h
  rw [hc] at hl
  obtain ⟨a, b, rfl⟩ := list2 hl
  obtain ⟨x0, x1, rfl⟩ := list2 (by simpa using hxs)
  have h0 := hf 0 f0 rfl
  have h1 := hf 1 f1 rfl
  rw [o0, k0] at h0
  rw [o1, k1] at h1
  simp only [List.drop, List.take, List.getElem?_cons_zero, List.getElem?_cons_succ] at h0 h1
  have hwe : ∀ n, n ∈ x0.1.weights P f0.type ++ x1.1.weights P f1.type → n ≤ reachBytes := by
    intro n hn
    refine hw n ?_
    simpa [DataW.weights, ht, DataW.weightsEach] using hn
  obtain ⟨A1, n1, ks, rfl, r1⟩ := rd_strings u0 s1 c1 b1 h0 (fun n hn => hwe n (by simp [hn]))
  obtain ⟨A2, n2, sp, rfl, r2⟩ := rd_pairs u1 he ce p0 p1 q0 q1 z0 z1 b2 h1 (fun n hn => hwe n (by simp [hn]))
  exact ⟨A1, n1, ks, A2, n2, sp, rfl, r1, r2⟩
/-- A struct of two texts. -/
theorem open_pair {t : TypeId} {f0 f1 : Field} {fuel : Nat} {cs : List Value} {x : DataW H × List MemPlace} (ht : P.underlying t = some (.struct #[f0, f1])) (hc : P.cellsOf t = 2) (o0 : f0.offset = 0) (o1 : f1.offset = 1) (k0 : P.cellsOf f0.type = 1) (k1 : P.cellsOf f1.type = 1)
    (s0 : P.underlying f0.type = some .string) (s1 : P.underlying f1.type = some .string) (h : DataW.trod enc P w base (fun _ => true) held fuel t cs = some x) (hw : ∀ n ∈ x.1.weights P t, n ≤ reachBytes) :
    ∃ (a b : Str), cs = [bs a, bs b] ∧ a.length ≤ maxL ∧ b.length ≤ maxL := by
  obtain ⟨xs, n, _, rfl, hl, hxs, hf⟩ := DataW.trod_struct ht h
  rw [hc] at hl
  obtain ⟨a, b, rfl⟩ := list2 hl
  obtain ⟨⟨y0, r0⟩, ⟨y1, r1⟩, rfl⟩ := list2 (by simpa using hxs)
  have h0 := hf 0 f0 rfl
  have h1 := hf 1 f1 rfl
  rw [o0, k0] at h0
  rw [o1, k1] at h1
  simp only [List.drop, List.take, List.getElem?_cons_zero, List.getElem?_cons_succ] at h0 h1
  have hwe : ∀ n, n ∈ y0.weights P f0.type ++ y1.weights P f1.type → n ≤ reachBytes := by
    intro n hn
    refine hw n ?_
    simpa [DataW.weights, ht, DataW.weightsEach] using hn
  obtain ⟨q0, l0⟩ := trod_txt s0 h0 (fun n hn => hwe n (by simp [hn]))
  obtain ⟨q1, l1⟩ := trod_txt s1 h1 (fun n hn => hwe n (by simp [hn]))
  exact ⟨txt a, txt b, by rw [← q0, ← q1], l0, l1⟩
end
end Go.Vk
