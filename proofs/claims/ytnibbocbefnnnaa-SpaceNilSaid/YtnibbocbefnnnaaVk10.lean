/- A law's arguments, opened as lists. -/
import Derived.Test.YtnibbocbefnnnaaVk9
import Derived.SliceStrings
import Derived.SizedLaws
import Derived.WalkKit
import Derived.ProofKit
import Derived.OpenShut
import Derived.ShutString
import Derived.ChangeOld
import Derived.Below
import Derived.Carry
set_option linter.unusedVariables false
set_option linter.unusedSimpArgs false
namespace Go.Vk
open Go.ChangeShapes Go.WideShapes
/-- All that a world holds, as settled. -/
def ofW (w : World) : VT := fun b o => w.cell? ⟨b, o, none⟩
theorem ofW_in (w : World) : (ofW w).inW w := fun b o v h => h
theorem reach_maxL : reachBytes ≤ maxL := by decide
section
variable {H : Type} {enc : TypeId × Value → H} {P : Program} {w : World} {base : Nat} {held : Bool}
theorem weightsAll_mem {e : TypeId} : ∀ {ds : List (DataW H)} {d : DataW H}, d ∈ ds → ∀ n ∈ d.weights P e, n ∈ DataW.weightsAll P e ds
  | d0 :: ds, d, h, n, hn => by
    simp only [DataW.weightsAll, List.mem_append]
    rcases List.mem_cons.1 h with rfl | h
    · exact .inl hn
    · exact .inr (weightsAll_mem h n hn)
theorem cell_spot {a : Addr} {v : Value} (h : w.cell? a = some v) : a = ⟨a.block, a.off, none⟩ := by
  unfold World.cell? at h
  split at h
  · split at h
    · cases h
    · rename_i hs
      cases a with
      | mk b o s => cases s with
        | none => rfl
        | some x => exact absurd rfl hs
  · cases h
theorem rd_strings {t e : TypeId} {fuel : Nat} {v : Value} {x : DataW H × List MemPlace} (ht : P.underlying t = some (.slice e)) (he : P.underlying e = some .string) (hc : P.cellsOf e = 1) (hb : 0 < P.bytesOf e)
    (h : DataW.trod enc P w base (fun _ => true) held fuel t [v] = some x) (hw : ∀ n ∈ x.1.weights P t, n ≤ reachBytes) : ∃ (A : Option Addr) (c : Nat) (xs : List Str), v = .slice A xs.length c ∧ Rd strK (ofW w) A c xs := by
  rcases open_strings ht he hc h with ⟨hcs, _⟩ | ⟨a, len, cap, ss, hcs, _, hl, hm, hz, hx, hcell, hsz⟩
  · simp only [List.cons.injEq, and_true] at hcs
    exact ⟨none, 0, [], hcs, Rd.nil _ _⟩
  · simp only [List.cons.injEq, and_true] at hcs
    simp only [if_true] at hz
    have hwx : ∀ n ∈ (DataW.slice (strs (H := H) (ss.take len)) (strs (ss.drop len))).weights P t, n ≤ reachBytes := by rw [hx] at hw; exact hw
    have hlen : (ss.take len).length = len := by simp; omega
    refine ⟨some a, cap, (ss.take len).map (fun s => s.data.toList), by rw [List.length_map, hlen]; exact hcs, ?_, by rw [List.length_map, hlen]; exact hl, ?_⟩
    · rw [List.length_map, hlen]
      have h1 : (strs (H := H) (ss.take len)).length + (strs (H := H) (ss.drop len)).length = cap := by simp [strs]; omega
      have h2 := hwx (cap * P.bytesOf e) (by simp only [DataW.weights, ht, h1]; exact List.mem_cons_self)
      have h3 : cap ≤ cap * P.bytesOf e := Nat.le_mul_of_pos_right _ hb
      have := reach_maxL
      omega
    · intro hne
      have hlt : 0 < len := by
        rcases Nat.eq_zero_or_pos len with h0 | h0
        · subst h0; simp at hne
        · exact h0
      have hc0 := hcell 0 (by omega)
      have hsp := cell_spot hc0
      have ha : a = ⟨a.block, a.off, none⟩ := by
        have : (a.add 0) = a := by simp [Addr.add]
        rw [this] at hsp; exact hsp
      refine ⟨a.block, a.off, by rw [← ha], fun j hj => ?_⟩
      rw [List.length_map, hlen] at hj
      have hcj := hcell j (by omega)
      have hg : ((ss.take len).map (fun s => s.data.toList)).getD j strK.d = (ss.getD j ByteArray.empty).data.toList := by
        have h1 : j < ss.length := by omega
        simp [List.getD_eq_getElem?_getD, hj, h1]
      rw [hg]
      refine ⟨[bs (ss.getD j ByteArray.empty).data.toList], ⟨rfl, ?_⟩, ?_⟩
      · have h1 : j < ss.length := by omega
        have hmem : (DataW.lit (.string (ss.getD j ByteArray.empty).data.toList) : DataW H) ∈ strs (ss.take len) := by
          simp only [strs, List.mem_map]
          refine ⟨ss.getD j ByteArray.empty, ?_, rfl⟩
          rw [List.getD_eq_getElem?_getD, List.getElem?_eq_getElem h1, Option.getD_some]
          exact List.mem_take_iff_getElem.2 ⟨j, by omega, rfl⟩
        have h2 := hwx _ (by simp only [DataW.weights, ht]; exact List.mem_cons_of_mem _ (List.mem_append_left _ (weightsAll_mem (P := P) (e := e) hmem _ (by simp only [DataW.weights]; exact List.mem_singleton.2 rfl))))
        exact Nat.le_trans h2 reach_maxL
      · intro i v hv
        cases i with
        | zero =>
          simp only [List.getElem?_cons_zero, Option.some.injEq] at hv
          subst hv
          have h3 : (a.add j) = ⟨a.block, a.off + j, none⟩ := by rw [ha]; exact addr_add _ _ _
          rw [h3] at hcj
          show w.cell? ⟨a.block, a.off + j * strK.sz + 0, none⟩ = _
          rw [show strK.sz = 1 from rfl, Nat.mul_one, Nat.add_zero, hcj]
          rfl
        | succ i => simp at hv
theorem wf_range {k : IntKind} {n : Int} (h : (Lit.int k n).wf = true) : k.min ≤ n ∧ n ≤ k.max := by
  simpa [Lit.wf] using h
theorem rd_ints {t e : TypeId} {k : IntKind} {fuel : Nat} {v : Value} {x : DataW H × List MemPlace} (ht : P.underlying t = some (.slice e)) (he : P.underlying e = some (.int k)) (hc : P.cellsOf e = 1) (hb : 0 < P.bytesOf e)
    (h : DataW.trod enc P w base (fun _ => true) held fuel t [v] = some x) (hw : ∀ n ∈ x.1.weights P t, n ≤ reachBytes) : ∃ (A : Option Addr) (c : Nat) (xs : List Int), v = .slice A xs.length c ∧ Rd (intK k) (ofW w) A c xs := by
  rcases open_ints ht he hc h with ⟨hcs, _⟩ | ⟨a, len, cap, zs, hcs, _, hl, hm, hz, hx, hcell, hwz⟩
  · simp only [List.cons.injEq, and_true] at hcs
    exact ⟨none, 0, [], hcs, Rd.nil _ _⟩
  · simp only [List.cons.injEq, and_true] at hcs
    simp only [if_true] at hz
    have hlen : (zs.take len).length = len := by simp; omega
    refine ⟨some a, cap, zs.take len, by rw [hlen]; exact hcs, ?_, by rw [hlen]; exact hl, ?_⟩
    · rw [hlen]
      rw [hx] at hw
      have h1 : (lits (H := H) k (zs.take len)).length + (lits (H := H) k (zs.drop len)).length = cap := by simp [lits]; omega
      have h2 := hw (cap * P.bytesOf e) (by simp only [DataW.weights, ht, h1]; exact List.mem_cons_self)
      have h3 : cap ≤ cap * P.bytesOf e := Nat.le_mul_of_pos_right _ hb
      have := reach_maxL
      omega
    · intro hne
      have hlt : 0 < len := by
        rcases Nat.eq_zero_or_pos len with h0 | h0
        · subst h0; simp at hne
        · exact h0
      have hc0 := hcell 0 (by omega)
      have hsp := cell_spot hc0
      have ha : a = ⟨a.block, a.off, none⟩ := by
        have : (a.add 0) = a := by simp [Addr.add]
        rw [this] at hsp; exact hsp
      refine ⟨a.block, a.off, by rw [← ha], fun j hj => ?_⟩
      rw [hlen] at hj
      have hcj := hcell j (by omega)
      have h1 : j < zs.length := by omega
      have hg : (zs.take len).getD j (intK k).d = zs.getD j 0 := by
        show (zs.take len).getD j 0 = _
        simp [List.getD_eq_getElem?_getD, hj, h1]
      rw [hg]
      refine ⟨[.int k (zs.getD j 0)], ⟨rfl, wf_range (hwz _ ?_)⟩, ?_⟩
      · rw [List.getD_eq_getElem?_getD, List.getElem?_eq_getElem h1, Option.getD_some]
        exact List.getElem_mem h1
      · intro i v hv
        cases i with
        | zero =>
          simp only [List.getElem?_cons_zero, Option.some.injEq] at hv
          subst hv
          have h3 : (a.add j) = ⟨a.block, a.off + j, none⟩ := by rw [ha]; exact addr_add _ _ _
          rw [h3] at hcj
          show w.cell? ⟨a.block, a.off + j * (intK k).sz + 0, none⟩ = _
          rw [show (intK k).sz = 1 from rfl, Nat.mul_one, Nat.add_zero, hcj]
        | succ i => simp at hv
theorem rd_bytes {t e : TypeId} {fuel : Nat} {v : Value} {x : DataW H × List MemPlace} (ht : P.underlying t = some (.slice e)) (he : P.underlying e = some (.int .u8)) (hc : P.cellsOf e = 1) (hb : 0 < P.bytesOf e)
    (h : DataW.trod enc P w base (fun _ => true) held fuel t [v] = some x) (hw : ∀ n ∈ x.1.weights P t, n ≤ reachBytes) : ∃ (A : Option Addr) (c : Nat) (l : Str), v = .slice A l.length c ∧ Rd byteK (ofW w) A c l := by
  obtain ⟨A, c, xs, e1, hR⟩ := rd_ints ht he hc hb h hw
  refine ⟨A, c, xs.map fun n => UInt8.ofNat n.toNat, by rw [List.length_map]; exact e1, by rw [List.length_map]; exact hR.max, by rw [List.length_map]; exact hR.cap, fun hn => ?_⟩
  obtain ⟨b, o, hA, hat⟩ := hR.cells (by intro h0; subst h0; simp at hn)
  refine ⟨b, o, hA, fun j hj => ?_⟩
  rw [List.length_map] at hj
  obtain ⟨h1, h2, h3⟩ := (hat j hj).int
  have hg : ((xs.map fun n => UInt8.ofNat n.toNat).getD j byteK.d) = UInt8.ofNat (xs.getD j 0).toNat := by
    simp [List.getD_eq_getElem?_getD, hj]
  rw [hg]
  have hn : (((UInt8.ofNat (xs.getD j 0).toNat).toNat : Nat) : Int) = xs.getD j 0 := by
    have h4 : (0 : Int) ≤ xs.getD j 0 := h2
    have h5 : xs.getD j 0 ≤ 255 := h3
    simp only [UInt8.toNat_ofNat']
    omega
  refine ⟨[.int .u8 (xs.getD j 0)], by show _ = _; rw [hn], fun i u hu => ?_⟩
  cases i with
  | zero =>
    simp only [List.getElem?_cons_zero, Option.some.injEq] at hu
    subst hu
    exact h1
  | succ i => simp at hu
theorem list4 {α : Type} {l : List α} (h : l.length = 4) : ∃ a b c d, l = [a, b, c, d] := by
  match l, h with
  | [a, b, c, d], _ => exact ⟨a, b, c, d, rfl⟩
/-- A struct of a bool, two slices of strings, a slice of ints. -/
theorem open_node {t e1 e2 e3 : TypeId} {f0 f1 f2 f3 : Field} {fuel : Nat} {cs : List Value} {x : DataW H × List MemPlace} (ht : P.underlying t = some (.struct #[f0, f1, f2, f3])) (hc : P.cellsOf t = 4)
    (o0 : f0.offset = 0) (o1 : f1.offset = 1) (o2 : f2.offset = 2) (o3 : f3.offset = 3) (k0 : P.cellsOf f0.type = 1) (k1 : P.cellsOf f1.type = 1) (k2 : P.cellsOf f2.type = 1) (k3 : P.cellsOf f3.type = 1)
    (u0 : P.underlying f0.type = some .bool) (u1 : P.underlying f1.type = some (.slice e1)) (u2 : P.underlying f2.type = some (.slice e2)) (u3 : P.underlying f3.type = some (.slice e3))
    (s1 : P.underlying e1 = some .string) (s2 : P.underlying e2 = some .string) (s3 : P.underlying e3 = some (.int .i64)) (c1 : P.cellsOf e1 = 1) (c2 : P.cellsOf e2 = 1) (c3 : P.cellsOf e3 = 1) (b1 : 0 < P.bytesOf e1) (b2 : 0 < P.bytesOf e2) (b3 : 0 < P.bytesOf e3)
    (h : DataW.trod enc P w base (fun _ => true) held fuel t cs = some x) (hw : ∀ n ∈ x.1.weights P t, n ≤ reachBytes) :
    ∃ (l : Bool) (A1 : Option Addr) (n1 : Nat) (ks : List Str) (A2 : Option Addr) (n2 : Nat) (vs : List Str) (A3 : Option Addr) (n3 : Nat) (kids : List Int),
      cs = [.bool l, .slice A1 ks.length n1, .slice A2 vs.length n2, .slice A3 kids.length n3] ∧ Rd strK (ofW w) A1 n1 ks ∧ Rd strK (ofW w) A2 n2 vs ∧ Rd (intK .i64) (ofW w) A3 n3 kids := by
  obtain ⟨xs, n, _, rfl, hl, hxs, hf⟩ := DataW.trod_struct ht h
  rw [hc] at hl
  obtain ⟨a, b, c, d, rfl⟩ := list4 hl
  obtain ⟨x0, x1, x2, x3, rfl⟩ := list4 (by simpa using hxs)
  have h0 := hf 0 f0 rfl
  have h1 := hf 1 f1 rfl
  have h2 := hf 2 f2 rfl
  have h3 := hf 3 f3 rfl
  rw [o0, k0] at h0
  rw [o1, k1] at h1
  rw [o2, k2] at h2
  rw [o3, k3] at h3
  simp only [List.drop, List.take, List.getElem?_cons_zero, List.getElem?_cons_succ] at h0 h1 h2 h3
  have hwe : ∀ n, n ∈ x0.1.weights P f0.type ++ (x1.1.weights P f1.type ++ (x2.1.weights P f2.type ++ x3.1.weights P f3.type)) → n ≤ reachBytes := by
    intro n hn
    refine hw n ?_
    simpa [DataW.weights, ht, DataW.weightsEach] using hn
  obtain ⟨l, hb, _⟩ := DataW.trod_bool u0 h0
  simp only [List.cons.injEq, and_true] at hb
  obtain ⟨A1, n1, ks, rfl, r1⟩ := rd_strings u1 s1 c1 b1 h1 (fun n hn => hwe n (by simp [hn]))
  obtain ⟨A2, n2, vs, rfl, r2⟩ := rd_strings u2 s2 c2 b2 h2 (fun n hn => hwe n (by simp [hn]))
  obtain ⟨A3, n3, kids, rfl, r3⟩ := rd_ints u3 s3 c3 b3 h3 (fun n hn => hwe n (by simp [hn]))
  exact ⟨l, A1, n1, ks, A2, n2, vs, A3, n3, kids, by rw [hb], r1, r2, r3⟩
/-- What a call leaves that touches nothing of its caller's. -/
theorem below_of {V V' : VT} {w w' : World} (h : Step V w [] V' w' []) : Go.RowKit.Below w.heap.size w w' :=
  ⟨h.os, h.tape, h.output, h.size, fun k hk => h.frame k hk (by simp [foot])⟩
end
end Go.Vk
