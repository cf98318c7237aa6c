/- A made slice. -/
import Derived.Test.YtnibbocbefnnnaaVk8
set_option linter.unusedVariables false
set_option linter.unusedSimpArgs false
namespace Go.Vk
variable {D : List Deferred}
section
variable {P : Program} {ops : Array Oper} {Q : Exit → Act → World → Prop} {w : World} {n : Nat} {L : List (Nat × Value)} {g : Nat → Value} {i : Nat}
theorem wpF_mkSlice {α : Type} {K : Kd α} {V0 V : VT} {w0 : World} {E0 E : List Ent} {t e : TypeId} {by_ m : Nat} {x y : Operand} {d : Option Nat} {z : Value} (hM : Step V0 w0 E0 V w E)
    (h : opAt ops n L g i = some (.makeSlice t x y, d)) (hx : opv n L g x = .int .i64 (m : Int)) (hy : opv n L g y = .int .i64 (m : Int)) (ht : elemTy P t = some (e, 1)) (hk : K.sz = 1) (hb : (P.info? e).map (·.bytes) = some by_) (hz : zeroOf P e = some z) (hz1 : z.cells = #[z]) (hb0 : Nat.blt 0 by_ = true)
    (u : α) (hu : ∀ V : VT, Reps K V [u] [z]) (hl : m * by_ ≤ 140737488355328)
    (k : ∀ A c V' w', V.le V' → Step V0 w0 E0 V' w' E → Rd K V' A c (List.replicate m u) → wpF P ops Q (i + 1) (env D n (pt d (.slice A (List.replicate m u).length c) L) g) w') : wpF P ops Q i (env D n L g) w := by
  obtain ⟨hu', hsz⟩ := elemTy_ok ht
  obtain ⟨inf, hi, rfl⟩ := Option.map_eq_some_iff.1 hb
  have hb1 := blt_iff.1 hb0
  have hm' : m ≤ 140737488355328 := Nat.le_trans (Nat.le_mul_of_pos_right _ hb1) hl
  have hw : IntKind.i64.wrap (m : Int) = m := wrap64_ok _ (by omega)
  have hz0 : inf.zero = some z := by unfold zeroOf at hz; rw [hi] at hz; simpa using hz
  have hiz : inf.size = 1 := by unfold szOf at hsz; rw [hi] at hsz; simpa using hsz
  have h2 : ¬ (281474976710656 < (inf.bytes : Int) * (m : Int)) := by
    have : ((inf.bytes : Int) * (m : Int)) = ((m * inf.bytes : Nat) : Int) := by simp [Int.mul_comm]
    rw [this]; omega
  have hn0 : ¬ ((m : Int) < 0) := by omega
  have harr : ∀ zs : Array Value, (m = 0 → zs = #[]) → (m ≠ 0 → zs = #[z]) → ((Array.range m).map (fun j => zs[j % zs.size]!)) = (List.replicate m z).toArray := by
    intro zs h0 h1
    by_cases hm0 : m = 0
    · subst hm0; simp
    · rw [h1 hm0]
      refine Array.ext (by simp) (fun j h1' h2' => ?_)
      simp [Nat.mod_one]
  have hrun : ∀ o : Oper, o.op = .makeSlice t x y → (execOp (opv n L g) o).run P w = .ok (.value (.slice (some ⟨w.heap.size, 0, none⟩) m m)) (w.alloc (.cells (List.replicate m z).toArray e)) := by
    intro o ho
    unfold execOp
    by_cases hm0 : m = 0
    · subst hm0
      have := harr #[] (fun _ => rfl) (fun h => absurd rfl h)
      simp [ho, hx, hy, Instr.makeSlice, run_underlying hu', typeInfo, asInt, asIntOf, hi, show IntKind.i64.wrap 0 = 0 from rfl, hiz, sizeOf, newRow, askRoom, show Array.range 0 = #[] from rfl]
    · have := harr #[z] (fun h => absurd h hm0) (fun _ => rfl)
      simp only [Array.size_singleton] at this
      have hng : ¬ (140737488355328 < m * inf.bytes) := by omega
      simp [ho, hx, hy, Instr.makeSlice, run_underlying hu', typeInfo, asInt, asIntOf, hi, hw, h2, hn0, hiz, sizeOf, newRow, askRoom, zeroValue, hz0, hm0, hz1, hng, roomBytes]
      have h9 : Array.map (fun x => ([z][x % 1]?).getD default) (Array.range m) = Array.replicate m z := by
        refine Array.ext (by simp) (fun j h1' h2' => ?_)
        simp [Nat.mod_one]
      rw [h9]
  refine wpF_value h hrun ?_
  have hM' := hM.alloc (.cells (List.replicate m z).toArray e)
  have hrep : Reps K V (List.replicate m u) (List.replicate m z) := by
    clear hl k h hx hy hm' hw h2 hn0 harr hrun hM'
    induction m with
    | zero => exact rfl
    | succ m ih => simpa [List.replicate_succ] using (hu V).append ih
  have hr' := hM'.blkrow 0 rfl (K := K) (ys := List.replicate m u) (by simpa using hrep) (by simp [maxL]; exact hm')
  obtain ⟨V', hle, hs, hrd⟩ := hr'.settleRow 0 rfl
  have hlen : (List.replicate m u).length = m := by simp
  have := k _ _ V' _ hle hs hrd
  rw [hlen] at this
  exact this
end
end Go.Vk
