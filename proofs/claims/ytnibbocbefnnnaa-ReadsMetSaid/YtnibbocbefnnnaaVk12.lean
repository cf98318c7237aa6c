import Derived.Test.YtnibbocbefnnnaaVk11
set_option linter.unusedVariables false
namespace Go.Vk
variable {D : List Deferred}
section
variable {P : Program} {F : List Ent} {V : VT} {ρ : Operand → Value}
theorem Y_add {t u : TypeId} {x y : Operand} (k : IntKind) (a b c : Int) (hx : ρ x = .int k a) (hy : ρ y = .int k b) (hw : k.wrap (a + b) = c) : Yv P V F ρ (.binOp .add t x y u) (.int k c) := fun o ho V' w _ _ => by
  unfold execOp; rw [ho]; simp [run_noguard, hx, hy, binOp, Op.intArith, hw]
theorem Y_sub {t u : TypeId} {x y : Operand} (k : IntKind) (a b c : Int) (hx : ρ x = .int k a) (hy : ρ y = .int k b) (hw : k.wrap (a - b) = c) : Yv P V F ρ (.binOp .sub t x y u) (.int k c) := fun o ho V' w _ _ => by
  unfold execOp; rw [ho]; simp [run_noguard, hx, hy, binOp, Op.intArith, hw]
theorem Y_shr {t u : TypeId} {x y : Operand} (k k' : IntKind) (a b c : Int) (hx : ρ x = .int k a) (hy : ρ y = .int k' b) (h0 : 0 ≤ b) (hw : a.fdiv (2 ^ min b.toNat k.bits) = c) : Yv P V F ρ (.binOp .shr t x y u) (.int k c) := fun o ho V' w _ _ => by
  have h1 : ¬ b < 0 := by omega
  unfold execOp; rw [ho]; simp [run_noguard, hx, hy, binOp, Op.shift, h1, hw]
theorem Y_conv {s t : TypeId} {x : Operand} (k1 k0 k : IntKind) (a c : Int) (hs : intTy P s = some k1) (ht : intTy P t = some k) (hx : ρ x = .int k0 a) (hw : k.wrap a = c) : Yv P V F ρ (.convert s t x) (.int k c) := fun o ho V' w _ _ => by
  unfold execOp; rw [ho]; simp [convert, run_underlying (intTy_ok hs), run_underlying (intTy_ok ht), hx, Conv.intToInt, hw]
theorem Y_concat {t u : TypeId} {x y : Operand} (a b : Str) (hx : ρ x = bs a) (hy : ρ y = bs b) (hl : a.length + b.length ≤ 9223372036854775807) : Yv P V F ρ (.binOp .add t x y u) (bs (a ++ b)) := fun o ho V' w _ _ => by
  have h1 : ¬ (((a.length + b.length : Nat) : Int) > IntKind.i64.max) := by
    have : IntKind.i64.max = 9223372036854775807 := rfl
    rw [this]; omega
  have h2 : (⟨a.toArray⟩ : ByteArray) ++ ⟨b.toArray⟩ = ⟨(a ++ b).toArray⟩ := by
    apply ByteArray.ext; simp
  unfold execOp
  simp only [ho, hx, hy, bs, Sem.run_bind, run_noguard (P := P) (op := .add) ⟨by simp, by simp⟩, binOp, Op.stringOp, Result.andThen_ok, bs_size, if_neg h1, Sem.run_pure, h2]
theorem Y_strIndex {t : TypeId} {x y : Operand} (l : Str) (k : IntKind) (a : Int) (ht : strTy P t = true) (hx : ρ x = bs l) (hy : ρ y = .int k a) (j : Nat) (hj : a = (j : Int)) (hl : j < l.length) : Yv P V F ρ (.index t x y) (.int .u8 ((l.getD j 0).toNat : Int)) := fun o ho V' w _ _ => by
  have h2 : (⟨l.toArray⟩ : ByteArray)[j]? = some (l.getD j 0) := by
    rw [ByteArray.getElem?_lt' (⟨l.toArray⟩ : ByteArray) j hl]
    congr 1
    have : l.getD j 0 = l[j] := by simp [List.getD_eq_getElem?_getD, hl]
    rw [this]
    rfl
  unfold execOp
  subst hj
  simp [ho, hx, hy, Instr.index, asIntOf, run_underlying (strTy_ok ht), bs, h2]
theorem Y_load {t : TypeId} {x : Operand} {b off : Nat} {cs : Array Value} {t' : TypeId} {fr : Nat × Nat} (j : Nat) (hj : F[j]? = some (.blk b (.cells cs t' fr))) (hx : ρ x = .pointer (some ⟨b, off, none⟩)) (v : Value) (hv : ldv P cs t off = some v) : Yv P V F ρ (.load t x) v := fun o ho V' w _ hm => by
  unfold execOp
  rw [ho]
  have hb : w.heap[b]? = some (.cells cs t' fr) := hm.2 _ (List.mem_of_getElem? hj)
  simp [Instr.loadAt, hx, Instr.sureAddr, run_loadVar_blk hb hv]
theorem Y_loadV {t : TypeId} {x : Operand} {b off : Nat} {v : Value} (hv : V b off = some v) (hx : ρ x = .pointer (some ⟨b, off, none⟩)) (ha : aggOf P t = some false) : Yv P V F ρ (.load t x) v := fun o ho V' w hl hm => by
  unfold execOp
  rw [ho]
  simp [Instr.loadAt, hx, Instr.sureAddr, loadVar, run_agg (w := w) ha, hm.1 b off v (hl _ _ _ hv)]
theorem Y_loadS {t : TypeId} {x : Operand} {b off : Nat} (cs : List Value) (hv : ∀ j v, cs[j]? = some v → V b (off + j) = some v) (hx : ρ x = .pointer (some ⟨b, off, none⟩)) (ha : aggOf P t = some true) (hz : szOf P t = some cs.length) : Yv P V F ρ (.load t x) (.agg cs.toArray) := fun o ho V' w hl hm => by
  unfold execOp
  rw [ho]
  have := run_loadCells_list (P := P) w ⟨b, off, none⟩ cs (fun j v hj => by rw [addr_add]; exact hm.1 b _ v (hl _ _ _ (hv j v hj)))
  simp [Instr.loadAt, hx, Instr.sureAddr, loadVar, run_agg (w := w) ha, run_sz (w := w) hz, this]
theorem Y_loadB {t : TypeId} {x : Operand} {b off : Nat} (cs : Array Value) (hc : ∀ i v, cs[i]? = some v → V b i = some v) (hx : ρ x = .pointer (some ⟨b, off, none⟩)) (v : Value) (hv : ldv P cs t off = some v) : Yv P V F ρ (.load t x) v := by
  unfold ldv at hv
  split at hv
  · rename_i ha
    split at hv
    · rename_i z hz
      cases hs : Nat.ble (off + z) cs.size with
      | false => rw [hs] at hv; cases hv
      | true =>
        rw [hs] at hv
        simp only [cond_true, Option.some.injEq] at hv
        subst hv
        have hle := Nat.le_of_ble_eq_true hs
        have := Y_loadS (P := P) (F := F) (V := V) (ρ := ρ) (t := t) (x := x) (b := b) (off := off) (cs.extract off (off + z)).toList (fun j v hj => by
          refine hc _ v ?_
          simp only [Array.getElem?_toList, Array.getElem?_extract] at hj
          split at hj
          · exact hj
          · cases hj) hx ha (by
          rw [hz]; simp only [Array.length_toList, Array.size_extract]
          congr 1
          omega)
        rw [Array.toArray_toList] at this
        exact this
    · cases hv
  · rename_i ha
    exact Y_loadV (hc off v hv) hx ha
  · cases hv
theorem Y_eql {t u : TypeId} {x y : Operand} (a b : Value) (r : Bool) (hx : ρ x = a) (hy : ρ y = b) (he : eqv P t a b = some r) : Yv P V F ρ (.binOp .eql t x y u) (.bool r) := fun o ho V' w _ _ => by
  have hb : (binOp .eql t a b).run P w = .ok (.bool r) w := by
    have := run_eqv (w := w) he
    unfold eqv at he
    split at he <;> first | cases he | skip
    all_goals (simp only [binOp, Sem.run_bind, this, Result.andThen_ok, Sem.run_pure])
  unfold execOp
  simp only [ho, hx, hy, Sem.run_bind, guard_eqv (op := .eql) (x := x) (y := y) (w := w) he, Result.andThen_ok, hb]
  rfl
theorem Y_neq {t u : TypeId} {x y : Operand} (a b : Value) (r : Bool) (hx : ρ x = a) (hy : ρ y = b) (he : eqv P t a b = some r) : Yv P V F ρ (.binOp .neq t x y u) (.bool !r) := fun o ho V' w _ _ => by
  have hb : (binOp .neq t a b).run P w = .ok (.bool !r) w := by
    have := run_eqv (w := w) he
    unfold eqv at he
    split at he <;> first | cases he | skip
    all_goals (simp only [binOp, Sem.run_bind, this, Result.andThen_ok, Sem.run_pure])
  unfold execOp
  simp only [ho, hx, hy, Sem.run_bind, guard_eqv (op := .neq) (x := x) (y := y) (w := w) he, Result.andThen_ok, hb]
  rfl
theorem Y_index {t e : TypeId} {z c m b o : Nat} {x y : Operand} (ik : IntKind) (a : Int) (ht : elemTy P t = some (e, z)) (hx : ρ x = .slice (some ⟨b, o, none⟩) m c) (hy : ρ y = .int ik a) (j : Nat) (hj : a = (j : Int)) (hl : j < m) : Yv P V F ρ (.indexAddr t x y) (.pointer (some ⟨b, o + j * z, none⟩)) := fun op ho V' w _ _ => by
  obtain ⟨hu, hz⟩ := elemTy_ok ht
  subst hj
  unfold execOp
  simp [ho, hx, hy, Instr.indexAt, asIntOf, run_underlying hu, run_sz (w := w) hz, hl, addr_add]
end
section
variable {P : Program} {ops : Array Oper} {Q : Exit → Act → World → Prop} {n : Nat} {V : VT} {w : World} {L : List (Nat × Value)} {g : Nat → Value} {i : Nat}
/-- The rules of the plain walk. -/
theorem gF {V0 : VT} {w0 : World} {E0 E : List Ent} (hM : Step V0 w0 E0 V w E) (op : Op) (d : Option Nat) {v : Value} (h : opAt ops n L g i = some (op, d)) (hY : Yv P V E (opv n L g) op v) (k : wpF P ops Q (i + 1) (env D n (pt d v L) g) w) : wpF P ops Q i (env D n L g) w := wpF_y hM h hY k
theorem gF_index {α : Type} {K : Kd α} {A : Option Addr} {c : Nat} {xs : List α} {t e : TypeId} {x y : Operand} {d : Option Nat} (hR : Rd K V A c xs) (ik : IntKind) (a : Int)
    (h : opAt ops n L g i = some (.indexAddr t x y, d)) (ht : elemTy P t = some (e, K.sz)) (hx : opv n L g x = .slice A xs.length c) (hy : opv n L g y = .int ik a) (j : Nat) (hj : a = (j : Int)) (hl : j < xs.length)
    (k : ∀ b o, At K V b o (xs.getD j K.d) → wpF P ops Q (i + 1) (env D n (pt d (.pointer (some ⟨b, o, none⟩)) L) g) w) : wpF P ops Q i (env D n L g) w :=
  wpF_index hR ik a h ht hx hy j hj hl k
end
end Go.Vk
