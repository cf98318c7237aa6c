import Derived.Test.YtnibbocbefnnnaaVk19
set_option linter.unusedVariables false
namespace Go.Vk
variable {D : List Deferred}
abbrev Ver := Int × Str × Bool
abbrev Item := Str × List Ver
abbrev verK : Kd Ver := prK (intK .i64) (prK strK boolK)
def UP (l : List Str) : Prop := l.Pairwise (· < ·)
def keysOf (L : List Item) : List Str := L.map (·.1)
theorem i64_ok {x : Int} (h1 : -9223372036854775808 ≤ x) (h2 : x ≤ 9223372036854775807) : IntKind.i64.min ≤ x ∧ x ≤ IntKind.i64.max := by
  have e1 : IntKind.i64.min = -9223372036854775808 := by decide
  have e2 : IntKind.i64.max = 9223372036854775807 := by decide
  omega
/-- A space's keys rise, and none is without versions. -/
def SpI (L : List Item) : Prop := UP (keysOf L) ∧ ∀ p, p ∈ L → p.2 ≠ []
def spParts (t1 t2 : TypeId) (b : Nat) (A : Option Addr) (c m : Nat) (L : List Item) (la ma : Int) : List Ent :=
  [.blk b (.cells #[.slice A (keysOf L).length c, .map (some m), .int .i64 la, .int .i64 ma] t1), .row strK t2 A c (keysOf L), mapE false (slK verK) m (fun k_ => lk k_ L)]
def spEn (t1 t2 : TypeId) (b : Nat) (A : Option Addr) (c m : Nat) (L : List Item) (la ma : Int) : Ent :=
  .pk (foot (spParts t1 t2 b A c m L la ma)) (fun V w => SpI L ∧ ∀ e, e ∈ spParts t1 t2 b A c m L la ma → e.holds V w) (fun V w h x hx => by
    obtain ⟨e, he, hx⟩ := List.mem_flatMap.1 hx
    exact Ent.lt (h.2 e he) x hx) (fun V V' w w' hl h hs => ⟨h.1, fun e he => Ent.same hl (h.2 e he) fun b hb => hs b (List.mem_flatMap.2 ⟨e, he, hb⟩)⟩)
section
variable {V0 V : VT} {w0 w : World} {E0 E F : List Ent} {t1 t2 : TypeId} {b : Nat} {A : Option Addr} {c m : Nat} {L : List Item} {la ma : Int}
theorem Step.spOk (h : Step V0 w0 E0 V w E) (j : Nat) (hj : E[j]? = some (spEn t1 t2 b A c m L la ma)) : SpI L := (h.ok.holds _ (List.mem_of_getElem? hj)).1
theorem Step.openSp (h : Step V0 w0 E0 V w E) (j : Nat) (hj : E[j]? = some (spEn t1 t2 b A c m L la ma)) :
    Step V0 w0 E0 V w (.blk b (.cells #[.slice A (keysOf L).length c, .map (some m), .int .i64 la, .int .i64 ma] t1) :: .row strK t2 A c (keysOf L) :: mapE false (slK verK) m (fun k_ => lk k_ L) :: E.eraseIdx j) := by
  have hf := h.front j hj
  have hfo : foot (spEn t1 t2 b A c m L la ma :: E.eraseIdx j) = foot (spParts t1 t2 b A c m L la ma ++ E.eraseIdx j) := by simp [foot, spEn, Ent.foot]
  refine ⟨hf.os, hf.tape, hf.output, hf.size, hf.frame, hf.le, fun b hb => hf.newE b (by rw [hfo]; exact hb), hf.newV, ⟨hf.ok.inW, fun e he => ?_, fun b hb => hf.ok.apart b (by rw [hfo]; exact hb), ?_⟩⟩
  · rcases List.mem_append.1 (show e ∈ spParts t1 t2 b A c m L la ma ++ E.eraseIdx j from he) with he | he
    · exact (hf.ok.holds (spEn t1 t2 b A c m L la ma) (by simp)).2 e he
    · exact hf.ok.holds e (List.mem_cons_of_mem _ he)
  · have := hf.ok.nodup
    rw [hfo] at this; exact this
theorem Step.closeSp {ks : List Str} {f : Str → Option (List Ver)} (hk : keysOf L = ks) (hf : (fun k_ => lk k_ L) = f) (ho : SpI L)
    (h : Step V0 w0 E0 V w (.blk b (.cells #[.slice A ks.length c, .map (some m), .int .i64 la, .int .i64 ma] t1) :: .row strK t2 A c ks :: mapE false (slK verK) m f :: F)) : Step V0 w0 E0 V w (spEn t1 t2 b A c m L la ma :: F) := by
  subst hk; subst hf
  have hfo : foot (spEn t1 t2 b A c m L la ma :: F) = foot (spParts t1 t2 b A c m L la ma ++ F) := by simp [foot, spEn, Ent.foot]
  have h' : Step V0 w0 E0 V w (spParts t1 t2 b A c m L la ma ++ F) := h
  refine ⟨h'.os, h'.tape, h'.output, h'.size, h'.frame, h'.le, fun b hb => h'.newE b (by rw [← hfo]; exact hb), h'.newV, ⟨h'.ok.inW, fun e he => ?_, fun b hb => h'.ok.apart b (by rw [← hfo]; exact hb), by rw [hfo]; exact h'.ok.nodup⟩⟩
  rcases List.mem_cons.1 he with rfl | he
  · exact ⟨ho, fun e he => h'.ok.holds e (List.mem_append_left _ he)⟩
  · exact h'.ok.holds e (List.mem_append_right _ he)
end
theorem Step.reSp {V0 V : VT} {w0 w : World} {E0 B F : List Ent} {t1 t2 : TypeId} {b : Nat} {A : Option Addr} {c m : Nat} {L L' : List Item} {la ma : Int} (hq : L = L') (h : Step V0 w0 E0 V w (B ++ spEn t1 t2 b A c m L la ma :: F)) : Step V0 w0 E0 V w (B ++ spEn t1 t2 b A c m L' la ma :: F) := hq ▸ h
section
variable {P : Program} {F : List Ent} {V : VT} {ρ : Operand → Value}
theorem Y_cap {t : TypeId} {x : Operand} {A : Option Addr} {n c : Nat} (hu : (elemTy P t).isSome = true) (hx : ρ x = .slice A n c) : Yv P V F ρ (.call ⟨.builtin .cap, #[x], #[t]⟩) (.int .i64 (c : Int)) := fun o ho V' w _ _ => by
  obtain ⟨⟨e, z⟩, he⟩ := Option.isSome_iff_exists.1 hu
  obtain ⟨h1, h2⟩ := elemTy_ok he
  unfold execOp
  simp [ho, resolve, invoke, builtin, hx, Builtin.cap_, run_underlying h1, goInt]
end
section
variable {P : Program} {ops : Array Oper} {Q : Exit → Act → World → Prop} {n i : Nat} {L : List (Nat × Value)} {g : Nat → Value} {w : World}
theorem run_app0_nil {t u ty e : TypeId} {by_ sz m : Nat} {z : Value} (ht : elemTy P t = some (e, sz)) (hb : (P.info? e).map (·.bytes) = some by_) (hzv : zeroOf P e = some z) (hu : numTy P u = true) (hb0 : 0 < by_) (hsz0 : 0 < sz) (hm0 : 0 < m) (hl : m * by_ ≤ 140737488355328) :
    (Builtin.append_ #[t, u] ty #[.slice none 0 0, .int .i64 (m : Int)]).run P w = .ok (.slice (some ⟨w.heap.size, 0, none⟩) m (grownCap w m 0 e)) (w.drew.alloc (.cells (Builtin.zeroCells z.cells m ++ Builtin.zeroCells z.cells (grownCap w m 0 e - m)) e)) := by
  obtain ⟨hu', hz⟩ := elemTy_ok ht
  obtain ⟨k, hdu⟩ := numTy_ok hu
  obtain ⟨i, hi, rfl⟩ := Option.map_eq_some_iff.1 hb
  have hz0 : i.zero = some z := by unfold zeroOf at hzv; rw [hi] at hzv; simpa using hzv
  have hiz : i.size = sz := by unfold szOf at hz; rw [hi] at hz; simpa using hz
  have hlm : m ≤ 140737488355328 := Nat.le_trans (Nat.le_mul_of_pos_right _ hb0) hl
  have h63' : ¬ (9223372036854775807 < (m : Int)) := by omega
  have hfit := growslice_fits (old := 0) hm0 hl
  have h48' : ¬ (281474976710656 < Builtin.nextslicecap m 0 * i.bytes) := by omega
  have hbn : i.bytes ≠ 0 := by omega
  have hw : IntKind.i64.wrap (m : Int) = m := wrap64_ok _ (by omega)
  have h1 : ¬ ((m : Int) * (i.bytes : Int) > 2 ^ 48) := by
    have : ((m : Int) * (i.bytes : Int)) = ((m * i.bytes : Nat) : Int) := by simp
    rw [this]; omega
  have h2 : ¬ (281474976710656 < (m : Int) * (i.bytes : Int)) := by simpa using h1
  have hn0 : ¬ ((m : Int) < 0) := by omega
  have hmz : m ≠ 0 := by omega
  have hm1 : ¬ m ≤ 0 := by omega
  have hmz2 : ¬ (m * sz = 0) := by simp only [Nat.mul_eq_zero]; omega
  simp [Builtin.append_, run_underlying hu', run_underlying hdu, sizeOf, typeInfo, zeroValue, hi, hz0, hiz, hw, h2, hn0, asInt, asIntOf, h63', h48', hbn, hmz, hm1, Question.forced, newRow, grownCap, Builtin.firstCells, hmz2]
theorem wpF_growNil {α : Type} (K : Kd α) {V0 V : VT} {w0 : World} {E0 E : List Ent} {t u e : TypeId} {by_ m : Nat} {s x : Operand} {d : Option Nat} {z : Value} (hM : Step V0 w0 E0 V w E)
    (h : opAt ops n L g i = some (.call ⟨.builtin .append, #[s, x], #[t, u]⟩, d)) (hs : opv n L g s = .slice none 0 0) (hx : opv n L g x = .int .i64 (m : Int)) (ht : elemTy P t = some (e, K.sz)) (hb : (P.info? e).map (·.bytes) = some by_) (hz : zeroOf P e = some z) (hzs : z.cells.size = K.sz) (hu : numTy P u = true) (hb0 : Nat.blt 0 by_ = true) (hm0 : 0 < m) (hl : m * by_ ≤ 140737488355328)
    (k : ∀ b c w', Step V0 w0 E0 V w' (.row K e (some ⟨b, 0, none⟩) c [] :: E) → m ≤ c → wpF P ops Q (i + 1) (env D n (pt d (.slice (some ⟨b, 0, none⟩) m c) L) g) w') : wpF P ops Q i (env D n L g) w := by
  have hlm : m ≤ 140737488355328 := Nat.le_trans (Nat.le_mul_of_pos_right _ (blt_iff.1 hb0)) hl
  have hge := grownCap_ge w m 0 e
  have hcm := grownCap_le_maxLen w m 0 e (by rw [maxLen_eq]; omega)
  have hstep : Step V w [] V (w.drew.alloc (.cells (Builtin.zeroCells z.cells m ++ Builtin.zeroCells z.cells (grownCap w m 0 e - m)) e)) [.row K e (some ⟨w.heap.size, 0, none⟩) (grownCap w m 0 e) []] := by
    refine Step.mk_ent (St.nilE hM.ok.inW) rfl rfl rfl (by simp) (fun b hb _ => heap_alloc_old w.drew _ hb) (fun en hen => ?_) (fun b hb => .inr (by simp [foot, Ent.foot] at hb; omega)) (by simp [foot, Ent.foot])
    rw [List.mem_singleton.1 hen]
    refine ⟨[], rfl, by simp, ?_, .inr ⟨w.heap.size, _, _, rfl, Nat.zero_le _, heap_alloc_new w.drew _, Nat.zero_le _, hcm, ?_, ?_⟩⟩
    · simp
    · rw [Array.size_append, size_zeroCells, size_zeroCells, hzs, ← Nat.add_mul]
      congr 1; omega
    · simp
  refine wpF_value (w' := w.drew.alloc _) h (fun o ho => ?_) (k _ _ _ (Step.call (Ei := []) hM hstep) hge)
  unfold execOp
  simp only [ho, resolve, invoke, builtin, Sem.run_bind, Sem.run_pure, Result.andThen_ok, List.map_toArray, List.map_cons, List.map_nil, hs, hx, run_app0_nil ht hb hz hu (blt_iff.1 hb0) K.pos hm0 hl]
end
section
variable {P : Program} {F : List Ent} {V : VT} {ρ : Operand → Value}
/-- A row cut to nothing, or a nil slice. -/
theorem Y_slice0 {A : Option Addr} {c n z : Nat} {t e : TypeId} {x y : Operand} (ht : elemTy P t = some (e, z)) (hx : ρ x = .slice A n c) (hhi : bnd ρ (some y) n 0) (hA : A = none → c = 0) : Yv P V F ρ (.slice t x none (some y) none) (.slice A 0 c) := fun o ho V' w _ _ => by
  obtain ⟨hu, hz⟩ := elemTy_ok ht
  obtain ⟨k, hk⟩ := hhi
  have hA0 : (if c = 0 then A else A.map (·.add (0 * z))) = A := by
    split
    · rfl
    · cases A with
      | none => rfl
      | some a => simp [Addr.add]
  unfold execOp
  simp [ho, hx, Instr.sliceAt, Instr.slice, run_underlying hu, Instr.sliceBounds, Instr.sliceBound, asIntOf, hk, run_sz (w := w) hz]
  simpa using hA0
end
end Go.Vk
