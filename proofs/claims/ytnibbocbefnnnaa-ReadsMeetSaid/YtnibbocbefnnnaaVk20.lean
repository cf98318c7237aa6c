import Derived.Test.YtnibbocbefnnnaaVk19
set_option linter.unusedVariables false
namespace Go.Vk
variable {D : List Deferred}
abbrev Ver := Int × Str × Bool
abbrev Item := Str × List Ver
abbrev verK : Kd Ver := prK (intK .i64) (prK strK boolK)
def UP (l : List Str) : Prop := l.Pairwise (· < ·)
def keysOf (L : List Item) : List Str := L.map (·.1)
/-- A space's keys rise, and none is without versions. -/
def SpI (L : List Item) : Prop := UP (keysOf L) ∧ ∀ p, p ∈ L → p.2 ≠ []
def spParts (t1 t2 : TypeId) (b : Nat) (A : Option Addr) (c m : Nat) (L : List Item) (la ma : Int) : List Ent :=
  [.blk b (.cells #[.slice A (keysOf L).length c, .map (some m), .int .i64 la, .int .i64 ma] t1), .row strK t2 A c (keysOf L), mapE false (slK verK) m (fun k_ => lk k_ L)]
def spEn (t1 t2 : TypeId) (b : Nat) (A : Option Addr) (c m : Nat) (L : List Item) (la ma : Int) : Ent :=
  .pk (foot (spParts t1 t2 b A c m L la ma)) (fun V w => SpI L ∧ ∀ e, e ∈ spParts t1 t2 b A c m L la ma → e.holds V w) (fun V w h x hx => by
    obtain ⟨e, he, hx⟩ := List.mem_flatMap.1 hx
    exact Ent.lt (h.2 e he) x hx) (fun V V' w w' hl h hs => ⟨h.1, fun e he => Ent.same hl (h.2 e he) fun b hb => hs b (List.mem_flatMap.2 ⟨e, he, hb⟩)⟩)
section
variable {V0 V : VT} {w0 w : World} {E0 E F : List Ent} {t1 t2 : TypeId} {b : Nat} {A : Option Addr} {c m : Nat} {L : List Item} {la ma : Int}
theorem Step.spOk (h : Step V0 w0 E0 V w E) (j : Nat) (hj : E[j]? = some (spEn t1 t2 b A c m L la ma)) : SpI L := (h.ok.holds _ (List.mem_of_getElem? hj)).1
theorem Step.openSp (h : Step V0 w0 E0 V w E) (j : Nat) (hj : E[j]? = some (spEn t1 t2 b A c m L la ma)) :
    Step V0 w0 E0 V w (.blk b (.cells #[.slice A (keysOf L).length c, .map (some m), .int .i64 la, .int .i64 ma] t1) :: .row strK t2 A c (keysOf L) :: mapE false (slK verK) m (fun k_ => lk k_ L) :: E.eraseIdx j) := by
  have hf := h.front j hj
  have hfo : foot (spEn t1 t2 b A c m L la ma :: E.eraseIdx j) = foot (spParts t1 t2 b A c m L la ma ++ E.eraseIdx j) := by simp [foot, spEn, Ent.foot]
  refine ⟨hf.os, hf.tape, hf.output, hf.size, hf.frame, hf.le, fun b hb => hf.newE b (by rw [hfo]; exact hb), hf.newV, ⟨hf.ok.inW, fun e he => ?_, fun b hb => hf.ok.apart b (by rw [hfo]; exact hb), ?_⟩⟩
  · rcases List.mem_append.1 (show e ∈ spParts t1 t2 b A c m L la ma ++ E.eraseIdx j from he) with he | he
    · exact (hf.ok.holds (spEn t1 t2 b A c m L la ma) (by simp)).2 e he
    · exact hf.ok.holds e (List.mem_cons_of_mem _ he)
  · have := hf.ok.nodup
    rw [hfo] at this; exact this
theorem Step.closeSp {ks : List Str} {f : Str → Option (List Ver)} (hk : keysOf L = ks) (hf : (fun k_ => lk k_ L) = f) (ho : SpI L)
    (h : Step V0 w0 E0 V w (.blk b (.cells #[.slice A ks.length c, .map (some m), .int .i64 la, .int .i64 ma] t1) :: .row strK t2 A c ks :: mapE false (slK verK) m f :: F)) : Step V0 w0 E0 V w (spEn t1 t2 b A c m L la ma :: F) := by
  subst hk; subst hf
  have hfo : foot (spEn t1 t2 b A c m L la ma :: F) = foot (spParts t1 t2 b A c m L la ma ++ F) := by simp [foot, spEn, Ent.foot]
  have h' : Step V0 w0 E0 V w (spParts t1 t2 b A c m L la ma ++ F) := h
  refine ⟨h'.os, h'.tape, h'.output, h'.size, h'.frame, h'.le, fun b hb => h'.newE b (by rw [← hfo]; exact hb), h'.newV, ⟨h'.ok.inW, fun e he => ?_, fun b hb => h'.ok.apart b (by rw [← hfo]; exact hb), by rw [hfo]; exact h'.ok.nodup⟩⟩
  rcases List.mem_cons.1 he with rfl | he
  · exact ⟨ho, fun e he => h'.ok.holds e (List.mem_append_left _ he)⟩
  · exact h'.ok.holds e (List.mem_append_right _ he)
end
theorem Step.reSp {V0 V : VT} {w0 w : World} {E0 B F : List Ent} {t1 t2 : TypeId} {b : Nat} {A : Option Addr} {c m : Nat} {L L' : List Item} {la ma : Int} (hq : L = L') (h : Step V0 w0 E0 V w (B ++ spEn t1 t2 b A c m L la ma :: F)) : Step V0 w0 E0 V w (B ++ spEn t1 t2 b A c m L' la ma :: F) := hq ▸ h
section
variable {P : Program} {F : List Ent} {V : VT} {ρ : Operand → Value}
end
section
variable {P : Program} {ops : Array Oper} {Q : Exit → Act → World → Prop} {n i : Nat} {L : List (Nat × Value)} {g : Nat → Value} {w : World}
end
section
variable {P : Program} {F : List Ent} {V : VT} {ρ : Operand → Value}
end
end Go.Vk
