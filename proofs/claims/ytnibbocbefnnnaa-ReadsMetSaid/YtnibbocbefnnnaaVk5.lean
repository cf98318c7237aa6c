import Derived.Test.YtnibbocbefnnnaaVk4
set_option linter.unusedVariables false
namespace Go.Vk
variable {D : List Deferred}
section
variable {P : Program} {ops : Array Oper} {Q : Exit → Act → World → Prop} {i : Nat} {w : World} {n : Nat} {L : List (Nat × Value)} {g : Nat → Value}
def byteK : Kd UInt8 where
  sz := 1
  pos := by decide
  d := 0
  rep := fun _ x cs => cs = [.int .u8 (x.toNat : Int)]
  mono := fun _ h => h
  len := fun h => by rw [h]; rfl
  one := fun h v hv => by rw [h] at hv; simp at hv; subst hv; rfl
theorem Reps.bytes (V : VT) : ∀ l : Str, Reps byteK V l (l.map fun b => Value.int .u8 (b.toNat : Int))
  | [] => rfl
  | x :: l => ⟨[_], _, rfl, rfl, Reps.bytes V l⟩

/-- What an append takes its elements from. -/
structure Src {α : Type} (P : Program) (K : Kd α) (V : VT) (x : Value) (ys : List α) : Prop where
  ex : ∃ news, Reps K V ys news ∧ ∀ W : World, V.inW W → (Builtin.lenOf x).run P W = .ok ys.length W ∧ (Builtin.firstCells K.sz ys.length x).run P W = .ok news.toArray W
theorem Src.rd {α : Type} {K : Kd α} {V : VT} {A : Option Addr} {c : Nat} {ys : List α} (h : Rd K V A c ys) : Src P K V (.slice A ys.length c) ys := by
  cases hy : ys with
  | nil =>
    refine ⟨[], rfl, fun W _ => ⟨by simp [Builtin.lenOf], ?_⟩⟩
    cases A <;> simp [Builtin.firstCells, loadCells, loadCellsFrom]
  | cons y ys' =>
    rw [← hy]
    obtain ⟨b, o, rfl, hat⟩ := h.cells (by rw [hy]; simp)
    obtain ⟨cs, hr, hc⟩ := Rd.reps ys hat
    refine ⟨cs, hr, fun W hW => ⟨by simp [Builtin.lenOf], ?_⟩⟩
    refine run_firstCells_some (P := P) W K.sz ys.length ⟨b, o, none⟩ ys.length c cs hr.len (fun j v hj => ?_)
    rw [addr_add]
    exact hW _ _ _ (hc j v hj)
theorem Src.str {V : VT} (l : Str) : Src P byteK V (bs l) l := by
  refine ⟨_, Reps.bytes V l, fun W _ => ⟨by simp [Builtin.lenOf, bs]; rfl, ?_⟩⟩
  have := Lib.run_firstCells_string (P := P) W 1 ⟨l.toArray⟩
  exact this
theorem Src.nil {α : Type} {K : Kd α} {V : VT} : Src P K V (.slice none 0 0) [] := ⟨[], rfl, fun W _ => ⟨by simp [Builtin.lenOf], by simp [Builtin.firstCells]⟩⟩

theorem Step.nilrow {α : Type} {V0 V : VT} {w0 : World} {E0 E : List Ent} (h : Step V0 w0 E0 V w E) (K : Kd α) (e : TypeId) : Step V0 w0 E0 V w (.row K e none 0 [] :: E) := by
  refine Step.call (Ei := []) (Eo := [.row K e none 0 []]) h (Step.mk_ent (St.nilE h.ok.inW) rfl rfl rfl (Nat.le_refl _) (fun _ _ _ => rfl) ?_ (fun b hb => by simp [foot, Ent.foot] at hb) (by simp [foot, Ent.foot]))
  intro en hen
  simp at hen
  subst hen
  exact ⟨[], rfl, by simp, World.ownsRow_nil w 0 e K.sz⟩
theorem Step.blkrow {α : Type} {V0 V : VT} {w0 : World} {E0 E : List Ent} {b : Nat} {cs : Array Value} {e : TypeId} (h : Step V0 w0 E0 V w E) (j : Nat) (hj : E[j]? = some (.blk b (.cells cs e))) {K : Kd α} {ys : List α} (hr : Reps K V ys cs.toList) (hm : ys.length ≤ maxL) :
    Step V0 w0 E0 V w (.row K e (some ⟨b, 0, none⟩) ys.length ys :: E.eraseIdx j) := by
  have hf := h.front j hj
  have hpart : St V w [.blk b (.cells cs e)] := St.part (F := E.eraseIdx j) hf.ok
  refine Step.call (Ei := [.blk b (.cells cs e)]) (Eo := [.row K e (some ⟨b, 0, none⟩) ys.length ys]) hf (Step.mk_ent hpart rfl rfl rfl (Nat.le_refl _) (fun _ _ _ => rfl) ?_ (fun k hk => .inl (by simpa [foot, Ent.foot] using hk)) (by simp [foot, Ent.foot]))
  intro en hen
  simp at hen
  subst hen
  have hb : w.heap[b]? = some (.cells cs e) := hpart.holds (.blk b (.cells cs e)) (by simp)
  have hl : cs.size = ys.length * K.sz := by simpa using hr.len
  refine ⟨cs.toList, hr, hm, by simpa using hl, .inr ⟨b, ys.length, cs, rfl, Nat.zero_le _, hb, Nat.le_refl _, ?_, hl, ?_⟩⟩
  · rw [maxLen_eq]; unfold maxL at hm; omega
  · rw [← hl, ← Array.length_toList]; exact List.take_length
theorem wpF_append {α : Type} {K : Kd α} {V0 V : VT} {w0 : World} {E0 E : List Ent} {t u e : TypeId} {by_ c : Nat} {A : Option Addr} {s x : Operand} {d : Option Nat} {xs ys : List α} {xv : Value} (hM : Step V0 w0 E0 V w E) (j : Nat) (hj : E[j]? = some (.row K e A c xs))
    (h : opAt ops n L g i = some (.call ⟨.builtin .append, #[s, x], #[t, u]⟩, d)) (hs : opv n L g s = .slice A xs.length c) (hx : opv n L g x = xv) (ht : elemTy P t = some (e, K.sz)) (hb : (P.info? e).map (·.bytes) = some by_) (hz : (zeroOf P e).map (·.cells.size) = some K.sz) (hu : srcTy P u = true) (hb0 : Nat.blt 0 by_ = true)
    (hsrc : Src P K V xv ys) (hl : (xs.length + ys.length) * by_ ≤ 140737488355328)
    (k : ∀ A' c' w', Step V0 w0 E0 V w' (.row K e A' c' (xs ++ ys) :: E.eraseIdx j) → wpF P ops Q (i + 1) (env D n (pt d (.slice A' (xs ++ ys).length c') L) g) w') : wpF P ops Q i (env D n L g) w := by
  have hf := hM.front j hj
  have hpart : St V w [.row K e A c xs] := St.part (F := E.eraseIdx j) hf.ok
  obtain ⟨news, hr, hW⟩ := hsrc.ex
  obtain ⟨zv, hzv, hzs⟩ := Option.map_eq_some_iff.1 hz
  obtain ⟨o0, ho0, h1, _, _, _⟩ := opAt_ok (D := D) h
  obtain ⟨A', c', w', hrun, hstep⟩ := run_app_row (P := P) (ty := o0.type) hpart ht hb hzv hzs hu rfl hr hW (blt_iff.1 hb0) hl
  have hM' := Step.call (Ei := [.row K e A c xs]) hf hstep
  obtain ⟨o, ho, h1, h2, h3, h4⟩ := opAt_ok h
  rw [ho0] at ho
  cases ho
  rw [wpF_cons ho0, if_pos h3]
  refine .inl ?_
  unfold Oper.wp
  have hex : (execOp (env D n L g).eval o0).run P w = .ok (.value (.slice A' (xs ++ ys).length c')) w' := by
    rw [env_eval]
    unfold execOp
    simp only [h1, resolve, invoke, builtin, Sem.run_bind, Sem.run_pure, Result.andThen_ok, List.map_toArray, List.map_cons, List.map_nil, hs, hx, hrun]
  rw [hex, Oper.upon_value, h2, env_put _ _ _ _ _ h4]
  exact k A' c' w' hM'
/-- A row of one's own is written no more. -/
theorem Step.settleRow {α : Type} {K : Kd α} {V0 V : VT} {w0 : World} {E0 E : List Ent} {e : TypeId} {A : Option Addr} {c : Nat} {xs : List α} (hM : Step V0 w0 E0 V w E) (j : Nat) (hj : E[j]? = some (.row K e A c xs)) :
    ∃ V', V.le V' ∧ Step V0 w0 E0 V' w (E.eraseIdx j) ∧ Rd K V' A c xs := by
  have hf := hM.front j hj
  have hpart : St V w [.row K e A c xs] := St.part (F := E.eraseIdx j) hf.ok
  obtain ⟨cs, hrep, hmx, hown⟩ := hpart.holds (.row K e A c xs) (by simp)
  rcases hown.2 with ⟨hv, h0⟩ | ⟨b, cap, cur, hv, _, hg, hnc, hcm, hcs, htake⟩
  · injection hv with hA hn hc
    subst hA; subst hc
    have hxs : xs = [] := List.eq_nil_of_length_eq_zero h0
    subst hxs
    exact ⟨V, .refl V, hf.drop, ⟨hmx, by simp, fun h => absurd rfl h⟩⟩
  · injection hv with hA hn hc
    subst hA; subst hc
    have hblk : St V w [.blk b (.cells cur e (0, 0))] := by
      refine ⟨hpart.inW, fun en hen => ?_, fun k hk => hpart.apart k (by simpa [foot, Ent.foot] using hk), by simp [foot, Ent.foot]⟩
      simp at hen
      subst hen
      exact hg
    have h1 : Step V w [.row K e (some ⟨b, 0, none⟩) c xs] V w [.blk b (.cells cur e (0, 0))] :=
      Step.mk_ent hpart rfl rfl rfl (Nat.le_refl _) (fun _ _ _ => rfl) hblk.holds (fun k hk => .inl (by simpa [foot, Ent.foot] using hk)) (by simp [foot, Ent.foot])
    have h2 := Step.mk_settle hblk
    have h3 := Step.call (F := []) (by simpa using h1) h2
    refine ⟨V.add b cur, h2.le, Step.call (Ei := [.row K e (some ⟨b, 0, none⟩) c xs]) hf (by simpa using h3), ⟨hmx, hnc, fun _ => ⟨b, 0, rfl, fun j hj' => ?_⟩⟩⟩
    obtain ⟨ds, k1, k2⟩ := (hrep.up h2.le).get j hj'
    refine ⟨ds, k1, fun i v hv => ?_⟩
    have hc := k2 i v hv
    have hlt : j * K.sz + i < xs.length * K.sz := by
      have := (List.getElem?_eq_some_iff.1 hc).1
      rwa [hrep.len] at this
    rw [← htake, List.getElem?_take, if_pos hlt] at hc
    rw [Nat.zero_add]
    exact V.add_at b cur _ v (by simpa using hc)
/-- A literal slice that is only read. -/
theorem wpF_litR {α : Type} (K : Kd α) {V0 V : VT} {w0 : World} {E0 E : List Ent} {t e : TypeId} {len : Nat} {parts : Array (Nat × Operand)} {d : Option Nat} (hM : Step V0 w0 E0 V w E) (cs : Array Value)
    (h : opAt ops n L g i = some (.buildSlice t len parts, d)) (hc : bsl P (opv n L g) t len parts = some (e, cs)) (ys : List α) (hr : Reps K V ys cs.toList) (hlen : ys.length = len) (hm : ys.length ≤ maxL)
    (k : ∀ A c V' w', V.le V' → Step V0 w0 E0 V' w' E → Rd K V' A c ys → wpF P ops Q (i + 1) (env D n (pt d (.slice A ys.length c) L) g) w') : wpF P ops Q i (env D n L g) w := by
  refine wpF_lit hM cs h hc (fun b w' hM' => ?_)
  have hr' := hM'.blkrow 0 rfl hr hm
  obtain ⟨V', hle, hs, hrd⟩ := hr'.settleRow 0 rfl
  subst hlen
  exact k _ _ V' w' hle hs hrd
/-- A literal slice that is to be appended to. -/
theorem wpF_litW {α : Type} (K : Kd α) {V0 V : VT} {w0 : World} {E0 E : List Ent} {t e : TypeId} {len : Nat} {parts : Array (Nat × Operand)} {d : Option Nat} (hM : Step V0 w0 E0 V w E) (cs : Array Value)
    (h : opAt ops n L g i = some (.buildSlice t len parts, d)) (hc : bsl P (opv n L g) t len parts = some (e, cs)) (ys : List α) (hr : Reps K V ys cs.toList) (hlen : ys.length = len) (hm : ys.length ≤ maxL)
    (k : ∀ A c w', Step V0 w0 E0 V w' (.row K e A c ys :: E) → wpF P ops Q (i + 1) (env D n (pt d (.slice A ys.length c) L) g) w') : wpF P ops Q i (env D n L g) w := by
  refine wpF_lit hM cs h hc (fun b w' hM' => ?_)
  have hr' := hM'.blkrow 0 rfl hr hm
  subst hlen
  exact k _ _ w' hr'
theorem Reps.nils {α : Type} {K : Kd α} {V : VT} : Reps K V [] [] := rfl
theorem Reps.one_str {V : VT} {s : Str} (h : s.length ≤ maxL) : Reps strK V [s] [bs s] := ⟨[bs s], [], rfl, ⟨rfl, h⟩, rfl⟩
theorem wpF_caseB (t : Nat) (B : Bool) (ht : Nat.blt t n = true) (hl : look L g t = .bool B) (kt : B = true → wpF P ops Q i (env D n ((t, .bool true) :: L) g) w) (kf : B = false → wpF P ops Q i (env D n ((t, .bool false) :: L) g) w) : wpF P ops Q i (env D n L g) w := by
  cases hB : B with
  | true => exact wpF_slot t (.bool B) (.bool true) ht hl (by rw [hB]) (kt hB)
  | false => exact wpF_slot t (.bool B) (.bool false) ht hl (by rw [hB]) (kf hB)
theorem cells2 {V : VT} {b o : Nat} {u0 u1 : Value} (h0 : V b o = some u0) (h1 : V b (o + 1) = some u1) : ∀ j v, [u0, u1][j]? = some v → V b (o + j) = some v
  | 0, v, h => by simp at h; subst h; exact h0
  | 1, v, h => by simp at h; subst h; exact h1
  | j + 2, v, h => by simp at h
theorem cells3 {V : VT} {b o : Nat} {u0 u1 u2 : Value} (h0 : V b o = some u0) (h1 : V b (o + 1) = some u1) (h2 : V b (o + 2) = some u2) : ∀ j v, [u0, u1, u2][j]? = some v → V b (o + j) = some v
  | 0, v, h => by simp at h; subst h; exact h0
  | 1, v, h => by simp at h; subst h; exact h1
  | 2, v, h => by simp at h; subst h; exact h2
  | j + 3, v, h => by simp at h
theorem Rd.nil {α : Type} (K : Kd α) (V : VT) : Rd K V none 0 [] := ⟨by simp, by simp, fun h => absurd rfl h⟩
theorem Rd.eq {α : Type} {K : Kd α} {V : VT} {A : Option Addr} {c : Nat} {xs ys : List α} (h : Rd K V A c xs) (e : xs = ys) : Rd K V A c ys := e ▸ h
theorem wrapu64_ok (x : Int) (h : 0 ≤ x ∧ x < 18446744073709551616) : IntKind.u64.wrap x = x := wrap_u_ok .u64 rfl x h
theorem wp_ct {c : Operand} {x y : Code} (hc : opv n L g c = .bool true) (h : x.wp P Q (env D n L g) w) : (Code.cond c x y).wp P Q (env D n L g) w := wp_cond_true (by rw [env_eval, hc]) h
theorem wp_cf {c : Operand} {x y : Code} (hc : opv n L g c = .bool false) (h : y.wp P Q (env D n L g) w) : (Code.cond c x y).wp P Q (env D n L g) w := wp_cond_false (by rw [env_eval, hc]) h
end
end Go.Vk
