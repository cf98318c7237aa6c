import Derived.Test.YtnibbocbefnnnaaVk14
import Derived.Scope
set_option linter.unusedVariables false
namespace Go.Vk
variable {D : List Deferred}
section
variable {P : Program} {Q : Exit → Act → World → Prop} {a : Act} {w : World}
theorem ng_r (h : Q .ret a w) : Exit.noGoto Q .ret a w := h
end
def minS (a b : Str) : Str := bif decide (b < a) then b else a
def maxS (a b : Str) : Str := bif decide (a < b) then b else a
theorem minS_len {a b : Str} {n : Nat} (ha : a.length ≤ n) (hb : b.length ≤ n) : (minS a b).length ≤ n := by unfold minS; cases decide (b < a) <;> assumption
theorem maxS_len {a b : Str} {n : Nat} (ha : a.length ≤ n) (hb : b.length ≤ n) : (maxS a b).length ≤ n := by unfold maxS; cases decide (a < b) <;> assumption
section
variable {P : Program} {F : List Ent} {V : VT} {ρ : Operand → Value}
theorem run_min (ts : Array TypeId) (ty : TypeId) (a b : Str) (w : World) : (Builtin.min_ ts ty #[bs a, bs b]).run P w = .ok (bs (minS a b)) w := by
  have h1 : (Op.bytesLess (⟨a.toArray⟩ : ByteArray).toList (⟨b.toArray⟩ : ByteArray).toList || (⟨a.toArray⟩ : ByteArray).toList == (⟨b.toArray⟩ : ByteArray).toList) = !decide (b < a) := str_le ⟨a.toArray⟩ ⟨b.toArray⟩
  simp only [Builtin.min_, List.foldlM, Builtin.min2, bs, Op.stringOp, Sem.run_bind, Sem.run_pure, Result.andThen_ok, asBool, h1, minS]
  cases decide (b < a) <;> rfl
theorem run_max (ts : Array TypeId) (ty : TypeId) (a b : Str) (w : World) : (Builtin.max_ ts ty #[bs a, bs b]).run P w = .ok (bs (maxS a b)) w := by
  have h1 : Op.bytesLess (⟨a.toArray⟩ : ByteArray).toList (⟨b.toArray⟩ : ByteArray).toList = decide (a < b) := str_lt ⟨a.toArray⟩ ⟨b.toArray⟩
  simp only [Builtin.max_, List.foldlM, Builtin.max2, bs, Op.stringOp, Sem.run_bind, Sem.run_pure, Result.andThen_ok, asBool, h1, maxS]
  cases decide (a < b) <;> rfl
theorem Y_min {tys : Array TypeId} {x y : Operand} (a b : Str) (hx : ρ x = bs a) (hy : ρ y = bs b) : Yv P V F ρ (.call ⟨.builtin .min, #[x, y], tys⟩) (bs (minS a b)) := fun o ho V' w _ _ => by
  unfold execOp
  simp only [ho, resolve, invoke, builtin, Sem.run_bind, Sem.run_pure, Result.andThen_ok, List.map_toArray, List.map_cons, List.map_nil, hx, hy, run_min]
theorem Y_max {tys : Array TypeId} {x y : Operand} (a b : Str) (hx : ρ x = bs a) (hy : ρ y = bs b) : Yv P V F ρ (.call ⟨.builtin .max, #[x, y], tys⟩) (bs (maxS a b)) := fun o ho V' w _ _ => by
  unfold execOp
  simp only [ho, resolve, invoke, builtin, Sem.run_bind, Sem.run_pure, Result.andThen_ok, List.map_toArray, List.map_cons, List.map_nil, hx, hy, run_max]
end
section
theorem ba_beq (x y : Str) : ((⟨x.toArray⟩ : ByteArray) == (⟨y.toArray⟩ : ByteArray)) = decide (x = y) := by
  show (x.toArray == y.toArray) = decide (x = y)
  rw [Bool.eq_iff_iff]
  simp
variable {P : Program} {F : List Ent} {V : VT} {ρ : Operand → Value} {w : World}
def spanTy (P : Program) (t : TypeId) : Option (TypeId × TypeId) :=
  match P.underlying t with
  | some (.struct fs) => match fs.toList with
    | [f1, f2] => cond (f1.name != "_" && f2.name != "_" && f1.offset == 0 && f2.offset == 1 && strTy P f1.type && strTy P f2.type && aggOf P f1.type == some false && aggOf P f2.type == some false && szOf P f1.type == some 1 && szOf P f2.type == some 1 && !P.stoodInHeld t && !P.eqGuardType P.depth t) (some (f1.type, f2.type)) none
    | _ => none
  | _ => none
theorem run_eqSpan {t u v : TypeId} (h : spanTy P t = some (u, v)) (a b c d : Str) : (Op.equal t (.agg #[bs a, bs b]) (.agg #[bs c, bs d])).run P w = .ok (decide (a = c) && decide (b = d)) w ∧ (∀ x y, (eqGuard .eql t x y (.agg #[bs a, bs b]) (.agg #[bs c, bs d])).run P w = .ok () w) ∧ (∀ x y, (eqGuard .neq t x y (.agg #[bs a, bs b]) (.agg #[bs c, bs d])).run P w = .ok () w) := by
  unfold spanTy at h
  split at h
  · rename_i fs hu
    split at h
    · rename_i f1 f2 hfs
      obtain rfl : fs = #[f1, f2] := Array.ext' hfs
      cases hb : (f1.name != "_" && f2.name != "_" && f1.offset == 0 && f2.offset == 1 && strTy P f1.type && strTy P f2.type && aggOf P f1.type == some false && aggOf P f2.type == some false && szOf P f1.type == some 1 && szOf P f2.type == some 1 && !P.stoodInHeld t && !P.eqGuardType P.depth t) with
      | false => rw [hb] at h; cases h
      | true =>
        simp only [Bool.and_eq_true, bne_iff_ne, beq_iff_eq, Bool.not_eq_true'] at hb
        obtain ⟨⟨⟨⟨⟨⟨⟨⟨⟨⟨⟨n1, n2⟩, o1⟩, o2⟩, s1⟩, s2⟩, a1⟩, a2⟩, z1⟩, z2⟩, hst⟩, hgd⟩ := hb
        have p1 : ∀ x y : Str, (part f1.type #[bs x, bs y] 0).run P w = .ok (bs x) w := fun x y => run_part z1 a1 rfl
        have p2 : ∀ x y : Str, (part f2.type #[bs x, bs y] 1).run P w = .ok (bs y) w := fun x y => run_part z2 a2 rfl
        have e1 : ∀ (dd : Nat) (x y : Str), (Op.equalIn (dd + 1) f1.type (bs x) (bs y)).run P w = .ok (decide (x = y)) w := fun dd x y => by
          simp [Op.equalIn, run_underlying (strTy_ok s1), bs, ba_beq]
        have e2 : ∀ (dd : Nat) (x y : Str), (Op.equalIn (dd + 1) f2.type (bs x) (bs y)).run P w = .ok (decide (x = y)) w := fun dd x y => by
          simp [Op.equalIn, run_underlying (strTy_ok s2), bs, ba_beq]
        refine ⟨?_, fun x y => ?_, fun x y => ?_⟩
        · show (Op.equalIn (9998 + 1 + 1) t _ _).run P w = _
          rw [Op.equalIn]
          simp [run_underlying hu, hst, n1, n2, o1, o2, p1, p2, e1, e2]
          by_cases h1 : a = c <;> by_cases h2 : b = d <;> simp [h1, h2]
        · simp [eqGuard, hgd]
        · simp [eqGuard, hgd]
    · cases h
  · cases h
end
section
variable {P : Program} {F : List Ent} {V : VT} {ρ : Operand → Value}
def sameP (a b c d : Str) : Bool := decide (a = c) && decide (b = d)
theorem Y_neqSpan {t u : TypeId} {x y : Operand} (a b c d : Str) (hx : ρ x = .agg #[bs a, bs b]) (hy : ρ y = .agg #[bs c, bs d]) (ht : (spanTy P t).isSome = true) : Yv P V F ρ (.binOp .neq t x y u) (.bool (!sameP a b c d)) := fun o ho V' w _ _ => by
  obtain ⟨⟨u1, u2⟩, h⟩ := Option.isSome_iff_exists.1 ht
  obtain ⟨h1, _, h2⟩ := run_eqSpan (w := w) h a b c d
  unfold execOp
  simp only [ho, hx, hy, Sem.run_bind, h2, Result.andThen_ok, binOp, h1, Sem.run_pure, sameP]
end
section
variable {P : Program} {ops : Array Oper} {Q : Exit → Act → World → Prop} {n i : Nat} {L : List (Nat × Value)} {g : Nat → Value} {w : World}
theorem wpF_loadW {V0 V : VT} {w0 : World} {E0 E : List Ent} {A : Option Addr} {c : Nat} {xs : List Str} {t e : TypeId} {x : Operand} {d : Option Nat} {b m : Nat} (hM : Step V0 w0 E0 V w E) (j : Nat) (hj : E[j]? = some (.row strK e A c xs)) (hA : A = some ⟨b, 0, none⟩)
    (h : opAt ops n L g i = some (.load t x, d)) (hx : opv n L g x = .pointer (some ⟨b, m, none⟩)) (ha : aggOf P t = some false) (hl : m < xs.length)
    (k : (xs.getD m []).length ≤ maxL → wpF P ops Q (i + 1) (env D n (pt d (bs (xs.getD m [])) L) g) w) : wpF P ops Q i (env D n L g) w := by
  subst hA
  obtain ⟨hx1, _, _, h1⟩ := row_open (hM.ok.holds _ (List.mem_of_getElem? hj))
  rcases h1 with ⟨h0, _⟩ | ⟨b', cur, hb, hg, _, _, ht⟩
  · cases h0
  cases hb
  have hv : xs[m]? = some (xs.getD m []) := by simp [List.getD_eq_getElem?_getD, hl]
  have hc : w.cell? ⟨b, m, none⟩ = some (bs (xs.getD m [])) := by rw [cell_of_blk hg, ht m hl, List.getElem?_map, hv]; rfl
  refine wpF_value (v := bs (xs.getD m [])) (w' := w) h (fun o ho => ?_) (k (hx1 _ (List.mem_of_getElem? hv)))
  unfold execOp
  rw [ho]
  simp [Instr.loadAt, hx, Instr.sureAddr, loadVar, run_agg (w := w) ha, hc]
theorem wpF_sliceLoW {V0 V : VT} {w0 : World} {E0 E : List Ent} {A : Option Addr} {c : Nat} {xs : List Str} {t e e' : TypeId} {x y : Operand} {d : Option Nat} (hM : Step V0 w0 E0 V w E) (j : Nat) (hj : E[j]? = some (.row strK e A c xs))
    (h : opAt ops n L g i = some (.slice t x (some y) none none, d)) (ht : elemTy P t = some (e', 1)) (hx : opv n L g x = .slice A xs.length c) (l : Nat) (hlo : bnd (opv n L g) (some y) 0 l) (hl : l < xs.length)
    (k : ∀ b, A = some ⟨b, 0, none⟩ → wpF P ops Q (i + 1) (env D n (pt d (.slice (some ⟨b, l, none⟩) (xs.length - l) (c - l)) L) g) w) : wpF P ops Q i (env D n L g) w := by
  obtain ⟨_, _, hc, h1⟩ := row_open (hM.ok.holds _ (List.mem_of_getElem? hj))
  rcases h1 with ⟨_, _, rfl⟩ | ⟨b, cur, rfl, _⟩
  · simp at hl
  refine wpF_value (w' := w) h (fun o ho => ?_) (k b rfl)
  obtain ⟨hu, hz⟩ := elemTy_ok ht
  have hb := run_bounds (P := P) (w := w) true hlo (hi := none) (show bnd (opv n L g) none xs.length xs.length from rfl) (Nat.le_of_lt hl) hc hc
  simp only [Option.map_none, Option.map_some] at hb
  unfold execOp
  simp only [ho, hx, Sem.run_bind, Instr.sliceAt, run_underlying hu, Result.andThen_ok, Instr.slice, Option.map_none, Option.map_some, hb, run_sz (w := w) hz, Sem.run_pure]
  rw [if_neg (by omega)]
  simp [addr_add]
theorem wpF_sliceHiW {V0 V : VT} {w0 : World} {E0 E : List Ent} {A : Option Addr} {c : Nat} {xs : List Str} {t e e' : TypeId} {x y : Operand} {d : Option Nat} (hM : Step V0 w0 E0 V w E) (j : Nat) (hj : E[j]? = some (.row strK e A c xs))
    (h : opAt ops n L g i = some (.slice t x none (some y) none, d)) (ht : elemTy P t = some (e', 1)) (hx : opv n L g x = .slice A xs.length c) (m : Nat) (hhi : bnd (opv n L g) (some y) xs.length m) (hl : m ≤ xs.length)
    (k : Step V0 w0 E0 V w (E.set j (.row strK e A c (xs.take m))) → wpF P ops Q (i + 1) (env D n (pt d (.slice A m c) L) g) w) : wpF P ops Q i (env D n L g) w := by
  have hf := hM.front j hj
  have hpart : St V w [.row strK e A c xs] := St.part (F := E.eraseIdx j) hf.ok
  obtain ⟨hx1, hm1, hc, h1⟩ := row_open (hpart.holds _ (List.mem_singleton.2 rfl))
  have hS : Step V w [.row strK e A c xs] V w [.row strK e A c (xs.take m)] := by
    rcases h1 with ⟨rfl, rfl, rfl⟩ | ⟨b, cur, rfl, hg, hcm, hsz, htk⟩
    · rw [List.take_nil]; exact Step.refl hpart
    · refine row_res hpart rfl rfl rfl (Nat.le_refl _) (fun _ _ _ => rfl) hg (by simp; omega) hcm hsz (by simp; omega) (fun z hz => hx1 z (List.mem_of_mem_take hz)) (fun q hq => ?_) (.inl (by simp [foot, Ent.foot]))
      simp at hq
      rw [htk q (by omega), List.map_take, List.getElem?_take, if_pos (by omega)]
  have hstep := (Step.call (Ei := [.row strK e A c xs]) hf hS).perm (eraseIdx_set_perm E j _ _ hj)
  refine wpF_value (w' := w) h (fun o ho => ?_) (k hstep)
  obtain ⟨hu, hz⟩ := elemTy_ok ht
  have hb := run_bounds (P := P) (w := w) true (lo := none) (show bnd (opv n L g) none 0 0 from rfl) hhi (Nat.zero_le _) (Nat.le_trans hl hc) hc
  simp only [Option.map_none, Option.map_some] at hb
  unfold execOp
  simp only [ho, hx, Sem.run_bind, Instr.sliceAt, run_underlying hu, Result.andThen_ok, Instr.slice, Option.map_none, Option.map_some, hb, run_sz (w := w) hz, Sem.run_pure]
  rcases h1 with ⟨rfl, rfl, rfl⟩ | ⟨b, cur, rfl, _⟩
  · simp
  · split
    · simp
    · simp [addr_add]
theorem wpF_clearW {V0 V : VT} {w0 : World} {E0 E : List Ent} {A : Option Addr} {c c' : Nat} {xs : List Str} {t e e' : TypeId} {x : Operand} {d : Option Nat} {b l : Nat} (hM : Step V0 w0 E0 V w E) (j : Nat) (hj : E[j]? = some (.row strK e A c xs)) (hA : A = some ⟨b, 0, none⟩)
    (h : opAt ops n L g i = some (.call ⟨.builtin .clear, #[x], #[t]⟩, d)) (ht : elemTy P t = some (e', 1)) (hx : opv n L g x = .slice (some ⟨b, l, none⟩) (xs.length - l) c') (hzv : zeroOf P e' = some (bs [])) (hl : l < xs.length)
    (k : ∀ w', Step V0 w0 E0 V w' (E.set j (.row strK e A c (xs.take l ++ List.replicate (xs.length - l) []))) → wpF P ops Q (i + 1) (env D n (pt d (.tuple #[]) L) g) w') : wpF P ops Q i (env D n L g) w := by
  subst hA
  have hf := hM.front j hj
  have hpart : St V w [.row strK e (some ⟨b, 0, none⟩) c xs] := St.part (F := E.eraseIdx j) hf.ok
  obtain ⟨hx1, hm1, hc1, h1⟩ := row_open (hpart.holds _ (List.mem_singleton.2 rfl))
  rcases h1 with ⟨h0, _⟩ | ⟨b', cur, hb, hg, hcm, hsz, htk⟩
  · cases h0
  cases hb
  have hlen : (xs.take l ++ List.replicate (xs.length - l) ([] : Str)).length = xs.length := by simp; omega
  have hS1 : Step V w [.row strK e (some ⟨b, 0, none⟩) c xs] V w [.blk b (.cells cur e)] := Step.mk_ent hpart rfl rfl rfl (Nat.le_refl _) (fun _ _ _ => rfl) (fun en hen => by simp at hen; subst hen; exact hg) (fun k hk => .inl (by simpa [foot, Ent.foot] using hk)) (by simp [foot, Ent.foot])
  obtain ⟨w', hr, hs2⟩ := run_storeCells_blk (P := P) (List.replicate (xs.length - l) (bs [])) cur l 0 w hS1.ok (fun v hv => by rw [(List.mem_replicate.1 hv).2]; rfl) (by simp; omega)
  have hg2 : w'.heap[b]? = some (.cells (stv cur l (List.replicate (xs.length - l) (bs []))) e) := hs2.ok.holds (.blk b (.cells (stv cur l (List.replicate (xs.length - l) (bs []))) e)) (by simp)
  have hS3 : Step V w' [.blk b (.cells (stv cur (l + 0) (List.replicate (xs.length - l) (bs []))) e)] V w' [.row strK e (some ⟨b, 0, none⟩) c (xs.take l ++ List.replicate (xs.length - l) [])] := by
    refine row_res hs2.ok rfl rfl rfl (Nat.le_refl _) (fun _ _ _ => rfl) hg2 (by rw [hlen]; exact hc1) hcm (by rw [stv_size]; exact hsz) (by rw [hlen]; exact hm1) (fun z hz => ?_) (fun q hq => ?_) (.inl (by simp [foot, Ent.foot]))
    · rcases List.mem_append.1 hz with h | h
      · exact hx1 z (List.mem_of_mem_take h)
      · rw [(List.mem_replicate.1 h).2]; simp
    · rw [hlen] at hq
      have hlt : ((xs.take l).map bs).length = l := by simp; omega
      rw [stv_get, List.map_append, List.length_replicate]
      by_cases e1 : l ≤ q
      · rw [if_pos ⟨e1, by omega, by omega⟩, List.getElem?_append_right (by omega), hlt, List.map_replicate]
      · rw [if_neg (by omega), htk q hq, List.getElem?_append_left (by omega), List.map_take, List.getElem?_take, if_pos (by omega)]
  have h1 := Step.call (Ei := [.row strK e (some ⟨b, 0, none⟩) c xs]) (Eo := [.blk b (.cells cur e)]) hf hS1
  have h2 := Step.call (Ei := [.blk b (.cells cur e)]) (F := E.eraseIdx j) h1 hs2
  have h3 := Step.call (Ei := [.blk b (.cells (stv cur (l + 0) (List.replicate (xs.length - l) (bs []))) e)]) (F := E.eraseIdx j) h2 hS3
  refine wpF_value (v := .tuple #[]) (w' := w') h ?_ (k w' (h3.perm (eraseIdx_set_perm E j _ _ hj)))
  intro o ho
  obtain ⟨hu, hz⟩ := elemTy_ok ht
  have hzc : (Builtin.zeroCells (bs []).cells (xs.length - l)).toList = List.replicate (xs.length - l) (bs []) := zeroCells_one (bs []) _
  obtain ⟨q, hq⟩ : ∃ q, xs.length - l = q + 1 := ⟨xs.length - l - 1, by omega⟩
  unfold execOp
  rw [hq] at hzc hr hx
  simp [ho, resolve, invoke, builtin, hx, Builtin.clear_, run_underlying hu, run_zero (w := w) hzv, hzc, hr]
end
section
variable {P : Program} {F : List Ent} {V : VT} {ρ : Operand → Value}
theorem Rd.pre {α : Type} {K : Kd α} {A : Option Addr} {c : Nat} {xs ys : List α} (h : Rd K V A c xs) (m : Nat) (hm : m ≤ xs.length) (hy : xs.take m = ys) : Rd K V A c ys := by
  have hl : ys.length = m := by rw [← hy]; simp; omega
  have h1 := h.max
  have h2 := h.cap
  refine ⟨by omega, by omega, fun hn => ?_⟩
  obtain ⟨b, o, hA, hat⟩ := h.cells (by intro e; subst e; rw [List.take_nil] at hy; exact hn hy.symm)
  refine ⟨b, o, hA, fun j hj => ?_⟩
  have hg : ys.getD j K.d = xs.getD j K.d := by rw [← hy, List.getD_eq_getElem?_getD, List.getD_eq_getElem?_getD, List.getElem?_take, if_pos (by omega)]
  rw [hg]
  exact hat j (by omega)
end
end Go.Vk
