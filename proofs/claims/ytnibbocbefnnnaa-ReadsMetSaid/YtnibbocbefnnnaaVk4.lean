import Derived.Test.YtnibbocbefnnnaaVk3
import Derived.Laws.BytesArg
import Derived.Laws.Slices
import Derived.Lib.AppendStr
set_option linter.unusedVariables false
namespace Go.Vk
variable {D : List Deferred}
section
variable {P : Program} {ops : Array Oper} {Q : Exit → Act → World → Prop} {i : Nat} {w : World} {n : Nat} {L : List (Nat × Value)} {g : Nat → Value}
theorem run_noguard {op : BinOp} {t : TypeId} {x y : Operand} {a b : Value} (h : op ≠ .eql ∧ op ≠ .neq) : (eqGuard op t x y a b).run P w = .ok () w := by
  unfold eqGuard
  cases op <;> first | rfl | (simp at h)
theorem wpF_add {t u : TypeId} {x y : Operand} {d : Option Nat} (k : IntKind) (a b c : Int) (h : opAt ops n L g i = some (.binOp .add t x y u, d)) (hx : opv n L g x = .int k a) (hy : opv n L g y = .int k b) (hw : k.wrap (a + b) = c)
    (K : wpF P ops Q (i + 1) (env D n (pt d (.int k c) L) g) w) : wpF P ops Q i (env D n L g) w := by
  refine wpF_value (w' := w) h (fun o ho => ?_) K
  unfold execOp; rw [ho]; simp [run_noguard, hx, hy, binOp, Op.intArith, hw]
def intTy (P : Program) (t : TypeId) : Option IntKind :=
  match P.underlying t with
  | some (.int k) => some k
  | _ => none
theorem intTy_ok {t : TypeId} {k : IntKind} (h : intTy P t = some k) : P.underlying t = some (.int k) := by
  unfold intTy at h
  split at h
  · rename_i hu; cases h; exact hu
  · cases h
theorem wrap64_ok (x : Int) (h : -9223372036854775808 ≤ x ∧ x < 9223372036854775808) : IntKind.i64.wrap x = x := by
  show (if (true && decide (x % 18446744073709551616 ≥ 9223372036854775808)) = true then x % 18446744073709551616 - 18446744073709551616 else x % 18446744073709551616) = x
  simp only [Bool.true_and, decide_eq_true_eq]
  split <;> omega
theorem wrap_u_ok (k : IntKind) (hk : k.signed = false) (x : Int) (h : 0 ≤ x ∧ x < 2 ^ k.bits) : k.wrap x = x := by
  simp only [IntKind.wrap, hk, Bool.false_and, Bool.false_eq_true, if_false]
  exact Int.emod_eq_of_lt h.1 h.2

theorem bs_size (l : Str) : (⟨l.toArray⟩ : ByteArray).size = l.length := rfl
def strTy (P : Program) (t : TypeId) : Bool :=
  match P.underlying t with
  | some .string => true
  | _ => false
theorem strTy_ok {t : TypeId} (h : strTy P t = true) : P.underlying t = some .string := by
  unfold strTy at h
  split at h
  · rename_i hu; exact hu
  · cases h
/-- A bound of a slice expression. -/
def bnd (ρ : Operand → Value) (x : Option Operand) (dflt m : Nat) : Prop :=
  match x with
  | none => m = dflt
  | some x => ∃ k, ρ x = .int k (m : Int)
theorem run_bounds {ρ : Operand → Value} (sl : Bool) {lo hi : Option Operand} {len cap l h : Nat} (hlo : bnd ρ lo 0 l) (hhi : bnd ρ hi len h) (h1 : l ≤ h) (h2 : h ≤ cap) (h3 : len ≤ cap) :
    (Instr.sliceBounds sl len cap (lo.map ρ) (hi.map ρ) none).run P w = .ok (l, h, cap) w := by
  cases lo with
  | none =>
    cases hi with
    | none =>
      simp only [bnd] at hlo hhi
      subst hlo; subst hhi
      simp [Instr.sliceBounds]
    | some y =>
      obtain ⟨k, hk⟩ := hhi
      simp only [bnd] at hlo
      subst hlo
      simp [Instr.sliceBounds, hk, Instr.sliceBound, asIntOf, h2]
  | some x =>
    obtain ⟨kx, hkx⟩ := hlo
    cases hi with
    | none =>
      simp only [bnd] at hhi
      subst hhi
      simp [Instr.sliceBounds, hkx, Instr.sliceBound, asIntOf, h1]
    | some y =>
      obtain ⟨k, hk⟩ := hhi
      simp [Instr.sliceBounds, hk, hkx, Instr.sliceBound, asIntOf, h2, h1]
def elemTy (P : Program) (t : TypeId) : Option (TypeId × Nat) :=
  match P.underlying t with
  | some (.slice e) => (szOf P e).map fun z => (e, z)
  | _ => none
theorem elemTy_ok {t e : TypeId} {z : Nat} (h : elemTy P t = some (e, z)) : P.underlying t = some (.slice e) ∧ szOf P e = some z := by
  unfold elemTy at h
  split at h
  · rename_i e' hu
    obtain ⟨z', hz, h2⟩ := Option.map_eq_some_iff.1 h
    cases h2
    exact ⟨hu, hz⟩
  · cases h
theorem wpF_index {α : Type} {K : Kd α} {V : VT} {A : Option Addr} {c : Nat} {xs : List α} {t e : TypeId} {x y : Operand} {d : Option Nat} (hR : Rd K V A c xs) (ik : IntKind) (a : Int)
    (h : opAt ops n L g i = some (.indexAddr t x y, d)) (ht : elemTy P t = some (e, K.sz)) (hx : opv n L g x = .slice A xs.length c) (hy : opv n L g y = .int ik a) (j : Nat) (hj : a = (j : Int)) (hl : j < xs.length)
    (k : ∀ b o, At K V b o (xs.getD j K.d) → wpF P ops Q (i + 1) (env D n (pt d (.pointer (some ⟨b, o, none⟩)) L) g) w) : wpF P ops Q i (env D n L g) w := by
  obtain ⟨b, o, rfl, hat⟩ := hR.cells (by intro hn; subst hn; simp at hl)
  refine wpF_value (v := .pointer (some ⟨b, o + j * K.sz, none⟩)) (w' := w) h (fun op ho => ?_) (k b (o + j * K.sz) (hat j hl))
  obtain ⟨hu, hz⟩ := elemTy_ok ht
  subst hj
  unfold execOp
  simp [ho, hx, hy, Instr.indexAt, asIntOf, run_underlying hu, run_sz (w := w) hz, hl, addr_add]
theorem Rd.cut {α : Type} {K : Kd α} {V : VT} {A : Option Addr} {c : Nat} {xs : List α} (h : Rd K V A c xs) (l m : Nat) (h1 : l ≤ m) (h2 : m ≤ xs.length) (ys : List α) (hy : (xs.take m).drop l = ys) :
    Rd K V (if c = l then A else A.map (·.add (l * K.sz))) (c - l) ys ∧ ys.length = m - l := by
  have hlen : ys.length = m - l := by rw [← hy]; simp; omega
  have hm := h.max
  have hc := h.cap
  refine ⟨⟨by omega, by omega, fun hn => ?_⟩, hlen⟩
  have hlt : l < m := by
    rcases Nat.lt_or_ge l m with h3 | h3
    · exact h3
    · exact absurd (List.eq_nil_of_length_eq_zero (by omega)) hn
  obtain ⟨b, o, rfl, hat⟩ := h.cells (by intro hn; subst hn; simp at h2; omega)
  refine ⟨b, o + l * K.sz, ?_, fun j hj => ?_⟩
  · rw [if_neg (by omega)]; simp [addr_add]
  · have := hat (l + j) (by omega)
    rw [Nat.add_mul, ← Nat.add_assoc] at this
    have hg : ys.getD j K.d = xs.getD (l + j) K.d := by
      rw [← hy, List.getD_eq_getElem?_getD, List.getD_eq_getElem?_getD, List.getElem?_drop, List.getElem?_take, if_pos (by omega)]
    rw [hg]; exact this
/-- A literal slice. -/
def bsl (P : Program) (ρ : Operand → Value) (t : TypeId) (len : Nat) (parts : Array (Nat × Operand)) : Option (TypeId × Array Value) :=
  match elemTy P t with
  | none => none
  | some (e, z) => match zeroOf P e with
    | none => none
    | some zv => cond (Nat.ble (len * z) 16777216) ((Instr.fill (fun i => some (i * z, z)) ((Array.range (len * z)).map ((cond (Nat.beq (len * z) 0) #[] zv.cells)[· % (cond (Nat.beq (len * z) 0) #[] zv.cells).size]!)) (parts.map fun (i, x) => (i, ρ x)).toList).map fun cs => (e, cs)) none
theorem wpF_lit {V0 V : VT} {w0 : World} {E0 E : List Ent} {t e : TypeId} {len : Nat} {parts : Array (Nat × Operand)} {d : Option Nat} (hM : Step V0 w0 E0 V w E) (cs : Array Value)
    (h : opAt ops n L g i = some (.buildSlice t len parts, d)) (hc : bsl P (opv n L g) t len parts = some (e, cs))
    (k : ∀ b w', Step V0 w0 E0 V w' (.blk b (.cells cs e) :: E) → wpF P ops Q (i + 1) (env D n (pt d (.slice (some ⟨b, 0, none⟩) len len) L) g) w') : wpF P ops Q i (env D n L g) w := by
  refine wpF_value (v := .slice (some ⟨w.heap.size, 0, none⟩) len len) (w' := w.alloc (.cells cs e)) h (fun o ho => ?_) (k _ _ (hM.alloc _))
  unfold bsl at hc
  split at hc
  · cases hc
  · rename_i e' z he
    obtain ⟨hu, hz⟩ := elemTy_ok he
    split at hc
    · cases hc
    · rename_i zv hzv
      cases hb : Nat.ble (len * z) 16777216 with
      | false => rw [hb] at hc; cases hc
      | true =>
        rw [hb] at hc
        simp only [cond_true] at hc
        obtain ⟨cs', hf, h2⟩ := Option.map_eq_some_iff.1 hc
        cases h2
        have hle := Nat.le_of_ble_eq_true hb
        have hbig : ¬ (len * z > 2 ^ 24) := by omega
        unfold execOp
        simp only [ho, Instr.buildSlice, Sem.run_bind, run_underlying hu, Result.andThen_ok, run_sz (w := w) hz, if_neg hbig, Sem.run_pure]
        by_cases h0 : len * z = 0
        · rw [if_pos h0] 
          have hb0 : Nat.beq (len * z) 0 = true := by rw [h0]; rfl
          rw [hb0] at hf
          simp only [cond_true] at hf
          simp only [Sem.run_pure, Result.andThen_ok, hf, Sem.run_bind, run_new]
        · rw [if_neg h0]
          have hb0 : Nat.beq (len * z) 0 = false := by
            cases hq : Nat.beq (len * z) 0 with
            | false => rfl
            | true => exact absurd (Nat.eq_of_beq_eq_true hq) h0
          rw [hb0] at hf
          simp only [cond_false] at hf
          simp only [Sem.run_pure, Sem.run_bind, run_zero (w := w) hzv, Result.andThen_ok, hf, run_new]

def srcTy (P : Program) (u : TypeId) : Bool :=
  match P.underlying u with
  | some (.slice _) => true
  | some .string => true
  | _ => false
theorem srcTy_ok {u : TypeId} (h : srcTy P u = true) : (∃ e, P.underlying u = some (.slice e)) ∨ P.underlying u = some .string := by
  unfold srcTy at h
  split at h
  · rename_i e hu; exact .inl ⟨e, hu⟩
  · rename_i hu; exact .inr hu
  · cases h
theorem run_app_room {t u ty e : TypeId} {z sLen sCap m : Nat} {A : Option Addr} {x : Value} {news : List Value} (ht : elemTy P t = some (e, z)) (hu : srcTy P u = true)
    (hlen : (Builtin.lenOf x).run P w = .ok m w) (hf : (Builtin.firstCells z m x).run P w = .ok news.toArray w) (hr : sLen + m ≤ sCap) :
    (Builtin.append_ #[t, u] ty #[.slice A sLen sCap, x]).run P w = (match A with | some a => (storeCells (a.add (sLen * z)) news).run P w | none => .ok () w).andThen fun _ w' => .ok (.slice A (sLen + m) sCap) w' := by
  obtain ⟨hu', hz⟩ := elemTy_ok ht
  rcases srcTy_ok hu with ⟨e', hdu⟩ | hdu <;> cases A <;> simp [Builtin.append_, run_underlying hu', run_underlying hdu, run_sz (w := w) hz, hlen, hr, hf]
theorem run_app_grow {t u ty e : TypeId} {z by_ sLen sCap m : Nat} {A : Option Addr} {x zv : Value} {olds news : List Value} (ht : elemTy P t = some (e, z)) (hb : (P.info? e).map (·.bytes) = some by_) (hzv : zeroOf P e = some zv) (hu : srcTy P u = true)
    (hlen : (Builtin.lenOf x).run P w = .ok m w) (hfo : (Builtin.firstCells z sLen (.slice A sLen sCap)).run P w.drew = .ok olds.toArray w.drew) (hf : (Builtin.firstCells z m x).run P w.drew = .ok news.toArray w.drew) (hr : sCap < sLen + m) (hb0 : 0 < by_) (hl : (sLen + m) * by_ ≤ 140737488355328) :
    (Builtin.append_ #[t, u] ty #[.slice A sLen sCap, x]).run P w = .ok (.slice (some ⟨w.heap.size, 0, none⟩) (sLen + m) (grownCap w (sLen + m) sCap e)) (w.drew.alloc (.cells (olds ++ news ++ (Builtin.zeroCells zv.cells (grownCap w (sLen + m) sCap e - (sLen + m))).toList).toArray e)) := by
  obtain ⟨hu', hz⟩ := elemTy_ok ht
  obtain ⟨i, hi, rfl⟩ := Option.map_eq_some_iff.1 hb
  have hz0 : i.zero = some zv := by unfold zeroOf at hzv; rw [hi] at hzv; simpa using hzv
  have hiz : i.size = z := by unfold szOf at hz; rw [hi] at hz; simpa using hz
  have hn : ¬ (sLen + m ≤ sCap) := by omega
  have hlm : sLen + m ≤ 140737488355328 := Nat.le_trans (Nat.le_mul_of_pos_right _ hb0) hl
  have h63' : ¬ (9223372036854775807 < ((sLen : Int) + (m : Int))) := by omega
  have hfit := growslice_fits (old := sCap) hr hl
  have h48' : ¬ (281474976710656 < Builtin.nextslicecap (sLen + m) sCap * i.bytes) := by omega
  have hbn : i.bytes ≠ 0 := by omega
  subst hiz
  have happ : (olds ++ news ++ (Builtin.zeroCells zv.cells (grownCap w (sLen + m) sCap e - (sLen + m))).toList).toArray = olds.toArray ++ news.toArray ++ Builtin.zeroCells zv.cells (grownCap w (sLen + m) sCap e - (sLen + m)) := by
    apply Array.ext'; simp
  rw [happ]
  rcases srcTy_ok hu with ⟨e', hdu⟩ | hdu <;> simp [Builtin.append_, run_underlying hu', run_underlying hdu, sizeOf, typeInfo, zeroValue, hi, hz0, hlen, hn, h48', hbn, Question.forced, hfo, hf, newRow, grownCap] <;> (congr 2; apply Array.ext'; simp)

theorem Step.mk_ent {V : VT} {w w' : World} {E1 E2 : List Ent} (hS : St V w E1) (hos : w'.os = w.os) (ht : w'.tape = w.tape) (ho : w'.output = w.output) (hsz : w.heap.size ≤ w'.heap.size)
    (hfr : ∀ b, b < w.heap.size → b ∉ foot E1 → w'.heap[b]? = w.heap[b]?) (h2 : ∀ e, e ∈ E2 → e.holds V w') (hft : ∀ b, b ∈ foot E2 → b ∈ foot E1 ∨ w.heap.size ≤ b) (nd : (foot E2).Nodup) : Step V w E1 V w' E2 := by
  refine ⟨hos, ht, ho, hsz, hfr, .refl V, hft, fun _ _ h => absurd rfl h, ⟨?_, h2, ?_, nd⟩⟩
  · intro b o v hv
    have hn : b ∉ foot E1 := fun hb => by rw [hS.apart b hb o] at hv; cases hv
    rw [World.cell?_of_block (w := w) (hfr b (hS.inW.lt hv) hn)]
    exact hS.inW b o v hv
  · intro b hb o
    rcases hft b hb with h1 | h1
    · exact hS.apart b h1 o
    · exact hS.inW.none_ge h1 o
theorem maxLen_eq : maxLen = 9223372036854775807 := rfl
theorem run_app_row {α : Type} {K : Kd α} {V : VT} {t u ty e : TypeId} {by_ m c : Nat} {A : Option Addr} {x zv : Value} {xs ys : List α} {news : List Value} (hS : St V w [.row K e A c xs]) (ht : elemTy P t = some (e, K.sz)) (hb : (P.info? e).map (·.bytes) = some by_) (hzv : zeroOf P e = some zv) (hzs : zv.cells.size = K.sz) (hu : srcTy P u = true)
    (hm : ys.length = m) (hys : Reps K V ys news) (hsrc : ∀ W : World, V.inW W → (Builtin.lenOf x).run P W = .ok m W ∧ (Builtin.firstCells K.sz m x).run P W = .ok news.toArray W) (hb0 : 0 < by_) (hl : (xs.length + m) * by_ ≤ 140737488355328) :
    ∃ A' c' w', (Builtin.append_ #[t, u] ty #[.slice A xs.length c, x]).run P w = .ok (.slice A' (xs ++ ys).length c') w' ∧ Step V w [.row K e A c xs] V w' [.row K e A' c' (xs ++ ys)] := by
  obtain ⟨cs, hrep, hmx, hown⟩ := hS.holds (.row K e A c xs) (by simp)
  have hlm : xs.length + m ≤ 140737488355328 := Nat.le_trans (Nat.le_mul_of_pos_right _ hb0) hl
  have hnl : news.length = m * K.sz := by rw [hys.len, hm]
  have hlen2 : (xs ++ ys).length = xs.length + m := by simp [hm]
  have hrep2 := hrep.append hys
  have hcl : (cs ++ news).length = (xs.length + m) * K.sz := by rw [List.length_append, hown.1, hnl, Nat.add_mul]
  -- what the arm that grows leaves
  have grown : c < xs.length + m → (∀ W : World, W.heap = w.heap → (Builtin.firstCells K.sz xs.length (.slice A xs.length c)).run P W = .ok cs.toArray W) → ∃ A' c' w', (Builtin.append_ #[t, u] ty #[.slice A xs.length c, x]).run P w = .ok (.slice A' (xs ++ ys).length c') w' ∧ Step V w [.row K e A c xs] V w' [.row K e A' c' (xs ++ ys)] := by
    intro hgr hfo
    have hinD : V.inW w.drew := fun b o v hv => hS.inW b o v hv
    have hr := run_app_grow (P := P) (w := w) (ty := ty) ht hb hzv hu (hsrc w hS.inW).1 (hfo w.drew rfl) (hsrc w.drew hinD).2 hgr hb0 hl
    rw [hlen2]
    refine ⟨_, _, _, hr, Step.mk_ent hS rfl rfl rfl (by simp) (fun b hb _ => ?_) ?_ ?_ (by simp [foot, Ent.foot])⟩
    · exact heap_alloc_old w.drew _ b hb
    · intro en hen
      simp at hen
      subst hen
      refine ⟨cs ++ news, hrep2, by rw [hlen2]; exact hlm, ?_, .inr ⟨w.heap.size, _, _, by rw [hlen2], Nat.zero_le _, heap_alloc_new w.drew _, ?_, ?_, ?_, ?_⟩⟩
      · rw [hlen2]; exact hcl
      · rw [hlen2]; exact grownCap_ge w _ _ e
      · exact grownCap_le_maxLen w _ _ e (by rw [maxLen_eq]; omega)
      · have hge := grownCap_ge w (xs.length + m) c e
        simp only [List.size_toArray, List.length_append, Array.length_toList, size_zeroCells, hzs, hown.1, hnl, ← Nat.add_mul]
        congr 1
        omega
      · rw [hlen2, ← hcl]
        exact List.take_left
    · intro b hb
      simp [foot, Ent.foot] at hb
      exact .inr (by omega)
  rcases hown.2 with ⟨hv, h0⟩ | ⟨g, cap, cur, hv, _, hg, hnc, hcm, hcs, htake⟩
  · injection hv with hA hn hc
    subst hA; subst hc
    have hxs : xs = [] := List.eq_nil_of_length_eq_zero h0
    subst hxs
    by_cases hm0 : m = 0
    · subst hm0
      have hy0 : ys = [] := List.eq_nil_of_length_eq_zero hm
      subst hy0
      have hr := run_app_room (P := P) (w := w) (ty := ty) (sLen := 0) (sCap := 0) (A := none) ht hu (hsrc w hS.inW).1 (hsrc w hS.inW).2 (by omega)
      exact ⟨none, 0, w, by simpa using hr, Step.refl hS⟩
    · refine grown (by simp; omega) (fun W _ => ?_)
      have : cs = [] := List.eq_nil_of_length_eq_zero (by rw [hown.1]; simp)
      subst this
      simp [Builtin.firstCells]
  · injection hv with hA hn hc
    subst hA; subst hc
    by_cases hroom : xs.length + m ≤ c
    · have hr := run_app_room (P := P) (w := w) (ty := ty) (A := some ⟨g, 0, none⟩) ht hu (hsrc w hS.inW).1 (hsrc w hS.inW).2 hroom
      have hfit : xs.length * K.sz + news.length ≤ cur.size := by rw [hnl, hcs, ← Nat.add_mul]; exact Nat.mul_le_mul_right _ hroom
      have hst := run_storeCells_at P g (xs.length * K.sz) e news 0 cur w hg (by simpa using hfit) hys.one
      simp only [Nat.add_zero] at hst
      simp only [addr_add, Nat.zero_add, hst, Result.andThen_ok] at hr
      rw [hlen2]
      refine ⟨_, _, _, hr, Step.mk_ent hS rfl rfl rfl (by simp) (fun b hb hne => setRow_other w g b _ (by simpa [foot, Ent.foot] using hne)) ?_ (fun b hb => .inl (by simpa [foot, Ent.foot] using hb)) (by simp [foot, Ent.foot])⟩
      intro en hen
      simp at hen
      subst hen
      refine ⟨cs ++ news, hrep2, by rw [hlen2]; exact hlm, ?_, .inr ⟨g, _, _, by rw [hlen2], Nat.zero_le _, setRow_heap w g cur _ e _ hg, ?_, hcm, ?_, ?_⟩⟩
      · rw [hlen2]; exact hcl
      · rw [hlen2]; exact hroom
      · simp only [List.size_toArray, List.length_append, List.length_take, List.length_drop, Array.length_toList]
        omega
      · rw [hlen2, ← hcl, htake]
        exact List.take_left
    · refine grown (by omega) (fun W hW => ?_)
      have holds : ∀ j v, cs[j]? = some v → W.cell? ((⟨g, 0, none⟩ : Addr).add j) = some v := by
        intro j v hj
        have := hown.cells (g := g) rfl j v hj
        rw [World.cell?_of_block (w := w) (by rw [hW])]
        exact this
      exact run_firstCells_some (P := P) W K.sz xs.length ⟨g, 0, none⟩ xs.length c cs hown.1 holds
end
end Go.Vk
