/- Appending zeros. -/
import Derived.Test.YtnibbocbefnnnaaVk7
set_option linter.unusedVariables false
set_option linter.unusedSimpArgs false
namespace Go.Vk
variable {D : List Deferred}
section
variable {P : Program} {ops : Array Oper} {Q : Exit → Act → World → Prop} {i : Nat} {w : World} {n : Nat} {L : List (Nat × Value)} {g : Nat → Value}
theorem run_app_gen {α : Type} {K : Kd α} {V : VT} {t u ty e : TypeId} {by_ m c : Nat} {A : Option Addr} {x zv : Value} {xs ys : List α} {news : List Value} (hS : St V w [.row K e A c xs]) (ht : elemTy P t = some (e, K.sz)) (hb : (P.info? e).map (·.bytes) = some by_) (hzv : zeroOf P e = some zv) (hzs : zv.cells.size = K.sz)
    (hm : ys.length = m) (hys : Reps K V ys news) 
    (HR : xs.length + m ≤ c → (Builtin.append_ #[t, u] ty #[.slice A xs.length c, x]).run P w = (match A with | some a => (storeCells (a.add (xs.length * K.sz)) news).run P w | none => .ok () w).andThen fun _ w' => .ok (.slice A (xs.length + m) c) w')
    (HG : ∀ olds : List Value, c < xs.length + m → (Builtin.firstCells K.sz xs.length (.slice A xs.length c)).run P w.drew = .ok olds.toArray w.drew → (Builtin.append_ #[t, u] ty #[.slice A xs.length c, x]).run P w = .ok (.slice (some ⟨w.heap.size, 0, none⟩) (xs.length + m) (grownCap w (xs.length + m) c e)) (w.drew.alloc (.cells (olds ++ news ++ (Builtin.zeroCells zv.cells (grownCap w (xs.length + m) c e - (xs.length + m))).toList).toArray e)))
    (hb0 : 0 < by_) (hl : (xs.length + m) * by_ ≤ 140737488355328) :
    ∃ A' c' w', (Builtin.append_ #[t, u] ty #[.slice A xs.length c, x]).run P w = .ok (.slice A' (xs ++ ys).length c') w' ∧ Step V w [.row K e A c xs] V w' [.row K e A' c' (xs ++ ys)] := by
  obtain ⟨cs, hrep, hmx, hown⟩ := hS.holds (.row K e A c xs) (by simp)
  have hlm : xs.length + m ≤ 140737488355328 := Nat.le_trans (Nat.le_mul_of_pos_right _ hb0) hl
  have hnl : news.length = m * K.sz := by rw [hys.len, hm]
  have hlen2 : (xs ++ ys).length = xs.length + m := by simp [hm]
  have hrep2 := hrep.append hys
  have hcl : (cs ++ news).length = (xs.length + m) * K.sz := by rw [List.length_append, hown.1, hnl, Nat.add_mul]
  -- what the arm that grows leaves
  have grown : c < xs.length + m → (∀ W : World, W.heap = w.heap → (Builtin.firstCells K.sz xs.length (.slice A xs.length c)).run P W = .ok cs.toArray W) → ∃ A' c' w', (Builtin.append_ #[t, u] ty #[.slice A xs.length c, x]).run P w = .ok (.slice A' (xs ++ ys).length c') w' ∧ Step V w [.row K e A c xs] V w' [.row K e A' c' (xs ++ ys)] := by
    intro hgr hfo
    have hr := HG cs hgr (hfo w.drew rfl)
    rw [hlen2]
    refine ⟨_, _, _, hr, Step.mk_ent hS rfl rfl rfl (by simp) (fun b hb _ => ?_) ?_ ?_ (by simp [foot, Ent.foot])⟩
    · exact heap_alloc_old w.drew _ b hb
    · intro en hen
      simp at hen
      subst hen
      refine ⟨cs ++ news, hrep2, by rw [hlen2]; exact hlm, ?_, .inr ⟨w.heap.size, _, _, by rw [hlen2], Nat.zero_le _, heap_alloc_new w.drew _, ?_, ?_, ?_, ?_⟩⟩
      · rw [hlen2]; exact hcl
      · rw [hlen2]; exact grownCap_ge w _ _ e
      · exact grownCap_le_maxLen w _ _ e (by rw [maxLen_eq]; omega)
      · have hge := grownCap_ge w (xs.length + m) c e
        simp only [List.size_toArray, List.length_append, Array.length_toList, size_zeroCells, hzs, hown.1, hnl, ← Nat.add_mul]
        congr 1
        omega
      · rw [hlen2, ← hcl]
        exact List.take_left
    · intro b hb
      simp [foot, Ent.foot] at hb
      exact .inr (by omega)
  rcases hown.2 with ⟨hv, h0⟩ | ⟨g, cap, cur, hv, _, hg, hnc, hcm, hcs, htake⟩
  · injection hv with hA hn hc
    subst hA; subst hc
    have hxs : xs = [] := List.eq_nil_of_length_eq_zero h0
    subst hxs
    by_cases hm0 : m = 0
    · subst hm0
      have hy0 : ys = [] := List.eq_nil_of_length_eq_zero hm
      subst hy0
      have hr := HR (by simp)
      exact ⟨none, 0, w, by simpa using hr, Step.refl hS⟩
    · refine grown (by simp; omega) (fun W _ => ?_)
      have : cs = [] := List.eq_nil_of_length_eq_zero (by rw [hown.1]; simp)
      subst this
      simp [Builtin.firstCells]
  · injection hv with hA hn hc
    subst hA; subst hc
    by_cases hroom : xs.length + m ≤ c
    · have hr := HR hroom
      have hfit : xs.length * K.sz + news.length ≤ cur.size := by rw [hnl, hcs, ← Nat.add_mul]; exact Nat.mul_le_mul_right _ hroom
      have hst := run_storeCells_at P g (xs.length * K.sz) e news 0 cur w hg (by simpa using hfit) hys.one
      simp only [Nat.add_zero] at hst
      simp only [addr_add, Nat.zero_add, hst, Result.andThen_ok] at hr
      rw [hlen2]
      refine ⟨_, _, _, hr, Step.mk_ent hS rfl rfl rfl (by simp) (fun b hb hne => setRow_other w g b _ (by simpa [foot, Ent.foot] using hne)) ?_ (fun b hb => .inl (by simpa [foot, Ent.foot] using hb)) (by simp [foot, Ent.foot])⟩
      intro en hen
      simp at hen
      subst hen
      refine ⟨cs ++ news, hrep2, by rw [hlen2]; exact hlm, ?_, .inr ⟨g, _, _, by rw [hlen2], Nat.zero_le _, setRow_heap w g cur _ e _ hg, ?_, hcm, ?_, ?_⟩⟩
      · rw [hlen2]; exact hcl
      · rw [hlen2]; exact hroom
      · simp only [List.size_toArray, List.length_append, List.length_take, List.length_drop, Array.length_toList]
        omega
      · rw [hlen2, ← hcl, htake]
        exact List.take_left
    · refine grown (by omega) (fun W hW => ?_)
      have holds : ∀ j v, cs[j]? = some v → W.cell? ((⟨g, 0, none⟩ : Addr).add j) = some v := by
        intro j v hj
        have := hown.cells (g := g) rfl j v hj
        rw [World.cell?_of_block (w := w) (by rw [hW])]
        exact this
      exact run_firstCells_some (P := P) W K.sz xs.length ⟨g, 0, none⟩ xs.length c cs hown.1 holds
theorem zeroCells_one (z : Value) (m : Nat) : (Builtin.zeroCells #[z] m).toList = List.replicate m z := by
  unfold Builtin.zeroCells
  refine List.ext_getElem (by simp) (fun i h1 h2 => ?_)
  simp [Nat.mod_one]
def numTy (P : Program) (u : TypeId) : Bool :=
  match P.underlying u with
  | some (.int _) => true
  | _ => false
theorem numTy_ok {u : TypeId} (h : numTy P u = true) : ∃ k, P.underlying u = some (.int k) := by
  unfold numTy at h
  split at h
  · rename_i k hu; exact ⟨k, hu⟩
  · cases h
theorem run_app0_room {t u ty e : TypeId} {by_ sLen sCap m : Nat} {A : Option Addr} {z : Value} (ht : elemTy P t = some (e, 1)) (hb : (P.info? e).map (·.bytes) = some by_) (hzv : zeroOf P e = some z) (hz1 : z.cells = #[z]) (hu : numTy P u = true) (hl : (sLen + m) * by_ ≤ 140737488355328) (hb0 : 0 < by_) (hr : sLen + m ≤ sCap) :
    (Builtin.append_ #[t, u] ty #[.slice A sLen sCap, .int .i64 (m : Int)]).run P w = (match A with | some a => (storeCells (a.add (sLen * 1)) (List.replicate m z)).run P w | none => .ok () w).andThen fun _ w' => .ok (.slice A (sLen + m) sCap) w' := by
  obtain ⟨hu', hz⟩ := elemTy_ok ht
  obtain ⟨k, hdu⟩ := numTy_ok hu
  obtain ⟨i, hi, rfl⟩ := Option.map_eq_some_iff.1 hb
  have hz0 : i.zero = some z := by unfold zeroOf at hzv; rw [hi] at hzv; simpa using hzv
  have hm : m * i.bytes ≤ 140737488355328 := Nat.le_trans (Nat.mul_le_mul_right _ (Nat.le_add_left m sLen)) hl
  have hm' : m ≤ 140737488355328 := Nat.le_trans (Nat.le_mul_of_pos_right _ hb0) hm
  have hw : IntKind.i64.wrap (m : Int) = m := wrap64_ok _ (by omega)
  have h1 : ¬ ((m : Int) * (i.bytes : Int) > 2 ^ 48) := by
    have : ((m : Int) * (i.bytes : Int)) = ((m * i.bytes : Nat) : Int) := by simp
    rw [this]; omega
  have h2 : ¬ (281474976710656 < (m : Int) * (i.bytes : Int)) := by simpa using h1
  have hn0 : ¬ ((m : Int) < 0) := by omega
  have hzc : (Builtin.zeroCells z.cells m).toList = List.replicate m z := by rw [hz1]; exact zeroCells_one z m
  by_cases hm0 : m = 0
  · subst hm0
    cases A <;> simp [Builtin.append_, run_underlying hu', run_underlying hdu, run_sz (w := w) hz, typeInfo, zeroValue, hi, hz0, hw, hr, asInt, asIntOf, show sLen ≤ sCap by omega, show IntKind.i64.wrap 0 = 0 from rfl]
  · cases A <;> simp [Builtin.append_, run_underlying hu', run_underlying hdu, run_sz (w := w) hz, typeInfo, zeroValue, hi, hz0, hw, h2, hn0, hr, hm0, asInt, asIntOf, hzc]
theorem run_app0_grow {t u ty e : TypeId} {by_ sLen sCap m : Nat} {A : Option Addr} {z : Value} {olds : List Value} (ht : elemTy P t = some (e, 1)) (hb : (P.info? e).map (·.bytes) = some by_) (hzv : zeroOf P e = some z) (hz1 : z.cells = #[z]) (hu : numTy P u = true)
    (hfo : (Builtin.firstCells 1 sLen (.slice A sLen sCap)).run P w.drew = .ok olds.toArray w.drew) (hr : sCap < sLen + m) (hb0 : 0 < by_) (hl : (sLen + m) * by_ ≤ 140737488355328) :
    (Builtin.append_ #[t, u] ty #[.slice A sLen sCap, .int .i64 (m : Int)]).run P w = .ok (.slice (some ⟨w.heap.size, 0, none⟩) (sLen + m) (grownCap w (sLen + m) sCap e)) (w.drew.alloc (.cells (olds ++ List.replicate m z ++ (Builtin.zeroCells z.cells (grownCap w (sLen + m) sCap e - (sLen + m))).toList).toArray e)) := by
  obtain ⟨hu', hz⟩ := elemTy_ok ht
  obtain ⟨k, hdu⟩ := numTy_ok hu
  obtain ⟨i, hi, rfl⟩ := Option.map_eq_some_iff.1 hb
  have hz0 : i.zero = some z := by unfold zeroOf at hzv; rw [hi] at hzv; simpa using hzv
  have hiz : i.size = 1 := by unfold szOf at hz; rw [hi] at hz; simpa using hz
  have hn : ¬ (sLen + m ≤ sCap) := by omega
  have hlm : sLen + m ≤ 140737488355328 := Nat.le_trans (Nat.le_mul_of_pos_right _ hb0) hl
  have h63' : ¬ (9223372036854775807 < ((sLen : Int) + (m : Int))) := by omega
  have hfit := growslice_fits (old := sCap) hr hl
  have h48' : ¬ (281474976710656 < Builtin.nextslicecap (sLen + m) sCap * i.bytes) := by omega
  have hbn : i.bytes ≠ 0 := by omega
  have hm : m * i.bytes ≤ 140737488355328 := Nat.le_trans (Nat.mul_le_mul_right _ (Nat.le_add_left m sLen)) hl
  have hw : IntKind.i64.wrap (m : Int) = m := wrap64_ok _ (by omega)
  have h1 : ¬ ((m : Int) * (i.bytes : Int) > 2 ^ 48) := by
    have : ((m : Int) * (i.bytes : Int)) = ((m * i.bytes : Nat) : Int) := by simp
    rw [this]; omega
  have h2 : ¬ (281474976710656 < (m : Int) * (i.bytes : Int)) := by simpa using h1
  have hn0 : ¬ ((m : Int) < 0) := by omega
  have happ : (olds ++ List.replicate m z ++ (Builtin.zeroCells z.cells (grownCap w (sLen + m) sCap e - (sLen + m))).toList).toArray = olds.toArray ++ (List.replicate m z).toArray ++ Builtin.zeroCells z.cells (grownCap w (sLen + m) sCap e - (sLen + m)) := by
    apply Array.ext'; simp
  have hzc : Builtin.zeroCells z.cells m = (List.replicate m z).toArray := by apply Array.ext'; rw [hz1]; exact zeroCells_one z m
  rw [happ]
  by_cases hm0 : m = 0
  · subst hm0
    simp [Builtin.append_, run_underlying hu', run_underlying hdu, sizeOf, typeInfo, zeroValue, hi, hz0, hiz, show IntKind.i64.wrap 0 = 0 from rfl, asInt, asIntOf, hn, show ¬ sLen ≤ sCap by omega, h48', hbn, Question.forced, hfo, newRow, grownCap, show ¬ (9223372036854775807 < (sLen : Int)) by omega, show ¬ (281474976710656 < Builtin.nextslicecap sLen sCap * i.bytes) by simpa using h48'] <;> (congr 2; apply Array.ext'; simp)
  · simp [Builtin.append_, run_underlying hu', run_underlying hdu, sizeOf, typeInfo, zeroValue, hi, hz0, hiz, hw, h2, hn0, asInt, asIntOf, hn, h63', h48', hbn, hm0, hzc, Question.forced, hfo, newRow, grownCap] <;> (congr 2; apply Array.ext'; simp)
theorem wpF_append0 {α : Type} {K : Kd α} {ops : Array Oper} {Q : Exit → Act → World → Prop} {n i : Nat} {L : List (Nat × Value)} {g : Nat → Value} {V0 V : VT} {w0 : World} {E0 E : List Ent} {t u e : TypeId} {by_ c m : Nat} {A : Option Addr} {s x : Operand} {d : Option Nat} {xs : List α} {z : Value} (hM : Step V0 w0 E0 V w E) (j : Nat) (hj : E[j]? = some (.row K e A c xs))
    (h : opAt ops n L g i = some (.call ⟨.builtin .append, #[s, x], #[t, u]⟩, d)) (hs : opv n L g s = .slice A xs.length c) (hx : opv n L g x = .int .i64 (m : Int)) (ht : elemTy P t = some (e, 1)) (hk : K.sz = 1) (hb : (P.info? e).map (·.bytes) = some by_) (hz : zeroOf P e = some z) (hz1 : z.cells = #[z]) (hu : numTy P u = true) (hb0 : Nat.blt 0 by_ = true)
    (y : α) (hy : ∀ V : VT, Reps K V [y] [z]) (hl : (xs.length + m) * by_ ≤ 140737488355328)
    (k : ∀ A' c' w', Step V0 w0 E0 V w' (.row K e A' c' (xs ++ List.replicate m y) :: E.eraseIdx j) → wpF P ops Q (i + 1) (env D n (pt d (.slice A' (xs ++ List.replicate m y).length c') L) g) w') : wpF P ops Q i (env D n L g) w := by
  have hf := hM.front j hj
  have hpart : St V w [.row K e A c xs] := St.part (F := E.eraseIdx j) hf.ok
  obtain ⟨o0, ho0, h1, _, _, _⟩ := opAt_ok (D := D) h
  have hrep : Reps K V (List.replicate m y) (List.replicate m z) := by
    clear hl k h hx
    induction m with
    | zero => exact rfl
    | succ m ih =>
      have := (hy V).append (ih)
      simpa [List.replicate_succ] using this
  have hb1 := blt_iff.1 hb0
  obtain ⟨A', c', w', hrun, hstep⟩ := run_app_gen (P := P) (ty := o0.type) (x := .int .i64 (m : Int)) (u := u) hpart (by rw [hk]; exact ht) hb hz (by rw [hz1, hk]; rfl) (by simp) hrep
    (fun hr => by rw [hk]; exact run_app0_room ht hb hz hz1 hu hl hb1 hr)
    (fun olds hr ho => run_app0_grow ht hb hz hz1 hu (by rw [hk] at ho; exact ho) hr hb1 hl) hb1 hl
  have hM' := Step.call (Ei := [.row K e A c xs]) hf hstep
  obtain ⟨o, ho, h1, h2, h3, h4⟩ := opAt_ok h
  rw [ho0] at ho
  cases ho
  rw [wpF_cons ho0, if_pos h3]
  refine .inl ?_
  unfold Oper.wp
  have hex : (execOp (env D n L g).eval o0).run P w = .ok (.value (.slice A' (xs ++ List.replicate m y).length c')) w' := by
    rw [env_eval]
    unfold execOp
    simp only [h1, resolve, invoke, builtin, Sem.run_bind, Sem.run_pure, Result.andThen_ok, List.map_toArray, List.map_cons, List.map_nil, hs, hx, hrun]
  rw [hex, Oper.upon_value, h2, env_put _ _ _ _ _ h4]
  exact k A' c' w' hM'
end
end Go.Vk
