import Derived.Test.YtnibbocbefnnnaaVk2
set_option linter.unusedVariables false
namespace Go.Vk
variable {D : List Deferred}
section
variable {P : Program} {ops : Array Oper} {Q : Exit → Act → World → Prop} {i : Nat} {w : World} {n : Nat} {L : List (Nat × Value)} {g : Nat → Value}
def seg (P : Program) (ops : Array Oper) (n : Nat) (g : Nat → Value) : Nat → Nat → List (Nat × Value) → Option (List (Nat × Value))
  | 0, _, L => some L
  | k + 1, i, L => match ops[i]? with
    | none => none
    | some o => cond (ptOk n o.dst) (match gd ops n L g o with
      | some true => match pv P (opv n L g) o.op with
        | some v => seg P ops n g k (i + 1) (pt o.dst v L)
        | none => none
      | some false => seg P ops n g k (i + 1) (pt o.dst undef L)
      | none => none) none
theorem wpF_segL : ∀ (k i : Nat) (L L' : List (Nat × Value)), seg P ops n g k i L = some L' → wpF P ops Q (i + k) (env D n L' g) w → wpF P ops Q i (env D n L g) w
  | 0, i, L, L', h, K => by simp only [seg, Option.some.injEq] at h; subst h; exact K
  | k + 1, i, L, L', h, K => by
    rw [seg] at h
    split at h
    · cases h
    · rename_i o ho
      cases hp : ptOk n o.dst with
      | false => rw [hp] at h; cases h
      | true =>
        rw [hp] at h
        simp only [cond_true] at h
        rw [show i + (k + 1) = i + 1 + k by omega] at K
        split at h
        · rename_i hg
          split at h
          · rename_i v hv
            rw [wpF_cons ho, if_pos (gd_ok hg)]
            refine .inl ?_
            unfold Oper.wp
            rw [env_eval, pv_ok _ _ hv, Oper.upon_value, env_put _ _ _ _ _ hp]
            exact wpF_segL k (i + 1) _ L' h K
          · cases h
        · rename_i hg
          rw [wpF_cons ho, if_neg (by rw [gd_ok hg]; simp), env_put _ _ _ _ _ hp]
          exact wpF_segL k (i + 1) _ L' h K
        · cases h
theorem wpF_seg (k : Nat) (h : (seg P ops n g k i L).isSome = true) (K : wpF P ops Q (i + k) (env D n ((seg P ops n g k i L).getD []) g) w) : wpF P ops Q i (env D n L g) w := by
  obtain ⟨L', e⟩ := Option.isSome_iff_exists.1 h
  rw [e] at K
  exact wpF_segL k i L L' e K
/-- The slots that are named anew; the others are forgotten. -/
theorem wpF_base (L' : List (Nat × Value)) (h : L'.map (fun p => look L g p.1) = L'.map (fun p => p.2)) (K : ∀ g, wpF P ops Q i (env D n L' g) w) : wpF P ops Q i (env D n L g) w := by
  obtain ⟨g', e⟩ := env_base n L L' g h
  rw [e]; exact K g'
theorem wp_base {c : Code} (L' : List (Nat × Value)) (h : L'.map (fun p => look L g p.1) = L'.map (fun p => p.2)) (K : ∀ g, c.wp P Q (env D n L' g) w) : c.wp P Q (env D n L g) w := by
  obtain ⟨g', e⟩ := env_base n L L' g h
  rw [e]; exact K g'
/-- A slot's value told otherwise. -/
theorem wpF_slot (t : Nat) (v v' : Value) (ht : Nat.blt t n = true) (h : look L g t = v) (he : v = v') (K : wpF P ops Q i (env D n ((t, v') :: L) g) w) : wpF P ops Q i (env D n L g) w := by
  have : env D n L g = env D n ((t, v') :: L) g := by
    simp only [env]
    congr 1
    congr 1
    funext j
    rw [look_cons]
    split
    · rename_i hj; rw [← hj, h, he]
    · rfl
  rw [this]; exact K
theorem wp_slot {c : Code} (t : Nat) (v v' : Value) (h : look L g t = v) (he : v = v') (K : c.wp P Q (env D n ((t, v') :: L) g) w) : c.wp P Q (env D n L g) w := by
  have : env D n L g = env D n ((t, v') :: L) g := by
    simp only [env]
    congr 1
    congr 1
    funext j
    rw [look_cons]
    split
    · rename_i hj; rw [← hj, h, he]
    · rfl
  rw [this]; exact K

section
variable {a : Act} {N : Act → World → Prop} {id id' : Nat}
theorem then_n (h : N a w) : Exit.then N Q .normal a w := h
theorem then_x (h : Q (.exit id) a w) : Exit.then N Q (.exit id) a w := h
theorem then_r (h : Q .ret a w) : Exit.then N Q .ret a w := h
theorem blk_n (h : Q .normal a w) : Exit.inBlock id Q .normal a w := h
theorem blk_r (h : Q .ret a w) : Exit.inBlock id Q .ret a w := h
theorem blk_hit (h : Q .normal a w) : Exit.inBlock id Q (.exit id) a w := by simp only [Exit.inBlock, if_true]; exact h
theorem blk_miss (hne : Nat.beq id' id = false) (h : Q (.exit id') a w) : Exit.inBlock id Q (.exit id') a w := by
  simp only [Exit.inBlock]
  rw [if_neg]
  · exact h
  · rintro rfl; simp at hne
end
theorem wp_if {c : Operand} {x y : Code} (B : Bool) (hc : opv n L g c = .bool B) (ht : B = true → x.wp P Q (env D n L g) w) (hf : B = false → y.wp P Q (env D n L g) w) : (Code.cond c x y).wp P Q (env D n L g) w :=
  wp_cond_split (by rw [env_eval]; exact hc) ht hf
theorem wp_loopX {X : Type} {c : Code} {a : Act} (I : X → Act → World → Prop) (μ : X → Nat) (x0 : X) (h0 : I x0 a w)
    (round : ∀ x a w, I x a w → ∀ K : Act → World → Prop, (∀ a' w' x', μ x' < μ x → I x' a' w' → K a' w') → c.wp P (Exit.then K Q) a w) : (Code.loop c).wp P Q a w := by
  intro b k cs
  have key : ∀ m x a w, μ x = m → I x a w → ∃ e a' w', Q e a' w' ∧ Arrives P (lone (b.at a (.code c :: .inLoop c :: k)) cs w) b k cs e a' w' := by
    intro m
    induction m using Nat.strongRecOn with
    | _ m ih =>
      intro x a w hm hI
      obtain ⟨e, a₁, w₁, hq, harr⟩ := round x a w hI (fun a' w' => ∃ x', μ x' < μ x ∧ I x' a' w') (fun a' w' x' h1 h2 => ⟨x', h1, h2⟩) b (.inLoop c :: k) cs
      cases e with
      | normal =>
        obtain ⟨x', hlt, hI'⟩ := hq
        obtain ⟨e₂, a₂, w₂, hq₂, harr₂⟩ := ih (μ x') (hm ▸ hlt) x' a₁ w₁ rfl hI'
        exact ⟨e₂, a₂, w₂, hq₂, .of_steps (Steps.trans harr (.one step_inLoop)) harr₂⟩
      | exit id => exact ⟨_, a₁, w₁, hq, .pass (x := .inLoop c) rfl (fun _ _ => .inl (by simp)) harr⟩
      | goto l => exact ⟨_, a₁, w₁, hq, .pass (x := .inLoop c) rfl (fun _ _ => .inl (by simp)) harr⟩
      | ret => exact ⟨_, a₁, w₁, hq, .pass (x := .inLoop c) rfl (fun _ _ => .inl (by simp)) harr⟩
      | panic ch => exact ⟨_, a₁, w₁, hq, .pass (x := .inLoop c) rfl (fun _ _ => .inl (by simp)) harr⟩
      | outgrown => exact ⟨_, a₁, w₁, hq, .pass (x := .inLoop c) rfl (fun _ _ => .inl (by simp)) harr⟩
  obtain ⟨e, a', w', hq, harr⟩ := key _ x0 a w rfl h0
  exact ⟨e, a', w', hq, .of_steps (.one step_loop) harr⟩

/-- What a call leaves: a value, settled cells, what is one's own. -/
def Ret (V0 : VT) (w0 : World) (E0 : List Ent) (Φ : Value → VT → List Ent → Prop) : Ending → World → Prop :=
  fun e w' => ∃ v V' E', e = .returned v ∧ Step V0 w0 E0 V' w' E' ∧ Φ v V' E'
/-- The same of a call that touches nothing of its caller's and leaves nothing that is to be written. -/
def RetP (V0 : VT) (w0 : World) (Φ : Value → VT → Prop) : Ending → World → Prop :=
  fun e w' => ∃ v V', e = .returned v ∧ Step V0 w0 [] V' w' [] ∧ Φ v V'
theorem RetP.ret {V0 : VT} {w0 : World} {Φ : Value → VT → Prop} {e : Ending} {w' : World} (h : RetP V0 w0 Φ e w') : Ret V0 w0 [] (fun v V E => E = [] ∧ Φ v V) e w' := by
  obtain ⟨v, V', e1, h1, h2⟩ := h
  exact ⟨v, V', [], e1, h1, rfl, h2⟩
theorem calls_env {f : FuncId} {fn : Func} {c : Code} {args : Array Value} {R : Ending → World → Prop} (hf : P.funcs[f]? = some fn) (hb : fn.body = some c) (hn : fn.ntmps = n) (hs : Nat.ble args.size n = true)
    (h : ∀ R' : Ending → World → Prop, (∀ e w', R e w' → R' e w') → c.wp P (bodyPost P fn R') (env [] n (enum 0 args.toList) (fun _ => undef)) w) : Calls P f args w R := by
  refine calls_of_wp hf hb ?_
  rw [hn, env_init n args (Nat.le_of_ble_eq_true hs)]
  exact h R (fun _ _ h => h)
theorem env_getD (t : Nat) (h : Nat.blt t n = true) : (env D n L g).tmps[t]?.getD undef = look L g t := by
  rw [env_get n L g t (blt_iff.1 h)]; rfl
theorem ret0 {fn : Func} {R : Ending → World → Prop} {e : Exit} (he : e = .ret ∨ e = .normal) (hr : fn.results = #[]) (hR : R (.returned (.tuple #[])) w) : bodyPost P fn R e (env [] n L g) w := by
  rcases he with rfl | rfl <;> refine ⟨rfl, .tuple #[], ?_, hR⟩ <;> simp [results, hr]
theorem ret1 {fn : Func} {R : Ending → World → Prop} {t : Nat} (v : Value) (hr : fn.results = #[.tmp t]) (ht : Nat.blt t n = true) (hv : look L g t = v) (hR : R (.returned v) w) : bodyPost P fn R .ret (env [] n L g) w := by
  refine ⟨rfl, v, ?_, hR⟩
  simp [results, hr, env_getD t ht, hv]
def callable (P : Program) (f : FuncId) : Bool :=
  match P.funcs[f]? with
  | some fn => !(fn.name == "runtime.NumGoroutine") && !fn.body.isNone
  | none => false
theorem run_callFunc {f : FuncId} (h : callable P f = true) (args : Array Value) : (callFunc f args).run P w = .ok (.enter f args) w := by
  unfold callable at h
  split at h
  · rename_i fn hf
    simp only [Bool.and_eq_true, Bool.not_eq_true'] at h
    simp only [callFunc, Sem.run_bind, run_program, Result.andThen_ok, hf, h.1, h.2, Bool.false_eq_true, if_false, Sem.run_pure]
  · cases h
theorem wpF_calls {f : FuncId} {fo : Operand} {args : Array Operand} {tys : Array TypeId} {d : Option Nat} {caps as : Array Value} {R : Ending → World → Prop}
    (h : opAt ops n L g i = some (.call ⟨.value fo, args, tys⟩, d)) (hf : opv n L g fo = .func (.func f) #[] caps) (hP : callable P f = true) (ha : args.map (opv n L g) ++ caps = as)
    (hc : Calls P f as w R) (k : ∀ e w', R e w' → ∃ v, e = .returned v ∧ wpF P ops Q (i + 1) (env D n (pt d v L) g) w') : wpF P ops Q i (env D n L g) w := by
  obtain ⟨o, ho, h1, h2, h3, h4⟩ := opAt_ok h
  rw [wpF_cons ho, if_pos h3]
  refine .inl ?_
  unfold Oper.wp
  have hr : (execOp (env D n L g).eval o).run P w = .ok (.enter f as) w := by
    rw [env_eval]
    unfold execOp
    rw [h1]
    simp only [resolve, hf, Deferred.ofValue, Sem.run_bind, Sem.run_pure, Result.andThen_ok, invoke]
    rw [run_callFunc hP, ← ha]
    simp
  rw [hr, Oper.upon_enter]
  refine hc.mono fun e w' he => ?_
  obtain ⟨v, rfl, hk⟩ := k e w' he
  show wpF P ops Q (i + 1) ((env D n L g).put o.dst v) w'
  rw [h2, env_put _ _ _ _ _ h4]
  exact hk
theorem wpF_callP {f : FuncId} {fo : Operand} {args : Array Operand} {tys : Array TypeId} {d : Option Nat} {caps as : Array Value} {V0 V : VT} {w0 : World} {E0 E : List Ent} {Φ : Value → VT → Prop}
    (hM : Step V0 w0 E0 V w E)
    (h : opAt ops n L g i = some (.call ⟨.value fo, args, tys⟩, d)) (hf : opv n L g fo = .func (.func f) #[] caps) (hP : callable P f = true) (ha : args.map (opv n L g) ++ caps = as)
    (hc : Calls P f as w (RetP V w Φ)) (k : ∀ v V' w', V.le V' → Step V0 w0 E0 V' w' E → Φ v V' → wpF P ops Q (i + 1) (env D n (pt d v L) g) w') : wpF P ops Q i (env D n L g) w := by
  refine wpF_calls h hf hP ha hc ?_
  rintro e w' ⟨v, V', rfl, hs, hΦ⟩
  exact ⟨v, rfl, k v V' w' hs.le (Step.call (Ei := []) hM hs) hΦ⟩
theorem wpF_callE {f : FuncId} {fo : Operand} {args : Array Operand} {tys : Array TypeId} {d : Option Nat} {caps as : Array Value} {V0 V : VT} {w0 : World} {E0 : List Ent} (Ei F : List Ent) {Φ : Value → VT → List Ent → Prop}
    (hM : Step V0 w0 E0 V w (Ei ++ F))
    (h : opAt ops n L g i = some (.call ⟨.value fo, args, tys⟩, d)) (hf : opv n L g fo = .func (.func f) #[] caps) (hP : callable P f = true) (ha : args.map (opv n L g) ++ caps = as)
    (hc : Calls P f as w (Ret V w Ei Φ)) (k : ∀ v V' w' Eo, V.le V' → Step V0 w0 E0 V' w' (Eo ++ F) → Φ v V' Eo → wpF P ops Q (i + 1) (env D n (pt d v L) g) w') : wpF P ops Q i (env D n L g) w := by
  refine wpF_calls h hf hP ha hc ?_
  rintro e w' ⟨v, V', Eo, rfl, hs, hΦ⟩
  exact ⟨v, rfl, k v V' w' Eo hs.le (Step.call hM hs) hΦ⟩
theorem St.part {V : VT} {E F : List Ent} (h : St V w (E ++ F)) : St V w E := by
  have nd := h.nodup
  rw [foot_append, List.nodup_append] at nd
  exact ⟨h.inW, fun e he => h.holds e (List.mem_append_left _ he), fun b hb => h.apart b (by rw [foot_append]; exact List.mem_append_left _ hb), nd.1⟩
theorem Step.inW {V0 V : VT} {w0 : World} {E0 E : List Ent} (h : Step V0 w0 E0 V w E) : V.inW w := h.ok.inW

theorem run_new (t : TypeId) (cs : Array Value) : (newRow t cs).run P w = .ok ⟨w.heap.size, 0, none⟩ (w.alloc (.cells cs t)) := by
  simp [newRow]
theorem Step.alloc {V0 V : VT} {w0 : World} {E0 E : List Ent} (h : Step V0 w0 E0 V w E) (o : Obj) : Step V0 w0 E0 V (w.alloc o) (.blk w.heap.size o :: E) :=
  Step.call (Ei := []) h (Step.mk_alloc h.ok.inW o)
theorem wpF_box {t : TypeId} {x : Operand} {d : Option Nat} {V0 V : VT} {w0 : World} {E0 E : List Ent} (hM : Step V0 w0 E0 V w E) (cs : Array Value)
    (h : opAt ops n L g i = some (.box t x, d)) (hx : (opv n L g x).cells = cs)
    (k : ∀ b w', Step V0 w0 E0 V w' (.blk b (.cells cs t) :: E) → wpF P ops Q (i + 1) (env D n (pt d (.pointer (some ⟨b, 0, none⟩)) L) g) w') : wpF P ops Q i (env D n L g) w := by
  refine wpF_value (v := .pointer (some ⟨w.heap.size, 0, none⟩)) (w' := w.alloc (.cells cs t)) h ?_ (k _ _ (hM.alloc _))
  intro o ho
  unfold execOp
  rw [ho]
  simp [Instr.box, newVar, hx, run_new]
theorem wpF_alloc {t : TypeId} {d : Option Nat} {V0 V : VT} {w0 : World} {E0 E : List Ent} (hM : Step V0 w0 E0 V w E) (cs : Array Value)
    (h : opAt ops n L g i = some (.alloc t, d)) (hz : (zeroOf P t).map Value.cells = some cs)
    (k : ∀ b w', Step V0 w0 E0 V w' (.blk b (.cells cs t) :: E) → wpF P ops Q (i + 1) (env D n (pt d (.pointer (some ⟨b, 0, none⟩)) L) g) w') : wpF P ops Q i (env D n L g) w := by
  obtain ⟨z, hz', rfl⟩ := Option.map_eq_some_iff.1 hz
  refine wpF_value (v := .pointer (some ⟨w.heap.size, 0, none⟩)) (w' := w.alloc (.cells z.cells t)) h ?_ (k _ _ (hM.alloc _))
  intro o ho
  unfold execOp
  rw [ho]
  simp [Instr.alloc, newVar, run_zero (w := w) hz', run_new]
/-- What a load of a type takes out of a block's cells. -/
def ldv (P : Program) (cs : Array Value) (t : TypeId) (off : Nat) : Option Value :=
  match aggOf P t with
  | some true => match szOf P t with
    | some z => cond (Nat.ble (off + z) cs.size) (some (.agg (cs.extract off (off + z)))) none
    | none => none
  | some false => cs[off]?
  | none => none
theorem run_loadVar_blk {b off : Nat} {cs : Array Value} {t : TypeId} {t' : TypeId} {fr : Nat × Nat} {v : Value} (hb : w.heap[b]? = some (.cells cs t' fr)) (hv : ldv P cs t off = some v) : (loadVar t ⟨b, off, none⟩).run P w = .ok v w := by
  unfold ldv at hv
  unfold loadVar
  split at hv
  · rename_i ha
    split at hv
    · rename_i z hz
      cases hs : Nat.ble (off + z) cs.size with
      | false => rw [hs] at hv; cases hv
      | true =>
        rw [hs] at hv
        simp only [cond_true, Option.some.injEq] at hv
        subst hv
        have hle := Nat.le_of_ble_eq_true hs
        simp only [Sem.run_bind, run_agg (w := w) ha, Result.andThen_ok, if_true, run_sz (w := w) hz]
        have := run_loadCells_list (P := P) w ⟨b, off, none⟩ (cs.extract off (off + z)).toList (fun j v hj => by
          rw [addr_add, cell_of_blk hb]
          simp only [Array.getElem?_toList, Array.getElem?_extract] at hj
          split at hj
          · exact hj
          · cases hj)
        simp only [Array.length_toList, Array.size_extract] at this
        rw [show min (off + z) cs.size - off = z by omega, Array.toArray_toList] at this
        rw [this]; rfl
    · cases hv
  · rename_i ha
    simp [run_agg (w := w) ha, cell_of_blk hb, hv]
  · cases hv
theorem wpF_loadV {t : TypeId} {x : Operand} {d : Option Nat} {V0 V : VT} {w0 : World} {E0 E : List Ent} {b off : Nat} (hM : Step V0 w0 E0 V w E) {v : Value} (hv : V b off = some v)
    (h : opAt ops n L g i = some (.load t x, d)) (hx : opv n L g x = .pointer (some ⟨b, off, none⟩)) (ha : aggOf P t = some false)
    (k : wpF P ops Q (i + 1) (env D n (pt d v L) g) w) : wpF P ops Q i (env D n L g) w := by
  refine wpF_value (v := v) (w' := w) h ?_ k
  intro o ho
  unfold execOp
  rw [ho]
  simp [Instr.loadAt, hx, Instr.sureAddr, loadVar, run_agg (w := w) ha, hM.ok.inW b off v hv]
/-- A struct out of settled cells. -/
theorem wpF_loadS {t : TypeId} {x : Operand} {d : Option Nat} {V0 V : VT} {w0 : World} {E0 E : List Ent} {b off : Nat} (hM : Step V0 w0 E0 V w E) (cs : List Value) (hv : ∀ j v, cs[j]? = some v → V b (off + j) = some v)
    (h : opAt ops n L g i = some (.load t x, d)) (hx : opv n L g x = .pointer (some ⟨b, off, none⟩)) (ha : aggOf P t = some true) (hz : szOf P t = some cs.length)
    (k : wpF P ops Q (i + 1) (env D n (pt d (.agg cs.toArray) L) g) w) : wpF P ops Q i (env D n L g) w := by
  refine wpF_value (v := .agg cs.toArray) (w' := w) h ?_ k
  intro o ho
  unfold execOp
  rw [ho]
  have := run_loadCells_list (P := P) w ⟨b, off, none⟩ cs (fun j v hj => by rw [addr_add]; exact hM.ok.inW b _ v (hv j v hj))
  simp [Instr.loadAt, hx, Instr.sureAddr, loadVar, run_agg (w := w) ha, run_sz (w := w) hz, this]
def stv (cs : Array Value) (off : Nat) : List Value → Array Value
  | [] => cs
  | v :: vs => stv (cs.setIfInBounds off v) (off + 1) vs
theorem stv_size : ∀ (vs : List Value) (cs : Array Value) (off : Nat), (stv cs off vs).size = cs.size
  | [], cs, off => rfl
  | v :: vs, cs, off => by rw [stv, stv_size vs]; simp
theorem run_storeCells_blk {V : VT} {b : Nat} {t : TypeId} : ∀ (vs : List Value) (cs : Array Value) (off0 i : Nat) (w : World), St V w [.blk b (.cells cs t)] → (∀ v, v ∈ vs → v.oneCell' = true) → off0 + i + vs.length ≤ cs.size →
    ∃ w', (storeCells ⟨b, off0, none⟩ vs i).run P w = .ok () w' ∧ Step V w [.blk b (.cells cs t)] V w' [.blk b (.cells (stv cs (off0 + i) vs) t)]
  | [], cs, off0, i, w, h, _, _ => ⟨w, by simp [storeCells], Step.refl h⟩
  | v :: vs, cs, off0, i, w, h, h1, hl => by
    have hb : w.heap[b]? = some (.cells cs t (0, 0)) := h.holds (.blk b (.cells cs t)) (by simp)
    have hs := Step.mk_set h (off0 + i) v
    obtain ⟨w', hr, hstep⟩ := run_storeCells_blk vs (cs.setIfInBounds (off0 + i) v) off0 (i + 1) _ hs.ok (fun v hv => h1 v (List.mem_cons_of_mem _ hv)) (by simp at hl ⊢; omega)
    refine ⟨w', ?_, ?_⟩
    · rw [storeCells]
      simp only [Sem.run_bind, addr_add]
      rw [run_store P w _ _ _ (h1 v (by simp))]
      have hlt : off0 + i < cs.size := by simp at hl; omega
      have hc : w.cell? ⟨b, off0 + i, none⟩ = some cs[off0 + i] := by rw [cell_of_blk hb]; simp [hlt]
      have hfz : w.frozen? ⟨b, off0 + i, none⟩ = false := by simp [World.frozen?, hb]
      simp only [hc, hfz, Bool.false_eq_true, if_false, Result.andThen_ok]
      exact hr
    · have := Step.call (F := []) (by simpa using hs) hstep
      simpa [stv, Nat.add_assoc] using this
theorem eraseIdx_set_perm (E : List Ent) (j : Nat) (e e' : Ent) (h : E[j]? = some e) : (e' :: E.eraseIdx j).Perm (E.set j e') := by
  induction E generalizing j with
  | nil => simp at h
  | cons x E ih =>
    cases j with
    | zero => simp
    | succ j =>
      simp only [List.eraseIdx_cons_succ, List.set_cons_succ]
      exact (List.Perm.swap x e' _).trans (List.Perm.cons x (ih j (by simpa using h)))
theorem wpF_store {t : TypeId} {x y : Operand} {d : Option Nat} {V0 V : VT} {w0 : World} {E0 E : List Ent} {b off : Nat} {cs : Array Value} {t' : TypeId} (hM : Step V0 w0 E0 V w E) (j : Nat) (hj : E[j]? = some (.blk b (.cells cs t')))
    (h : opAt ops n L g i = some (.store t x y, d)) (hx : opv n L g x = .pointer (some ⟨b, off, none⟩)) (u : Array Value) (hy : (opv n L g y).cells = u) (hz : szOf P t = some u.size) (hfit : Nat.ble (off + u.size) cs.size = true) (h1 : (u.all Value.oneCell') = true)
    (k : ∀ w', Step V0 w0 E0 V w' (E.set j (.blk b (.cells (stv cs off u.toList) t'))) → wpF P ops Q (i + 1) (env D n (pt d undef L) g) w') : wpF P ops Q i (env D n L g) w := by
  have hf := hM.front j hj
  have hpart : St V w [.blk b (.cells cs t')] := St.part (F := E.eraseIdx j) hf.ok
  obtain ⟨w', hr, hs⟩ := run_storeCells_blk (P := P) u.toList cs off 0 w hpart (fun v hv => by
    rw [Array.all_eq_true] at h1
    obtain ⟨m, hm, rfl⟩ := List.getElem_of_mem hv
    simpa using h1 m (by simpa using hm)) (by simpa using Nat.le_of_ble_eq_true hfit)
  have hstep := Step.call (Ei := [.blk b (.cells cs t')]) hf hs
  refine wpF_unit (w' := w') h ?_ (k w' (hstep.perm (eraseIdx_set_perm E j _ _ hj)))
  intro o ho
  unfold execOp
  rw [ho]
  simp [Instr.storeAt, hx, Instr.sureAddr, storeVar, run_sz (w := w) hz, hy, hr]
/-- A block of one's own is written no more. -/
theorem Step.settle {V0 V : VT} {w0 : World} {E0 E : List Ent} {b : Nat} {cs : Array Value} {t : TypeId} {fr : Nat × Nat} (hM : Step V0 w0 E0 V w E) (j : Nat) (hj : E[j]? = some (.blk b (.cells cs t fr))) :
    ∃ V', V.le V' ∧ Step V0 w0 E0 V' w (E.eraseIdx j) ∧ ∀ i v, cs[i]? = some v → V' b i = some v := by
  have hf := hM.front j hj
  have hpart : St V w [.blk b (.cells cs t fr)] := St.part (F := E.eraseIdx j) hf.ok
  have hs := Step.mk_settle hpart
  exact ⟨V.add b cs, hs.le, Step.call (Ei := [.blk b (.cells cs t fr)]) hf hs, fun i v h => V.add_at b cs i v h⟩
end
end Go.Vk
