import Derived.Test.YtnibbocbefnnnaaVk18
set_option linter.unusedVariables false
namespace Go.Vk
variable {D : List Deferred}
theorem Step.mk_put {V : VT} {w : World} {b : Nat} {o : Obj} (hS : St V w [.blk b o]) (o' : Obj) : Step V w [.blk b o] V (w.putObj b o') [.blk b o'] := by
  have hb : w.heap[b]? = some o := hS.holds (.blk b o) (by simp)
  have hlt := (Array.getElem?_eq_some_iff.1 hb).1
  refine Step.mk_ent hS rfl rfl rfl (by simp) (fun k _ hn => World.putObj_heap_other (by simpa [foot, Ent.foot] using hn)) (fun e he => ?_) (fun k hk => .inl hk) (by simp [foot, Ent.foot])
  rw [List.mem_singleton.1 he]
  exact World.putObj_heap_same hlt
theorem Step.put {V0 V : VT} {w0 w : World} {E0 E : List Ent} {b : Nat} {o : Obj} (h : Step V0 w0 E0 V w E) (j : Nat) (hj : E[j]? = some (.blk b o)) (o' : Obj) : Step V0 w0 E0 V (w.putObj b o') (E.set j (.blk b o')) := by
  have hf := h.front j hj
  exact (Step.call (Ei := [.blk b o]) hf (Step.mk_put (St.part (F := E.eraseIdx j) hf.ok) o')).perm (eraseIdx_set_perm E j _ _ hj)
theorem Step.blk_at {V0 V : VT} {w0 w : World} {E0 E : List Ent} {b : Nat} {o : Obj} (h : Step V0 w0 E0 V w E) (hj : (.blk b o : Ent) ∈ E) : w.heap[b]? = some o := h.ok.holds _ hj
/-- A call of yield. -/
def YieldsAt (P : Program) (l : Nat) (args : Array Value) (W : World) (R : Ending → World → Prop) : Prop :=
  ∃ fn tmps assign body, (Instr.yield l args).run P W = .ok (.round l fn tmps assign body) W ∧ RoundIn (wide none) 8 P l fn tmps assign body W R
/-- What a function that is ranged over promises: the elements come one by one, as long as the rounds go on. -/
def Iter (P : Program) (gf : FuncId) (caps : Array Value) {α : Type} (enc : α → Value) (xs : List α) (Esp : List Ent) (VF : VT → Prop) : Prop :=
  ∀ (l : Nat) (J : Nat → VT → World → Prop) (Jx : World → Prop) (V : VT) (w : World), J 0 V w →
    (∀ j V w, J j V w → St V w Esp ∧ VF V) →
    (∀ j V w V' w', J j V w → Step V w Esp V' w' Esp → J j V' w') →
    (∀ j V w x, xs[j]? = some x → J j V w → YieldsAt P l #[enc x] w fun e w' => (e = .returned (.bool true) ∧ ∃ V', J (j + 1) V' w') ∨ (e = .returned (.bool false) ∧ Jx w')) →
    Calls P gf (#[.func (.yield l) #[] #[]] ++ caps) w fun e w' => (∃ v, e = .returned v) ∧ ((∃ V', J xs.length V' w') ∨ Jx w')

section
variable {P : Program} {ops : Array Oper} {Q : Exit → Act → World → Prop} {n : Nat} {w : World} {i : Nat} {L : List (Nat × Value)} {g : Nat → Value}
def wpY (P : Program) (ops : Array Oper) (Q : Exit → Act → World → Prop) (i : Nat) (a : Act) (w : World) : Prop := wpOpsIn (wide none) 9 P ops Q (List.range' i (ops.size - i)) a w
theorem wp_regY {id : Nat} {a : Act} (h : wpY P ops Q 0 a w) : (Code.region id ops false).wp P Q a w := by
  refine (wpIn_wide (n := 9)).1 (show (Code.region id ops false).wpIn (wide none) 9 P Q a w from wpIn_region ?_)
  unfold wpY at h
  simpa [List.range_eq_range'] using h
theorem wpY_end (a : Act) (h : Nat.ble ops.size i = true) (k : Q .normal a w) : wpY P ops Q i a w := by
  have : ops.size - i = 0 := by have := Nat.le_of_ble_eq_true h; omega
  simpa [wpY, this, wpOpsIn] using k
theorem wpY_cons {a : Act} {o : Oper} (ho : ops[i]? = some o) : wpY P ops Q i a w ↔ (if Region.wanted o (yielded ops a.tmps) then o.wpIn (wide none) 9 P a w (wpY P ops Q (i + 1)) Q else (∀ f, o.about P w a.eval = some f → (wide none).fn f) ∧ wpY P ops Q (i + 1) (a.put o.dst undef) w) := by
  have hi : i < ops.size := (Array.getElem?_eq_some_iff.1 ho).1
  have : ops.size - i = (ops.size - (i + 1)) + 1 := by omega
  unfold wpY
  rw [this, List.range'_succ]
  simp only [wpOpsIn, ho]
attribute [irreducible] wpY
theorem wpY_value {op : Op} {d : Option Nat} {v : Value} {w' : World} (h : opAt ops n L g i = some (op, d)) (hr : ∀ o : Oper, o.op = op → (execOp (opv n L g) o).run P w = .ok (.value v) w')
    (k : wpY P ops Q (i + 1) (env D n (pt d v L) g) w') : wpY P ops Q i (env D n L g) w := by
  obtain ⟨o, ho, h1, h2, h3, h4⟩ := opAt_ok (D := D) h
  rw [wpY_cons ho, if_pos h3]
  refine ⟨fun f _ => trivial, ?_⟩
  rw [env_eval]
  show o.uponIn _ _ P _ _ _ ((execOp (opv n L g) o).run P w)
  rw [hr o h1, Oper.uponIn_value, h2, env_put _ _ _ _ _ h4]
  exact k
theorem wpY_segL : ∀ (k i : Nat) (L L' : List (Nat × Value)), seg P ops n g k i L = some L' → wpY P ops Q (i + k) (env D n L' g) w → wpY P ops Q i (env D n L g) w
  | 0, i, L, L', h, K => by simp only [seg, Option.some.injEq] at h; subst h; exact K
  | k + 1, i, L, L', h, K => by
    rw [seg] at h
    split at h
    · cases h
    · rename_i o ho
      cases hp : ptOk n o.dst with
      | false => rw [hp] at h; cases h
      | true =>
        rw [hp] at h
        simp only [cond_true] at h
        rw [show i + (k + 1) = i + 1 + k by omega] at K
        split at h
        · rename_i hg
          split at h
          · rename_i v hv
            rw [wpY_cons ho, if_pos (gd_ok hg)]
            refine ⟨fun f _ => trivial, ?_⟩
            rw [env_eval]
            show o.uponIn _ _ P _ _ _ ((execOp (opv n L g) o).run P w)
            rw [pv_ok _ _ hv, Oper.uponIn_value, env_put _ _ _ _ _ hp]
            exact wpY_segL k (i + 1) _ L' h K
          · cases h
        · rename_i hg
          rw [wpY_cons ho, if_neg (by rw [gd_ok hg]; simp), env_put _ _ _ _ _ hp]
          exact ⟨fun f _ => trivial, wpY_segL k (i + 1) _ L' h K⟩
        · cases h
theorem wpY_seg (k : Nat) (h : (seg P ops n g k i L).isSome = true) (K : wpY P ops Q (i + k) (env D n ((seg P ops n g k i L).getD []) g) w) : wpY P ops Q i (env D n L g) w := by
  obtain ⟨L', e⟩ := Option.isSome_iff_exists.1 h
  rw [e] at K
  exact wpY_segL k i L L' e K
theorem wpY_slot (t : Nat) (v v' : Value) (h : look L g t = v) (he : v = v') (K : wpY P ops Q i (env D n ((t, v') :: L) g) w) : wpY P ops Q i (env D n L g) w := by
  rw [env_slot t v v' h he]; exact K
theorem gY {V0 V : VT} {w0 : World} {E0 E : List Ent} (hM : Step V0 w0 E0 V w E) (op : Op) (d : Option Nat) {v : Value} (h : opAt ops n L g i = some (op, d)) (hY : Yv P V E (opv n L g) op v) (k : wpY P ops Q (i + 1) (env D n (pt d v L) g) w) : wpY P ops Q i (env D n L g) w :=
  wpY_value h (fun o ho => hY o ho V w (.refl V) ⟨hM.ok.inW, fun e he => hM.ok.holds e he⟩) k
theorem wpY_yield {f : Operand} {args : Array Operand} {tys : Array TypeId} {d : Option Nat} {l : Nat} {av : Array Value} {R : Ending → World → Prop} (h : opAt ops n L g i = some (.call ⟨.value f, args, tys⟩, d)) (hf : opv n L g f = .func (.yield l) #[] #[]) (ha : args.map (opv n L g) = av)
    (hy : YieldsAt P l av w R) (k : ∀ e w', R e w' → ∃ v, e = .returned v ∧ wpY P ops Q (i + 1) (env D n (pt d v L) g) w') : wpY P ops Q i (env D n L g) w := by
  obtain ⟨o, ho, h1, h2, h3, h4⟩ := opAt_ok (D := D) h
  obtain ⟨fn, tmps, assign, body, hrun, hround⟩ := hy
  rw [wpY_cons ho, if_pos h3]
  refine ⟨fun f _ => trivial, ?_⟩
  rw [env_eval]
  show o.uponIn _ _ P _ _ _ ((execOp (opv n L g) o).run P w)
  have hr : (execOp (opv n L g) o).run P w = .ok (.round l fn tmps assign body) w := by
    unfold execOp
    rw [h1]
    simp only [resolve, hf, Deferred.ofValue, Sem.run_bind, Sem.run_pure, Result.andThen_ok, invoke, ha]
    simpa using hrun
  rw [hr, Oper.uponIn_round]
  refine ⟨fun hd => by simp [wide, Fence.wide] at hd, hround.mono fun e w' he => ?_⟩
  obtain ⟨v, rfl, hk⟩ := k e w' he
  show wpY P ops Q (i + 1) ((env D n L g).put o.dst v) w'
  rw [h2, env_put _ _ _ _ _ h4]
  exact hk
end
section
variable {P : Program} {Q : Exit → Act → World → Prop} {n : Nat} {w : World} {L : List (Nat × Value)} {g : Nat → Value}
def mark (r : Nat) : List Deferred := [{ target := .collected r, args := #[] }]
/-- How a round may be left. -/
def bodyQ {X : Type} (V0 V : VT) (w0 : World) (E0 Esp Ex : List Ent) (G : X → List Ent) (nxt : X → VT → Prop) (out : Code → X → VT → Prop) : Exit → Act → World → Prop
  | .normal, _, w' => ∃ x V', V.le V' ∧ nxt x V' ∧ Step V0 w0 E0 V' w' (Esp ++ (G x ++ Ex))
  | .ret, _, w' => ∃ x V', V.le V' ∧ out .ret x V' ∧ Step V0 w0 E0 V' w' (Esp ++ (G x ++ Ex))
  | .exit id, _, w' => ∃ x V', V.le V' ∧ out (.exit id) x V' ∧ Step V0 w0 E0 V' w' (Esp ++ (G x ++ Ex))
  | _, _, _ => False
theorem perm_loop {A B : List Ent} {x y : Ent} : (A ++ (B ++ [x, y])).Perm (x :: (A ++ (B ++ [y]))) := by
  have h1 : (B ++ [x, y]).Perm (x :: (B ++ [y])) := List.perm_middle
  exact (List.Perm.append_left A h1).trans List.perm_middle
theorem perm_start {A B : List Ent} {x y : Ent} : (x :: y :: (A ++ B)).Perm (A ++ (B ++ [x, y])) := by
  have h1 : ([x, y] ++ (A ++ B)).Perm ((A ++ B) ++ [x, y]) := List.perm_append_comm
  rw [List.append_assoc] at h1
  exact h1
theorem wp_rangeFunc {X α : Type} {go : Operand} {p : Tmp} {assign body : Code} {gf : FuncId} {caps : Array Value} {enc : α → Value} {xs : List α} {Esp : List Ent} {VF : VT → Prop} {V0 V : VT} {w0 : World} {E0 : List Ent}
    (hI : Iter P gf caps enc xs Esp VF) (hg : opv n L g go = .func (.func gf) #[] caps) (hP : callable P gf = true) (hp : Nat.blt p n = true)
    (G : X → List Ent) (inv : Nat → X → VT → Prop) (out : Code → X → VT → Prop) (x0 : X) (hM : Step V0 w0 E0 V w (Esp ++ G x0)) (h0 : inv 0 x0 V) (hV0 : VF V) (hVF : ∀ V' , V.le V' → VF V → VF V') (hup : ∀ j x V' V'', inv j x V' → V'.le V'' → inv j x V'')
    (a1 : α → List (Nat × Value)) (hassign : ∀ l x w (K : Act → World → Prop), K (env [] n (a1 x) g) w → wpR l P assign (Exit.then K (fun _ _ _ => False)) (env [] n ((p, enc x) :: L) g) w)
    (hbody : ∀ l j x e V' w' Ex, xs[j]? = some e → V.le V' → inv j x V' → Step V0 w0 E0 V' w' (Esp ++ (G x ++ Ex)) → wpR l P body (bodyQ V0 V' w0 E0 Esp Ex G (inv (j + 1)) out) (env [] n (a1 e) g) w')
    (hdone : ∀ r x V' w', V.le V' → inv xs.length x V' → Step V0 w0 E0 V' w' (Esp ++ (G x ++ [.blk r (.deferred (some []))])) → Q .normal (env (mark r) n L g) w')
    (hstop : ∀ r c x V' w', V.le V' → out c x V' → Step V0 w0 E0 V' w' (Esp ++ (G x ++ [.blk r (.deferred (some []))])) → c.wp P Q (env (mark r) n L g) w') :
    (Code.rangeFunc go #[p] assign body).wp P Q (env [] n L g) w := by
  refine (wpIn_wide (n := 9)).1 (show (Code.rangeFunc go #[p] assign body).wpIn (wide none) 9 P Q (env [] n L g) w from wpIn_rangeFunc ?_)
  intro fn hfn
  obtain ⟨rec, hrec⟩ : ∃ rec : LoopState → Option Code → Loop, rec = fun st pe => { state := st, pending := pe, fn, tmps := (env [] n L g).tmps, params := #[p], assign, body, defers := w.heap.size } := ⟨_, rfl⟩
  obtain ⟨lp, hlp⟩ : ∃ lp, lp = w.heap.size + 1 := ⟨_, rfl⟩
  obtain ⟨W1, hW1⟩ : ∃ W1, (w.alloc (.deferred (some []))).alloc (.loop (rec .ready none)) = W1 := ⟨_, rfl⟩
  have hM1 : Step V0 w0 E0 V W1 (Esp ++ (G x0 ++ [.blk lp (.loop (rec .ready none)), .blk w.heap.size (.deferred (some []))])) := by
    have h1 := (hM.alloc (.deferred (some []))).alloc (.loop (rec .ready none))
    rw [hW1] at h1
    have h2 : (w.alloc (.deferred (some []))).heap.size = lp := by rw [hlp]; simp
    rw [h2] at h1
    exact h1.perm perm_start
  refine ⟨lp, mark w.heap.size, W1, { target := .fn (.func gf) caps, args := #[.func (.yield lp) #[] #[]] }, W1, gf, #[.func (.yield lp) #[] #[]] ++ caps, W1, ?_, ?_, fun f _ => trivial, ?_, fun hd => by simp [wide, Fence.wide] at hd, ?_⟩
  · rw [← hW1, hrec, hlp]; exact run_enterLoop_outer _ _ _ _ _
  · have hg' : (env [] n L g).eval go = .func (.func gf) #[] caps := by rw [env_eval]; exact hg
    simp only [resolve, hg']
    simp [go_sem, Act.eval, Deferred.ofValue]
  · simp only [invoke]
    exact run_callFunc hP _
  · refine calls_wide.2 ((hI lp (fun j V' W => V.le V' ∧ ∃ x, inv j x V' ∧ Step V0 w0 E0 V' W (Esp ++ (G x ++ [.blk lp (.loop (rec .ready none)), .blk w.heap.size (.deferred (some []))])))
      (fun W => ∃ c x V', V.le V' ∧ out c x V' ∧ Step V0 w0 E0 V' W (Esp ++ (G x ++ [.blk lp (.loop (rec .done (some c))), .blk w.heap.size (.deferred (some []))]))) V W1 ⟨.refl V, x0, h0, hM1⟩ ?_ ?_ ?_).mono ?_)
    · rintro j V' W ⟨hl, x, _, hs⟩
      exact ⟨St.part hs.ok, hVF _ hl hV0⟩
    · rintro j V' W V'' W' ⟨hl, x, hi, hs⟩ hk
      exact ⟨hl.trans hk.le, x, hup _ _ _ _ hi hk.le, Step.call hs hk⟩
    · rintro j V' W e hx ⟨hl, x, hi, hs⟩
      have hL : W.heap[lp]? = some (.loop (rec .ready none)) := hs.blk_at (by simp)
      have hy := run_yield (P := P) (args := #[enc e]) hL (by rw [hrec]; rfl)
      have hput : ((#[p] : Array Tmp).zip #[enc e]).foldl (fun t (p, v) => t.setIfInBounds p v) (env [] n L g).tmps = (env [] n ((p, enc e) :: L) g).tmps := by
        have := congrArg Act.tmps (env_put (D := []) n L g (some p) (enc e) hp)
        rw [show (env [] n ((p, enc e) :: L) g) = env [] n (pt (some p) (enc e) L) g from rfl, ← this]
        simp [Act.put]
      refine ⟨fn, (env [] n ((p, enc e) :: L) g).tmps, assign, body, ?_, roundIn_of_wpIn hfn ?_⟩
      · rw [hrec] at hy; rw [← hput]; exact hy
      · show wpR lp P assign _ (env [] n ((p, enc e) :: L) g) W
        refine hassign lp e W _ ?_
        refine ⟨_, run_beginRound hL (by rw [hrec]), ?_⟩
        have hs1 : Step V0 w0 E0 V' (W.putObj lp (.loop { rec .ready none with state := .busy })) (Esp ++ (G x ++ [.blk lp (.loop { rec .ready none with state := .busy }), .blk w.heap.size (.deferred (some []))])) :=
          ((hs.perm perm_loop).put 0 rfl (.loop { rec .ready none with state := .busy })).perm perm_loop.symm
        refine wpIn_mono (hbody lp j x e V' _ _ hx hl hi hs1) ?_
        have fin : ∀ (jump : Option Code) (x' : X) (V'' : VT) (W3 : World), Step V0 w0 E0 V'' W3 (Esp ++ (G x' ++ [.blk lp (.loop { rec .ready none with state := .busy }), .blk w.heap.size (.deferred (some []))])) →
            (Instr.endRound lp jump).run P W3 = .ok (.bool jump.isNone) (W3.putObj lp (.loop (rec (if jump.isNone then .ready else .done) jump))) ∧
            Step V0 w0 E0 V'' (W3.putObj lp (.loop (rec (if jump.isNone then .ready else .done) jump))) (Esp ++ (G x' ++ [.blk lp (.loop (rec (if jump.isNone then .ready else .done) jump)), .blk w.heap.size (.deferred (some []))])) := by
          intro jump x' V'' W3 h3
          have hl3 : W3.heap[lp]? = some (.loop { rec .ready none with state := .busy }) := h3.blk_at (by simp)
          refine ⟨?_, ((h3.perm perm_loop).put 0 rfl _).perm perm_loop.symm⟩
          have := run_endRound (P := P) jump hl3
          rw [hrec] at this ⊢
          exact this
        rintro ex a3 W3 hq
        cases ex with
        | normal =>
          obtain ⟨x', V'', hl', hi', hs'⟩ := hq
          obtain ⟨h1, h2⟩ := fin none x' V'' W3 hs'
          exact ⟨_, _, h1, .inl ⟨rfl, V'', hl.trans hl', x', hi', h2⟩⟩
        | ret =>
          obtain ⟨x', V'', hl', hi', hs'⟩ := hq
          obtain ⟨h1, h2⟩ := fin (some .ret) x' V'' W3 hs'
          exact ⟨_, _, h1, .inr ⟨rfl, .ret, x', V'', hl.trans hl', hi', h2⟩⟩
        | exit id =>
          obtain ⟨x', V'', hl', hi', hs'⟩ := hq
          obtain ⟨h1, h2⟩ := fin (some (.exit id)) x' V'' W3 hs'
          exact ⟨_, _, h1, .inr ⟨rfl, .exit id, x', V'', hl.trans hl', hi', h2⟩⟩
        | goto t => exact hq.elim
        | panic ch => exact hq.elim
        | outgrown => exact hq.elim
    · rintro e W2 ⟨⟨v, rfl⟩, ⟨V', hl, x, hi, hs⟩ | ⟨c, x, V', hl, ho, hs⟩⟩
      · have hL : W2.heap[lp]? = some (.loop (rec .ready none)) := hs.blk_at (by simp)
        have hend := run_endLoop (P := P) hL (by rw [hrec]; simp)
        refine ⟨none, W2.putObj lp (.loop { rec .ready none with state := .exhausted }), by rw [hend, hrec], ?_⟩
        have h2 := ((hs.perm perm_loop).put 0 rfl (.loop { rec .ready none with state := .exhausted })).drop
        have := hdone w.heap.size x V' _ hl hi h2
        exact this
      · have hL : W2.heap[lp]? = some (.loop (rec .done (some c))) := hs.blk_at (by simp)
        have hend := run_endLoop (P := P) hL (by rw [hrec]; simp)
        refine ⟨some c, W2.putObj lp (.loop { rec .done (some c) with state := .exhausted }), by rw [hend, hrec], ?_⟩
        have h2 := ((hs.perm perm_loop).put 0 rfl (.loop { rec .done (some c) with state := .exhausted })).drop
        have := hstop w.heap.size c x V' _ hl ho h2
        exact wpIn_wide.2 this
def bodyM (P : Program) (fn : Func) (R : Ending → World → Prop) : Exit → Act → World → Prop := bodyPostM (wide none) 9 P fn R
theorem calls_envM {f : FuncId} {fn : Func} {c : Code} {args : Array Value} {R : Ending → World → Prop} (hf : P.funcs[f]? = some fn) (hb : fn.body = some c) (hn : fn.ntmps = n) (hs : Nat.ble args.size n = true)
    (h : ∀ R' : Ending → World → Prop, (∀ e w', R e w' → R' e w') → c.wp P (bodyM P fn R') (env [] n (enum 0 args.toList) (fun _ => undef)) w) : Calls P f args w R := by
  refine (calls_wide (ro := none) (n := 9)).1 (callsIn_of_wp_marks hf hb trivial (wpIn_wide.2 ?_))
  rw [hn, env_init n args (Nat.le_of_ble_eq_true hs)]
  exact h R (fun _ _ h => h)
theorem retM {fn : Func} {R : Ending → World → Prop} {rs : List ResultVar} {r : Nat} {V0 V : VT} {w0 : World} {E0 E : List Ent} (hM : Step V0 w0 E0 V w E) (j : Nat) (hj : E[j]? = some (.blk r (.deferred (some [])))) (vs : List Value) (v : Value) (hr : fn.results = rs.toArray) (hv : (if h : vs.toArray.size = 1 then vs.toArray[0] else .tuple vs.toArray) = v)
    (k : ∀ w', Step V0 w0 E0 V w' (E.eraseIdx j) → RVs P w' n L g rs vs ∧ R (.returned v) w') : bodyM P fn R .ret (env (mark r) n L g) w := by
  have hb : w.heap[r]? = some (.deferred (some [])) := hM.blk_at (List.mem_of_getElem? hj)
  obtain ⟨h1, h2⟩ := k (w.putObj r (.deferred none)) (by
    have h1 := (hM.put j hj (.deferred none))
    exact (h1.perm (eraseIdx_set_perm E j _ _ hj).symm).drop)
  refine ⟨by simp, .inl ⟨r, _, rfl, run_takeDeferred hb, ?_⟩⟩
  have ht : (env (mark r) n L g).tmps = (env [] n L g).tmps := rfl
  rw [ht]
  obtain ⟨_, v', h3, h4⟩ := retN (fn := fn) (R := R) vs v hr h1 hv h2
  exact ⟨v', h3, h4⟩
end
end Go.Vk
