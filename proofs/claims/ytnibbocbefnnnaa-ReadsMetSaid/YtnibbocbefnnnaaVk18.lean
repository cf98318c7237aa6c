import Derived.Test.YtnibbocbefnnnaaVk17
import Derived.RangeFuncRecord
import Derived.OrdersIn
set_option linter.unusedVariables false
namespace Go.Vk
variable {D : List Deferred}
/-- Every function, any depth; in a round, or in none. -/
def wide (ro : Option Nat) : Fence := { Fence.wide with round := ro }
theorem calls_wide {P : Program} {ro : Option Nat} {n : Nat} {f : FuncId} {args : Array Value} {w : World} {R : Ending → World → Prop} : CallsIn (wide ro) n P f args w R ↔ Calls P f args w R := callsIn_wide
theorem rows_wide {P : Program} {ro : Option Nat} {n : Nat} {r : String} {args : Array Value} {w : World} {R : Value → World → Prop} (h : Rows P r args w R) : RowsIn (wide ro) n P r args w R :=
  fun c cs _ => let ⟨v, w', hr, hs⟩ := h c cs; ⟨v, w', hr, stepsIn_wide.2 hs⟩
def noDefers (ops : Array Oper) : Bool := ops.all fun o => match o.op with | .defer _ => false | _ => true
theorem noDefers_ok {ops : Array Oper} (h : noDefers ops = true) {i : Nat} {o : Oper} (ho : ops[i]? = some o) : ∀ c, o.op ≠ .defer c := by
  intro c hc
  unfold noDefers at h
  rw [Array.all_eq_true] at h
  obtain ⟨hi, he⟩ := Array.getElem?_eq_some_iff.1 ho
  have := h i hi
  rw [he, hc] at this
  cases this
section
variable {P : Program} {ops : Array Oper} {Q Q' : Exit → Act → World → Prop} {n : Nat} {ro : Option Nat} {a : Act} {w : World}
theorem uponIn_of {o : Oper} {next next' : Act → World → Prop} {r : Result Next} (hn : ∀ a w, next a w → next' a w) (hq : ∀ c a w, Q (.panic c) a w → Q' (.panic c) a w) (hl : LetsOut Q → LetsOut Q') (h : o.upon P a next Q r) : o.uponIn (wide ro) n P a next' Q' r := by
  unfold Oper.upon at h
  unfold Oper.uponIn
  split at h
  · exact hn _ _ h
  · exact hn _ _ h
  · exact hn _ _ h
  · refine ⟨fun hd => by simp [wide, Fence.wide] at hd, calls_wide.2 (Calls.mono h fun e w' he => ?_)⟩
    cases e with
    | returned v => exact hn _ _ he
    | panicked c => exact hq _ _ _ he
    | outgrown => exact hl he
  · exact ⟨fun hd => by simp [wide, Fence.wide] at hd, rows_wide (Rows.mono h fun v w' he => hn _ _ he)⟩
  · exact hq _ _ _ h
  · exact h.elim
theorem opsIn_of (hd : noDefers ops = true) (hno : ¬ LetsOut Q) (hq : ∀ c a w, Q (.panic c) a w → Q' (.panic c) a w) : ∀ (l : List Nat) (a : Act) (w : World), wpOps P ops Q l a w → (∀ l2, (∀ a w, Q .normal a w → wpOpsIn (wide ro) n P ops Q' l2 a w) → wpOpsIn (wide ro) n P ops Q' (l ++ l2) a w)
  | [], a, w, h, l2, hk => hk a w h
  | i :: l, a, w, h, l2, hk => by
    rw [List.cons_append]
    simp only [wpOps] at h
    simp only [wpOpsIn]
    cases ho : ops[i]? with
    | none => simp only [ho] at h; exact opsIn_of hd hno hq l a w h l2 hk
    | some o =>
      simp only [ho] at h
      simp only
      by_cases hw : Region.wanted o (yielded ops a.tmps) = true
      · rw [if_pos hw] at h
        rw [if_pos hw]
        rcases h with h | ⟨_, h⟩
        · refine ⟨fun f _ => trivial, ?_⟩
          rw [Oper.semAt_eq _ _ _ (noDefers_ok hd ho)]
          exact uponIn_of (fun a w h => opsIn_of hd hno hq l a w h l2 hk) hq (fun h => absurd h hno) h
        · exact absurd h hno
      · rw [if_neg hw] at h
        rw [if_neg hw]
        exact ⟨fun f _ => trivial, opsIn_of hd hno hq l _ w h l2 hk⟩
def wpR (l : Nat) (P : Program) (c : Code) (Q : Exit → Act → World → Prop) (a : Act) (w : World) : Prop := c.wpIn (wide (some l)) 8 P Q a w
variable {l : Nat}
theorem wpR_skip (h : Q .normal a w) : wpR l P .skip Q a w := wpIn_skip h
theorem wpR_ret (h : Q .ret a w) : wpR l P .ret Q a w := wpIn_ret h
theorem wpR_seq_k {x y : Code} (h : ∀ K : Act → World → Prop, (∀ a w, wpR l P y Q a w → K a w) → wpR l P x (Exit.then K Q) a w) : wpR l P (.seq x y) Q a w := wpIn_seq_k h
theorem wpR_block {id : Nat} {c : Code} (h : wpR l P c (Exit.inBlock id Q) a w) : wpR l P (.block id c) Q a w := wpIn_block h
theorem wpR_if {n : Nat} {L : List (Nat × Value)} {g : Nat → Value} {c : Operand} {x y : Code} (B : Bool) (hc : opv n L g c = .bool B) (ht : B = true → wpR l P x Q (env D n L g) w) (hf : B = false → wpR l P y Q (env D n L g) w) : wpR l P (.cond c x y) Q (env D n L g) w :=
  wpIn_cond_split (by rw [env_eval]; exact hc) ht hf
theorem wpR_base {n : Nat} {L : List (Nat × Value)} {g : Nat → Value} {c : Code} (L' : List (Nat × Value)) (h : L'.map (fun p => look L g p.1) = L'.map (fun p => p.2)) (K : ∀ g, wpR l P c Q (env D n L' g) w) : wpR l P c Q (env D n L g) w := by
  obtain ⟨g', e⟩ := env_base n L L' g h
  rw [e]; exact K g'
theorem wpR_reg {id : Nat} (hd : noDefers ops = true) (hno : ¬ LetsOut Q) (h : wpF P ops Q 0 a w) : wpR l P (.region id ops false) Q a w := by
  refine wpIn_region ?_
  have := opsIn_of (ro := some l) (n := 8) (Q' := Q) hd hno (fun _ _ _ h => h) (List.range ops.size) a w (by unfold wpF at h; simpa [List.range_eq_range'] using h) [] (fun a w h => h)
  rwa [List.append_nil] at this
theorem wpR_drawN {id : Nat} {V0 V : VT} {w0 : World} {E0 E : List Ent} (hd : noDefers ops = true) (hno : ¬ LetsOut Q) (hM : Step V0 w0 E0 V w E) (F : List (Ent × Nat)) (hF : ∀ x, x ∈ F → x.1 ∈ E) (FS : List Fre) (p : List Nat) (l' l0 : List It) (hl : l0 = p.map .p ++ .s :: l') (hm : P.follows .mixedOrders = true)
    (hok : (allOk ops (FS.map (·.i)) (F.map (·.2)) p l' && nodupB (FS.map (·.i))) = true) (h : wpH P ops Q F FS V0 w0 E0 l0 a V E) : wpR l P (.region id ops true) Q a w := by
  refine wpIn_region_draw fun t => ?_
  have h1 := any_drawN hM F hF FS p l' l0 hl hok h
  have h2 : wpOps P ops Q (Region.schedule (P.follows .mixedOrders) ops t) a { w with drawn := w.drawn + 1 } := by
    simp only [Region.schedule, hm, Bool.true_or, if_true]
    exact wpAny_sound ops.size t _ a _ h1
  have := opsIn_of (ro := some l) (n := 8) (Q' := Q) hd hno (fun _ _ _ h => h) _ a _ h2 [] (fun a w h => h)
  rwa [List.append_nil] at this
end
end Go.Vk
