import Derived.Test.YtnibbocbefnnnaaVk20
set_option linter.unusedVariables false
namespace Go.Vk
variable {D : List Deferred}
section
variable {P : Program} {ops : Array Oper} {Q : Exit → Act → World → Prop} {n i : Nat} {L : List (Nat × Value)} {g : Nat → Value} {w : World}
theorem wpF_sliceLoA {V0 V : VT} {w0 : World} {E0 E : List Ent} {A : Option Addr} {c : Nat} {xs : List Str} {t e e' : TypeId} {x y : Operand} {d : Option Nat} (hM : Step V0 w0 E0 V w E) (j : Nat) (hj : E[j]? = some (.row strK e A c xs))
    (h : opAt ops n L g i = some (.slice t x (some y) none none, d)) (ht : elemTy P t = some (e', 1)) (hx : opv n L g x = .slice A xs.length c) (l : Nat) (hlo : bnd (opv n L g) (some y) 0 l) (hl : l ≤ xs.length)
    (k : ∀ A2 c2, (∀ q, q < xs.length - l → ∃ b, A = some ⟨b, 0, none⟩ ∧ A2 = some ⟨b, l, none⟩) → wpF P ops Q (i + 1) (env D n (pt d (.slice A2 (xs.length - l) c2) L) g) w) : wpF P ops Q i (env D n L g) w := by
  obtain ⟨_, _, hc, h1⟩ := row_open (hM.ok.holds _ (List.mem_of_getElem? hj))
  refine wpF_value (w' := w) h (fun o ho => ?_) (k (if c = l then A else A.map (·.add (l * 1))) (c - l) fun q hq => ?_)
  · obtain ⟨hu, hz⟩ := elemTy_ok ht
    have hb := run_bounds (P := P) (w := w) true hlo (hi := none) (show bnd (opv n L g) none xs.length xs.length from rfl) hl hc hc
    simp only [Option.map_none, Option.map_some] at hb
    unfold execOp
    simp only [ho, hx, Sem.run_bind, Instr.sliceAt, run_underlying hu, Result.andThen_ok, Instr.slice, Option.map_none, Option.map_some, hb, run_sz (w := w) hz, Sem.run_pure]
  · rcases h1 with ⟨_, _, rfl⟩ | ⟨b, cur, rfl, _⟩
    · simp at hq
    · refine ⟨b, rfl, ?_⟩
      rw [if_neg (by omega)]
      simp [addr_add]
theorem calls_env1 {f : FuncId} {fn : Func} {c : Code} {args : Array Value} {R : Ending → World → Prop} (hf : P.funcs[f]? = some fn) (hb : fn.body = some c) (hn : fn.ntmps = n) (hs : Nat.ble args.size n = true)
    (h : c.wp P (bodyPost P fn R) (env [] n (enum 0 args.toList) (fun _ => undef)) w) : Calls P f args w R := by
  refine calls_of_wp hf hb ?_
  rw [hn, env_init n args (Nat.le_of_ble_eq_true hs)]
  exact h
end
def btwF (t k : Str) : Bool := decide (t = []) || decide (k < t)
theorem tw_get {p : Str → Bool} : ∀ (l : List Str) (q : Nat), q ≤ (l.takeWhile p).length → q < l.length → (p (l.getD q []) = true → (l.takeWhile p)[q]? = some (l.getD q [])) ∧ (p (l.getD q []) = false → q = (l.takeWhile p).length)
  | [], q, _, h => by simp at h
  | x :: l, q, h, hl => by
    rw [List.takeWhile_cons] at h ⊢
    cases hx : p x with
    | false =>
      rw [hx] at h
      simp at h
      subst h
      simp [hx]
    | true =>
      rw [hx] at h
      cases q with
      | zero => simp [hx]
      | succ q =>
        simp at h hl
        have := tw_get l q h hl
        simpa using this
theorem tw_end {p : Str → Bool} {l : List Str} {q : Nat} (h : q ≤ (l.takeWhile p).length) (hl : ¬ q < l.length) : q = (l.takeWhile p).length := by
  have := (List.takeWhile_prefix p (l := l)).length_le
  omega
theorem btwF_le (l : List Str) (p : Str → Bool) : (l.takeWhile p).length ≤ l.length := (List.takeWhile_prefix p).length_le
theorem Step.bodyIn {V0 V : VT} {w0 w : World} {E0 Esp G Ex : List Ent} (h : Step V0 w0 E0 V w (Esp ++ (G ++ Ex))) : Step V0 w0 E0 V w (grp Ex :: (Esp ++ G)) := by
  refine Step.group Ex (h.perm ?_)
  rw [← List.append_assoc]
  exact List.perm_append_comm
theorem Step.bodyOut {V0 V : VT} {w0 w : World} {E0 Esp G Ex : List Ent} (h : Step V0 w0 E0 V w (grp Ex :: (Esp ++ G))) : Step V0 w0 E0 V w (Esp ++ (G ++ Ex)) := by
  refine h.ungroup.perm ?_
  have := List.perm_append_comm (l₁ := Ex) (l₂ := Esp ++ G)
  rwa [List.append_assoc] at this
theorem row_lens {V : VT} {w : World} {e : TypeId} {A : Option Addr} {c : Nat} {xs : List Str} (h : Ent.holds V w (.row strK e A c xs)) : ∀ x, x ∈ xs → x.length ≤ 140737488355328 := (row_open h).1
end Go.Vk
