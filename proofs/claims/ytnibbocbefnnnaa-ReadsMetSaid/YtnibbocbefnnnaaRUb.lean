import Derived.Test.YtnibbocbefnnnaaRIt
import Derived.Test.YtnibbocbefnnnaaRMathRd
import Derived.Test.YtnibbocbefnnnaaRMathSp
import Derived.Test.YtnibbocbefnnnaaRMathSq
import Derived.Test.YtnibbocbefnnnaaRMathSr
import Derived.Test.YtnibbocbefnnnaaRMathSs
import Derived.Test.YtnibbocbefnnnaaRPlainSp
import Derived.Test.YtnibbocbefnnnaaRSp
set_option linter.unusedVariables false
set_option linter.unusedSimpArgs false
namespace Go.Vk
open Go.Proofs
variable {D : List Deferred}
set_option maxRecDepth 100000 in
theorem f114e (V : VT) (w : World) (E : List Ent) (fid : FuncId) (caps : Array Value) (hfid : callable Try.prog fid = true) (φ : (Str × Str) → Bool) (A : Option Addr) (c : Nat) (xs : List (Str × Str)) (hR : Rd (prK strK strK) V A c xs)
   (hf : ∀ V' w', V.le V' → St V' w' E → ∀ j, j < xs.length → (((xs.getD j ([], []))).1.length ≤ maxL ∧ ((xs.getD j ([], []))).2.length ≤ maxL) → Calls Try.prog fid (#[.agg #[bs (xs.getD j ([], [])).1, bs (xs.getD j ([], [])).2]] ++ caps) w' (Ret V' w' E fun v _ E' => v = .bool (φ (xs.getD j ([], []))) ∧ E' = E)) (hS : St V w E) :
   Calls Try.prog 114 #[.slice A xs.length c, .func (.func fid) #[] caps] w (Ret V w E fun v _ E' => E' = E ∧ ∃ r : Int, v = .int .i64 r ∧ decide (0 ≤ r) = xs.any φ) := by
  have hmax : xs.length ≤ 140737488355328 := hR.max
  refine calls_env (n := 19) Try.func114 (c := _) rfl Try.ntmps114 (by kernel_rfl) (fun R hRet => ?_)
  have hM0 : Step V w E V w E := Step.refl hS
  refine wp_seq_k (fun K1 hK1 => ?_)
  refine wp_reg ?_
  refine wpF_seg 1 (by kernel_rfl) ?_
  refine wpF_end _ (by kernel_rfl) (then_n (hK1 _ _ ?_))
  refine wp_seq_k (fun K2 hK2 => ?_)
  refine wp_seq_k (fun K3 hK3 => ?_)
  refine wp_reg ?_
  refine wpF_seg 3 (by kernel_rfl) ?_
  refine wpF_end _ (by kernel_rfl) (then_n (hK3 _ _ ?_))
  refine wp_block ?_
  refine wp_base [(0, .slice A xs.length c), (1, .func (.func fid) #[] caps), (7, .int .i64 (xs.length : Int)), (8, .int .i64 ((0 : Nat) : Int))] (by kernel_rfl) (fun g1 => ?_)
  refine wp_loopX (fun (k : Nat) a w' => ∃ g V', a = env [] 19 [(0, .slice A xs.length c), (1, .func (.func fid) #[] caps), (7, .int .i64 (xs.length : Int)), (8, .int .i64 (k : Int))] g ∧ Step V w E V' w' E ∧ k ≤ xs.length ∧ (∀ i, i < k → φ (xs.getD i ([], [])) = false)) (fun k => xs.length - k) 0 ⟨g1, V, rfl, hM0, by omega, fun i hi => by omega⟩ ?_
  rintro k a w1 ⟨g, V1, rfl, hM, hk, hno⟩ K4 hK4
  refine wp_seq_k (fun K5 hK5 => ?_)
  refine wp_reg ?_
  refine wpF_seg 1 (by kernel_rfl) ?_
  refine wpF_end _ (by kernel_rfl) (then_n (hK5 _ _ ?_))
  refine wp_seq_k (fun K6 hK6 => ?_)
  refine wp_if (decide ((k : Int) < (xs.length : Int))) (by kernel_rfl) (fun h => ?_) (fun h => ?_)
  · have h1 : (k : Int) < (xs.length : Int) := of_decide_eq_true h
    refine wp_skip (then_n (hK6 _ _ ?_))
    refine wp_seq_k (fun K7 hK7 => ?_)
    refine wp_block ?_
    refine wp_seq_k (fun K8 hK8 => ?_)
    refine wp_reg ?_
    refine wpF_seg 2 (by kernel_rfl) ?_
    refine wpF_end _ (by kernel_rfl) (then_n (hK8 _ _ ?_))
    refine wp_seq_k (fun K9 hK9 => ?_)
    refine wp_reg ?_
    refine wpF_seg 3 (by kernel_rfl) ?_
    refine wpF_index (A := A) (c := c) (hR.up hM.le) .i64 (k : Int) (h := (by kernel_rfl : opAt _ _ _ _ _ = some (.indexAddr 23 (.tmp 12) (.tmp 13), some 14))) (e := 40) (by kernel_rfl) (by kernel_rfl) (by kernel_rfl) k rfl (by omega) (fun b o hat => ?_)
    obtain ⟨hc1, hl1⟩ := (At.pr hat).1.str
    obtain ⟨hc2, hl2⟩ := (At.pr hat).2.str
    refine wpF_loadS hM [bs (xs.getD k ([], [])).1, bs (xs.getD k ([], [])).2] (cells2 hc1 hc2) (h := (by kernel_rfl : opAt _ _ _ _ _ = some (.load 40 (.tmp 14), some 15))) (by kernel_rfl) (by kernel_rfl) (by kernel_rfl) ?_
    refine wpF_callE E [] (by rw [List.append_nil]; exact hM) (f := fid) (caps := caps) (h := (by kernel_rfl : opAt _ _ _ _ _ = some (.call ⟨.value (.tmp 11), #[.tmp 15], #[40]⟩, some 16))) (by kernel_rfl) hfid (by kernel_rfl) (hf V1 w1 hM.le hM.ok k (by omega) ⟨hl1, hl2⟩) (fun v V2 w2 Eo hle hM2 hΦ => ?_)
    obtain ⟨rfl, hE⟩ := hΦ
    rw [hE, List.append_nil] at hM2
    refine wpF_end _ (by kernel_rfl) (then_n (hK9 _ _ ?_))
    refine wp_if (φ (xs.getD k ([], []))) (by kernel_rfl) (fun h => ?_) (fun h => ?_)
    · refine wp_seq_k (fun K10 hK10 => ?_)
      refine wp_reg ?_
      refine wpF_seg 2 (by kernel_rfl) ?_
      refine wpF_end _ (by kernel_rfl) (then_n (hK10 _ _ ?_))
      refine wp_ret (blk_r (then_r (then_r (blk_r (then_r ?_)))))
      refine ret1 (.int .i64 (k : Int)) Try.results114 (by kernel_rfl) (by kernel_rfl) (hRet _ _ ?_)
      exact ⟨_, _, _, rfl, hM2, rfl, (k : Int), rfl, by rw [decide_eq_true (by omega), any_getD ([], []) (by omega) h]⟩
    · refine wp_skip (blk_n (then_n (hK7 _ _ ?_)))
      refine wp_reg ?_
      refine wpF_add .i64 (k : Int) 1 ((k + 1 : Nat) : Int) (h := (by kernel_rfl : opAt _ _ _ _ _ = some (.binOp .add 3 (.tmp 8) (.const (.int .i64 1)) 3, some 18))) (by kernel_rfl) (by kernel_rfl) (by rw [wrap64_ok _ (by omega)]; omega) ?_
      refine wpF_seg 1 (by kernel_rfl) ?_
      refine wpF_base [(0, .slice A xs.length c), (1, .func (.func fid) #[] caps), (7, .int .i64 (xs.length : Int)), (8, .int .i64 ((k + 1 : Nat) : Int))] (by kernel_rfl) (fun g2 => ?_)
      refine wpF_end _ (by kernel_rfl) (then_n (hK4 _ _ (k + 1) (by omega) ?_))
      exact ⟨g2, V2, rfl, hM2, by omega, fun i hi => by
        rcases Nat.lt_or_ge i k with h2 | h2
        · exact hno i h2
        · obtain rfl : i = k := by omega
          exact h⟩
  · have h1 : ¬ (k : Int) < (xs.length : Int) := of_decide_eq_false h
    refine wp_exit (then_x (then_x (blk_hit (then_n (hK2 _ _ ?_)))))
    refine wp_seq_k (fun K11 hK11 => ?_)
    refine wp_reg ?_
    refine wpF_seg 1 (by kernel_rfl) ?_
    refine wpF_end _ (by kernel_rfl) (then_n (hK11 _ _ ?_))
    refine wp_ret ?_
    refine ret1 (.int .i64 (-1)) Try.results114 (by kernel_rfl) (by kernel_rfl) (hRet _ _ ?_)
    exact ⟨_, _, _, rfl, hM, rfl, -1, rfl, by rw [any_none ([], []) fun i hi => hno i (by omega)]; rfl⟩

set_option maxRecDepth 100000 in
theorem f74e (V : VT) (w : World) (E : List Ent) (fid : FuncId) (caps : Array Value) (hfid : callable Try.prog fid = true) (φ : (Str × Str) → Bool) (A : Option Addr) (c : Nat) (xs : List (Str × Str)) (hR : Rd (prK strK strK) V A c xs)
   (hf : ∀ V' w', V.le V' → St V' w' E → ∀ j, j < xs.length → (((xs.getD j ([], []))).1.length ≤ maxL ∧ ((xs.getD j ([], []))).2.length ≤ maxL) → Calls Try.prog fid (#[.agg #[bs (xs.getD j ([], [])).1, bs (xs.getD j ([], [])).2]] ++ caps) w' (Ret V' w' E fun v _ E' => v = .bool (φ (xs.getD j ([], []))) ∧ E' = E)) (hS : St V w E) :
   Calls Try.prog 74 #[.slice A xs.length c, .func (.func fid) #[] caps] w (Ret V w E fun v _ E' => v = .bool (xs.any φ) ∧ E' = E) := by
  refine calls_env (n := 9) Try.func74 (c := _) rfl Try.ntmps74 (by kernel_rfl) (fun R hRet => ?_)
  have hM0 : Step V w E V w E := Step.refl hS
  refine wp_seq_k (fun K1 hK1 => ?_)
  refine wp_reg ?_
  refine wpF_seg 1 (by kernel_rfl) ?_
  refine wpF_end _ (by kernel_rfl) (then_n (hK1 _ _ ?_))
  refine wp_seq_k (fun K2 hK2 => ?_)
  refine wp_reg ?_
  refine wpF_seg 2 (by kernel_rfl) ?_
  refine wpF_callE E [] (by rw [List.append_nil]; exact hM0) (f := 114) (caps := #[]) (h := (by kernel_rfl : opAt _ _ _ _ _ = some (.call ⟨.value (.func 114), #[.tmp 5, .tmp 6], #[23, 115]⟩, some 7))) (by kernel_rfl) (by kernel_rfl) (by kernel_rfl) (f114e V w E fid caps hfid φ A c xs hR hf hS) (fun v V2 w2 Eo hle hM2 hΦ => ?_)
  obtain ⟨hE, r, rfl, hr⟩ := hΦ
  rw [hE, List.append_nil] at hM2
  refine wpF_seg 2 (by kernel_rfl) ?_
  refine wpF_end _ (by kernel_rfl) (then_n (hK2 _ _ ?_))
  refine wp_ret ?_
  refine ret1 (.bool (decide (0 ≤ r))) Try.results74 (by kernel_rfl) (by kernel_rfl) (hRet _ _ ?_)
  exact ⟨_, _, _, rfl, hM2, congrArg Value.bool hr, rfl⟩

set_option maxRecDepth 100000 in
theorem f113e (V : VT) (w : World) (E : List Ent) (fid : FuncId) (caps : Array Value) (hfid : callable Try.prog fid = true) (φ : Str → Bool) (A : Option Addr) (c : Nat) (xs : List Str) (hR : Rd strK V A c xs)
   (hf : ∀ V' w', V.le V' → St V' w' E → ∀ j, j < xs.length → ((xs.getD j [])).length ≤ maxL → Calls Try.prog fid (#[bs (xs.getD j [])] ++ caps) w' (Ret V' w' E fun v _ E' => v = .bool (φ (xs.getD j [])) ∧ E' = E)) (hS : St V w E) :
   Calls Try.prog 113 #[.slice A xs.length c, .func (.func fid) #[] caps] w (Ret V w E fun v _ E' => E' = E ∧ ∃ r : Int, v = .int .i64 r ∧ decide (0 ≤ r) = xs.any φ) := by
  have hmax : xs.length ≤ 140737488355328 := hR.max
  refine calls_env (n := 19) Try.func113 (c := _) rfl Try.ntmps113 (by kernel_rfl) (fun R hRet => ?_)
  have hM0 : Step V w E V w E := Step.refl hS
  refine wp_seq_k (fun K1 hK1 => ?_)
  refine wp_reg ?_
  refine wpF_seg 1 (by kernel_rfl) ?_
  refine wpF_end _ (by kernel_rfl) (then_n (hK1 _ _ ?_))
  refine wp_seq_k (fun K2 hK2 => ?_)
  refine wp_seq_k (fun K3 hK3 => ?_)
  refine wp_reg ?_
  refine wpF_seg 3 (by kernel_rfl) ?_
  refine wpF_end _ (by kernel_rfl) (then_n (hK3 _ _ ?_))
  refine wp_block ?_
  refine wp_base [(0, .slice A xs.length c), (1, .func (.func fid) #[] caps), (7, .int .i64 (xs.length : Int)), (8, .int .i64 ((0 : Nat) : Int))] (by kernel_rfl) (fun g1 => ?_)
  refine wp_loopX (fun (k : Nat) a w' => ∃ g V', a = env [] 19 [(0, .slice A xs.length c), (1, .func (.func fid) #[] caps), (7, .int .i64 (xs.length : Int)), (8, .int .i64 (k : Int))] g ∧ Step V w E V' w' E ∧ k ≤ xs.length ∧ (∀ i, i < k → φ (xs.getD i []) = false)) (fun k => xs.length - k) 0 ⟨g1, V, rfl, hM0, by omega, fun i hi => by omega⟩ ?_
  rintro k a w1 ⟨g, V1, rfl, hM, hk, hno⟩ K4 hK4
  refine wp_seq_k (fun K5 hK5 => ?_)
  refine wp_reg ?_
  refine wpF_seg 1 (by kernel_rfl) ?_
  refine wpF_end _ (by kernel_rfl) (then_n (hK5 _ _ ?_))
  refine wp_seq_k (fun K6 hK6 => ?_)
  refine wp_if (decide ((k : Int) < (xs.length : Int))) (by kernel_rfl) (fun h => ?_) (fun h => ?_)
  · have h1 : (k : Int) < (xs.length : Int) := of_decide_eq_true h
    refine wp_skip (then_n (hK6 _ _ ?_))
    refine wp_seq_k (fun K7 hK7 => ?_)
    refine wp_block ?_
    refine wp_seq_k (fun K8 hK8 => ?_)
    refine wp_reg ?_
    refine wpF_seg 2 (by kernel_rfl) ?_
    refine wpF_end _ (by kernel_rfl) (then_n (hK8 _ _ ?_))
    refine wp_seq_k (fun K9 hK9 => ?_)
    refine wp_reg ?_
    refine wpF_seg 3 (by kernel_rfl) ?_
    refine wpF_index (A := A) (c := c) (hR.up hM.le) .i64 (k : Int) (h := (by kernel_rfl : opAt _ _ _ _ _ = some (.indexAddr 22 (.tmp 12) (.tmp 13), some 14))) (e := 9) (by kernel_rfl) (by kernel_rfl) (by kernel_rfl) k rfl (by omega) (fun b o hat => ?_)
    obtain ⟨hc1, hl1⟩ := hat.str
    refine wpF_loadV hM hc1 (h := (by kernel_rfl : opAt _ _ _ _ _ = some (.load 9 (.tmp 14), some 15))) (by kernel_rfl) (by kernel_rfl) ?_
    refine wpF_callE E [] (by rw [List.append_nil]; exact hM) (f := fid) (caps := caps) (h := (by kernel_rfl : opAt _ _ _ _ _ = some (.call ⟨.value (.tmp 11), #[.tmp 15], #[9]⟩, some 16))) (by kernel_rfl) hfid (by kernel_rfl) (hf V1 w1 hM.le hM.ok k (by omega) hl1) (fun v V2 w2 Eo hle hM2 hΦ => ?_)
    obtain ⟨rfl, hE⟩ := hΦ
    rw [hE, List.append_nil] at hM2
    refine wpF_end _ (by kernel_rfl) (then_n (hK9 _ _ ?_))
    refine wp_if (φ (xs.getD k [])) (by kernel_rfl) (fun h => ?_) (fun h => ?_)
    · refine wp_seq_k (fun K10 hK10 => ?_)
      refine wp_reg ?_
      refine wpF_seg 2 (by kernel_rfl) ?_
      refine wpF_end _ (by kernel_rfl) (then_n (hK10 _ _ ?_))
      refine wp_ret (blk_r (then_r (then_r (blk_r (then_r ?_)))))
      refine ret1 (.int .i64 (k : Int)) Try.results113 (by kernel_rfl) (by kernel_rfl) (hRet _ _ ?_)
      exact ⟨_, _, _, rfl, hM2, rfl, (k : Int), rfl, by rw [decide_eq_true (by omega), any_getD [] (by omega) h]⟩
    · refine wp_skip (blk_n (then_n (hK7 _ _ ?_)))
      refine wp_reg ?_
      refine wpF_add .i64 (k : Int) 1 ((k + 1 : Nat) : Int) (h := (by kernel_rfl : opAt _ _ _ _ _ = some (.binOp .add 3 (.tmp 8) (.const (.int .i64 1)) 3, some 18))) (by kernel_rfl) (by kernel_rfl) (by rw [wrap64_ok _ (by omega)]; omega) ?_
      refine wpF_seg 1 (by kernel_rfl) ?_
      refine wpF_base [(0, .slice A xs.length c), (1, .func (.func fid) #[] caps), (7, .int .i64 (xs.length : Int)), (8, .int .i64 ((k + 1 : Nat) : Int))] (by kernel_rfl) (fun g2 => ?_)
      refine wpF_end _ (by kernel_rfl) (then_n (hK4 _ _ (k + 1) (by omega) ?_))
      exact ⟨g2, V2, rfl, hM2, by omega, fun i hi => by
        rcases Nat.lt_or_ge i k with h2 | h2
        · exact hno i h2
        · obtain rfl : i = k := by omega
          exact h⟩
  · have h1 : ¬ (k : Int) < (xs.length : Int) := of_decide_eq_false h
    refine wp_exit (then_x (then_x (blk_hit (then_n (hK2 _ _ ?_)))))
    refine wp_seq_k (fun K11 hK11 => ?_)
    refine wp_reg ?_
    refine wpF_seg 1 (by kernel_rfl) ?_
    refine wpF_end _ (by kernel_rfl) (then_n (hK11 _ _ ?_))
    refine wp_ret ?_
    refine ret1 (.int .i64 (-1)) Try.results113 (by kernel_rfl) (by kernel_rfl) (hRet _ _ ?_)
    exact ⟨_, _, _, rfl, hM, rfl, -1, rfl, by rw [any_none [] fun i hi => hno i (by omega)]; rfl⟩

set_option maxRecDepth 100000 in
theorem f72e (V : VT) (w : World) (E : List Ent) (fid : FuncId) (caps : Array Value) (hfid : callable Try.prog fid = true) (φ : Str → Bool) (A : Option Addr) (c : Nat) (xs : List Str) (hR : Rd strK V A c xs)
   (hf : ∀ V' w', V.le V' → St V' w' E → ∀ j, j < xs.length → ((xs.getD j [])).length ≤ maxL → Calls Try.prog fid (#[bs (xs.getD j [])] ++ caps) w' (Ret V' w' E fun v _ E' => v = .bool (φ (xs.getD j [])) ∧ E' = E)) (hS : St V w E) :
   Calls Try.prog 72 #[.slice A xs.length c, .func (.func fid) #[] caps] w (Ret V w E fun v _ E' => v = .bool (xs.any φ) ∧ E' = E) := by
  refine calls_env (n := 9) Try.func72 (c := _) rfl Try.ntmps72 (by kernel_rfl) (fun R hRet => ?_)
  have hM0 : Step V w E V w E := Step.refl hS
  refine wp_seq_k (fun K1 hK1 => ?_)
  refine wp_reg ?_
  refine wpF_seg 1 (by kernel_rfl) ?_
  refine wpF_end _ (by kernel_rfl) (then_n (hK1 _ _ ?_))
  refine wp_seq_k (fun K2 hK2 => ?_)
  refine wp_reg ?_
  refine wpF_seg 2 (by kernel_rfl) ?_
  refine wpF_callE E [] (by rw [List.append_nil]; exact hM0) (f := 113) (caps := #[]) (h := (by kernel_rfl : opAt _ _ _ _ _ = some (.call ⟨.value (.func 113), #[.tmp 5, .tmp 6], #[22, 122]⟩, some 7))) (by kernel_rfl) (by kernel_rfl) (by kernel_rfl) (f113e V w E fid caps hfid φ A c xs hR hf hS) (fun v V2 w2 Eo hle hM2 hΦ => ?_)
  obtain ⟨hE, r, rfl, hr⟩ := hΦ
  rw [hE, List.append_nil] at hM2
  refine wpF_seg 2 (by kernel_rfl) ?_
  refine wpF_end _ (by kernel_rfl) (then_n (hK2 _ _ ?_))
  refine wp_ret ?_
  refine ret1 (.bool (decide (0 ≤ r))) Try.results72 (by kernel_rfl) (by kernel_rfl) (hRet _ _ ?_)
  exact ⟨_, _, _, rfl, hM2, congrArg Value.bool hr, rfl⟩

end Go.Vk
