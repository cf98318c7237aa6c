/- Contracts of the page's functions, part A: printed by wip/tools/p8.py. -/
import Derived.Test.YtpaljghjoajhfaaRPlain
set_option linter.unusedVariables false
set_option linter.unusedSimpArgs false
namespace Go.Vk
open Go.Proofs
set_option maxRecDepth 100000 in
theorem f66 (V : VT) (w : World) (hV : V.inW w) (fid : FuncId) (caps : Array Value) (hfid : callable Try.prog fid = true) (φ : Str → Bool) (A : Option Addr) (c : Nat) (xs : List Str) (hR : Rd strK V A c xs)
   (hf : ∀ V' w', V.le V' → V'.inW w' → ∀ j, j < xs.length → ((xs.getD j [])).length ≤ maxL → Calls Try.prog fid (#[bs (xs.getD j [])] ++ caps) w' (RetP V' w' fun v _ => v = .bool (φ (xs.getD j [])))) :
   Calls Try.prog 66 #[.slice A xs.length c, .func (.func fid) #[] caps] w (RetP V w fun v _ => ∃ r : Int, v = .int .i64 r ∧ decide (0 ≤ r) = xs.any φ) := by
  have hmax : xs.length ≤ 140737488355328 := hR.max
  refine calls_env (n := 19) Try.func66 (c := _) rfl Try.ntmps66 (by kernel_rfl) (fun R hRet => ?_)
  have hM0 : Step V w [] V w [] := Step.refl (St.nilE hV)
  refine wp_seq_k (fun K1 hK1 => ?_)
  refine wp_reg ?_
  refine wpF_seg 1 (by kernel_rfl) ?_
  refine wpF_end _ (by kernel_rfl) (then_n (hK1 _ _ ?_))
  refine wp_seq_k (fun K2 hK2 => ?_)
  refine wp_seq_k (fun K3 hK3 => ?_)
  refine wp_reg ?_
  refine wpF_seg 3 (by kernel_rfl) ?_
  refine wpF_end _ (by kernel_rfl) (then_n (hK3 _ _ ?_))
  refine wp_block ?_
  refine wp_base [(0, .slice A xs.length c), (1, .func (.func fid) #[] caps), (7, .int .i64 (xs.length : Int)), (8, .int .i64 ((0 : Nat) : Int))] (by kernel_rfl) (fun g1 => ?_)
  refine wp_loopX (fun (k : Nat) a w' => ∃ g V', a = env 19 [(0, .slice A xs.length c), (1, .func (.func fid) #[] caps), (7, .int .i64 (xs.length : Int)), (8, .int .i64 (k : Int))] g ∧ Step V w [] V' w' [] ∧ k ≤ xs.length ∧ (∀ i, i < k → φ (xs.getD i []) = false)) (fun k => xs.length - k) 0 ⟨g1, V, rfl, hM0, by omega, fun i hi => by omega⟩ ?_
  rintro k a w1 ⟨g, V1, rfl, hM, hk, hno⟩ K4 hK4
  refine wp_seq_k (fun K5 hK5 => ?_)
  refine wp_reg ?_
  refine wpF_seg 1 (by kernel_rfl) ?_
  refine wpF_end _ (by kernel_rfl) (then_n (hK5 _ _ ?_))
  refine wp_seq_k (fun K6 hK6 => ?_)
  refine wp_if (decide ((k : Int) < (xs.length : Int))) (by kernel_rfl) (fun h => ?_) (fun h => ?_)
  · have h1 : (k : Int) < (xs.length : Int) := of_decide_eq_true h
    refine wp_skip (then_n (hK6 _ _ ?_))
    refine wp_seq_k (fun K7 hK7 => ?_)
    refine wp_block ?_
    refine wp_seq_k (fun K8 hK8 => ?_)
    refine wp_reg ?_
    refine wpF_seg 2 (by kernel_rfl) ?_
    refine wpF_end _ (by kernel_rfl) (then_n (hK8 _ _ ?_))
    refine wp_seq_k (fun K9 hK9 => ?_)
    refine wp_reg ?_
    refine wpF_seg 3 (by kernel_rfl) ?_
    refine wpF_index (A := A) (c := c) (hR.up hM.le) .i64 (k : Int) (h := (by kernel_rfl : opAt _ _ _ _ _ = some (.indexAddr 22 (.tmp 12) (.tmp 13), some 14))) (e := 9) (by kernel_rfl) (by kernel_rfl) (by kernel_rfl) k rfl (by omega) (fun b o hat => ?_)
    obtain ⟨hc1, hl1⟩ := hat.str
    refine wpF_loadV hM hc1 (h := (by kernel_rfl : opAt _ _ _ _ _ = some (.load 9 (.tmp 14), some 15))) (by kernel_rfl) (by kernel_rfl) ?_
    refine wpF_callP hM (f := fid) (caps := caps) (h := (by kernel_rfl : opAt _ _ _ _ _ = some (.call ⟨.value (.tmp 11), #[.tmp 15], #[9]⟩, some 16))) (by kernel_rfl) hfid (by kernel_rfl) (hf V1 w1 hM.le hM.inW k (by omega) hl1) (fun v V2 w2 hle hM2 hΦ => ?_)
    subst hΦ
    refine wpF_end _ (by kernel_rfl) (then_n (hK9 _ _ ?_))
    refine wp_if (φ (xs.getD k [])) (by kernel_rfl) (fun h => ?_) (fun h => ?_)
    · refine wp_seq_k (fun K10 hK10 => ?_)
      refine wp_reg ?_
      refine wpF_seg 2 (by kernel_rfl) ?_
      refine wpF_end _ (by kernel_rfl) (then_n (hK10 _ _ ?_))
      refine wp_ret (blk_r (then_r (then_r (blk_r (then_r ?_)))))
      refine ret1 (.int .i64 (k : Int)) Try.results66 (by kernel_rfl) (by kernel_rfl) (hRet _ _ ?_)
      exact ⟨_, _, rfl, hM2, (k : Int), rfl, by rw [decide_eq_true (by omega), any_getD [] (by omega) h]⟩
    · refine wp_skip (blk_n (then_n (hK7 _ _ ?_)))
      refine wp_reg ?_
      refine wpF_add .i64 (k : Int) 1 ((k + 1 : Nat) : Int) (h := (by kernel_rfl : opAt _ _ _ _ _ = some (.binOp .add 3 (.tmp 8) (.const (.int .i64 1)) 3, some 18))) (by kernel_rfl) (by kernel_rfl) (by rw [wrap64_ok _ (by omega)]; omega) ?_
      refine wpF_seg 1 (by kernel_rfl) ?_
      refine wpF_base [(0, .slice A xs.length c), (1, .func (.func fid) #[] caps), (7, .int .i64 (xs.length : Int)), (8, .int .i64 ((k + 1 : Nat) : Int))] (by kernel_rfl) (fun g2 => ?_)
      refine wpF_end _ (by kernel_rfl) (then_n (hK4 _ _ (k + 1) (by omega) ?_))
      exact ⟨g2, V2, rfl, hM2, by omega, fun i hi => by
        rcases Nat.lt_or_ge i k with h2 | h2
        · exact hno i h2
        · obtain rfl : i = k := by omega
          exact h⟩
  · have h1 : ¬ (k : Int) < (xs.length : Int) := of_decide_eq_false h
    refine wp_exit (then_x (then_x (blk_hit (then_n (hK2 _ _ ?_)))))
    refine wp_seq_k (fun K11 hK11 => ?_)
    refine wp_reg ?_
    refine wpF_seg 1 (by kernel_rfl) ?_
    refine wpF_end _ (by kernel_rfl) (then_n (hK11 _ _ ?_))
    refine wp_ret ?_
    refine ret1 (.int .i64 (-1)) Try.results66 (by kernel_rfl) (by kernel_rfl) (hRet _ _ ?_)
    exact ⟨_, _, rfl, hM, -1, rfl, by rw [any_none [] fun i hi => hno i (by omega)]; rfl⟩

set_option maxRecDepth 100000 in
theorem f67 (V : VT) (w : World) (hV : V.inW w) (fid : FuncId) (caps : Array Value) (hfid : callable Try.prog fid = true) (φ : Int → Bool) (A : Option Addr) (c : Nat) (xs : List Int) (hR : Rd (intK .i64) V A c xs)
   (hf : ∀ V' w', V.le V' → V'.inW w' → ∀ j, j < xs.length → (IntKind.i64.min ≤ (xs.getD j 0) ∧ (xs.getD j 0) ≤ IntKind.i64.max) → Calls Try.prog fid (#[.int .i64 (xs.getD j 0)] ++ caps) w' (RetP V' w' fun v _ => v = .bool (φ (xs.getD j 0)))) :
   Calls Try.prog 67 #[.slice A xs.length c, .func (.func fid) #[] caps] w (RetP V w fun v _ => ∃ r : Int, v = .int .i64 r ∧ decide (0 ≤ r) = xs.any φ) := by
  have hmax : xs.length ≤ 140737488355328 := hR.max
  refine calls_env (n := 19) Try.func67 (c := _) rfl Try.ntmps67 (by kernel_rfl) (fun R hRet => ?_)
  have hM0 : Step V w [] V w [] := Step.refl (St.nilE hV)
  refine wp_seq_k (fun K1 hK1 => ?_)
  refine wp_reg ?_
  refine wpF_seg 1 (by kernel_rfl) ?_
  refine wpF_end _ (by kernel_rfl) (then_n (hK1 _ _ ?_))
  refine wp_seq_k (fun K2 hK2 => ?_)
  refine wp_seq_k (fun K3 hK3 => ?_)
  refine wp_reg ?_
  refine wpF_seg 3 (by kernel_rfl) ?_
  refine wpF_end _ (by kernel_rfl) (then_n (hK3 _ _ ?_))
  refine wp_block ?_
  refine wp_base [(0, .slice A xs.length c), (1, .func (.func fid) #[] caps), (7, .int .i64 (xs.length : Int)), (8, .int .i64 ((0 : Nat) : Int))] (by kernel_rfl) (fun g1 => ?_)
  refine wp_loopX (fun (k : Nat) a w' => ∃ g V', a = env 19 [(0, .slice A xs.length c), (1, .func (.func fid) #[] caps), (7, .int .i64 (xs.length : Int)), (8, .int .i64 (k : Int))] g ∧ Step V w [] V' w' [] ∧ k ≤ xs.length ∧ (∀ i, i < k → φ (xs.getD i 0) = false)) (fun k => xs.length - k) 0 ⟨g1, V, rfl, hM0, by omega, fun i hi => by omega⟩ ?_
  rintro k a w1 ⟨g, V1, rfl, hM, hk, hno⟩ K4 hK4
  refine wp_seq_k (fun K5 hK5 => ?_)
  refine wp_reg ?_
  refine wpF_seg 1 (by kernel_rfl) ?_
  refine wpF_end _ (by kernel_rfl) (then_n (hK5 _ _ ?_))
  refine wp_seq_k (fun K6 hK6 => ?_)
  refine wp_if (decide ((k : Int) < (xs.length : Int))) (by kernel_rfl) (fun h => ?_) (fun h => ?_)
  · have h1 : (k : Int) < (xs.length : Int) := of_decide_eq_true h
    refine wp_skip (then_n (hK6 _ _ ?_))
    refine wp_seq_k (fun K7 hK7 => ?_)
    refine wp_block ?_
    refine wp_seq_k (fun K8 hK8 => ?_)
    refine wp_reg ?_
    refine wpF_seg 2 (by kernel_rfl) ?_
    refine wpF_end _ (by kernel_rfl) (then_n (hK8 _ _ ?_))
    refine wp_seq_k (fun K9 hK9 => ?_)
    refine wp_reg ?_
    refine wpF_seg 3 (by kernel_rfl) ?_
    refine wpF_index (A := A) (c := c) (hR.up hM.le) .i64 (k : Int) (h := (by kernel_rfl : opAt _ _ _ _ _ = some (.indexAddr 23 (.tmp 12) (.tmp 13), some 14))) (e := 3) (by kernel_rfl) (by kernel_rfl) (by kernel_rfl) k rfl (by omega) (fun b o hat => ?_)
    obtain ⟨hc1, hl1⟩ := hat.int
    refine wpF_loadV hM hc1 (h := (by kernel_rfl : opAt _ _ _ _ _ = some (.load 3 (.tmp 14), some 15))) (by kernel_rfl) (by kernel_rfl) ?_
    refine wpF_callP hM (f := fid) (caps := caps) (h := (by kernel_rfl : opAt _ _ _ _ _ = some (.call ⟨.value (.tmp 11), #[.tmp 15], #[3]⟩, some 16))) (by kernel_rfl) hfid (by kernel_rfl) (hf V1 w1 hM.le hM.inW k (by omega) hl1) (fun v V2 w2 hle hM2 hΦ => ?_)
    subst hΦ
    refine wpF_end _ (by kernel_rfl) (then_n (hK9 _ _ ?_))
    refine wp_if (φ (xs.getD k 0)) (by kernel_rfl) (fun h => ?_) (fun h => ?_)
    · refine wp_seq_k (fun K10 hK10 => ?_)
      refine wp_reg ?_
      refine wpF_seg 2 (by kernel_rfl) ?_
      refine wpF_end _ (by kernel_rfl) (then_n (hK10 _ _ ?_))
      refine wp_ret (blk_r (then_r (then_r (blk_r (then_r ?_)))))
      refine ret1 (.int .i64 (k : Int)) Try.results67 (by kernel_rfl) (by kernel_rfl) (hRet _ _ ?_)
      exact ⟨_, _, rfl, hM2, (k : Int), rfl, by rw [decide_eq_true (by omega), any_getD 0 (by omega) h]⟩
    · refine wp_skip (blk_n (then_n (hK7 _ _ ?_)))
      refine wp_reg ?_
      refine wpF_add .i64 (k : Int) 1 ((k + 1 : Nat) : Int) (h := (by kernel_rfl : opAt _ _ _ _ _ = some (.binOp .add 3 (.tmp 8) (.const (.int .i64 1)) 3, some 18))) (by kernel_rfl) (by kernel_rfl) (by rw [wrap64_ok _ (by omega)]; omega) ?_
      refine wpF_seg 1 (by kernel_rfl) ?_
      refine wpF_base [(0, .slice A xs.length c), (1, .func (.func fid) #[] caps), (7, .int .i64 (xs.length : Int)), (8, .int .i64 ((k + 1 : Nat) : Int))] (by kernel_rfl) (fun g2 => ?_)
      refine wpF_end _ (by kernel_rfl) (then_n (hK4 _ _ (k + 1) (by omega) ?_))
      exact ⟨g2, V2, rfl, hM2, by omega, fun i hi => by
        rcases Nat.lt_or_ge i k with h2 | h2
        · exact hno i h2
        · obtain rfl : i = k := by omega
          exact h⟩
  · have h1 : ¬ (k : Int) < (xs.length : Int) := of_decide_eq_false h
    refine wp_exit (then_x (then_x (blk_hit (then_n (hK2 _ _ ?_)))))
    refine wp_seq_k (fun K11 hK11 => ?_)
    refine wp_reg ?_
    refine wpF_seg 1 (by kernel_rfl) ?_
    refine wpF_end _ (by kernel_rfl) (then_n (hK11 _ _ ?_))
    refine wp_ret ?_
    refine ret1 (.int .i64 (-1)) Try.results67 (by kernel_rfl) (by kernel_rfl) (hRet _ _ ?_)
    exact ⟨_, _, rfl, hM, -1, rfl, by rw [any_none 0 fun i hi => hno i (by omega)]; rfl⟩

set_option maxRecDepth 100000 in
theorem f63 (V : VT) (w : World) (hV : V.inW w) (fid : FuncId) (caps : Array Value) (hfid : callable Try.prog fid = true) (φ : UInt8 → Bool) (A : Option Addr) (c : Nat) (xs : List UInt8) (hR : Rd byteK V A c xs)
   (hf : ∀ V' w', V.le V' → V'.inW w' → ∀ j, j < xs.length → True → Calls Try.prog fid (#[.int .u8 ((xs.getD j 0).toNat : Int)] ++ caps) w' (RetP V' w' fun v _ => v = .bool (φ (xs.getD j 0)))) :
   Calls Try.prog 63 #[.slice A xs.length c, .func (.func fid) #[] caps] w (RetP V w fun v _ => ∃ r : Int, v = .int .i64 r ∧ decide (0 ≤ r) = xs.any φ) := by
  have hmax : xs.length ≤ 140737488355328 := hR.max
  refine calls_env (n := 19) Try.func63 (c := _) rfl Try.ntmps63 (by kernel_rfl) (fun R hRet => ?_)
  have hM0 : Step V w [] V w [] := Step.refl (St.nilE hV)
  refine wp_seq_k (fun K1 hK1 => ?_)
  refine wp_reg ?_
  refine wpF_seg 1 (by kernel_rfl) ?_
  refine wpF_end _ (by kernel_rfl) (then_n (hK1 _ _ ?_))
  refine wp_seq_k (fun K2 hK2 => ?_)
  refine wp_seq_k (fun K3 hK3 => ?_)
  refine wp_reg ?_
  refine wpF_seg 3 (by kernel_rfl) ?_
  refine wpF_end _ (by kernel_rfl) (then_n (hK3 _ _ ?_))
  refine wp_block ?_
  refine wp_base [(0, .slice A xs.length c), (1, .func (.func fid) #[] caps), (7, .int .i64 (xs.length : Int)), (8, .int .i64 ((0 : Nat) : Int))] (by kernel_rfl) (fun g1 => ?_)
  refine wp_loopX (fun (k : Nat) a w' => ∃ g V', a = env 19 [(0, .slice A xs.length c), (1, .func (.func fid) #[] caps), (7, .int .i64 (xs.length : Int)), (8, .int .i64 (k : Int))] g ∧ Step V w [] V' w' [] ∧ k ≤ xs.length ∧ (∀ i, i < k → φ (xs.getD i 0) = false)) (fun k => xs.length - k) 0 ⟨g1, V, rfl, hM0, by omega, fun i hi => by omega⟩ ?_
  rintro k a w1 ⟨g, V1, rfl, hM, hk, hno⟩ K4 hK4
  refine wp_seq_k (fun K5 hK5 => ?_)
  refine wp_reg ?_
  refine wpF_seg 1 (by kernel_rfl) ?_
  refine wpF_end _ (by kernel_rfl) (then_n (hK5 _ _ ?_))
  refine wp_seq_k (fun K6 hK6 => ?_)
  refine wp_if (decide ((k : Int) < (xs.length : Int))) (by kernel_rfl) (fun h => ?_) (fun h => ?_)
  · have h1 : (k : Int) < (xs.length : Int) := of_decide_eq_true h
    refine wp_skip (then_n (hK6 _ _ ?_))
    refine wp_seq_k (fun K7 hK7 => ?_)
    refine wp_block ?_
    refine wp_seq_k (fun K8 hK8 => ?_)
    refine wp_reg ?_
    refine wpF_seg 2 (by kernel_rfl) ?_
    refine wpF_end _ (by kernel_rfl) (then_n (hK8 _ _ ?_))
    refine wp_seq_k (fun K9 hK9 => ?_)
    refine wp_reg ?_
    refine wpF_seg 3 (by kernel_rfl) ?_
    refine wpF_index (A := A) (c := c) (hR.up hM.le) .i64 (k : Int) (h := (by kernel_rfl : opAt _ _ _ _ _ = some (.indexAddr 28 (.tmp 12) (.tmp 13), some 14))) (e := 5) (by kernel_rfl) (by kernel_rfl) (by kernel_rfl) k rfl (by omega) (fun b o hat => ?_)
    have hc1 := hat.byte
    refine wpF_loadV hM hc1 (h := (by kernel_rfl : opAt _ _ _ _ _ = some (.load 5 (.tmp 14), some 15))) (by kernel_rfl) (by kernel_rfl) ?_
    refine wpF_callP hM (f := fid) (caps := caps) (h := (by kernel_rfl : opAt _ _ _ _ _ = some (.call ⟨.value (.tmp 11), #[.tmp 15], #[5]⟩, some 16))) (by kernel_rfl) hfid (by kernel_rfl) (hf V1 w1 hM.le hM.inW k (by omega) trivial) (fun v V2 w2 hle hM2 hΦ => ?_)
    subst hΦ
    refine wpF_end _ (by kernel_rfl) (then_n (hK9 _ _ ?_))
    refine wp_if (φ (xs.getD k 0)) (by kernel_rfl) (fun h => ?_) (fun h => ?_)
    · refine wp_seq_k (fun K10 hK10 => ?_)
      refine wp_reg ?_
      refine wpF_seg 2 (by kernel_rfl) ?_
      refine wpF_end _ (by kernel_rfl) (then_n (hK10 _ _ ?_))
      refine wp_ret (blk_r (then_r (then_r (blk_r (then_r ?_)))))
      refine ret1 (.int .i64 (k : Int)) Try.results63 (by kernel_rfl) (by kernel_rfl) (hRet _ _ ?_)
      exact ⟨_, _, rfl, hM2, (k : Int), rfl, by rw [decide_eq_true (by omega), any_getD 0 (by omega) h]⟩
    · refine wp_skip (blk_n (then_n (hK7 _ _ ?_)))
      refine wp_reg ?_
      refine wpF_add .i64 (k : Int) 1 ((k + 1 : Nat) : Int) (h := (by kernel_rfl : opAt _ _ _ _ _ = some (.binOp .add 3 (.tmp 8) (.const (.int .i64 1)) 3, some 18))) (by kernel_rfl) (by kernel_rfl) (by rw [wrap64_ok _ (by omega)]; omega) ?_
      refine wpF_seg 1 (by kernel_rfl) ?_
      refine wpF_base [(0, .slice A xs.length c), (1, .func (.func fid) #[] caps), (7, .int .i64 (xs.length : Int)), (8, .int .i64 ((k + 1 : Nat) : Int))] (by kernel_rfl) (fun g2 => ?_)
      refine wpF_end _ (by kernel_rfl) (then_n (hK4 _ _ (k + 1) (by omega) ?_))
      exact ⟨g2, V2, rfl, hM2, by omega, fun i hi => by
        rcases Nat.lt_or_ge i k with h2 | h2
        · exact hno i h2
        · obtain rfl : i = k := by omega
          exact h⟩
  · have h1 : ¬ (k : Int) < (xs.length : Int) := of_decide_eq_false h
    refine wp_exit (then_x (then_x (blk_hit (then_n (hK2 _ _ ?_)))))
    refine wp_seq_k (fun K11 hK11 => ?_)
    refine wp_reg ?_
    refine wpF_seg 1 (by kernel_rfl) ?_
    refine wpF_end _ (by kernel_rfl) (then_n (hK11 _ _ ?_))
    refine wp_ret ?_
    refine ret1 (.int .i64 (-1)) Try.results63 (by kernel_rfl) (by kernel_rfl) (hRet _ _ ?_)
    exact ⟨_, _, rfl, hM, -1, rfl, by rw [any_none 0 fun i hi => hno i (by omega)]; rfl⟩

set_option maxRecDepth 100000 in
theorem f59 (V : VT) (w : World) (hV : V.inW w) (fid : FuncId) (caps : Array Value) (hfid : callable Try.prog fid = true) (φ : Str → Bool) (A : Option Addr) (c : Nat) (xs : List Str) (hR : Rd strK V A c xs)
   (hf : ∀ V' w', V.le V' → V'.inW w' → ∀ j, j < xs.length → ((xs.getD j [])).length ≤ maxL → Calls Try.prog fid (#[bs (xs.getD j [])] ++ caps) w' (RetP V' w' fun v _ => v = .bool (φ (xs.getD j [])))) :
   Calls Try.prog 59 #[.slice A xs.length c, .func (.func fid) #[] caps] w (RetP V w fun v _ => v = .bool (xs.any φ)) := by
  refine calls_env (n := 9) Try.func59 (c := _) rfl Try.ntmps59 (by kernel_rfl) (fun R hRet => ?_)
  have hM0 : Step V w [] V w [] := Step.refl (St.nilE hV)
  refine wp_seq_k (fun K1 hK1 => ?_)
  refine wp_reg ?_
  refine wpF_seg 1 (by kernel_rfl) ?_
  refine wpF_end _ (by kernel_rfl) (then_n (hK1 _ _ ?_))
  refine wp_seq_k (fun K2 hK2 => ?_)
  refine wp_reg ?_
  refine wpF_seg 2 (by kernel_rfl) ?_
  refine wpF_callP hM0 (f := 66) (caps := #[]) (h := (by kernel_rfl : opAt _ _ _ _ _ = some (.call ⟨.value (.func 66), #[.tmp 5, .tmp 6], #[22, 80]⟩, some 7))) (by kernel_rfl) (by kernel_rfl) (by kernel_rfl) (f66 V w hV fid caps hfid φ A c xs hR hf) (fun v V2 w2 hle hM2 hΦ => ?_)
  obtain ⟨r, rfl, hr⟩ := hΦ
  refine wpF_seg 2 (by kernel_rfl) ?_
  refine wpF_end _ (by kernel_rfl) (then_n (hK2 _ _ ?_))
  refine wp_ret ?_
  refine ret1 (.bool (decide (0 ≤ r))) Try.results59 (by kernel_rfl) (by kernel_rfl) (hRet _ _ ?_)
  exact ⟨_, _, rfl, hM2, congrArg Value.bool hr⟩

set_option maxRecDepth 100000 in
theorem f61 (V : VT) (w : World) (hV : V.inW w) (fid : FuncId) (caps : Array Value) (hfid : callable Try.prog fid = true) (φ : Int → Bool) (A : Option Addr) (c : Nat) (xs : List Int) (hR : Rd (intK .i64) V A c xs)
   (hf : ∀ V' w', V.le V' → V'.inW w' → ∀ j, j < xs.length → (IntKind.i64.min ≤ (xs.getD j 0) ∧ (xs.getD j 0) ≤ IntKind.i64.max) → Calls Try.prog fid (#[.int .i64 (xs.getD j 0)] ++ caps) w' (RetP V' w' fun v _ => v = .bool (φ (xs.getD j 0)))) :
   Calls Try.prog 61 #[.slice A xs.length c, .func (.func fid) #[] caps] w (RetP V w fun v _ => v = .bool (xs.any φ)) := by
  refine calls_env (n := 9) Try.func61 (c := _) rfl Try.ntmps61 (by kernel_rfl) (fun R hRet => ?_)
  have hM0 : Step V w [] V w [] := Step.refl (St.nilE hV)
  refine wp_seq_k (fun K1 hK1 => ?_)
  refine wp_reg ?_
  refine wpF_seg 1 (by kernel_rfl) ?_
  refine wpF_end _ (by kernel_rfl) (then_n (hK1 _ _ ?_))
  refine wp_seq_k (fun K2 hK2 => ?_)
  refine wp_reg ?_
  refine wpF_seg 2 (by kernel_rfl) ?_
  refine wpF_callP hM0 (f := 67) (caps := #[]) (h := (by kernel_rfl : opAt _ _ _ _ _ = some (.call ⟨.value (.func 67), #[.tmp 5, .tmp 6], #[23, 58]⟩, some 7))) (by kernel_rfl) (by kernel_rfl) (by kernel_rfl) (f67 V w hV fid caps hfid φ A c xs hR hf) (fun v V2 w2 hle hM2 hΦ => ?_)
  obtain ⟨r, rfl, hr⟩ := hΦ
  refine wpF_seg 2 (by kernel_rfl) ?_
  refine wpF_end _ (by kernel_rfl) (then_n (hK2 _ _ ?_))
  refine wp_ret ?_
  refine ret1 (.bool (decide (0 ≤ r))) Try.results61 (by kernel_rfl) (by kernel_rfl) (hRet _ _ ?_)
  exact ⟨_, _, rfl, hM2, congrArg Value.bool hr⟩

set_option maxRecDepth 100000 in
theorem f45 (V : VT) (w : World) (hV : V.inW w) (fid : FuncId) (caps : Array Value) (hfid : callable Try.prog fid = true) (φ : UInt8 → Bool) (A : Option Addr) (c : Nat) (xs : List UInt8) (hR : Rd byteK V A c xs)
   (hf : ∀ V' w', V.le V' → V'.inW w' → ∀ j, j < xs.length → True → Calls Try.prog fid (#[.int .u8 ((xs.getD j 0).toNat : Int)] ++ caps) w' (RetP V' w' fun v _ => v = .bool (φ (xs.getD j 0)))) :
   Calls Try.prog 45 #[.slice A xs.length c, .func (.func fid) #[] caps] w (RetP V w fun v _ => v = .bool (xs.any φ)) := by
  refine calls_env (n := 9) Try.func45 (c := _) rfl Try.ntmps45 (by kernel_rfl) (fun R hRet => ?_)
  have hM0 : Step V w [] V w [] := Step.refl (St.nilE hV)
  refine wp_seq_k (fun K1 hK1 => ?_)
  refine wp_reg ?_
  refine wpF_seg 1 (by kernel_rfl) ?_
  refine wpF_end _ (by kernel_rfl) (then_n (hK1 _ _ ?_))
  refine wp_seq_k (fun K2 hK2 => ?_)
  refine wp_reg ?_
  refine wpF_seg 2 (by kernel_rfl) ?_
  refine wpF_callP hM0 (f := 63) (caps := #[]) (h := (by kernel_rfl : opAt _ _ _ _ _ = some (.call ⟨.value (.func 63), #[.tmp 5, .tmp 6], #[28, 64]⟩, some 7))) (by kernel_rfl) (by kernel_rfl) (by kernel_rfl) (f63 V w hV fid caps hfid φ A c xs hR hf) (fun v V2 w2 hle hM2 hΦ => ?_)
  obtain ⟨r, rfl, hr⟩ := hΦ
  refine wpF_seg 2 (by kernel_rfl) ?_
  refine wpF_end _ (by kernel_rfl) (then_n (hK2 _ _ ?_))
  refine wp_ret ?_
  refine ret1 (.bool (decide (0 ≤ r))) Try.results45 (by kernel_rfl) (by kernel_rfl) (hRet _ _ ?_)
  exact ⟨_, _, rfl, hM2, congrArg Value.bool hr⟩

set_option maxHeartbeats 4000000 in
set_option maxRecDepth 100000 in
theorem f58 (V : VT) (w : World) (hV : V.inW w) (v : Str) (hv : v.length ≤ maxL) :
    Calls Try.prog 58 #[bs (v)] w (RetP V w fun rv V' => rv = .bool (decide ((200 : Int) < (v.length : Int)))) := by
  have mxv : v.length ≤ 140737488355328 := hv
  refine calls_env (n := 6) Try.func58 (c := _) rfl Try.ntmps58 (by kernel_rfl) (fun R hRet => ?_)
  have hM0 : Step V w [] V w [] := Step.refl (St.nilE hV)
  refine wp_seq_k (fun K1 hK1 => ?_)
  refine wp_reg ?_
  refine wpF_seg 1 (by kernel_rfl) ?_
  refine wpF_end _ (by kernel_rfl) (then_n (hK1 _ _ ?_))
  refine wp_seq_k (fun K2 hK2 => ?_)
  refine wp_reg ?_
  refine wpF_seg 4 (by kernel_rfl) ?_
  refine wpF_end _ (by kernel_rfl) (then_n (hK2 _ _ ?_))
  refine wp_ret ?_
  refine retN [.bool (decide ((200) < ((v.length : Int))))] (.bool (decide ((200) < ((v.length : Int))))) Try.results58 (.tmp (by kernel_rfl) (by kernel_rfl) .nil) (by kernel_rfl) (hRet _ _ ⟨_, _, rfl, hM0.clear, ?_⟩)
  -- end 
  rfl

set_option maxHeartbeats 4000000 in
set_option maxRecDepth 100000 in
theorem f60 (V : VT) (w : World) (hV : V.inW w) (k : Int) :
    Calls Try.prog 60 #[.int .i64 (k)] w (RetP V w fun rv V' => rv = .bool (decide (k < (0 : Int)) || decide ((16384 : Int) ≤ k))) := by
  refine calls_env (n := 9) Try.func60 (c := _) rfl Try.ntmps60 (by kernel_rfl) (fun R hRet => ?_)
  have hM0 : Step V w [] V w [] := Step.refl (St.nilE hV)
  refine wp_seq_k (fun K1 hK1 => ?_)
  refine wp_reg ?_
  refine wpF_seg 1 (by kernel_rfl) ?_
  refine wpF_end _ (by kernel_rfl) (then_n (hK1 _ _ ?_))
  refine wp_seq_k (fun K2 hK2 => ?_)
  refine wp_reg ?_
  refine wpF_seg 3 (by kernel_rfl) ?_
  refine wpF_caseB 5 (decide ((k) < (0))) (by kernel_rfl) (by kernel_rfl) (fun h3 => ?_) (fun h3 => ?_)
  · -- t
    have p4 : ((k) < (0)) := of_decide_eq_true h3
    refine wpF_seg 4 (by kernel_rfl) ?_
    refine wpF_end _ (by kernel_rfl) (then_n (hK2 _ _ ?_))
    refine wp_ret ?_
    refine retN [.bool (true)] (.bool (true)) Try.results60 (.tmp (by kernel_rfl) (by kernel_rfl) .nil) (by kernel_rfl) (hRet _ _ ⟨_, _, rfl, hM0.clear, ?_⟩)
    -- end t
    simp only [h3]; rfl
  · -- f
    have p5 : ¬ ((k) < (0)) := of_decide_eq_false h3
    refine wpF_seg 4 (by kernel_rfl) ?_
    refine wpF_end _ (by kernel_rfl) (then_n (hK2 _ _ ?_))
    refine wp_ret ?_
    refine retN [.bool (decide ((16384) ≤ (k)))] (.bool (decide ((16384) ≤ (k)))) Try.results60 (.tmp (by kernel_rfl) (by kernel_rfl) .nil) (by kernel_rfl) (hRet _ _ ⟨_, _, rfl, hM0.clear, ?_⟩)
    -- end f
    simp only [h3]; rfl

set_option maxHeartbeats 4000000 in
set_option maxRecDepth 100000 in
theorem f44 (V : VT) (w : World) (hV : V.inW w) (c : Int) :
    Calls Try.prog 44 #[.int .u8 (c)] w (RetP V w fun rv V' => rv = .bool (!(decide (c = (0 : Int))))) := by
  refine calls_env (n := 5) Try.func44 (c := _) rfl Try.ntmps44 (by kernel_rfl) (fun R hRet => ?_)
  have hM0 : Step V w [] V w [] := Step.refl (St.nilE hV)
  refine wp_seq_k (fun K1 hK1 => ?_)
  refine wp_reg ?_
  refine wpF_seg 1 (by kernel_rfl) ?_
  refine wpF_end _ (by kernel_rfl) (then_n (hK1 _ _ ?_))
  refine wp_seq_k (fun K2 hK2 => ?_)
  refine wp_reg ?_
  refine wpF_seg 3 (by kernel_rfl) ?_
  refine wpF_end _ (by kernel_rfl) (then_n (hK2 _ _ ?_))
  refine wp_ret ?_
  refine retN [.bool (!(decide ((c) = (0))))] (.bool (!(decide ((c) = (0))))) Try.results44 (.tmp (by kernel_rfl) (by kernel_rfl) .nil) (by kernel_rfl) (hRet _ _ ⟨_, _, rfl, hM0.clear, ?_⟩)
  -- end 
  rfl

end Go.Vk
