import Derived.Test.YtnibbocbefnnnaaRPlain
set_option linter.unusedVariables false
set_option linter.unusedSimpArgs false
namespace Go.Vk
open Go.Proofs
set_option maxRecDepth 100000 in
theorem f114 (V : VT) (w : World) (hV : V.inW w) (fid : FuncId) (caps : Array Value) (hfid : callable Try.prog fid = true) (φ : (Str × Str) → Bool) (A : Option Addr) (c : Nat) (xs : List (Str × Str)) (hR : Rd (prK strK strK) V A c xs)
   (hf : ∀ V' w', V.le V' → V'.inW w' → ∀ j, j < xs.length → (((xs.getD j ([], []))).1.length ≤ maxL ∧ ((xs.getD j ([], []))).2.length ≤ maxL) → Calls Try.prog fid (#[.agg #[bs (xs.getD j ([], [])).1, bs (xs.getD j ([], [])).2]] ++ caps) w' (RetP V' w' fun v _ => v = .bool (φ (xs.getD j ([], []))))) :
   Calls Try.prog 114 #[.slice A xs.length c, .func (.func fid) #[] caps] w (RetP V w fun v _ => ∃ r : Int, v = .int .i64 r ∧ decide (0 ≤ r) = xs.any φ) := by
  have hmax : xs.length ≤ 140737488355328 := hR.max
  refine calls_env (n := 19) Try.func114 (c := _) rfl Try.ntmps114 (by kernel_rfl) (fun R hRet => ?_)
  have hM0 : Step V w [] V w [] := Step.refl (St.nilE hV)
  refine wp_seq_k (fun K1 hK1 => ?_)
  refine wp_reg ?_
  refine wpF_seg 1 (by kernel_rfl) ?_
  refine wpF_end _ (by kernel_rfl) (then_n (hK1 _ _ ?_))
  refine wp_seq_k (fun K2 hK2 => ?_)
  refine wp_seq_k (fun K3 hK3 => ?_)
  refine wp_reg ?_
  refine wpF_seg 3 (by kernel_rfl) ?_
  refine wpF_end _ (by kernel_rfl) (then_n (hK3 _ _ ?_))
  refine wp_block ?_
  refine wp_base [(0, .slice A xs.length c), (1, .func (.func fid) #[] caps), (7, .int .i64 (xs.length : Int)), (8, .int .i64 ((0 : Nat) : Int))] (by kernel_rfl) (fun g1 => ?_)
  refine wp_loopX (fun (k : Nat) a w' => ∃ g V', a = env [] 19 [(0, .slice A xs.length c), (1, .func (.func fid) #[] caps), (7, .int .i64 (xs.length : Int)), (8, .int .i64 (k : Int))] g ∧ Step V w [] V' w' [] ∧ k ≤ xs.length ∧ (∀ i, i < k → φ (xs.getD i ([], [])) = false)) (fun k => xs.length - k) 0 ⟨g1, V, rfl, hM0, by omega, fun i hi => by omega⟩ ?_
  rintro k a w1 ⟨g, V1, rfl, hM, hk, hno⟩ K4 hK4
  refine wp_seq_k (fun K5 hK5 => ?_)
  refine wp_reg ?_
  refine wpF_seg 1 (by kernel_rfl) ?_
  refine wpF_end _ (by kernel_rfl) (then_n (hK5 _ _ ?_))
  refine wp_seq_k (fun K6 hK6 => ?_)
  refine wp_if (decide ((k : Int) < (xs.length : Int))) (by kernel_rfl) (fun h => ?_) (fun h => ?_)
  · have h1 : (k : Int) < (xs.length : Int) := of_decide_eq_true h
    refine wp_skip (then_n (hK6 _ _ ?_))
    refine wp_seq_k (fun K7 hK7 => ?_)
    refine wp_block ?_
    refine wp_seq_k (fun K8 hK8 => ?_)
    refine wp_reg ?_
    refine wpF_seg 2 (by kernel_rfl) ?_
    refine wpF_end _ (by kernel_rfl) (then_n (hK8 _ _ ?_))
    refine wp_seq_k (fun K9 hK9 => ?_)
    refine wp_reg ?_
    refine wpF_seg 3 (by kernel_rfl) ?_
    refine wpF_index (A := A) (c := c) (hR.up hM.le) .i64 (k : Int) (h := (by kernel_rfl : opAt _ _ _ _ _ = some (.indexAddr 23 (.tmp 12) (.tmp 13), some 14))) (e := 40) (by kernel_rfl) (by kernel_rfl) (by kernel_rfl) k rfl (by omega) (fun b o hat => ?_)
    obtain ⟨hc1, hl1⟩ := (At.pr hat).1.str
    obtain ⟨hc2, hl2⟩ := (At.pr hat).2.str
    refine wpF_loadS hM [bs (xs.getD k ([], [])).1, bs (xs.getD k ([], [])).2] (cells2 hc1 hc2) (h := (by kernel_rfl : opAt _ _ _ _ _ = some (.load 40 (.tmp 14), some 15))) (by kernel_rfl) (by kernel_rfl) (by kernel_rfl) ?_
    refine wpF_callP hM (f := fid) (caps := caps) (h := (by kernel_rfl : opAt _ _ _ _ _ = some (.call ⟨.value (.tmp 11), #[.tmp 15], #[40]⟩, some 16))) (by kernel_rfl) hfid (by kernel_rfl) (hf V1 w1 hM.le hM.inW k (by omega) ⟨hl1, hl2⟩) (fun v V2 w2 hle hM2 hΦ => ?_)
    subst hΦ
    refine wpF_end _ (by kernel_rfl) (then_n (hK9 _ _ ?_))
    refine wp_if (φ (xs.getD k ([], []))) (by kernel_rfl) (fun h => ?_) (fun h => ?_)
    · refine wp_seq_k (fun K10 hK10 => ?_)
      refine wp_reg ?_
      refine wpF_seg 2 (by kernel_rfl) ?_
      refine wpF_end _ (by kernel_rfl) (then_n (hK10 _ _ ?_))
      refine wp_ret (blk_r (then_r (then_r (blk_r (then_r ?_)))))
      refine ret1 (.int .i64 (k : Int)) Try.results114 (by kernel_rfl) (by kernel_rfl) (hRet _ _ ?_)
      exact ⟨_, _, rfl, hM2, (k : Int), rfl, by rw [decide_eq_true (by omega), any_getD ([], []) (by omega) h]⟩
    · refine wp_skip (blk_n (then_n (hK7 _ _ ?_)))
      refine wp_reg ?_
      refine wpF_add .i64 (k : Int) 1 ((k + 1 : Nat) : Int) (h := (by kernel_rfl : opAt _ _ _ _ _ = some (.binOp .add 3 (.tmp 8) (.const (.int .i64 1)) 3, some 18))) (by kernel_rfl) (by kernel_rfl) (by rw [wrap64_ok _ (by omega)]; omega) ?_
      refine wpF_seg 1 (by kernel_rfl) ?_
      refine wpF_base [(0, .slice A xs.length c), (1, .func (.func fid) #[] caps), (7, .int .i64 (xs.length : Int)), (8, .int .i64 ((k + 1 : Nat) : Int))] (by kernel_rfl) (fun g2 => ?_)
      refine wpF_end _ (by kernel_rfl) (then_n (hK4 _ _ (k + 1) (by omega) ?_))
      exact ⟨g2, V2, rfl, hM2, by omega, fun i hi => by
        rcases Nat.lt_or_ge i k with h2 | h2
        · exact hno i h2
        · obtain rfl : i = k := by omega
          exact h⟩
  · have h1 : ¬ (k : Int) < (xs.length : Int) := of_decide_eq_false h
    refine wp_exit (then_x (then_x (blk_hit (then_n (hK2 _ _ ?_)))))
    refine wp_seq_k (fun K11 hK11 => ?_)
    refine wp_reg ?_
    refine wpF_seg 1 (by kernel_rfl) ?_
    refine wpF_end _ (by kernel_rfl) (then_n (hK11 _ _ ?_))
    refine wp_ret ?_
    refine ret1 (.int .i64 (-1)) Try.results114 (by kernel_rfl) (by kernel_rfl) (hRet _ _ ?_)
    exact ⟨_, _, rfl, hM, -1, rfl, by rw [any_none ([], []) fun i hi => hno i (by omega)]; rfl⟩

set_option maxRecDepth 100000 in
theorem f112 (V : VT) (w : World) (hV : V.inW w) (fid : FuncId) (caps : Array Value) (hfid : callable Try.prog fid = true) (φ : (Str × Str × Bool) → Bool) (A : Option Addr) (c : Nat) (xs : List (Str × Str × Bool)) (hR : Rd (prK strK (prK strK boolK)) V A c xs)
   (hf : ∀ V' w', V.le V' → V'.inW w' → ∀ j, j < xs.length → (((xs.getD j ([], [], false))).1.length ≤ maxL ∧ ((xs.getD j ([], [], false))).2.1.length ≤ maxL) → Calls Try.prog fid (#[.agg #[bs (xs.getD j ([], [], false)).1, bs (xs.getD j ([], [], false)).2.1, .bool (xs.getD j ([], [], false)).2.2]] ++ caps) w' (RetP V' w' fun v _ => v = .bool (φ (xs.getD j ([], [], false))))) :
   Calls Try.prog 112 #[.slice A xs.length c, .func (.func fid) #[] caps] w (RetP V w fun v _ => ∃ r : Int, v = .int .i64 r ∧ decide (0 ≤ r) = xs.any φ) := by
  have hmax : xs.length ≤ 140737488355328 := hR.max
  refine calls_env (n := 19) Try.func112 (c := _) rfl Try.ntmps112 (by kernel_rfl) (fun R hRet => ?_)
  have hM0 : Step V w [] V w [] := Step.refl (St.nilE hV)
  refine wp_seq_k (fun K1 hK1 => ?_)
  refine wp_reg ?_
  refine wpF_seg 1 (by kernel_rfl) ?_
  refine wpF_end _ (by kernel_rfl) (then_n (hK1 _ _ ?_))
  refine wp_seq_k (fun K2 hK2 => ?_)
  refine wp_seq_k (fun K3 hK3 => ?_)
  refine wp_reg ?_
  refine wpF_seg 3 (by kernel_rfl) ?_
  refine wpF_end _ (by kernel_rfl) (then_n (hK3 _ _ ?_))
  refine wp_block ?_
  refine wp_base [(0, .slice A xs.length c), (1, .func (.func fid) #[] caps), (7, .int .i64 (xs.length : Int)), (8, .int .i64 ((0 : Nat) : Int))] (by kernel_rfl) (fun g1 => ?_)
  refine wp_loopX (fun (k : Nat) a w' => ∃ g V', a = env [] 19 [(0, .slice A xs.length c), (1, .func (.func fid) #[] caps), (7, .int .i64 (xs.length : Int)), (8, .int .i64 (k : Int))] g ∧ Step V w [] V' w' [] ∧ k ≤ xs.length ∧ (∀ i, i < k → φ (xs.getD i ([], [], false)) = false)) (fun k => xs.length - k) 0 ⟨g1, V, rfl, hM0, by omega, fun i hi => by omega⟩ ?_
  rintro k a w1 ⟨g, V1, rfl, hM, hk, hno⟩ K4 hK4
  refine wp_seq_k (fun K5 hK5 => ?_)
  refine wp_reg ?_
  refine wpF_seg 1 (by kernel_rfl) ?_
  refine wpF_end _ (by kernel_rfl) (then_n (hK5 _ _ ?_))
  refine wp_seq_k (fun K6 hK6 => ?_)
  refine wp_if (decide ((k : Int) < (xs.length : Int))) (by kernel_rfl) (fun h => ?_) (fun h => ?_)
  · have h1 : (k : Int) < (xs.length : Int) := of_decide_eq_true h
    refine wp_skip (then_n (hK6 _ _ ?_))
    refine wp_seq_k (fun K7 hK7 => ?_)
    refine wp_block ?_
    refine wp_seq_k (fun K8 hK8 => ?_)
    refine wp_reg ?_
    refine wpF_seg 2 (by kernel_rfl) ?_
    refine wpF_end _ (by kernel_rfl) (then_n (hK8 _ _ ?_))
    refine wp_seq_k (fun K9 hK9 => ?_)
    refine wp_reg ?_
    refine wpF_seg 3 (by kernel_rfl) ?_
    refine wpF_index (A := A) (c := c) (hR.up hM.le) .i64 (k : Int) (h := (by kernel_rfl : opAt _ _ _ _ _ = some (.indexAddr 45 (.tmp 12) (.tmp 13), some 14))) (e := 105) (by kernel_rfl) (by kernel_rfl) (by kernel_rfl) k rfl (by omega) (fun b o hat => ?_)
    obtain ⟨hc1, hl1⟩ := (At.pr hat).1.str
    obtain ⟨hc2, hl2⟩ := (At.pr (At.pr hat).2).1.str
    have hc3 := (At.pr (At.pr hat).2).2.bool
    refine wpF_loadS hM [bs (xs.getD k ([], [], false)).1, bs (xs.getD k ([], [], false)).2.1, .bool (xs.getD k ([], [], false)).2.2] (cells3 hc1 hc2 hc3) (h := (by kernel_rfl : opAt _ _ _ _ _ = some (.load 105 (.tmp 14), some 15))) (by kernel_rfl) (by kernel_rfl) (by kernel_rfl) ?_
    refine wpF_callP hM (f := fid) (caps := caps) (h := (by kernel_rfl : opAt _ _ _ _ _ = some (.call ⟨.value (.tmp 11), #[.tmp 15], #[105]⟩, some 16))) (by kernel_rfl) hfid (by kernel_rfl) (hf V1 w1 hM.le hM.inW k (by omega) ⟨hl1, hl2⟩) (fun v V2 w2 hle hM2 hΦ => ?_)
    subst hΦ
    refine wpF_end _ (by kernel_rfl) (then_n (hK9 _ _ ?_))
    refine wp_if (φ (xs.getD k ([], [], false))) (by kernel_rfl) (fun h => ?_) (fun h => ?_)
    · refine wp_seq_k (fun K10 hK10 => ?_)
      refine wp_reg ?_
      refine wpF_seg 2 (by kernel_rfl) ?_
      refine wpF_end _ (by kernel_rfl) (then_n (hK10 _ _ ?_))
      refine wp_ret (blk_r (then_r (then_r (blk_r (then_r ?_)))))
      refine ret1 (.int .i64 (k : Int)) Try.results112 (by kernel_rfl) (by kernel_rfl) (hRet _ _ ?_)
      exact ⟨_, _, rfl, hM2, (k : Int), rfl, by rw [decide_eq_true (by omega), any_getD ([], [], false) (by omega) h]⟩
    · refine wp_skip (blk_n (then_n (hK7 _ _ ?_)))
      refine wp_reg ?_
      refine wpF_add .i64 (k : Int) 1 ((k + 1 : Nat) : Int) (h := (by kernel_rfl : opAt _ _ _ _ _ = some (.binOp .add 3 (.tmp 8) (.const (.int .i64 1)) 3, some 18))) (by kernel_rfl) (by kernel_rfl) (by rw [wrap64_ok _ (by omega)]; omega) ?_
      refine wpF_seg 1 (by kernel_rfl) ?_
      refine wpF_base [(0, .slice A xs.length c), (1, .func (.func fid) #[] caps), (7, .int .i64 (xs.length : Int)), (8, .int .i64 ((k + 1 : Nat) : Int))] (by kernel_rfl) (fun g2 => ?_)
      refine wpF_end _ (by kernel_rfl) (then_n (hK4 _ _ (k + 1) (by omega) ?_))
      exact ⟨g2, V2, rfl, hM2, by omega, fun i hi => by
        rcases Nat.lt_or_ge i k with h2 | h2
        · exact hno i h2
        · obtain rfl : i = k := by omega
          exact h⟩
  · have h1 : ¬ (k : Int) < (xs.length : Int) := of_decide_eq_false h
    refine wp_exit (then_x (then_x (blk_hit (then_n (hK2 _ _ ?_)))))
    refine wp_seq_k (fun K11 hK11 => ?_)
    refine wp_reg ?_
    refine wpF_seg 1 (by kernel_rfl) ?_
    refine wpF_end _ (by kernel_rfl) (then_n (hK11 _ _ ?_))
    refine wp_ret ?_
    refine ret1 (.int .i64 (-1)) Try.results112 (by kernel_rfl) (by kernel_rfl) (hRet _ _ ?_)
    exact ⟨_, _, rfl, hM, -1, rfl, by rw [any_none ([], [], false) fun i hi => hno i (by omega)]; rfl⟩

set_option maxRecDepth 100000 in
theorem f74 (V : VT) (w : World) (hV : V.inW w) (fid : FuncId) (caps : Array Value) (hfid : callable Try.prog fid = true) (φ : (Str × Str) → Bool) (A : Option Addr) (c : Nat) (xs : List (Str × Str)) (hR : Rd (prK strK strK) V A c xs)
   (hf : ∀ V' w', V.le V' → V'.inW w' → ∀ j, j < xs.length → (((xs.getD j ([], []))).1.length ≤ maxL ∧ ((xs.getD j ([], []))).2.length ≤ maxL) → Calls Try.prog fid (#[.agg #[bs (xs.getD j ([], [])).1, bs (xs.getD j ([], [])).2]] ++ caps) w' (RetP V' w' fun v _ => v = .bool (φ (xs.getD j ([], []))))) :
   Calls Try.prog 74 #[.slice A xs.length c, .func (.func fid) #[] caps] w (RetP V w fun v _ => v = .bool (xs.any φ)) := by
  refine calls_env (n := 9) Try.func74 (c := _) rfl Try.ntmps74 (by kernel_rfl) (fun R hRet => ?_)
  have hM0 : Step V w [] V w [] := Step.refl (St.nilE hV)
  refine wp_seq_k (fun K1 hK1 => ?_)
  refine wp_reg ?_
  refine wpF_seg 1 (by kernel_rfl) ?_
  refine wpF_end _ (by kernel_rfl) (then_n (hK1 _ _ ?_))
  refine wp_seq_k (fun K2 hK2 => ?_)
  refine wp_reg ?_
  refine wpF_seg 2 (by kernel_rfl) ?_
  refine wpF_callP hM0 (f := 114) (caps := #[]) (h := (by kernel_rfl : opAt _ _ _ _ _ = some (.call ⟨.value (.func 114), #[.tmp 5, .tmp 6], #[23, 115]⟩, some 7))) (by kernel_rfl) (by kernel_rfl) (by kernel_rfl) (f114 V w hV fid caps hfid φ A c xs hR hf) (fun v V2 w2 hle hM2 hΦ => ?_)
  obtain ⟨r, rfl, hr⟩ := hΦ
  refine wpF_seg 2 (by kernel_rfl) ?_
  refine wpF_end _ (by kernel_rfl) (then_n (hK2 _ _ ?_))
  refine wp_ret ?_
  refine ret1 (.bool (decide (0 ≤ r))) Try.results74 (by kernel_rfl) (by kernel_rfl) (hRet _ _ ?_)
  exact ⟨_, _, rfl, hM2, congrArg Value.bool hr⟩

set_option maxRecDepth 100000 in
theorem f70 (V : VT) (w : World) (hV : V.inW w) (fid : FuncId) (caps : Array Value) (hfid : callable Try.prog fid = true) (φ : (Str × Str × Bool) → Bool) (A : Option Addr) (c : Nat) (xs : List (Str × Str × Bool)) (hR : Rd (prK strK (prK strK boolK)) V A c xs)
   (hf : ∀ V' w', V.le V' → V'.inW w' → ∀ j, j < xs.length → (((xs.getD j ([], [], false))).1.length ≤ maxL ∧ ((xs.getD j ([], [], false))).2.1.length ≤ maxL) → Calls Try.prog fid (#[.agg #[bs (xs.getD j ([], [], false)).1, bs (xs.getD j ([], [], false)).2.1, .bool (xs.getD j ([], [], false)).2.2]] ++ caps) w' (RetP V' w' fun v _ => v = .bool (φ (xs.getD j ([], [], false))))) :
   Calls Try.prog 70 #[.slice A xs.length c, .func (.func fid) #[] caps] w (RetP V w fun v _ => v = .bool (xs.any φ)) := by
  refine calls_env (n := 9) Try.func70 (c := _) rfl Try.ntmps70 (by kernel_rfl) (fun R hRet => ?_)
  have hM0 : Step V w [] V w [] := Step.refl (St.nilE hV)
  refine wp_seq_k (fun K1 hK1 => ?_)
  refine wp_reg ?_
  refine wpF_seg 1 (by kernel_rfl) ?_
  refine wpF_end _ (by kernel_rfl) (then_n (hK1 _ _ ?_))
  refine wp_seq_k (fun K2 hK2 => ?_)
  refine wp_reg ?_
  refine wpF_seg 2 (by kernel_rfl) ?_
  refine wpF_callP hM0 (f := 112) (caps := #[]) (h := (by kernel_rfl : opAt _ _ _ _ _ = some (.call ⟨.value (.func 112), #[.tmp 5, .tmp 6], #[45, 120]⟩, some 7))) (by kernel_rfl) (by kernel_rfl) (by kernel_rfl) (f112 V w hV fid caps hfid φ A c xs hR hf) (fun v V2 w2 hle hM2 hΦ => ?_)
  obtain ⟨r, rfl, hr⟩ := hΦ
  refine wpF_seg 2 (by kernel_rfl) ?_
  refine wpF_end _ (by kernel_rfl) (then_n (hK2 _ _ ?_))
  refine wp_ret ?_
  refine ret1 (.bool (decide (0 ≤ r))) Try.results70 (by kernel_rfl) (by kernel_rfl) (hRet _ _ ?_)
  exact ⟨_, _, rfl, hM2, congrArg Value.bool hr⟩

set_option maxHeartbeats 4000000 in
set_option maxRecDepth 100000 in
theorem f60 (V : VT) (w : World) (hV : V.inW w) (a : Str) (ha : a.length ≤ maxL) (b : Str) (hb : b.length ≤ maxL) :
    Calls Try.prog 60 #[bs (a), bs (b)] w (RetP V w fun rv V' => rv = .bool (decide (a < b))) := by
  have mxa : a.length ≤ 140737488355328 := ha
  have mxb : b.length ≤ 140737488355328 := hb
  refine calls_env (n := 37) Try.func60 (c := _) rfl Try.ntmps60 (by kernel_rfl) (fun R hRet => ?_)
  have hM0 : Step V w [] V w [] := Step.refl (St.nilE hV)
  refine wp_seq_k (fun K1 hK1 => ?_)
  refine wp_reg ?_
  refine wpF_seg 1 (by kernel_rfl) ?_
  refine wpF_end _ (by kernel_rfl) (then_n (hK1 _ _ ?_))
  refine wp_seq_k (fun K2 hK2 => ?_)
  refine wp_seq_k (fun K3 hK3 => ?_)
  refine wp_reg ?_
  refine wpF_seg 1 (by kernel_rfl) ?_
  refine wpF_end _ (by kernel_rfl) (then_n (hK3 _ _ ?_))
  refine wp_block ?_
  refine wp_base [(0, bs (a)), (1, bs (b)), (5, .int .i64 ((0 : Int)))] (by kernel_rfl) (fun g5 => ?_)
  refine wp_loopX (fun (x_ : Nat) a_ w_ => ∃ (g : Nat → Value) (V_ : VT), a_ = env [] 37 [(0, bs (a)), (1, bs (b)), (5, .int .i64 ((x_ : Int)))] g ∧ Step V w [] V_ w_ [] ∧ VT.le V V_ ∧ (x_ ≤ a.length ∧ x_ ≤ b.length) ∧ (∀ j, j < x_ → a.getD j 0 = b.getD j 0)) (fun (x_ : Nat) => a.length - x_) (0) ⟨g5, V, rfl, hM0, VT.le.refl _, by omega, by (intro j hj; omega)⟩ ?_
  rintro k a_ w7 ⟨g6, Vl4, rfl, hM8, le9, hi10_0, hi10_1⟩ K10 hK10
  refine wp_seq_k (fun K11 hK11 => ?_)
  refine wp_seq_k (fun K12 hK12 => ?_)
  refine wp_reg ?_
  refine wpF_seg 5 (by kernel_rfl) ?_
  refine wpF_caseB 10 (decide (((k : Int)) < ((a.length : Int)))) (by kernel_rfl) (by kernel_rfl) (fun h13 => ?_) (fun h13 => ?_)
  · -- Lt
    have p14 : (((k : Int)) < ((a.length : Int))) := of_decide_eq_true h13
    refine wpF_seg 5 (by kernel_rfl) ?_
    refine wpF_end _ (by kernel_rfl) (then_n (hK12 _ _ ?_))
    refine wp_if (decide (((k : Int)) < ((b.length : Int)))) (by kernel_rfl) (fun h15 => ?_) (fun h15 => ?_)
    · -- Ltt
      have p16 : (((k : Int)) < ((b.length : Int))) := of_decide_eq_true h15
      refine wp_skip (then_n (hK11 _ _ ?_))
      refine wp_seq_k (fun K17 hK17 => ?_)
      refine wp_block ?_
      refine wp_seq_k (fun K18 hK18 => ?_)
      refine wp_base [(0, bs (a)), (1, bs (b)), (5, .int .i64 ((k : Int))), (6, .int .i64 ((k : Int))), (7, bs (a)), (8, .int .i64 ((a.length : Int))), (9, .bool (decide (((k : Int)) < ((a.length : Int))))), (10, .bool (true)), (11, .int .i64 ((k : Int))), (12, bs (b)), (13, .int .i64 ((b.length : Int))), (14, .bool (decide (((k : Int)) < ((b.length : Int))))), (15, .bool (decide (((k : Int)) < ((b.length : Int)))))] (by kernel_rfl) (fun g19 => ?_)
      refine wp_drawN hM8 [] no_held [] [0, 1, 2, 3, 4, 5, 6] [] [.p 0, .p 1, .p 2, .p 3, .p 4, .p 5, .p 6, .s] rfl (by kernel_rfl) (by kernel_rfl) ?_
      refine h_seg 2 (by kernel_rfl) ?_
      refine gH (.index 9 (.tmp 18) (.tmp 19)) (some 20) (by kernel_rfl) (Y_strIndex (a) .i64 ((k : Int)) (by kernel_rfl) (by kernel_rfl) (by kernel_rfl) (k) rfl (by omega)) ?_
      refine h_seg 2 (by kernel_rfl) ?_
      refine gH (.index 9 (.tmp 21) (.tmp 22)) (some 23) (by kernel_rfl) (Y_strIndex (b) .i64 ((k : Int)) (by kernel_rfl) (by kernel_rfl) (by kernel_rfl) (k) rfl (by omega)) ?_
      refine h_seg 1 (by kernel_rfl) ?_
      refine h_s no_fs ?_
      refine h_n (fun w20 hM21 => ?_)
      refine  (then_n (hK18 _ _ ?_))
      refine wp_if (!(decide ((((a.getD (k) 0).toNat : Int)) = (((b.getD (k) 0).toNat : Int))))) (by kernel_rfl) (fun h22 => ?_) (fun h22 => ?_)
      · -- Lttt
        have h23 : decide ((((a.getD (k) 0).toNat : Int)) = (((b.getD (k) 0).toNat : Int))) = false := by rw [← Bool.not_not (decide _), h22]; rfl
        have p24 : ¬ ((((a.getD (k) 0).toNat : Int)) = (((b.getD (k) 0).toNat : Int))) := of_decide_eq_false h23
        refine wp_seq_k (fun K25 hK25 => ?_)
        refine wp_base [(0, bs (a)), (1, bs (b)), (5, .int .i64 ((k : Int))), (6, .int .i64 ((k : Int))), (7, bs (a)), (8, .int .i64 ((a.length : Int))), (9, .bool (decide (((k : Int)) < ((a.length : Int))))), (10, .bool (true)), (11, .int .i64 ((k : Int))), (12, bs (b)), (13, .int .i64 ((b.length : Int))), (14, .bool (decide (((k : Int)) < ((b.length : Int))))), (15, .bool (decide (((k : Int)) < ((b.length : Int))))), (18, bs (a)), (19, .int .i64 ((k : Int))), (20, .int .u8 (((a.getD (k) 0).toNat : Int))), (21, bs (b)), (22, .int .i64 ((k : Int))), (23, .int .u8 (((b.getD (k) 0).toNat : Int))), (24, .bool (!(decide ((((a.getD (k) 0).toNat : Int)) = (((b.getD (k) 0).toNat : Int))))))] (by kernel_rfl) (fun g26 => ?_)
        refine wp_drawN hM21 [] no_held [] [0, 1, 2, 3, 4, 5, 6, 7] [] [.p 0, .p 1, .p 2, .p 3, .p 4, .p 5, .p 6, .p 7, .s] rfl (by kernel_rfl) (by kernel_rfl) ?_
        refine h_seg 2 (by kernel_rfl) ?_
        refine gH (.index 9 (.tmp 25) (.tmp 26)) (some 27) (by kernel_rfl) (Y_strIndex (a) .i64 ((k : Int)) (by kernel_rfl) (by kernel_rfl) (by kernel_rfl) (k) rfl (by omega)) ?_
        refine h_seg 2 (by kernel_rfl) ?_
        refine gH (.index 9 (.tmp 28) (.tmp 29)) (some 30) (by kernel_rfl) (Y_strIndex (b) .i64 ((k : Int)) (by kernel_rfl) (by kernel_rfl) (by kernel_rfl) (k) rfl (by omega)) ?_
        refine h_seg 2 (by kernel_rfl) ?_
        refine h_s no_fs ?_
        refine h_n (fun w27 hM28 => ?_)
        refine  (then_n (hK25 _ _ ?_))
        refine wp_ret (blk_r (then_r (then_r (blk_r (then_r (?_))))))
        refine retN [.bool (decide ((((a.getD (k) 0).toNat : Int)) < (((b.getD (k) 0).toNat : Int))))] (.bool (decide ((((a.getD (k) 0).toNat : Int)) < (((b.getD (k) 0).toNat : Int))))) Try.results60 (.tmp (by kernel_rfl) (by kernel_rfl) .nil) (by kernel_rfl) (hRet _ _ ⟨_, _, rfl, hM28.clear, ?_⟩)
        -- end Lttt
        first | exact congrArg Value.bool (below_at (by omega) (by omega) (by assumption) (by assumption)) | exact congrArg Value.bool (below_end (k := k) (by omega) (by omega) (by omega) (by assumption))
      · -- Lttf
        have h29 : decide ((((a.getD (k) 0).toNat : Int)) = (((b.getD (k) 0).toNat : Int))) = true := by rw [← Bool.not_not (decide _), h22]; rfl
        have p30 : ((((a.getD (k) 0).toNat : Int)) = (((b.getD (k) 0).toNat : Int))) := of_decide_eq_true h29
        refine wp_skip (blk_n (then_n (hK17 _ _ ?_)))
        refine wp_reg ?_
        refine wpF_seg 1 (by kernel_rfl) ?_
        refine gF hM21 (.binOp .add 3 (.tmp 16) (.const (.int .i64 1)) 3) (some 17) (by kernel_rfl) (Y_add .i64 ((k : Int)) (1) ((k : Int) + 1) (by kernel_rfl) (by kernel_rfl) (wrap64_ok _ (by omega))) ?_
        refine wpF_seg 1 (by kernel_rfl) ?_
        refine wpF_base [(0, bs (a)), (1, bs (b)), (5, .int .i64 ((k + 1 : Int)))] (by kernel_rfl) (fun g31 => ?_)
        refine wpF_end _ (by kernel_rfl) (then_n (hK10 _ _ (k + 1) (by omega) ?_))
        refine ⟨g31, Vl4, rfl, hM21, hM21.le, ?_, ?_⟩
        · -- Lttf inv 0
          omega
        · -- Lttf inv 1
          exact all_step (by assumption) (UInt8.toNat_inj.1 (by omega))
    · -- Ltf
      have p32 : ¬ (((k : Int)) < ((b.length : Int))) := of_decide_eq_false h15
      refine wp_exit (then_x (then_x (blk_hit (then_n (hK2 _ _ ?_)))))
      refine wp_seq_k (fun K33 hK33 => ?_)
      refine wp_reg ?_
      refine wpF_seg 6 (by kernel_rfl) ?_
      refine wpF_end _ (by kernel_rfl) (then_n (hK33 _ _ ?_))
      refine wp_ret ?_
      refine retN [.bool (decide (((a.length : Int)) < ((b.length : Int))))] (.bool (decide (((a.length : Int)) < ((b.length : Int))))) Try.results60 (.tmp (by kernel_rfl) (by kernel_rfl) .nil) (by kernel_rfl) (hRet _ _ ⟨_, _, rfl, hM8.clear, ?_⟩)
      -- end Ltf
      first | exact congrArg Value.bool (below_at (by omega) (by omega) (by assumption) (by assumption)) | exact congrArg Value.bool (below_end (k := k) (by omega) (by omega) (by omega) (by assumption))
  · -- Lf
    have p34 : ¬ (((k : Int)) < ((a.length : Int))) := of_decide_eq_false h13
    refine wpF_seg 5 (by kernel_rfl) ?_
    refine wpF_end _ (by kernel_rfl) (then_n (hK12 _ _ ?_))
    refine wp_cf (by kernel_rfl) ?_
    refine wp_exit (then_x (then_x (blk_hit (then_n (hK2 _ _ ?_)))))
    refine wp_seq_k (fun K35 hK35 => ?_)
    refine wp_reg ?_
    refine wpF_seg 6 (by kernel_rfl) ?_
    refine wpF_end _ (by kernel_rfl) (then_n (hK35 _ _ ?_))
    refine wp_ret ?_
    refine retN [.bool (decide (((a.length : Int)) < ((b.length : Int))))] (.bool (decide (((a.length : Int)) < ((b.length : Int))))) Try.results60 (.tmp (by kernel_rfl) (by kernel_rfl) .nil) (by kernel_rfl) (hRet _ _ ⟨_, _, rfl, hM8.clear, ?_⟩)
    -- end Lf
    first | exact congrArg Value.bool (below_at (by omega) (by omega) (by assumption) (by assumption)) | exact congrArg Value.bool (below_end (k := k) (by omega) (by omega) (by omega) (by assumption))

set_option maxHeartbeats 4000000 in
set_option maxRecDepth 100000 in
theorem f62 (V : VT) (w : World) (hV : V.inW w) (sF : Str) (hsF : sF.length ≤ maxL) (sT : Str) (hsT : sT.length ≤ maxL) :
    Calls Try.prog 62 #[.agg #[bs (sF), bs (sT)]] w (RetP V w fun rv V' => rv = .bool (hasB sF sT)) := by
  have mxsF : sF.length ≤ 140737488355328 := hsF
  have mxsT : sT.length ≤ 140737488355328 := hsT
  refine calls_env (n := 13) Try.func62 (c := _) rfl Try.ntmps62 (by kernel_rfl) (fun R hRet => ?_)
  have hM0 : Step V w [] V w [] := Step.refl (St.nilE hV)
  refine wp_seq_k (fun K1 hK1 => ?_)
  refine wp_reg ?_
  refine wpF_box hM0 #[bs (sF), bs (sT)] (h := (by kernel_rfl : opAt _ _ _ _ _ = some (.box 40 (.tmp 0), some 1))) (by kernel_rfl) (fun b2 w3 hM4 => ?_)
  refine wpF_seg 1 (by kernel_rfl) ?_
  refine wpF_end _ (by kernel_rfl) (then_n (hK1 _ _ ?_))
  refine wp_seq_k (fun K5 hK5 => ?_)
  refine wp_reg ?_
  refine wpF_seg 1 (by kernel_rfl) ?_
  refine gF hM4 (.load 9 (.tmp 3)) (some 4) (by kernel_rfl) (Y_load 0 rfl (off := 1) (by kernel_rfl) (bs (sT)) (by kernel_rfl)) ?_
  refine wpF_seg 2 (by kernel_rfl) ?_
  refine wpF_caseB 6 (decide ((sT) = ([]))) (by kernel_rfl) (by kernel_rfl) (fun h6 => ?_) (fun h6 => ?_)
  · -- t
    have p7 : ((sT) = ([])) := of_decide_eq_true h6
    refine wpF_seg 7 (by kernel_rfl) ?_
    refine wpF_end _ (by kernel_rfl) (then_n (hK5 _ _ ?_))
    refine wp_ret ?_
    refine retN [.bool (true)] (.bool (true)) Try.results62 (.tmp (by kernel_rfl) (by kernel_rfl) .nil) (by kernel_rfl) (hRet _ _ ⟨_, _, rfl, hM4.clear, ?_⟩)
    -- end t
    simp only [hasB, h6, Bool.true_or, Bool.or_true, Bool.false_or, Bool.or_false, Bool.true_and, Bool.and_true, Bool.false_and, Bool.and_false, Bool.not_true, Bool.not_false]
  · -- f
    have p8 : ¬ ((sT) = ([])) := of_decide_eq_false h6
    refine wpF_seg 1 (by kernel_rfl) ?_
    refine gF hM4 (.load 9 (.tmp 7)) (some 8) (by kernel_rfl) (Y_load 0 rfl (off := 0) (by kernel_rfl) (bs (sF)) (by kernel_rfl)) ?_
    refine wpF_seg 1 (by kernel_rfl) ?_
    refine gF hM4 (.load 9 (.tmp 9)) (some 10) (by kernel_rfl) (Y_load 0 rfl (off := 1) (by kernel_rfl) (bs (sT)) (by kernel_rfl)) ?_
    refine wpF_seg 3 (by kernel_rfl) ?_
    refine wpF_end _ (by kernel_rfl) (then_n (hK5 _ _ ?_))
    refine wp_ret ?_
    refine retN [.bool (decide ((sF) < (sT)))] (.bool (decide ((sF) < (sT)))) Try.results62 (.tmp (by kernel_rfl) (by kernel_rfl) .nil) (by kernel_rfl) (hRet _ _ ⟨_, _, rfl, hM4.clear, ?_⟩)
    -- end f
    simp only [hasB, h6, Bool.true_or, Bool.or_true, Bool.false_or, Bool.or_false, Bool.true_and, Bool.and_true, Bool.false_and, Bool.and_false, Bool.not_true, Bool.not_false]

set_option maxHeartbeats 4000000 in
set_option maxRecDepth 100000 in
theorem f63 (V : VT) (w : World) (hV : V.inW w) (aF : Str) (haF : aF.length ≤ maxL) (aT : Str) (haT : aT.length ≤ maxL) (bF : Str) (hbF : bF.length ≤ maxL) (bT : Str) (hbT : bT.length ≤ maxL) :
    Calls Try.prog 63 #[.agg #[bs (aF), bs (aT)], .agg #[bs (bF), bs (bT)]] w (RetP V w fun rv V' => rv = .bool (apB aT bF)) := by
  have mxaF : aF.length ≤ 140737488355328 := haF
  have mxaT : aT.length ≤ 140737488355328 := haT
  have mxbF : bF.length ≤ 140737488355328 := hbF
  have mxbT : bT.length ≤ 140737488355328 := hbT
  refine calls_env (n := 15) Try.func63 (c := _) rfl Try.ntmps63 (by kernel_rfl) (fun R hRet => ?_)
  have hM0 : Step V w [] V w [] := Step.refl (St.nilE hV)
  refine wp_seq_k (fun K1 hK1 => ?_)
  refine wp_reg ?_
  refine wpF_box hM0 #[bs (aF), bs (aT)] (h := (by kernel_rfl : opAt _ _ _ _ _ = some (.box 40 (.tmp 0), some 2))) (by kernel_rfl) (fun b2 w3 hM4 => ?_)
  refine wpF_box hM4 #[bs (bF), bs (bT)] (h := (by kernel_rfl : opAt _ _ _ _ _ = some (.box 40 (.tmp 1), some 3))) (by kernel_rfl) (fun b5 w6 hM7 => ?_)
  refine wpF_seg 1 (by kernel_rfl) ?_
  refine wpF_end _ (by kernel_rfl) (then_n (hK1 _ _ ?_))
  refine wp_seq_k (fun K8 hK8 => ?_)
  refine wp_reg ?_
  refine wpF_seg 1 (by kernel_rfl) ?_
  refine gF hM7 (.load 9 (.tmp 5)) (some 6) (by kernel_rfl) (Y_load 1 rfl (off := 1) (by kernel_rfl) (bs (aT)) (by kernel_rfl)) ?_
  refine wpF_seg 2 (by kernel_rfl) ?_
  refine wpF_caseB 8 (!(decide ((aT) = ([])))) (by kernel_rfl) (by kernel_rfl) (fun h9 => ?_) (fun h9 => ?_)
  · -- t
    have h10 : decide ((aT) = ([])) = false := by rw [← Bool.not_not (decide _), h9]; rfl
    have p11 : ¬ ((aT) = ([])) := of_decide_eq_false h10
    refine wpF_seg 1 (by kernel_rfl) ?_
    refine gF hM7 (.load 9 (.tmp 9)) (some 10) (by kernel_rfl) (Y_load 1 rfl (off := 1) (by kernel_rfl) (bs (aT)) (by kernel_rfl)) ?_
    refine wpF_seg 1 (by kernel_rfl) ?_
    refine gF hM7 (.load 9 (.tmp 11)) (some 12) (by kernel_rfl) (Y_load 0 rfl (off := 0) (by kernel_rfl) (bs (bF)) (by kernel_rfl)) ?_
    refine wpF_seg 3 (by kernel_rfl) ?_
    refine wpF_end _ (by kernel_rfl) (then_n (hK8 _ _ ?_))
    refine wp_ret ?_
    refine retN [.bool (decide ((aT) < (bF)))] (.bool (decide ((aT) < (bF)))) Try.results63 (.tmp (by kernel_rfl) (by kernel_rfl) .nil) (by kernel_rfl) (hRet _ _ ⟨_, _, rfl, hM7.clear, ?_⟩)
    -- end t
    simp only [apB, h10, h9, Bool.true_or, Bool.or_true, Bool.false_or, Bool.or_false, Bool.true_and, Bool.and_true, Bool.false_and, Bool.and_false, Bool.not_true, Bool.not_false]
  · -- f
    have h12 : decide ((aT) = ([])) = true := by rw [← Bool.not_not (decide _), h9]; rfl
    have p13 : ((aT) = ([])) := of_decide_eq_true h12
    refine wpF_seg 7 (by kernel_rfl) ?_
    refine wpF_end _ (by kernel_rfl) (then_n (hK8 _ _ ?_))
    refine wp_ret ?_
    refine retN [.bool (false)] (.bool (false)) Try.results63 (.tmp (by kernel_rfl) (by kernel_rfl) .nil) (by kernel_rfl) (hRet _ _ ⟨_, _, rfl, hM7.clear, ?_⟩)
    -- end f
    simp only [apB, h12, h9, Bool.true_or, Bool.or_true, Bool.false_or, Bool.or_false, Bool.true_and, Bool.and_true, Bool.false_and, Bool.and_false, Bool.not_true, Bool.not_false]

set_option maxHeartbeats 4000000 in
set_option maxRecDepth 100000 in
theorem f110 (V : VT) (w : World) (hV : V.inW w) (sF : Str) (hsF : sF.length ≤ maxL) (sT : Str) (hsT : sT.length ≤ maxL) (k : Str) (hk : k.length ≤ maxL) :
    Calls Try.prog 110 #[.agg #[bs (sF), bs (sT)], bs (k)] w (RetP V w fun rv V' => rv = .bool (withinB sF sT k)) := by
  have mxsF : sF.length ≤ 140737488355328 := hsF
  have mxsT : sT.length ≤ 140737488355328 := hsT
  have mxk : k.length ≤ 140737488355328 := hk
  refine calls_env (n := 20) Try.func110 (c := _) rfl Try.ntmps110 (by kernel_rfl) (fun R hRet => ?_)
  have hM0 : Step V w [] V w [] := Step.refl (St.nilE hV)
  refine wp_seq_k (fun K1 hK1 => ?_)
  refine wp_reg ?_
  refine wpF_box hM0 #[bs (sF), bs (sT)] (h := (by kernel_rfl : opAt _ _ _ _ _ = some (.box 40 (.tmp 0), some 2))) (by kernel_rfl) (fun b2 w3 hM4 => ?_)
  refine wpF_seg 1 (by kernel_rfl) ?_
  refine wpF_end _ (by kernel_rfl) (then_n (hK1 _ _ ?_))
  refine wp_seq_k (fun K5 hK5 => ?_)
  refine wp_reg ?_
  refine wpF_seg 2 (by kernel_rfl) ?_
  refine gF hM4 (.load 9 (.tmp 6)) (some 7) (by kernel_rfl) (Y_load 0 rfl (off := 0) (by kernel_rfl) (bs (sF)) (by kernel_rfl)) ?_
  refine wpF_seg 2 (by kernel_rfl) ?_
  refine wpF_caseB 9 (!(decide ((k) < (sF)))) (by kernel_rfl) (by kernel_rfl) (fun h6 => ?_) (fun h6 => ?_)
  · -- t
    have h7 : decide ((k) < (sF)) = false := by rw [← Bool.not_not (decide _), h6]; rfl
    have p8 : ¬ ((k) < (sF)) := of_decide_eq_false h7
    refine wpF_seg 1 (by kernel_rfl) ?_
    refine gF hM4 (.load 9 (.tmp 10)) (some 11) (by kernel_rfl) (Y_load 0 rfl (off := 1) (by kernel_rfl) (bs (sT)) (by kernel_rfl)) ?_
    refine wpF_seg 2 (by kernel_rfl) ?_
    refine wpF_caseB 13 (decide ((sT) = ([]))) (by kernel_rfl) (by kernel_rfl) (fun h9 => ?_) (fun h9 => ?_)
    · -- tt
      have p10 : ((sT) = ([])) := of_decide_eq_true h9
      refine wpF_seg 7 (by kernel_rfl) ?_
      refine wpF_end _ (by kernel_rfl) (then_n (hK5 _ _ ?_))
      refine wp_ret ?_
      refine retN [.bool (true)] (.bool (true)) Try.results110 (.tmp (by kernel_rfl) (by kernel_rfl) .nil) (by kernel_rfl) (hRet _ _ ⟨_, _, rfl, hM4.clear, ?_⟩)
      -- end tt
      simp only [withinB, h6, h7, h9, Bool.true_or, Bool.or_true, Bool.false_or, Bool.or_false, Bool.true_and, Bool.and_true, Bool.false_and, Bool.and_false, Bool.not_true, Bool.not_false]
    · -- tf
      have p11 : ¬ ((sT) = ([])) := of_decide_eq_false h9
      refine wpF_seg 2 (by kernel_rfl) ?_
      refine gF hM4 (.load 9 (.tmp 15)) (some 16) (by kernel_rfl) (Y_load 0 rfl (off := 1) (by kernel_rfl) (bs (sT)) (by kernel_rfl)) ?_
      refine wpF_seg 4 (by kernel_rfl) ?_
      refine wpF_end _ (by kernel_rfl) (then_n (hK5 _ _ ?_))
      refine wp_ret ?_
      refine retN [.bool (decide ((k) < (sT)))] (.bool (decide ((k) < (sT)))) Try.results110 (.tmp (by kernel_rfl) (by kernel_rfl) .nil) (by kernel_rfl) (hRet _ _ ⟨_, _, rfl, hM4.clear, ?_⟩)
      -- end tf
      simp only [withinB, h6, h7, h9, Bool.true_or, Bool.or_true, Bool.false_or, Bool.or_false, Bool.true_and, Bool.and_true, Bool.false_and, Bool.and_false, Bool.not_true, Bool.not_false]
  · -- f
    have h12 : decide ((k) < (sF)) = true := by rw [← Bool.not_not (decide _), h6]; rfl
    have p13 : ((k) < (sF)) := of_decide_eq_true h12
    refine wpF_seg 11 (by kernel_rfl) ?_
    refine wpF_end _ (by kernel_rfl) (then_n (hK5 _ _ ?_))
    refine wp_ret ?_
    refine retN [.bool (false)] (.bool (false)) Try.results110 (.tmp (by kernel_rfl) (by kernel_rfl) .nil) (by kernel_rfl) (hRet _ _ ⟨_, _, rfl, hM4.clear, ?_⟩)
    -- end f
    simp only [withinB, h12, h6, Bool.true_or, Bool.or_true, Bool.false_or, Bool.or_false, Bool.true_and, Bool.and_true, Bool.false_and, Bool.and_false, Bool.not_true, Bool.not_false]

set_option maxHeartbeats 4000000 in
set_option maxRecDepth 100000 in
theorem f109 (V : VT) (w : World) (hV : V.inW w) (sF : Str) (hsF : sF.length ≤ maxL) (sT : Str) (hsT : sT.length ≤ maxL) (k : Str) (hk : k.length ≤ maxL) (bk : Nat) (hbk : ∀ i_ v_, (#[bs (k)] : Array Value)[i_]? = some v_ → V bk i_ = some v_) :
    Calls Try.prog 109 #[.agg #[bs (sF), bs (sT)], .pointer (some ⟨bk, 0, none⟩)] w (RetP V w fun rv V' => rv = .bool (withinB sF sT k)) := by
  have mxsF : sF.length ≤ 140737488355328 := hsF
  have mxsT : sT.length ≤ 140737488355328 := hsT
  have mxk : k.length ≤ 140737488355328 := hk
  refine calls_env (n := 7) Try.func109 (c := _) rfl Try.ntmps109 (by kernel_rfl) (fun R hRet => ?_)
  have hM0 : Step V w [] V w [] := Step.refl (St.nilE hV)
  refine wp_seq_k (fun K1 hK1 => ?_)
  refine wp_reg ?_
  refine wpF_box hM0 #[bs (sF), bs (sT)] (h := (by kernel_rfl : opAt _ _ _ _ _ = some (.box 40 (.tmp 0), some 2))) (by kernel_rfl) (fun b2 w3 hM4 => ?_)
  refine wpF_seg 1 (by kernel_rfl) ?_
  refine wpF_end _ (by kernel_rfl) (then_n (hK1 _ _ ?_))
  refine wp_seq_k (fun K5 hK5 => ?_)
  refine wp_reg ?_
  refine gF hM4 (.load 40 (.tmp 2)) (some 4) (by kernel_rfl) (Y_load 0 rfl (off := 0) (by kernel_rfl) (.agg #[bs (sF), bs (sT)]) (by kernel_rfl)) ?_
  refine gF hM4 (.load 9 (.tmp 1)) (some 5) (by kernel_rfl) (Y_loadB #[bs (k)] hbk (off := 0) (by kernel_rfl) (bs (k)) (by kernel_rfl)) ?_
  refine wpF_callP hM4 (f := 110) (caps := #[]) (h := (by kernel_rfl : opAt _ _ _ _ _ = some (.call (.mk (.value (.func 110)) #[(.tmp 4), (.tmp 5)] #[40, 9]), some 6))) (by kernel_rfl) (by kernel_rfl) (by kernel_rfl) (f110 _ _ hM4.inW (sF) (hsF) (sT) (hsT) (k) (hk)) (fun v6 V7 w8 le9 hM10 hp11 => ?_)
  obtain rfl := hp11
  refine wpF_seg 1 (by kernel_rfl) ?_
  refine wpF_end _ (by kernel_rfl) (then_n (hK5 _ _ ?_))
  refine wp_ret ?_
  refine retN [.bool (withinB (sF) (sT) (k))] (.bool (withinB (sF) (sT) (k))) Try.results109 (.tmp (by kernel_rfl) (by kernel_rfl) .nil) (by kernel_rfl) (hRet _ _ ⟨_, _, rfl, hM10.clear, ?_⟩)
  -- end 
  rfl

set_option maxHeartbeats 4000000 in
set_option maxRecDepth 100000 in
theorem f67 (V : VT) (w : World) (hV : V.inW w) (Al : Option Addr) (cl : Nat) (l : List ((Str × Str))) (hl : Rd (prK strK strK) V Al cl l) (k : Str) (hk : k.length ≤ maxL) :
    Calls Try.prog 67 #[.slice Al (l).length cl, bs (k)] w (RetP V w fun rv V' => rv = .bool (spB l k)) := by
  have mxl : l.length ≤ 140737488355328 := hl.max
  have mxk : k.length ≤ 140737488355328 := hk
  refine calls_env (n := 8) Try.func67 (c := _) rfl Try.ntmps67 (by kernel_rfl) (fun R hRet => ?_)
  have hM0 : Step V w [] V w [] := Step.refl (St.nilE hV)
  refine wp_seq_k (fun K1 hK1 => ?_)
  refine wp_reg ?_
  refine wpF_box hM0 #[bs (k)] (h := (by kernel_rfl : opAt _ _ _ _ _ = some (.box 9 (.tmp 1), some 3))) (by kernel_rfl) (fun b2 w3 hM4 => ?_)
  refine wpF_seg 1 (by kernel_rfl) ?_
  refine wpF_end _ (by kernel_rfl) (then_n (hK1 _ _ ?_))
  refine wp_seq_k (fun K5 hK5 => ?_)
  refine wp_reg ?_
  refine wpF_seg 1 (by kernel_rfl) ?_
  obtain ⟨V6, le7, hM8, hc9⟩ := hM4.settle 0 rfl
  have hM10 : Step V w [] V6 _ ([]) := hM8
  refine wpF_seg 1 (by kernel_rfl) ?_
  refine wpF_callP hM10 (f := 74) (caps := #[]) (h := (by kernel_rfl : opAt _ _ _ _ _ = some (.call (.mk (.value (.func 74)) #[(.tmp 5), (.tmp 6)] #[23, 115]), some 7))) (by kernel_rfl) (by kernel_rfl) (by kernel_rfl) (f74 _ _ hM10.inW 109 #[.pointer (some ⟨b2, 0, none⟩)] (by kernel_rfl) (fun (y_ : (Str × Str)) => withinB y_.1 y_.2 (k)) Al cl (l) (hl.up hM10.le) (fun V_ w_ l_ i_ j_ hj_ h_ => f109 V_ w_ i_ ((l).getD j_ ([], [])).1 h_.1 ((l).getD j_ ([], [])).2 h_.2 (k) (hk) b2 (fun i_ v_ hi_ => l_ _ _ _ (hc9 i_ v_ hi_)))) (fun v11 V12 w13 le14 hM15 hp16 => ?_)
  obtain rfl := hp16
  refine wpF_seg 1 (by kernel_rfl) ?_
  refine wpF_end _ (by kernel_rfl) (then_n (hK5 _ _ ?_))
  refine wp_ret ?_
  refine retN [.bool ((l).any (fun (y_ : (Str × Str)) => withinB y_.1 y_.2 (k)))] (.bool ((l).any (fun (y_ : (Str × Str)) => withinB y_.1 y_.2 (k)))) Try.results67 (.tmp (by kernel_rfl) (by kernel_rfl) .nil) (by kernel_rfl) (hRet _ _ ⟨_, _, rfl, hM15.clear, ?_⟩)
  -- end 
  rfl

end Go.Vk
