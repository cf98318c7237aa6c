import Derived.Test.YtnibbocbefnnnaaRA
set_option linter.unusedVariables false
set_option linter.unusedSimpArgs false
namespace Go.Vk
open Go.Proofs
set_option maxRecDepth 100000 in
theorem f113 (V : VT) (w : World) (fid : FuncId) (caps : Array Value) (hfid : callable Try.prog fid = true) (φ : Str → Bool) (A : Option Addr) (c : Nat) (xs : List Str) (hS : St V w [.row strK 9 A c xs])
   (hf : ∀ V' w', V.le V' → V'.inW w' → ∀ y : Str, y.length ≤ maxL → Calls Try.prog fid (#[bs y] ++ caps) w' (RetP V' w' fun v _ => v = .bool (φ y))) :
   Calls Try.prog 113 #[.slice A xs.length c, .func (.func fid) #[] caps] w (Ret V w [.row strK 9 A c xs] fun v V' E' => E' = [.row strK 9 A c xs] ∧ ((v = .int .i64 (-1) ∧ ∀ i, i < xs.length → φ (xs.getD i []) = false) ∨ ∃ k : Nat, k < xs.length ∧ v = .int .i64 (k : Int) ∧ φ (xs.getD k []) = true ∧ ∀ i, i < k → φ (xs.getD i []) = false)) := by
  have hmax : xs.length ≤ 140737488355328 := (row_open (hS.holds _ (List.mem_singleton.2 rfl))).2.1
  refine calls_env (n := 19) Try.func113 (c := _) rfl Try.ntmps113 (by kernel_rfl) (fun R hRet => ?_)
  have hM0 : Step V w [.row strK 9 A c xs] V w [.row strK 9 A c xs] := Step.refl hS
  refine wp_seq_k (fun K1 hK1 => ?_)
  refine wp_reg ?_
  refine wpF_seg 1 (by kernel_rfl) ?_
  refine wpF_end _ (by kernel_rfl) (then_n (hK1 _ _ ?_))
  refine wp_seq_k (fun K2 hK2 => ?_)
  refine wp_seq_k (fun K3 hK3 => ?_)
  refine wp_reg ?_
  refine wpF_seg 3 (by kernel_rfl) ?_
  refine wpF_end _ (by kernel_rfl) (then_n (hK3 _ _ ?_))
  refine wp_block ?_
  refine wp_base [(0, .slice A xs.length c), (1, .func (.func fid) #[] caps), (7, .int .i64 (xs.length : Int)), (8, .int .i64 ((0 : Nat) : Int))] (by kernel_rfl) (fun g1 => ?_)
  refine wp_loopX (fun (k : Nat) a w' => ∃ g V', a = env [] 19 [(0, .slice A xs.length c), (1, .func (.func fid) #[] caps), (7, .int .i64 (xs.length : Int)), (8, .int .i64 (k : Int))] g ∧ Step V w [.row strK 9 A c xs] V' w' [.row strK 9 A c xs] ∧ k ≤ xs.length ∧ (∀ i, i < k → φ (xs.getD i []) = false)) (fun k => xs.length - k) 0 ⟨g1, V, rfl, hM0, by omega, fun i hi => by omega⟩ ?_
  rintro k a w1 ⟨g, V1, rfl, hM, hk, hno⟩ K4 hK4
  refine wp_seq_k (fun K5 hK5 => ?_)
  refine wp_reg ?_
  refine wpF_seg 1 (by kernel_rfl) ?_
  refine wpF_end _ (by kernel_rfl) (then_n (hK5 _ _ ?_))
  refine wp_seq_k (fun K6 hK6 => ?_)
  refine wp_if (decide ((k : Int) < (xs.length : Int))) (by kernel_rfl) (fun h => ?_) (fun h => ?_)
  · have h1 : (k : Int) < (xs.length : Int) := of_decide_eq_true h
    refine wp_skip (then_n (hK6 _ _ ?_))
    refine wp_seq_k (fun K7 hK7 => ?_)
    refine wp_block ?_
    refine wp_seq_k (fun K8 hK8 => ?_)
    refine wp_reg ?_
    refine wpF_seg 2 (by kernel_rfl) ?_
    refine wpF_end _ (by kernel_rfl) (then_n (hK8 _ _ ?_))
    refine wp_seq_k (fun K9 hK9 => ?_)
    refine wp_reg ?_
    refine wpF_seg 3 (by kernel_rfl) ?_
    refine wpF_indexW hM 0 rfl .i64 (k : Int) (h := (by kernel_rfl : opAt _ _ _ _ _ = some (.indexAddr 22 (.tmp 12) (.tmp 13), some 14))) (e' := 9) (by kernel_rfl) (by kernel_rfl) (by kernel_rfl) k rfl (by omega) (fun b hA => ?_)
    refine wpF_loadW (m := k) hM 0 rfl hA (h := (by kernel_rfl : opAt _ _ _ _ _ = some (.load 9 (.tmp 14), some 15))) (by kernel_rfl) (by kernel_rfl) (by omega) (fun hl1 => ?_)
    refine wpF_callP hM (f := fid) (caps := caps) (h := (by kernel_rfl : opAt _ _ _ _ _ = some (.call ⟨.value (.tmp 11), #[.tmp 15], #[9]⟩, some 16))) (by kernel_rfl) hfid (by kernel_rfl) (hf V1 w1 hM.le hM.inW _ hl1) (fun v V2 w2 hle hM2 hΦ => ?_)
    subst hΦ
    refine wpF_end _ (by kernel_rfl) (then_n (hK9 _ _ ?_))
    refine wp_if (φ (xs.getD k [])) (by kernel_rfl) (fun h => ?_) (fun h => ?_)
    · refine wp_seq_k (fun K10 hK10 => ?_)
      refine wp_reg ?_
      refine wpF_seg 2 (by kernel_rfl) ?_
      refine wpF_end _ (by kernel_rfl) (then_n (hK10 _ _ ?_))
      refine wp_ret (blk_r (then_r (then_r (blk_r (then_r ?_)))))
      refine ret1 (.int .i64 (k : Int)) Try.results113 (by kernel_rfl) (by kernel_rfl) (hRet _ _ ?_)
      exact ⟨_, _, _, rfl, hM2, rfl, .inr ⟨k, by omega, rfl, h, hno⟩⟩
    · refine wp_skip (blk_n (then_n (hK7 _ _ ?_)))
      refine wp_reg ?_
      refine wpF_add .i64 (k : Int) 1 ((k + 1 : Nat) : Int) (h := (by kernel_rfl : opAt _ _ _ _ _ = some (.binOp .add 3 (.tmp 8) (.const (.int .i64 1)) 3, some 18))) (by kernel_rfl) (by kernel_rfl) (by rw [wrap64_ok _ (by omega)]; omega) ?_
      refine wpF_seg 1 (by kernel_rfl) ?_
      refine wpF_base [(0, .slice A xs.length c), (1, .func (.func fid) #[] caps), (7, .int .i64 (xs.length : Int)), (8, .int .i64 ((k + 1 : Nat) : Int))] (by kernel_rfl) (fun g2 => ?_)
      refine wpF_end _ (by kernel_rfl) (then_n (hK4 _ _ (k + 1) (by omega) ?_))
      exact ⟨g2, V2, rfl, hM2, by omega, all_step hno h⟩
  · have h1 : ¬ (k : Int) < (xs.length : Int) := of_decide_eq_false h
    refine wp_exit (then_x (then_x (blk_hit (then_n (hK2 _ _ ?_)))))
    refine wp_seq_k (fun K11 hK11 => ?_)
    refine wp_reg ?_
    refine wpF_seg 1 (by kernel_rfl) ?_
    refine wpF_end _ (by kernel_rfl) (then_n (hK11 _ _ ?_))
    refine wp_ret ?_
    refine ret1 (.int .i64 (-1)) Try.results113 (by kernel_rfl) (by kernel_rfl) (hRet _ _ ?_)
    exact ⟨_, _, _, rfl, hM, rfl, .inl ⟨rfl, fun i hi => hno i (by omega)⟩⟩
set_option maxRecDepth 100000 in
theorem f107 (V : VT) (w : World) (fid : FuncId) (caps : Array Value) (hfid : callable Try.prog fid = true) (φ : Str → Bool) (A : Option Addr) (c : Nat) (xs : List Str) (hS : St V w [.row strK 9 A c xs])
   (hf : ∀ V' w', V.le V' → V'.inW w' → ∀ y : Str, y.length ≤ maxL → Calls Try.prog fid (#[bs y] ++ caps) w' (RetP V' w' fun v _ => v = .bool (φ y))) :
   Calls Try.prog 107 #[.slice A xs.length c, .func (.func fid) #[] caps] w (Ret V w [.row strK 9 A c xs] fun v V' E' => ∃ (A1 : Option Addr), ∃ (c1 : Nat), v = .slice A1 (xs.filter (fun y => !φ y)).length c1 ∧ E' = [.row strK 9 A1 c1 (xs.filter (fun y => !φ y))]) := by
  have hmax : xs.length ≤ 140737488355328 := (row_open (hS.holds _ (List.mem_singleton.2 rfl))).2.1
  refine calls_env (n := 42) Try.func107 (c := _) rfl Try.ntmps107 (by kernel_rfl) (fun R hRet => ?_)
  have hM0 : Step V w [.row strK 9 A c xs] V w [.row strK 9 A c xs] := Step.refl hS
  refine wp_seq_k (fun K1 hK1 => ?_)
  refine wp_reg ?_
  refine wpF_seg 1 (by kernel_rfl) ?_
  refine wpF_end _ (by kernel_rfl) (then_n (hK1 _ _ ?_))
  refine wp_seq_k (fun K2 hK2 => ?_)
  refine wp_reg ?_
  refine wpF_seg 2 (by kernel_rfl) ?_
  refine wpF_callE [.row strK 9 A c xs] [] hM0 (f := 113) (caps := #[]) (h := (by kernel_rfl : opAt _ _ _ _ _ = some (.call ⟨.value (.func 113), #[.tmp 8, .tmp 9], #[22, 122]⟩, some 10))) (by kernel_rfl) (by kernel_rfl) (by kernel_rfl) (f113 V w fid caps hfid φ A c xs hS hf) (fun v V2 w2 Eo hle hM2 hΦ => ?_)
  obtain ⟨rfl, hΦ⟩ := hΦ
  rcases hΦ with ⟨rfl, hno⟩ | ⟨k0, hk0, rfl, hyes, hno⟩
  · refine wpF_seg 1 (by kernel_rfl) ?_
    refine wpF_end _ (by kernel_rfl) (then_n (hK2 _ _ ?_))
    refine wp_seq_k (fun K3 hK3 => ?_)
    refine wp_seq_k (fun K4 hK4 => ?_)
    refine wp_reg ?_
    refine wpF_seg 2 (by kernel_rfl) ?_
    refine wpF_end _ (by kernel_rfl) (then_n (hK4 _ _ ?_))
    refine wp_ct (by kernel_rfl) ?_
    refine wp_seq_k (fun K5 hK5 => ?_)
    refine wp_reg ?_
    refine wpF_seg 2 (by kernel_rfl) ?_
    refine wpF_end _ (by kernel_rfl) (then_n (hK5 _ _ ?_))
    refine wp_ret (then_r ?_)
    refine ret1 (.slice A xs.length c) Try.results107 (by kernel_rfl) (by kernel_rfl) (hRet _ _ ?_)
    rw [filter_all_no hno]
    exact ⟨_, _, _, rfl, hM2, A, c, rfl, rfl⟩
  · refine wpF_seg 1 (by kernel_rfl) ?_
    refine wpF_end _ (by kernel_rfl) (then_n (hK2 _ _ ?_))
    refine wp_seq_k (fun K3 hK3 => ?_)
    refine wp_seq_k (fun K4 hK4 => ?_)
    refine wp_reg ?_
    refine wpF_seg 2 (by kernel_rfl) ?_
    refine wpF_end _ (by kernel_rfl) (then_n (hK4 _ _ ?_))
    refine wp_if (decide ((k0 : Int) = -1)) (by kernel_rfl) (fun h => absurd (of_decide_eq_true h) (by omega)) (fun _ => ?_)
    refine wp_skip (then_n (hK3 _ _ ?_))
    refine wp_seq_k (fun K5 hK5 => ?_)
    refine wp_seq_k (fun K6 hK6 => ?_)
    refine wp_reg ?_
    refine wpF_seg 1 (by kernel_rfl) ?_
    refine wpF_add .i64 (k0 : Int) 1 ((k0 + 1 : Nat) : Int) (h := (by kernel_rfl : opAt _ _ _ _ _ = some (.binOp .add 3 (.tmp 14) (.const (.int .i64 1)) 3, some 15))) (by kernel_rfl) (by kernel_rfl) (by rw [wrap64_ok _ (by omega)]; omega) ?_
    refine wpF_seg 1 (by kernel_rfl) ?_
    refine wpF_end _ (by kernel_rfl) (then_n (hK6 _ _ ?_))
    refine wp_block ?_
    refine wp_base [(0, .slice A xs.length c), (1, .func (.func fid) #[] caps), (5, .int .i64 (k0 : Int)), (6, .int .i64 ((k0 + 1 : Nat) : Int))] (by kernel_rfl) (fun g1 => ?_)
    refine wp_loopX (fun (p : Nat × Nat × List Str) a w' => ∃ g V', a = env [] 42 [(0, .slice A xs.length c), (1, .func (.func fid) #[] caps), (5, .int .i64 (p.1 : Int)), (6, .int .i64 (p.2.1 : Int))] g ∧ Step V w [.row strK 9 A c xs] V' w' [.row strK 9 A c p.2.2] ∧ Kept φ xs p.1 p.2.1 p.2.2) (fun p => xs.length - p.2.1) (k0, k0 + 1, xs) ⟨g1, V2, rfl, hM2, kept_first hk0 hyes hno⟩ ?_
    rintro ⟨ii, jj, m⟩ a w1 ⟨g, V3, rfl, hM, hkp⟩ K7 hK7
    replace hM : Step V w [.row strK 9 A c xs] V3 w1 [.row strK 9 A c m] := hM
    replace hkp : Kept φ xs ii jj m := hkp
    have hml : m.length = xs.length := hkp.1
    have hij : ii < jj := hkp.2.1
    have hjl : jj ≤ xs.length := hkp.2.2.1
    refine wp_seq_k (fun K8 hK8 => ?_)
    refine wp_seq_k (fun K9 hK9 => ?_)
    refine wp_reg ?_
    refine wpF_seg 4 (by kernel_rfl) ?_
    refine wpF_end _ (by kernel_rfl) (then_n (hK9 _ _ ?_))
    refine wp_if (decide ((jj : Int) < (xs.length : Int))) (by kernel_rfl) (fun h => ?_) (fun h => ?_)
    · have h1 : (jj : Int) < (xs.length : Int) := of_decide_eq_true h
      refine wp_skip (then_n (hK8 _ _ ?_))
      refine wp_seq_k (fun K10 hK10 => ?_)
      refine wp_block ?_
      refine wp_seq_k (fun K11 hK11 => ?_)
      refine wp_reg ?_
      refine wpF_seg 2 (by kernel_rfl) ?_
      refine wpF_indexW hM 0 rfl .i64 (jj : Int) (h := (by kernel_rfl : opAt _ _ _ _ _ = some (.indexAddr 22 (.tmp 22) (.tmp 23), some 24))) (e' := 9) (by kernel_rfl) (by rw [hml]; kernel_rfl) (by kernel_rfl) jj rfl (by omega) (fun b hA => ?_)
      refine wpF_loadW (m := jj) hM 0 rfl hA (h := (by kernel_rfl : opAt _ _ _ _ _ = some (.load 9 (.tmp 24), some 25))) (by kernel_rfl) (by kernel_rfl) (by omega) (fun hl1 => ?_)
      refine wpF_seg 1 (by kernel_rfl) ?_
      refine wpF_end _ (by kernel_rfl) (then_n (hK11 _ _ ?_))
      refine wp_seq_k (fun K12 hK12 => ?_)
      refine wp_reg ?_
      refine wpF_seg 2 (by kernel_rfl) ?_
      refine wpF_callP hM (f := fid) (caps := caps) (h := (by kernel_rfl : opAt _ _ _ _ _ = some (.call ⟨.value (.tmp 26), #[.tmp 27], #[9]⟩, some 28))) (by kernel_rfl) hfid (by kernel_rfl) (hf V3 w1 (hM.le) hM.inW _ hl1) (fun v V4 w2 hle4 hM4 hΦ => ?_)
      subst hΦ
      refine wpF_seg 1 (by kernel_rfl) ?_
      refine wpF_end _ (by kernel_rfl) (then_n (hK12 _ _ ?_))
      have next : ∀ (ii' : Nat) (m' : List Str) (V5 : VT) (w3 : World) (L' : List (Nat × Value)) (g' : Nat → Value), Step V w [.row strK 9 A c xs] V5 w3 [.row strK 9 A c m'] → Kept φ xs ii' (jj + 1) m' → True := fun _ _ _ _ _ _ _ _ => trivial
      refine wp_if (!φ (m.getD jj [])) (by kernel_rfl) (fun h2 => ?_) (fun h2 => ?_)
      · have hφ : φ (m.getD jj []) = false := by simpa using h2
        refine wp_seq_k (fun K13 hK13 => ?_)
        refine wp_reg ?_
        refine wpF_seg 3 (by kernel_rfl) ?_
        refine wpF_indexW hM4 0 rfl .i64 (ii : Int) (h := (by kernel_rfl : opAt _ _ _ _ _ = some (.indexAddr 22 (.tmp 30) (.tmp 31), some 33))) (e' := 9) (by kernel_rfl) (by rw [hml]; kernel_rfl) (by kernel_rfl) ii rfl (by omega) (fun b2 hA2 => ?_)
        refine wpF_storeW (m := ii) hM4 0 rfl hA2 (h := (by kernel_rfl : opAt _ _ _ _ _ = some (.store 9 (.tmp 33) (.tmp 32), none))) (by kernel_rfl) (m.getD jj []) (by kernel_rfl) hl1 (by kernel_rfl) (by omega) (fun w3 hM5 => ?_)
        refine wpF_end _ (by kernel_rfl) (then_n (hK13 _ _ ?_))
        refine wp_reg ?_
        refine wpF_seg 1 (by kernel_rfl) ?_
        refine wpF_add .i64 (ii : Int) 1 ((ii + 1 : Nat) : Int) (h := (by kernel_rfl : opAt _ _ _ _ _ = some (.binOp .add 3 (.tmp 34) (.const (.int .i64 1)) 3, some 35))) (by kernel_rfl) (by kernel_rfl) (by rw [wrap64_ok _ (by omega)]; omega) ?_
        refine wpF_seg 1 (by kernel_rfl) ?_
        refine wpF_end _ (by kernel_rfl) (blk_n (then_n (hK10 _ _ ?_)))
        refine wp_reg ?_
        refine wpF_seg 1 (by kernel_rfl) ?_
        refine wpF_add .i64 (jj : Int) 1 ((jj + 1 : Nat) : Int) (h := (by kernel_rfl : opAt _ _ _ _ _ = some (.binOp .add 3 (.tmp 20) (.const (.int .i64 1)) 3, some 21))) (by kernel_rfl) (by kernel_rfl) (by rw [wrap64_ok _ (by omega)]; omega) ?_
        refine wpF_seg 1 (by kernel_rfl) ?_
        refine wpF_base [(0, .slice A xs.length c), (1, .func (.func fid) #[] caps), (5, .int .i64 ((ii + 1 : Nat) : Int)), (6, .int .i64 ((jj + 1 : Nat) : Int))] (by kernel_rfl) (fun g2 => ?_)
        refine wpF_end _ (by kernel_rfl) (then_n (hK7 _ _ (ii + 1, jj + 1, m.set ii (m.getD jj [])) (by show xs.length - (jj + 1) < xs.length - jj; omega) ?_))
        exact ⟨g2, V4, rfl, hM5, kept_yes hkp (by omega) hφ⟩
      · have hφ : φ (m.getD jj []) = true := by simpa using h2
        refine wp_skip (blk_n (then_n (hK10 _ _ ?_)))
        refine wp_reg ?_
        refine wpF_seg 1 (by kernel_rfl) ?_
        refine wpF_add .i64 (jj : Int) 1 ((jj + 1 : Nat) : Int) (h := (by kernel_rfl : opAt _ _ _ _ _ = some (.binOp .add 3 (.tmp 20) (.const (.int .i64 1)) 3, some 21))) (by kernel_rfl) (by kernel_rfl) (by rw [wrap64_ok _ (by omega)]; omega) ?_
        refine wpF_seg 1 (by kernel_rfl) ?_
        refine wpF_base [(0, .slice A xs.length c), (1, .func (.func fid) #[] caps), (5, .int .i64 (ii : Int)), (6, .int .i64 ((jj + 1 : Nat) : Int))] (by kernel_rfl) (fun g2 => ?_)
        refine wpF_end _ (by kernel_rfl) (then_n (hK7 _ _ (ii, jj + 1, m) (by show xs.length - (jj + 1) < xs.length - jj; omega) ?_))
        exact ⟨g2, V4, rfl, hM4, kept_no hkp (by omega) hφ⟩
    · have h1 : ¬ (jj : Int) < (xs.length : Int) := of_decide_eq_false h
      refine wp_exit (then_x (then_x (blk_hit (then_n (hK5 _ _ ?_)))))
      refine wp_seq_k (fun K14 hK14 => ?_)
      refine wp_reg ?_
      refine wpF_seg 2 (by kernel_rfl) ?_
      refine wpF_sliceLoW hM 0 rfl (h := (by kernel_rfl : opAt _ _ _ _ _ = some (.slice 22 (.tmp 36) (some (.tmp 37)) none none, some 38))) (e' := 9) (by kernel_rfl) (by rw [hml]; kernel_rfl) ii ⟨.i64, by kernel_rfl⟩ (by omega) (fun b hA => ?_)
      refine wpF_clearW (l := ii) (c' := c - ii) hM 0 rfl hA (h := (by kernel_rfl : opAt _ _ _ _ _ = some (.call ⟨.builtin .clear, #[.tmp 38], #[22]⟩, none))) (e' := 9) (by kernel_rfl) (by kernel_rfl) (by kernel_rfl) (by omega) (fun w3 hM5 => ?_)
      refine wpF_end _ (by kernel_rfl) (then_n (hK14 _ _ ?_))
      refine wp_seq_k (fun K15 hK15 => ?_)
      refine wp_reg ?_
      refine wpF_seg 2 (by kernel_rfl) ?_
      refine wpF_sliceHiW hM5 0 rfl (h := (by kernel_rfl : opAt _ _ _ _ _ = some (.slice 22 (.tmp 39) none (some (.tmp 40)) none, some 41))) (e' := 9) (by kernel_rfl) (by rw [kept_len hkp]; kernel_rfl) ii ⟨.i64, by kernel_rfl⟩ (by rw [kept_len hkp]; omega) (fun hM6 => ?_)
      refine wpF_seg 1 (by kernel_rfl) ?_
      refine wpF_end _ (by kernel_rfl) (then_n (hK15 _ _ ?_))
      refine wp_ret ?_
      refine ret1 (.slice A ii c) Try.results107 (by kernel_rfl) (by kernel_rfl) (hRet _ _ ?_)
      obtain ⟨e1, e2⟩ := kept_end hkp (by omega)
      refine ⟨_, _, _, rfl, hM6, A, c, by rw [e2], ?_⟩
      show [Ent.row strK 9 A c _] = _
      rw [e1]

open Go.Shelf in
def ins_ren : Go.Shelf.Ren := ⟨fun | 22 => 56 | 17 => 148 | 29 => 105 | 30 => 106 | 36 => 140 | n => n, fun | 24 => 22 | n => n, fun n => n⟩
open Go.Shelf in
theorem ins_lays : Lays2.n22 Try.prog ins_ren where
  mixed := by kernel_rfl
  f17 := Try.func148.trans (congrArg some (by kernel_rfl))
  f22 := Try.func56.trans (congrArg some (by kernel_rfl))
  f29 := Try.func105.trans (congrArg some (by kernel_rfl))
  f30 := Try.func106.trans (congrArg some (by kernel_rfl))
  f36 := Try.func140.trans (congrArg some (by kernel_rfl))
  t0 := Try.underlying0
  a0 := fun _ => run_agg (by kernel_rfl)
  z0 := fun _ => run_sz (by kernel_rfl)
  v0 := fun _ => run_zero (by kernel_rfl)
  t3 := Try.underlying3
  a3 := fun _ => run_agg (by kernel_rfl)
  z3 := fun _ => run_sz (by kernel_rfl)
  v3 := fun _ => run_zero (by kernel_rfl)
  t4 := Try.underlying4
  a4 := fun _ => run_agg (by kernel_rfl)
  z4 := fun _ => run_sz (by kernel_rfl)
  v4 := fun _ => run_zero (by kernel_rfl)
  t9 := Try.underlying9
  a9 := fun _ => run_agg (by kernel_rfl)
  z9 := fun _ => run_sz (by kernel_rfl)
  v9 := fun _ => run_zero (by kernel_rfl)
  t24 := Try.underlying22
  a24 := fun _ => run_agg (by kernel_rfl)
  z24 := fun _ => run_sz (by kernel_rfl)
  v24 := fun _ => run_zero (by kernel_rfl)
  i9 := by kernel_rfl
theorem f56 (V : VT) (w : World) (Al : Option Addr) (cl : Nat) (l : List Str) (i : Nat) (Av : Option Addr) (cv : Nat) (v : List Str) (hS : St V w [.row strK 9 Al cl l, .row strK 9 Av cv v]) (h1 : i ≤ l.length) (h2 : ∃ y, v = [y]) (h3 : l.length ≤ 100000) :
    Calls Try.prog 56 #[.slice Al l.length cl, .int .i64 (i : Int), .slice Av v.length cv] w (Ret V w [.row strK 9 Al cl l, .row strK 9 Av cv v] fun rv V' E' => ∃ (A1 : Option Addr), ∃ (c1 : Nat), rv = .slice A1 (l.take i ++ v ++ l.drop i).length c1 ∧ E' = [.row strK 9 A1 c1 (l.take i ++ v ++ l.drop i)]) := by
  obtain ⟨y, rfl⟩ := h2
  exact ins_row ins_lays hS h1 (by omega)
set_option maxHeartbeats 4000000 in
set_option maxRecDepth 100000 in
theorem f108 (V : VT) (w : World) (hV : V.inW w) (k : Str) (hk : k.length ≤ maxL) (Am : Option Addr) (cm : Nat) (m : List ((Str × Str))) (hm : Rd (prK strK strK) V Am cm m) (bm : Nat) (hbm : ∀ i_ v_, (#[.slice Am (m).length cm] : Array Value)[i_]? = some v_ → V bm i_ = some v_) :
    Calls Try.prog 108 #[bs (k), .pointer (some ⟨bm, 0, none⟩)] w (RetP V w fun rv V' => rv = .bool (spB m k)) := by
  have mxk : k.length ≤ 140737488355328 := hk
  have mxm : m.length ≤ 140737488355328 := hm.max
  refine calls_env (n := 7) Try.func108 (c := _) rfl Try.ntmps108 (by kernel_rfl) (fun R hRet => ?_)
  have hM0 : Step V w [] V w [] := Step.refl (St.nilE hV)
  refine wp_seq_k (fun K1 hK1 => ?_)
  refine wp_reg ?_
  refine wpF_seg 1 (by kernel_rfl) ?_
  refine wpF_end _ (by kernel_rfl) (then_n (hK1 _ _ ?_))
  refine wp_seq_k (fun K2 hK2 => ?_)
  refine wp_reg ?_
  refine gF hM0 (.load 23 (.tmp 1)) (some 4) (by kernel_rfl) (Y_loadB #[.slice Am (m).length cm] hbm (off := 0) (by kernel_rfl) (.slice Am (m).length cm) (by kernel_rfl)) ?_
  refine wpF_seg 1 (by kernel_rfl) ?_
  refine wpF_callP hM0 (f := 67) (caps := #[]) (h := (by kernel_rfl : opAt _ _ _ _ _ = some (.call (.mk (.value (.func 67)) #[(.tmp 4), (.tmp 5)] #[23, 9]), some 6))) (by kernel_rfl) (by kernel_rfl) (by kernel_rfl) (f67 _ _ hM0.inW Am cm (m) hm (k) (hk)) (fun v3 V4 w5 le6 hM7 hp8 => ?_)
  obtain rfl := hp8
  refine wpF_seg 1 (by kernel_rfl) ?_
  refine wpF_end _ (by kernel_rfl) (then_n (hK2 _ _ ?_))
  refine wp_ret ?_
  refine retN [.bool (spB (m) (k))] (.bool (spB (m) (k))) Try.results108 (.tmp (by kernel_rfl) (by kernel_rfl) .nil) (by kernel_rfl) (hRet _ _ ⟨_, _, rfl, hM7.clear, ?_⟩)
  -- end 
  rfl

set_option maxHeartbeats 4000000 in
set_option maxRecDepth 100000 in
theorem f57 (V : VT) (w : World) (Al : Option Addr) (cl : Nat) (l : List Str) (Am : Option Addr) (cm : Nat) (m : List ((Str × Str))) (hm : Rd (prK strK strK) V Am cm m) (hS : St V w [.row strK 9 Al cl (l)]) :
    Calls Try.prog 57 #[.slice Al (l).length cl, .slice Am (m).length cm] w (Ret V w [.row strK 9 Al cl (l)] fun rv V' E' => ∃ (A1 : Option Addr), ∃ (c1 : Nat), ∃ (A2 : Option Addr), ∃ (c2 : Nat), rv = .tuple #[.agg #[.slice A1 (mdK l m).length c1, .slice A2 (mdS l m).length c2], .int .i64 (mdE l m)] ∧ E' = [] ∧ Rd strK V' A1 c1 (mdK l m) ∧ Rd (prK strK strK) V' A2 c2 (mdS l m)) := by
  have mxm : m.length ≤ 140737488355328 := hm.max
  refine calls_env (n := 21) Try.func57 (c := _) rfl Try.ntmps57 (by kernel_rfl) (fun R hRet => ?_)
  have hV := hS.inW
  have hM0 : Step V w [.row strK 9 Al cl (l)] V w [.row strK 9 Al cl (l)] := Step.refl hS
  refine wp_seq_k (fun K1 hK1 => ?_)
  refine wp_reg ?_
  refine wpF_box hM0 #[.slice Am (m).length cm] (h := (by kernel_rfl : opAt _ _ _ _ _ = some (.box 23 (.tmp 1), some 3))) (by kernel_rfl) (fun b2 w3 hM4 => ?_)
  refine wpF_alloc hM4 #[.slice none 0 0, .slice none 0 0] (h := (by kernel_rfl : opAt _ _ _ _ _ = some (.alloc 25, some 4))) (by kernel_rfl) (fun b5 w6 hM7 => ?_)
  refine wpF_seg 1 (by kernel_rfl) ?_
  refine wpF_end _ (by kernel_rfl) (then_n (hK1 _ _ ?_))
  refine wp_seq_k (fun K8 hK8 => ?_)
  refine wp_reg ?_
  refine wpF_seg 1 (by kernel_rfl) ?_
  obtain ⟨V9, le10, hM11, hc12⟩ := hM7.settle 1 rfl
  have hM13 : Step V w [.row strK 9 Al cl (l)] V9 _ ([.blk b5 (.cells #[.slice none 0 0, .slice none 0 0] 25), .row strK 9 Al cl (l)]) := hM11
  refine wpF_seg 1 (by kernel_rfl) ?_
  have hM14 := hM13.front 1 rfl
  have hM22 : Step V w [.row strK 9 Al cl (l)] V9 _ ([.row strK 9 Al cl (l), .blk b5 (.cells #[.slice none 0 0, .slice none 0 0] 25)]) := hM14
  refine wpF_callE [.row strK 9 Al cl (l)] ([.blk b5 (.cells #[.slice none 0 0, .slice none 0 0] 25)]) hM22 (f := 107) (caps := #[]) (h := (by kernel_rfl : opAt _ _ _ _ _ = some (.call (.mk (.value (.func 107)) #[(.tmp 6), (.tmp 7)] #[22, 122]), some 8))) (by kernel_rfl) (by kernel_rfl) (by kernel_rfl) (f107 _ _ 108 #[.pointer (some ⟨b2, 0, none⟩)] (by kernel_rfl) (fun (y_ : Str) => spB (m) y_) Al cl (l) (St.part (E := [.row strK 9 Al cl (l)]) (F := ([.blk b5 (.cells #[.slice none 0 0, .slice none 0 0] 25)])) hM22.ok) (fun V_ w_ l_ i_ y_ h_ => f108 V_ w_ i_ y_ h_ Am cm (m) ((hm.up hM13.le).up l_) b2 (fun i_ v_ hi_ => l_ _ _ _ (hc12 i_ v_ hi_)))) (fun v15 V16 w17 Eo18 le19 hM20 hp21 => ?_)
  obtain ⟨Ar22_1, cr22_1, rfl, rfl⟩ := hp21
  have hM23 : Step V w [.row strK 9 Al cl (l)] V16 _ ([.row strK 9 Ar22_1 cr22_1 (mkK l m), .blk b5 (.cells #[.slice none 0 0, .slice none 0 0] 25)]) := hM20
  refine wpF_seg 1 (by kernel_rfl) ?_
  refine wpF_end _ (by kernel_rfl) (then_n (hK8 _ _ ?_))
  refine wp_seq_k (fun K24 hK24 => ?_)
  refine wp_seq_k (fun K25 hK25 => ?_)
  refine wp_reg ?_
  refine wpF_seg 4 (by kernel_rfl) ?_
  refine wpF_caseB 12 (decide ((64) < (((mkK l m).length : Int)))) (by kernel_rfl) (by kernel_rfl) (fun h26 => ?_) (fun h26 => ?_)
  · -- t
    have p27 : ((64) < (((mkK l m).length : Int))) := of_decide_eq_true h26
    refine wpF_seg 4 (by kernel_rfl) ?_
    refine wpF_end _ (by kernel_rfl) (then_n (hK25 _ _ ?_))
    refine wp_ct (by kernel_rfl) ?_
    refine wp_seq_k (fun K28 hK28 => ?_)
    refine wp_reg ?_
    refine wpF_seg 1 (by kernel_rfl) ?_
    refine wpF_store hM23 1 rfl (h := (by kernel_rfl : opAt _ _ _ _ _ = some (.store 25 (.tmp 4) (.tmp 17), none))) (off := 0) (by kernel_rfl) #[.slice none 0 0, .slice none 0 0] (by kernel_rfl) (by kernel_rfl) (by kernel_rfl) (by kernel_rfl) (fun w30 hM29 => ?_)
    have hM31 : Step V w [.row strK 9 Al cl (l)] V16 _ ([.row strK 9 Ar22_1 cr22_1 (mkK l m), .blk b5 (.cells #[.slice none 0 0, .slice none 0 0] 25)]) := hM29
    refine wpF_seg 1 (by kernel_rfl) ?_
    refine wpF_end _ (by kernel_rfl) (then_n (hK28 _ _ ?_))
    refine wp_ret (then_r (?_))
    have hM32 := (hM31.front 1 rfl).drop
    have hM33 := (hM32.front 0 rfl).drop
    have hM34 : Step V w [.row strK 9 Al cl (l)] V16 _ ([]) := hM33
    refine retN [.agg #[.slice none 0 0, .slice none 0 0], .int .i64 (9)] (.tuple #[.agg #[.slice none 0 0, .slice none 0 0], .int .i64 (9)]) Try.results57 (.cell (by kernel_rfl) (by kernel_rfl) hM31 1 rfl (by kernel_rfl) (.tmp (by kernel_rfl) (by kernel_rfl) .nil)) (by kernel_rfl) (hRet _ _ ⟨_, _, _, rfl, hM34, ?_⟩)
    -- end t
    refine ⟨none, 0, none, 0, ?_, ?_, ?_, ?_⟩
    · simp only [mdK, mdS, mdE, mkOk, h26, Bool.not_true, Bool.not_false, Bool.and_self, Bool.false_and, Bool.and_false, Bool.true_and, cond_true, cond_false] <;> rfl
    · rfl
    · first | exact (Rd.nil _ _) | (exact Rd.eq (Rd.nil _ _) (by simp only [mdK, mdS, mkOk, h26, Bool.not_true, Bool.not_false, Bool.and_self, Bool.false_and, Bool.and_false, Bool.true_and, cond_true, cond_false]))
    · first | exact (Rd.nil _ _) | (exact Rd.eq (Rd.nil _ _) (by simp only [mdK, mdS, mkOk, h26, Bool.not_true, Bool.not_false, Bool.and_self, Bool.false_and, Bool.and_false, Bool.true_and, cond_true, cond_false]))
  · -- f
    have p35 : ¬ ((64) < (((mkK l m).length : Int))) := of_decide_eq_false h26
    refine gF hM23 (.load 23 (.tmp 3)) (some 13) (by kernel_rfl) (Y_loadB #[.slice Am (m).length cm] (fun i v hi => le19 _ _ _ (hc12 i v hi)) (off := 0) (by kernel_rfl) (.slice Am (m).length cm) (by kernel_rfl)) ?_
    refine wpF_seg 3 (by kernel_rfl) ?_
    refine wpF_end _ (by kernel_rfl) (then_n (hK25 _ _ ?_))
    refine wp_if (decide ((64) < ((m.length : Int)))) (by kernel_rfl) (fun h36 => ?_) (fun h36 => ?_)
    · -- ft
      have p37 : ((64) < ((m.length : Int))) := of_decide_eq_true h36
      refine wp_seq_k (fun K38 hK38 => ?_)
      refine wp_reg ?_
      refine wpF_seg 1 (by kernel_rfl) ?_
      refine wpF_store hM23 1 rfl (h := (by kernel_rfl : opAt _ _ _ _ _ = some (.store 25 (.tmp 4) (.tmp 17), none))) (off := 0) (by kernel_rfl) #[.slice none 0 0, .slice none 0 0] (by kernel_rfl) (by kernel_rfl) (by kernel_rfl) (by kernel_rfl) (fun w40 hM39 => ?_)
      have hM41 : Step V w [.row strK 9 Al cl (l)] V16 _ ([.row strK 9 Ar22_1 cr22_1 (mkK l m), .blk b5 (.cells #[.slice none 0 0, .slice none 0 0] 25)]) := hM39
      refine wpF_seg 1 (by kernel_rfl) ?_
      refine wpF_end _ (by kernel_rfl) (then_n (hK38 _ _ ?_))
      refine wp_ret (then_r (?_))
      have hM42 := (hM41.front 1 rfl).drop
      have hM43 := (hM42.front 0 rfl).drop
      have hM44 : Step V w [.row strK 9 Al cl (l)] V16 _ ([]) := hM43
      refine retN [.agg #[.slice none 0 0, .slice none 0 0], .int .i64 (9)] (.tuple #[.agg #[.slice none 0 0, .slice none 0 0], .int .i64 (9)]) Try.results57 (.cell (by kernel_rfl) (by kernel_rfl) hM41 1 rfl (by kernel_rfl) (.tmp (by kernel_rfl) (by kernel_rfl) .nil)) (by kernel_rfl) (hRet _ _ ⟨_, _, _, rfl, hM44, ?_⟩)
      -- end ft
      refine ⟨none, 0, none, 0, ?_, ?_, ?_, ?_⟩
      · simp only [mdK, mdS, mdE, mkOk, h26, h36, Bool.not_true, Bool.not_false, Bool.and_self, Bool.false_and, Bool.and_false, Bool.true_and, cond_true, cond_false] <;> rfl
      · rfl
      · first | exact (Rd.nil _ _) | (exact Rd.eq (Rd.nil _ _) (by simp only [mdK, mdS, mkOk, h26, h36, Bool.not_true, Bool.not_false, Bool.and_self, Bool.false_and, Bool.and_false, Bool.true_and, cond_true, cond_false]))
      · first | exact (Rd.nil _ _) | (exact Rd.eq (Rd.nil _ _) (by simp only [mdK, mdS, mkOk, h26, h36, Bool.not_true, Bool.not_false, Bool.and_self, Bool.false_and, Bool.and_false, Bool.true_and, cond_true, cond_false]))
    · -- ff
      have p45 : ¬ ((64) < ((m.length : Int))) := of_decide_eq_false h36
      refine wp_skip (then_n (hK24 _ _ ?_))
      refine wp_seq_k (fun K46 hK46 => ?_)
      refine wp_reg ?_
      refine wpF_seg 1 (by kernel_rfl) ?_
      refine gF hM23 (.load 23 (.tmp 3)) (some 19) (by kernel_rfl) (Y_loadB #[.slice Am (m).length cm] (fun i v hi => le19 _ _ _ (hc12 i v hi)) (off := 0) (by kernel_rfl) (.slice Am (m).length cm) (by kernel_rfl)) ?_
      refine wpF_seg 1 (by kernel_rfl) ?_
      refine wpF_store hM23 1 rfl (h := (by kernel_rfl : opAt _ _ _ _ _ = some (.store 25 (.tmp 4) (.tmp 20), none))) (off := 0) (by kernel_rfl) #[.slice Ar22_1 (mkK l m).length cr22_1, .slice Am (m).length cm] (by kernel_rfl) (by kernel_rfl) (by kernel_rfl) (by kernel_rfl) (fun w48 hM47 => ?_)
      have hM49 : Step V w [.row strK 9 Al cl (l)] V16 _ ([.row strK 9 Ar22_1 cr22_1 (mkK l m), .blk b5 (.cells #[.slice Ar22_1 (mkK l m).length cr22_1, .slice Am (m).length cm] 25)]) := hM47
      refine wpF_seg 1 (by kernel_rfl) ?_
      refine wpF_end _ (by kernel_rfl) (then_n (hK46 _ _ ?_))
      refine wp_ret ?_
      obtain ⟨V50, le51, hM52, r53⟩ := hM49.settleRow 0 rfl
      have hM54 : Step V w [.row strK 9 Al cl (l)] V50 _ ([.blk b5 (.cells #[.slice Ar22_1 (mkK l m).length cr22_1, .slice Am (m).length cm] 25)]) := hM52
      have hM55 := (hM54.front 0 rfl).drop
      have hM56 : Step V w [.row strK 9 Al cl (l)] V50 _ ([]) := hM55
      refine retN [.agg #[.slice Ar22_1 (mkK l m).length cr22_1, .slice Am (m).length cm], .int .i64 (0)] (.tuple #[.agg #[.slice Ar22_1 (mkK l m).length cr22_1, .slice Am (m).length cm], .int .i64 (0)]) Try.results57 (.cell (by kernel_rfl) (by kernel_rfl) hM54 0 rfl (by kernel_rfl) (.tmp (by kernel_rfl) (by kernel_rfl) .nil)) (by kernel_rfl) (hRet _ _ ⟨_, _, _, rfl, hM56, ?_⟩)
      -- end ff
      refine ⟨Ar22_1, cr22_1, Am, cm, ?_, ?_, ?_, ?_⟩
      · simp only [mdK, mdS, mdE, mkOk, h26, h36, Bool.not_true, Bool.not_false, Bool.and_self, Bool.false_and, Bool.and_false, Bool.true_and, cond_true, cond_false] <;> rfl
      · rfl
      · first | exact r53 | (exact Rd.eq r53 (by simp only [mdK, mdS, mkOk, h26, h36, Bool.not_true, Bool.not_false, Bool.and_self, Bool.false_and, Bool.and_false, Bool.true_and, cond_true, cond_false]))
      · first | exact (hm.up hM56.le) | (exact Rd.eq (hm.up hM56.le) (by simp only [mdK, mdS, mkOk, h26, h36, Bool.not_true, Bool.not_false, Bool.and_self, Bool.false_and, Bool.and_false, Bool.true_and, cond_true, cond_false]))

end Go.Vk
