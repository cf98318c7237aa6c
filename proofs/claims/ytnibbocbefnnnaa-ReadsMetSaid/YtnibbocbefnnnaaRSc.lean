import Derived.Test.YtnibbocbefnnnaaRPlainSp
set_option linter.unusedVariables false
set_option linter.unusedSimpArgs false
namespace Go.Vk
open Go.Proofs
variable {D : List Deferred}
set_option maxHeartbeats 4000000 in
set_option maxRecDepth 100000 in
theorem f79 (V : VT) (w : World) (hV : V.inW w) (Al : Option Addr) (cl : Nat) (l : List ((Int × Str × Bool))) (hl : Rd (prK (intK .i64) (prK strK boolK)) V Al cl l) (h5 : l.length ≤ 4398046511104) :
    Calls Try.prog 79 #[.slice Al (l).length cl] w (RetP V w fun rv V' => ∃ (A1 : Option Addr), ∃ (c1 : Nat), rv = .slice A1 (l).length c1 ∧ Rd (prK (intK .i64) (prK strK boolK)) V' A1 c1 (l)) := by
  have mxl : l.length ≤ 140737488355328 := hl.max
  refine calls_env (n := 8) Try.func79 (c := _) rfl Try.ntmps79 (by kernel_rfl) (fun R hRet => ?_)
  have hM0 : Step V w [] V w [] := Step.refl (St.nilE hV)
  refine wp_seq_k (fun K1 hK1 => ?_)
  refine wp_reg ?_
  refine wpF_seg 1 (by kernel_rfl) ?_
  refine wpF_end _ (by kernel_rfl) (then_n (hK1 _ _ ?_))
  refine wp_seq_k (fun K2 hK2 => ?_)
  refine wp_seq_k (fun K3 hK3 => ?_)
  refine wp_reg ?_
  refine wpF_seg 1 (by kernel_rfl) ?_
  refine gF hM0 (.binOp .eql 78 (.tmp 3) (.const (.slice none 0 0)) 78) (some 4) (by kernel_rfl) (Y_eql (.slice Al (l).length cl) (.slice none 0 0) (Al.isNone) (by kernel_rfl) (by kernel_rfl) (by kernel_rfl)) ?_
  refine wpF_end _ (by kernel_rfl) (then_n (hK3 _ _ ?_))
  refine wp_if (Al.isNone) (by kernel_rfl) (fun h4 => ?_) (fun h4 => ?_)
  · -- t
    have e0 : l = [] := Rd.isNil hl (by assumption)
    refine wp_seq_k (fun K5 hK5 => ?_)
    refine wp_reg ?_
    refine wpF_seg 1 (by kernel_rfl) ?_
    refine wpF_end _ (by kernel_rfl) (then_n (hK5 _ _ ?_))
    refine wp_ret (then_r (?_))
    refine retN [.slice none 0 0] (.slice none 0 0) Try.results79 (.tmp (by kernel_rfl) (by kernel_rfl) .nil) (by kernel_rfl) (hRet _ _ ⟨_, _, rfl, hM0.clear, ?_⟩)
    -- end t
    refine ⟨none, 0, ?_, ?_⟩
    · first | rfl | (rw [e0]; rfl)
    · first | exact (Rd.nil _ _) | (exact Rd.eq (Rd.nil _ _) (by first | rfl | (rw [e0])))
  · -- f
    refine wp_skip (then_n (hK2 _ _ ?_))
    refine wp_seq_k (fun K6 hK6 => ?_)
    refine wp_reg ?_
    refine wpF_litW (prK (intK .i64) (prK strK boolK)) hM0 #[] (h := (by kernel_rfl : opAt _ _ _ _ _ = some (.buildSlice 78 0 #[], some 5))) (e := 126) (by kernel_rfl) (([] : List ((Int × Str × Bool)))) Reps.nils rfl (by simp [maxL]) (fun A7 c8 w9 hM10 => ?_)
    refine wpF_seg 1 (by kernel_rfl) ?_
    refine wpF_append (by_ := 32) hM10 0 rfl (h := (by kernel_rfl : opAt _ _ _ _ _ = some (.call (.mk (.builtin .append) #[(.tmp 5), (.tmp 6)] #[78, 78]), some 7))) (by kernel_rfl) (by kernel_rfl) (by kernel_rfl) (by kernel_rfl) (by kernel_rfl) (by kernel_rfl) (by kernel_rfl) (Src.rd hl) (by first | omega | (simp only [List.length_append, List.length_cons, List.length_nil]; omega)) (fun A11 c12 w13 hM14 => ?_)
    have hM15 : Step V w [] V _ ([.row (prK (intK .i64) (prK strK boolK)) 126 A11 c12 (l)]) := hM14
    refine wpF_seg 1 (by kernel_rfl) ?_
    refine wpF_end _ (by kernel_rfl) (then_n (hK6 _ _ ?_))
    refine wp_ret ?_
    obtain ⟨V16, le17, hM18, r19⟩ := hM15.settleRow 0 rfl
    have hM20 : Step V w [] V16 _ ([]) := hM18
    refine retN [.slice A11 (l).length c12] (.slice A11 (l).length c12) Try.results79 (.tmp (by kernel_rfl) (by kernel_rfl) .nil) (by kernel_rfl) (hRet _ _ ⟨_, _, rfl, hM20.clear, ?_⟩)
    -- end f
    refine ⟨A11, c12, ?_, ?_⟩
    · first | rfl | (rw [e0]; rfl)
    · first | exact r19 | (exact Rd.eq r19 (by first | rfl | (rw [e0])))

set_option maxHeartbeats 4000000 in
set_option maxRecDepth 100000 in
theorem f141 (V : VT) (w : World) (hV : V.inW w) (n : Nat) (h1 : 0 < n) (h2 : n ≤ 4398046511104) :
    Calls Try.prog 141 #[.slice none 0 0, .int .i64 ((n : Int))] w (Ret V w [] fun rv V' E' => ∃ (A1 : Option Addr), ∃ (c1 : Nat), rv = .slice A1 (([] : List (Int × Str × Bool))).length c1 ∧ E' = [.row (prK (intK .i64) (prK strK boolK)) 126 A1 c1 (([] : List (Int × Str × Bool)))]) := by
  refine calls_env (n := 27) Try.func141 (c := _) rfl Try.ntmps141 (by kernel_rfl) (fun R hRet => ?_)
  have hM0 : Step V w [] V w [] := Step.refl (St.nilE hV)
  refine wp_seq_k (fun K1 hK1 => ?_)
  refine wp_reg ?_
  refine wpF_seg 1 (by kernel_rfl) ?_
  refine wpF_end _ (by kernel_rfl) (then_n (hK1 _ _ ?_))
  refine wp_seq_k (fun K2 hK2 => ?_)
  refine wp_seq_k (fun K3 hK3 => ?_)
  refine wp_reg ?_
  refine wpF_seg 2 (by kernel_rfl) ?_
  refine wpF_end _ (by kernel_rfl) (then_n (hK3 _ _ ?_))
  refine wp_if (decide (((n : Int)) < (0))) (by kernel_rfl) (fun h4 => ?_) (fun h4 => ?_)
  · -- t
    have p5 : (((n : Int)) < (0)) := of_decide_eq_true h4
    exfalso; omega
  · -- f
    have p6 : ¬ (((n : Int)) < (0)) := of_decide_eq_false h4
    refine wp_skip (then_n (hK2 _ _ ?_))
    refine wp_seq_k (fun K7 hK7 => ?_)
    refine wp_seq_k (fun K8 hK8 => ?_)
    refine wp_reg ?_
    refine wpF_seg 2 (by kernel_rfl) ?_
    refine gF hM0 (.call (.mk (.builtin .cap) #[(.tmp 9)] #[78])) (some 10) (by kernel_rfl) (Y_cap (A := none) (n := 0) (c := 0) (by kernel_rfl) (by kernel_rfl)) ?_
    refine wpF_seg 2 (by kernel_rfl) ?_
    refine gF hM0 (.binOp .sub 3 (.tmp 10) (.tmp 12) 3) (some 13) (by kernel_rfl) (Y_sub .i64 (((0 : Nat) : Int)) (0) (((0 : Nat) : Int) - 0) (by kernel_rfl) (by kernel_rfl) (wrap64_ok _ (by omega))) ?_
    refine gF hM0 (.binOp .sub 3 (.tmp 8) (.tmp 13) 3) (some 14) (by kernel_rfl) (Y_sub .i64 ((n : Int)) (((0 : Nat) : Int) - 0) ((n : Int) - (((0 : Nat) : Int) - 0)) (by kernel_rfl) (by kernel_rfl) (wrap64_ok _ (by omega))) ?_
    refine wpF_seg 1 (by kernel_rfl) ?_
    refine wpF_end _ (by kernel_rfl) (then_n (hK8 _ _ ?_))
    refine wp_seq_k (fun K9 hK9 => ?_)
    refine wp_reg ?_
    refine wpF_seg 2 (by kernel_rfl) ?_
    refine wpF_end _ (by kernel_rfl) (then_n (hK9 _ _ ?_))
    refine wp_if (decide ((0) < ((n : Int) - (((0 : Nat) : Int) - 0)))) (by kernel_rfl) (fun h10 => ?_) (fun h10 => ?_)
    · -- ft
      have p11 : ((0) < ((n : Int) - (((0 : Nat) : Int) - 0))) := of_decide_eq_true h10
      refine wp_reg ?_
      refine wpF_seg 2 (by kernel_rfl) ?_
      refine gF hM0 (.call (.mk (.builtin .cap) #[(.tmp 18)] #[78])) (some 19) (by kernel_rfl) (Y_cap (A := none) (n := 0) (c := 0) (by kernel_rfl) (by kernel_rfl)) ?_
      refine gF hM0 (.slice 78 (.tmp 17) none (some (.tmp 19)) none) (some 20) (by kernel_rfl) (Y_slice0 (e := 126) (z := 3) (n := 0) (A := none) (c := 0) (by kernel_rfl) (by kernel_rfl) ⟨.i64, by kernel_rfl⟩ (fun h_ => by first | rfl | cases h_)) ?_
      refine wpF_seg 1 (by kernel_rfl) ?_
      refine wpF_growNil (prK (intK .i64) (prK strK boolK)) (e := 126) (m := n - ((0 : Nat) - 0)) (by_ := 32) hM0 (h := (by kernel_rfl : opAt _ _ _ _ _ = some (.call (.mk (.builtin .append) #[(.tmp 20), (.tmp 21)] #[78, 3]), some 22))) (by kernel_rfl) (by first | kernel_rfl | (rw [show ((n - ((0 : Nat) - 0) : Nat) : Int) = (n : Int) - (((0 : Nat) : Int) - 0) from by omega]; kernel_rfl)) (by kernel_rfl) (by kernel_rfl) (by kernel_rfl : zeroOf _ _ = some (.agg #[.int .i64 (0), bs ([]), .bool (false)])) (by kernel_rfl) (by kernel_rfl) (by kernel_rfl) (by omega) (by omega) (fun b12 c13 w14 hM15 hc16 => ?_)
      refine wpF_seg 2 (by kernel_rfl) ?_
      refine gF hM15 (.slice 78 (.tmp 22) none (some (.tmp 24)) none) (some 25) (by kernel_rfl) (Y_slice0 (e := 126) (z := 3) (n := (n - ((0 : Nat) - 0))) (A := (some ⟨b12, 0, none⟩)) (c := c13) (by kernel_rfl) (by kernel_rfl) ⟨.i64, by kernel_rfl⟩ (fun h_ => by first | rfl | cases h_)) ?_
      refine wpF_seg 1 (by kernel_rfl) ?_
      refine wpF_end _ (by kernel_rfl) (then_n (hK7 _ _ ?_))
      refine wp_seq_k (fun K17 hK17 => ?_)
      refine wp_reg ?_
      refine wpF_seg 2 (by kernel_rfl) ?_
      refine wpF_end _ (by kernel_rfl) (then_n (hK17 _ _ ?_))
      refine wp_ret ?_
      have hM18 := hM15.front 0 rfl
      have hM19 : Step V w [] V _ ([.row (prK (intK .i64) (prK strK boolK)) 126 (some ⟨b12, 0, none⟩) c13 (([] : List ((Int × Str × Bool))))]) := hM18
      refine retN [.slice (some ⟨b12, 0, none⟩) (([] : List ((Int × Str × Bool)))).length c13] (.slice (some ⟨b12, 0, none⟩) (([] : List ((Int × Str × Bool)))).length c13) Try.results141 (.tmp (by kernel_rfl) (by kernel_rfl) .nil) (by kernel_rfl) (hRet _ _ ⟨_, _, _, rfl, hM19, ?_⟩)
      -- end ft
      refine ⟨(some ⟨b12, 0, none⟩), c13, ?_, ?_⟩
      · rfl
      · rfl
    · -- ff
      have p20 : ¬ ((0) < ((n : Int) - (((0 : Nat) : Int) - 0))) := of_decide_eq_false h10
      exfalso; omega

set_option maxHeartbeats 4000000 in
set_option maxRecDepth 100000 in
theorem f120 (V : VT) (w : World) (hV : V.inW w) (Al : Option Addr) (cl : Nat) (l : List (List ((Int × Str × Bool)))) (hl : Rd (slK (prK (intK .i64) (prK strK boolK))) V Al cl l) (h1 : 0 < l.flatten.length) (h2 : l.flatten.length ≤ 4398046511104) :
    Calls Try.prog 120 #[.slice Al (l).length cl] w (RetP V w fun rv V' => ∃ (A1 : Option Addr), ∃ (c1 : Nat), rv = .slice A1 (l.flatten).length c1 ∧ Rd (prK (intK .i64) (prK strK boolK)) V' A1 c1 (l.flatten)) := by
  have mxl : l.length ≤ 140737488355328 := hl.max
  refine calls_env (n := 36) Try.func120 (c := _) rfl Try.ntmps120 (by kernel_rfl) (fun R hRet => ?_)
  have hM0 : Step V w [] V w [] := Step.refl (St.nilE hV)
  refine wp_seq_k (fun K1 hK1 => ?_)
  refine wp_reg ?_
  refine wpF_seg 1 (by kernel_rfl) ?_
  refine wpF_end _ (by kernel_rfl) (then_n (hK1 _ _ ?_))
  refine wp_seq_k (fun K2 hK2 => ?_)
  refine wp_reg ?_
  refine wpF_seg 1 (by kernel_rfl) ?_
  refine wpF_end _ (by kernel_rfl) (then_n (hK2 _ _ ?_))
  refine wp_seq_k (fun K3 hK3 => ?_)
  refine wp_seq_k (fun K4 hK4 => ?_)
  refine wp_reg ?_
  refine wpF_seg 3 (by kernel_rfl) ?_
  refine wpF_end _ (by kernel_rfl) (then_n (hK4 _ _ ?_))
  refine wp_block ?_
  refine wp_base [(0, .slice Al (l).length cl), (2, .slice none 0 0), (3, .int .i64 (((catK l (0)).length : Int))), (9, .slice Al (l).length cl), (10, .int .i64 ((l.length : Int))), (11, .int .i64 ((0 : Int)))] (by kernel_rfl) (fun g6 => ?_)
  refine wp_loopX (fun (x_ : Nat) a_ w_ => ∃ (g : Nat → Value) (V_ : VT), a_ = env [] 36 [(0, .slice Al (l).length cl), (2, .slice none 0 0), (3, .int .i64 (((catK l (x_)).length : Int))), (9, .slice Al (l).length cl), (10, .int .i64 ((l.length : Int))), (11, .int .i64 ((x_ : Int)))] g ∧ Step V w [] V_ w_ [] ∧ VT.le V V_ ∧ (x_ ≤ l.length)) (fun (x_ : Nat) => l.length - x_) (0) ⟨g6, V, rfl, hM0, VT.le.refl _, by omega⟩ ?_
  rintro k a_ w8 ⟨g7, Vl5, rfl, hM9, le10, hi11_0⟩ K11 hK11
  refine wp_seq_k (fun K12 hK12 => ?_)
  refine wp_reg ?_
  refine wpF_seg 1 (by kernel_rfl) ?_
  refine wpF_end _ (by kernel_rfl) (then_n (hK12 _ _ ?_))
  refine wp_seq_k (fun K13 hK13 => ?_)
  refine wp_if (decide (((k : Int)) < ((l.length : Int)))) (by kernel_rfl) (fun h14 => ?_) (fun h14 => ?_)
  · -- Lt
    have p15 : (((k : Int)) < ((l.length : Int))) := of_decide_eq_true h14
    have hcs := cat_step (l := l) (k := k) (by omega)
    have hcl := cat_le l (k + 1)
    have hcn : (catK l (k + 1)).length = (catK l k).length + (l.getD (k) []).length := by rw [hcs, List.length_append]
    refine wp_skip (then_n (hK13 _ _ ?_))
    refine wp_seq_k (fun K16 hK16 => ?_)
    refine wp_block ?_
    refine wp_seq_k (fun K17 hK17 => ?_)
    refine wp_reg ?_
    refine gF_index (A := Al) (c := cl) (hl.up hM9.le) .i64 ((k : Int)) (h := (by kernel_rfl : opAt _ _ _ _ _ = some (.indexAddr 184 (.tmp 9) (.tmp 11), some 13))) (e := 78) (by kernel_rfl) (by kernel_rfl) (by kernel_rfl) (k) rfl (by omega) (fun b18 o19 at_b18 => ?_)
    obtain ⟨A20, c21, c22, r23⟩ := At.sl at_b18
    have c22 : Vl5 b18 o19 = some (.slice A20 ((l.getD (k) [])).length c21) := c22
    have r23 : Rd (prK (intK .i64) (prK strK boolK)) Vl5 A20 c21 ((l.getD (k) [])) := r23
    have l24 : ((l.getD (k) [])).length ≤ 140737488355328 := r23.max
    refine gF hM9 (.load 78 (.tmp 13)) (some 14) (by kernel_rfl) (Y_loadV c22 (by kernel_rfl) (by kernel_rfl)) ?_
    refine wpF_seg 1 (by kernel_rfl) ?_
    refine wpF_end _ (by kernel_rfl) (then_n (hK17 _ _ ?_))
    refine wp_seq_k (fun K25 hK25 => ?_)
    refine wp_reg ?_
    refine wpF_seg 3 (by kernel_rfl) ?_
    refine gF hM9 (.binOp .add 3 (.tmp 15) (.tmp 17) 3) (some 18) (by kernel_rfl) (Y_add .i64 (((catK l (k)).length : Int)) ((((l.getD (k) [])).length : Int)) ((((catK l (k)).length : Int)) + ((((l.getD (k) [])).length : Int))) (by kernel_rfl) (by kernel_rfl) (wrap64_ok _ (by omega))) ?_
    refine wpF_seg 1 (by kernel_rfl) ?_
    refine wpF_slot 3 (.int .i64 ((((catK l (k)).length : Int)) + ((((l.getD (k) [])).length : Int)))) (.int .i64 (((catK l (k + 1)).length : Int))) (by kernel_rfl) (by kernel_rfl) (by exact congrArg (Value.int .i64) (by rw [hcs, List.length_append]; omega)) ?_
    refine wpF_end _ (by kernel_rfl) (then_n (hK25 _ _ ?_))
    refine wp_seq_k (fun K26 hK26 => ?_)
    refine wp_reg ?_
    refine wpF_seg 2 (by kernel_rfl) ?_
    refine wpF_end _ (by kernel_rfl) (then_n (hK26 _ _ ?_))
    refine wp_if (decide ((((catK l (k + 1)).length : Int)) < (0))) (by kernel_rfl) (fun h27 => ?_) (fun h27 => ?_)
    · -- Ltt
      have p28 : ((((catK l (k + 1)).length : Int)) < (0)) := of_decide_eq_true h27
      exfalso; omega
    · -- Ltf
      have p29 : ¬ ((((catK l (k + 1)).length : Int)) < (0)) := of_decide_eq_false h27
      refine wp_skip (blk_n (then_n (hK16 _ _ ?_)))
      refine wp_reg ?_
      refine gF hM9 (.binOp .add 3 (.tmp 11) (.const (.int .i64 1)) 3) (some 22) (by kernel_rfl) (Y_add .i64 ((k : Int)) (1) ((k : Int) + 1) (by kernel_rfl) (by kernel_rfl) (wrap64_ok _ (by omega))) ?_
      refine wpF_seg 1 (by kernel_rfl) ?_
      refine wpF_base [(0, .slice Al (l).length cl), (2, .slice none 0 0), (3, .int .i64 (((catK l (k + 1)).length : Int))), (9, .slice Al (l).length cl), (10, .int .i64 ((l.length : Int))), (11, .int .i64 ((k + 1 : Int)))] (by kernel_rfl) (fun g30 => ?_)
      refine wpF_end _ (by kernel_rfl) (then_n (hK11 _ _ (k + 1) (by omega) ?_))
      refine ⟨g30, Vl5, rfl, hM9, hM9.le, ?_⟩
      · -- Ltf inv 0
        omega
  · -- Lf
    have p31 : ¬ (((k : Int)) < ((l.length : Int))) := of_decide_eq_false h14
    refine wp_exit (then_x (then_x (blk_hit (then_n (hK3 _ _ ?_)))))
    obtain rfl : k = l.length := by omega
    refine wp_seq_k (fun K32 hK32 => ?_)
    refine wp_reg ?_
    refine wpF_seg 1 (by kernel_rfl) ?_
    have hM40 : Step V w [] Vl5 _ ([]) := hM9
    refine wpF_callE [] ([]) hM40 (f := 141) (caps := #[]) (h := (by kernel_rfl : opAt _ _ _ _ _ = some (.call (.mk (.value (.func 141)) #[(.const (.slice none 0 0)), (.tmp 23)] #[78, 3]), some 24))) (by kernel_rfl) (by kernel_rfl) (by kernel_rfl) (f141 _ _ hM40.inW ((catK l ((l.length))).length) (by simp only [catK, List.take_length]; omega) (by simp only [catK, List.take_length]; omega)) (fun v33 V34 w35 Eo36 le37 hM38 hp39 => ?_)
    obtain ⟨Ar40_1, cr40_1, rfl, rfl⟩ := hp39
    have hM41 : Step V w [] V34 _ ([.row (prK (intK .i64) (prK strK boolK)) 126 Ar40_1 cr40_1 (([] : List (Int × Str × Bool)))]) := hM38
    refine wpF_seg 1 (by kernel_rfl) ?_
    refine wpF_end _ (by kernel_rfl) (then_n (hK32 _ _ ?_))
    refine wp_seq_k (fun K42 hK42 => ?_)
    refine wp_seq_k (fun K43 hK43 => ?_)
    refine wp_reg ?_
    refine wpF_seg 3 (by kernel_rfl) ?_
    refine wpF_end _ (by kernel_rfl) (then_n (hK43 _ _ ?_))
    refine wp_block ?_
    refine wp_base [(2, .slice none 0 0), (6, .slice Ar40_1 (([] : List (Int × Str × Bool))).length cr40_1), (25, .slice Al (l).length cl), (26, .int .i64 ((l.length : Int))), (27, .int .i64 ((0 : Int)))] (by kernel_rfl) (fun g45 => ?_)
    refine wp_loopX (fun (x_ : Nat × List (Int × Str × Bool)) a_ w_ => ∃ (g : Nat → Value) (V_ : VT), ∃ (Ar6 : Option Addr) (cr6 : Nat), a_ = env [] 36 [(2, .slice none 0 0), (6, .slice Ar6 (x_.2).length cr6), (25, .slice Al (l).length cl), (26, .int .i64 ((l.length : Int))), (27, .int .i64 ((x_.1 : Int)))] g ∧ Step V w [] V_ w_ [.row (prK (intK .i64) (prK strK boolK)) 126 Ar6 cr6 (x_.2)] ∧ VT.le V34 V_ ∧ (x_.1 ≤ l.length) ∧ (x_.2 = catK l (x_.1))) (fun (x_ : Nat × List (Int × Str × Bool)) => l.length - x_.1) ((0 : Nat), (([] : List (Int × Str × Bool)) : List (Int × Str × Bool))) ⟨g45, V34, Ar40_1, cr40_1, rfl, hM41, VT.le.refl _, by omega, by rfl⟩ ?_
    rintro ⟨q, o⟩ a_ w47 ⟨g46, Vl44, Ar_506, cr_506, rfl, hM48, le49, hi50_0, hi50_1⟩ K50 hK50
    replace hi50_0 : q ≤ l.length := hi50_0
    replace hi50_1 : o = catK l (q) := hi50_1
    refine wp_seq_k (fun K51 hK51 => ?_)
    refine wp_reg ?_
    refine wpF_seg 1 (by kernel_rfl) ?_
    refine wpF_end _ (by kernel_rfl) (then_n (hK51 _ _ ?_))
    refine wp_seq_k (fun K52 hK52 => ?_)
    refine wp_if (decide (((q : Int)) < ((l.length : Int)))) (by kernel_rfl) (fun h53 => ?_) (fun h53 => ?_)
    · -- LfLt
      have p54 : (((q : Int)) < ((l.length : Int))) := of_decide_eq_true h53
      have hcs := cat_step (l := l) (k := q) (by omega)
      have hcl := cat_le l (q + 1)
      rw [hcs, List.length_append, ← (by assumption : o = catK l q)] at hcl
      refine wp_skip (then_n (hK52 _ _ ?_))
      refine wp_seq_k (fun K55 hK55 => ?_)
      refine wp_block ?_
      refine wp_seq_k (fun K56 hK56 => ?_)
      refine wp_reg ?_
      refine gF_index (A := Al) (c := cl) (hl.up hM48.le) .i64 ((q : Int)) (h := (by kernel_rfl : opAt _ _ _ _ _ = some (.indexAddr 184 (.tmp 25) (.tmp 27), some 29))) (e := 78) (by kernel_rfl) (by kernel_rfl) (by kernel_rfl) (q) rfl (by omega) (fun b57 o58 at_b57 => ?_)
      obtain ⟨A59, c60, c61, r62⟩ := At.sl at_b57
      have c61 : Vl44 b57 o58 = some (.slice A59 ((l.getD (q) [])).length c60) := c61
      have r62 : Rd (prK (intK .i64) (prK strK boolK)) Vl44 A59 c60 ((l.getD (q) [])) := r62
      have l63 : ((l.getD (q) [])).length ≤ 140737488355328 := r62.max
      refine gF hM48 (.load 78 (.tmp 29)) (some 30) (by kernel_rfl) (Y_loadV c61 (by kernel_rfl) (by kernel_rfl)) ?_
      refine wpF_seg 1 (by kernel_rfl) ?_
      refine wpF_end _ (by kernel_rfl) (then_n (hK56 _ _ ?_))
      refine wp_reg ?_
      refine wpF_seg 2 (by kernel_rfl) ?_
      refine wpF_append (by_ := 32) hM48 0 rfl (h := (by kernel_rfl : opAt _ _ _ _ _ = some (.call (.mk (.builtin .append) #[(.tmp 31), (.tmp 32)] #[78, 78]), some 33))) (by kernel_rfl) (by kernel_rfl) (by kernel_rfl) (by kernel_rfl) (by kernel_rfl) (by kernel_rfl) (by kernel_rfl) (Src.rd r62) (by show (o.length + (l.getD (q) []).length) * _ ≤ _; omega) (fun A64 c65 w66 hM67 => ?_)
      have hM68 : Step V w [] Vl44 _ ([.row (prK (intK .i64) (prK strK boolK)) 126 A64 c65 (o ++ (l.getD (q) []))]) := hM67
      refine wpF_seg 1 (by kernel_rfl) ?_
      refine wpF_end _ (by kernel_rfl) (blk_n (then_n (hK55 _ _ ?_)))
      refine wp_reg ?_
      refine gF hM68 (.binOp .add 3 (.tmp 27) (.const (.int .i64 1)) 3) (some 34) (by kernel_rfl) (Y_add .i64 ((q : Int)) (1) ((q : Int) + 1) (by kernel_rfl) (by kernel_rfl) (wrap64_ok _ (by omega))) ?_
      refine wpF_seg 1 (by kernel_rfl) ?_
      refine wpF_base [(2, .slice none 0 0), (6, .slice A64 (o ++ (l.getD (q) [])).length c65), (25, .slice Al (l).length cl), (26, .int .i64 ((l.length : Int))), (27, .int .i64 ((q + 1 : Int)))] (by kernel_rfl) (fun g69 => ?_)
      refine wpF_end _ (by kernel_rfl) (then_n (hK50 _ _ (q + 1, o ++ (l.getD (q) [])) (by omega) ?_))
      refine ⟨g69, Vl44, A64, c65, rfl, hM68, le49, ?_, ?_⟩
      · -- LfLt inv 0
        omega
      · -- LfLt inv 1
        rw [cat_step (by omega), ← (by assumption : o = catK l q)]
    · -- LfLf
      have p70 : ¬ (((q : Int)) < ((l.length : Int))) := of_decide_eq_false h53
      refine wp_exit (then_x (then_x (blk_hit (then_n (hK42 _ _ ?_)))))
      obtain rfl : q = l.length := by omega
      refine wp_seq_k (fun K71 hK71 => ?_)
      refine wp_reg ?_
      refine wpF_seg 2 (by kernel_rfl) ?_
      refine wpF_end _ (by kernel_rfl) (then_n (hK71 _ _ ?_))
      refine wp_ret ?_
      obtain ⟨V72, le73, hM74, r75⟩ := hM48.settleRow 0 rfl
      have hM76 : Step V w [] V72 _ ([]) := hM74
      refine retN [.slice Ar_506 (o).length cr_506] (.slice Ar_506 (o).length cr_506) Try.results120 (.tmp (by kernel_rfl) (by kernel_rfl) .nil) (by kernel_rfl) (hRet _ _ ⟨_, _, rfl, hM76.clear, ?_⟩)
      -- end LfLf
      have ho : o = l.flatten := (by assumption : o = catK l l.length).trans (by simp only [catK, List.take_length])
      refine ⟨Ar_506, cr_506, ?_, ?_⟩
      · rw [ho]
      · first | exact r75 | (exact Rd.eq r75 (by exact ho))

end Go.Vk
