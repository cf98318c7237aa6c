import Derived.Test.YtnibbocbefnnnaaRPlain
set_option linter.unusedVariables false
set_option linter.unusedSimpArgs false
namespace Go.Vk
open Go.Proofs
set_option maxHeartbeats 4000000 in
set_option maxRecDepth 100000 in
theorem f54 (V : VT) (w : World) (hV : V.inW w) (Al : Option Addr) (cl : Nat) (l : List Str) (hl : Rd strK V Al cl l) (h5 : l.length ≤ 100000) :
    Calls Try.prog 54 #[.slice Al (l).length cl] w (Ret V w [] fun rv V' E' => ∃ (A1 : Option Addr), ∃ (c1 : Nat), rv = .slice A1 (l).length c1 ∧ E' = [.row strK 9 A1 c1 (l)]) := by
  have mxl : l.length ≤ 140737488355328 := hl.max
  refine calls_env (n := 8) Try.func54 (c := _) rfl Try.ntmps54 (by kernel_rfl) (fun R hRet => ?_)
  have hM0 : Step V w [] V w [] := Step.refl (St.nilE hV)
  refine wp_seq_k (fun K1 hK1 => ?_)
  refine wp_reg ?_
  refine wpF_seg 1 (by kernel_rfl) ?_
  refine wpF_end _ (by kernel_rfl) (then_n (hK1 _ _ ?_))
  refine wp_seq_k (fun K2 hK2 => ?_)
  refine wp_seq_k (fun K3 hK3 => ?_)
  refine wp_reg ?_
  refine wpF_seg 1 (by kernel_rfl) ?_
  refine gF hM0 (.binOp .eql 22 (.tmp 3) (.const (.slice none 0 0)) 22) (some 4) (by kernel_rfl) (Y_eql (.slice Al (l).length cl) (.slice none 0 0) (Al.isNone) (by kernel_rfl) (by kernel_rfl) (by kernel_rfl)) ?_
  refine wpF_end _ (by kernel_rfl) (then_n (hK3 _ _ ?_))
  refine wp_if (Al.isNone) (by kernel_rfl) (fun h4 => ?_) (fun h4 => ?_)
  · -- t
    have e0 : l = [] := Rd.isNil hl (by assumption)
    refine wp_seq_k (fun K5 hK5 => ?_)
    refine wp_reg ?_
    refine wpF_seg 1 (by kernel_rfl) ?_
    refine wpF_end _ (by kernel_rfl) (then_n (hK5 _ _ ?_))
    refine wp_ret (then_r (?_))
    have hM6 := hM0.nilrow strK 9
    have hM7 : Step V w [] V _ ([.row strK 9 none 0 (([] : List Str))]) := hM6
    have hM8 := hM7.front 0 rfl
    have hM9 : Step V w [] V _ ([.row strK 9 none 0 (([] : List Str))]) := hM8
    refine retN [.slice none 0 0] (.slice none 0 0) Try.results54 (.tmp (by kernel_rfl) (by kernel_rfl) .nil) (by kernel_rfl) (hRet _ _ ⟨_, _, _, rfl, hM9, ?_⟩)
    -- end t
    refine ⟨none, 0, ?_, ?_⟩
    · first | rfl | (rw [e0]; rfl)
    · first | rfl | (rw [e0])
  · -- f
    refine wp_skip (then_n (hK2 _ _ ?_))
    refine wp_seq_k (fun K10 hK10 => ?_)
    refine wp_reg ?_
    refine wpF_litW strK hM0 #[] (h := (by kernel_rfl : opAt _ _ _ _ _ = some (.buildSlice 22 0 #[], some 5))) (e := 9) (by kernel_rfl) (([] : List Str)) Reps.nils rfl (by simp [maxL]) (fun A11 c12 w13 hM14 => ?_)
    refine wpF_seg 1 (by kernel_rfl) ?_
    refine wpF_append (by_ := 16) hM14 0 rfl (h := (by kernel_rfl : opAt _ _ _ _ _ = some (.call (.mk (.builtin .append) #[(.tmp 5), (.tmp 6)] #[22, 22]), some 7))) (by kernel_rfl) (by kernel_rfl) (by kernel_rfl) (by kernel_rfl) (by kernel_rfl) (by kernel_rfl) (by kernel_rfl) (Src.rd hl) (by first | omega | (simp only [List.length_append, List.length_cons, List.length_nil, List.length_take, List.length_drop]; omega)) (fun A15 c16 w17 hM18 => ?_)
    have hM19 : Step V w [] V _ ([.row strK 9 A15 c16 (l)]) := hM18
    refine wpF_seg 1 (by kernel_rfl) ?_
    refine wpF_end _ (by kernel_rfl) (then_n (hK10 _ _ ?_))
    refine wp_ret ?_
    have hM20 := hM19.front 0 rfl
    have hM21 : Step V w [] V _ ([.row strK 9 A15 c16 (l)]) := hM20
    refine retN [.slice A15 (l).length c16] (.slice A15 (l).length c16) Try.results54 (.tmp (by kernel_rfl) (by kernel_rfl) .nil) (by kernel_rfl) (hRet _ _ ⟨_, _, _, rfl, hM21, ?_⟩)
    -- end f
    refine ⟨A15, c16, ?_, ?_⟩
    · first | rfl | (rw [e0]; rfl)
    · first | rfl | (rw [e0])

set_option maxHeartbeats 4000000 in
set_option maxRecDepth 100000 in
theorem f58 (V : VT) (w : World) (hV : V.inW w) (Al : Option Addr) (cl : Nat) (l : List ((Str × Str))) (hl : Rd (prK strK strK) V Al cl l) (h5 : l.length ≤ 100000) :
    Calls Try.prog 58 #[.slice Al (l).length cl] w (RetP V w fun rv V' => ∃ (A1 : Option Addr), ∃ (c1 : Nat), rv = .slice A1 (l).length c1 ∧ Rd (prK strK strK) V' A1 c1 (l)) := by
  have mxl : l.length ≤ 140737488355328 := hl.max
  refine calls_env (n := 8) Try.func58 (c := _) rfl Try.ntmps58 (by kernel_rfl) (fun R hRet => ?_)
  have hM0 : Step V w [] V w [] := Step.refl (St.nilE hV)
  refine wp_seq_k (fun K1 hK1 => ?_)
  refine wp_reg ?_
  refine wpF_seg 1 (by kernel_rfl) ?_
  refine wpF_end _ (by kernel_rfl) (then_n (hK1 _ _ ?_))
  refine wp_seq_k (fun K2 hK2 => ?_)
  refine wp_seq_k (fun K3 hK3 => ?_)
  refine wp_reg ?_
  refine wpF_seg 1 (by kernel_rfl) ?_
  refine gF hM0 (.binOp .eql 23 (.tmp 3) (.const (.slice none 0 0)) 23) (some 4) (by kernel_rfl) (Y_eql (.slice Al (l).length cl) (.slice none 0 0) (Al.isNone) (by kernel_rfl) (by kernel_rfl) (by kernel_rfl)) ?_
  refine wpF_end _ (by kernel_rfl) (then_n (hK3 _ _ ?_))
  refine wp_if (Al.isNone) (by kernel_rfl) (fun h4 => ?_) (fun h4 => ?_)
  · -- t
    have e0 : l = [] := Rd.isNil hl (by assumption)
    refine wp_seq_k (fun K5 hK5 => ?_)
    refine wp_reg ?_
    refine wpF_seg 1 (by kernel_rfl) ?_
    refine wpF_end _ (by kernel_rfl) (then_n (hK5 _ _ ?_))
    refine wp_ret (then_r (?_))
    refine retN [.slice none 0 0] (.slice none 0 0) Try.results58 (.tmp (by kernel_rfl) (by kernel_rfl) .nil) (by kernel_rfl) (hRet _ _ ⟨_, _, rfl, hM0.clear, ?_⟩)
    -- end t
    refine ⟨none, 0, ?_, ?_⟩
    · first | rfl | (rw [e0]; rfl)
    · first | exact (Rd.nil _ _) | (exact Rd.eq (Rd.nil _ _) (by first | rfl | (rw [e0])))
  · -- f
    refine wp_skip (then_n (hK2 _ _ ?_))
    refine wp_seq_k (fun K6 hK6 => ?_)
    refine wp_reg ?_
    refine wpF_litW (prK strK strK) hM0 #[] (h := (by kernel_rfl : opAt _ _ _ _ _ = some (.buildSlice 23 0 #[], some 5))) (e := 40) (by kernel_rfl) (([] : List ((Str × Str)))) Reps.nils rfl (by simp [maxL]) (fun A7 c8 w9 hM10 => ?_)
    refine wpF_seg 1 (by kernel_rfl) ?_
    refine wpF_append (by_ := 32) hM10 0 rfl (h := (by kernel_rfl : opAt _ _ _ _ _ = some (.call (.mk (.builtin .append) #[(.tmp 5), (.tmp 6)] #[23, 23]), some 7))) (by kernel_rfl) (by kernel_rfl) (by kernel_rfl) (by kernel_rfl) (by kernel_rfl) (by kernel_rfl) (by kernel_rfl) (Src.rd hl) (by first | omega | (simp only [List.length_append, List.length_cons, List.length_nil, List.length_take, List.length_drop]; omega)) (fun A11 c12 w13 hM14 => ?_)
    have hM15 : Step V w [] V _ ([.row (prK strK strK) 40 A11 c12 (l)]) := hM14
    refine wpF_seg 1 (by kernel_rfl) ?_
    refine wpF_end _ (by kernel_rfl) (then_n (hK6 _ _ ?_))
    refine wp_ret ?_
    obtain ⟨V16, le17, hM18, r19⟩ := hM15.settleRow 0 rfl
    have hM20 : Step V w [] V16 _ ([]) := hM18
    refine retN [.slice A11 (l).length c12] (.slice A11 (l).length c12) Try.results58 (.tmp (by kernel_rfl) (by kernel_rfl) .nil) (by kernel_rfl) (hRet _ _ ⟨_, _, rfl, hM20.clear, ?_⟩)
    -- end f
    refine ⟨A11, c12, ?_, ?_⟩
    · first | rfl | (rw [e0]; rfl)
    · first | exact r19 | (exact Rd.eq r19 (by first | rfl | (rw [e0])))

set_option maxHeartbeats 4000000 in
set_option maxRecDepth 100000 in
theorem f15 (V : VT) (w : World) (hV : V.inW w) (Ark : Option Addr) (crk : Nat) (rk : List Str) (hrk : Rd strK V Ark crk rk) (Arq : Option Addr) (crq : Nat) (rq : List ((Str × Str))) (hrq : Rd (prK strK strK) V Arq crq rq) :
    Calls Try.prog 15 #[.agg #[.slice Ark (rk).length crk, .slice Arq (rq).length crq]] w (RetP V w fun rv V' => rv = .bool (fewR rk rq)) := by
  have mxrk : rk.length ≤ 140737488355328 := hrk.max
  have mxrq : rq.length ≤ 140737488355328 := hrq.max
  refine calls_env (n := 13) Try.func15 (c := _) rfl Try.ntmps15 (by kernel_rfl) (fun R hRet => ?_)
  have hM0 : Step V w [] V w [] := Step.refl (St.nilE hV)
  refine wp_seq_k (fun K1 hK1 => ?_)
  refine wp_reg ?_
  refine wpF_box hM0 #[.slice Ark (rk).length crk, .slice Arq (rq).length crq] (h := (by kernel_rfl : opAt _ _ _ _ _ = some (.box 25 (.tmp 0), some 1))) (by kernel_rfl) (fun b2 w3 hM4 => ?_)
  refine wpF_seg 1 (by kernel_rfl) ?_
  refine wpF_end _ (by kernel_rfl) (then_n (hK1 _ _ ?_))
  refine wp_seq_k (fun K5 hK5 => ?_)
  refine wp_reg ?_
  refine wpF_seg 1 (by kernel_rfl) ?_
  refine gF hM4 (.load 22 (.tmp 3)) (some 4) (by kernel_rfl) (Y_load 0 rfl (off := 0) (by kernel_rfl) (.slice Ark (rk).length crk) (by kernel_rfl)) ?_
  refine wpF_seg 3 (by kernel_rfl) ?_
  refine wpF_caseB 7 (decide (((rk.length : Int)) ≤ (100))) (by kernel_rfl) (by kernel_rfl) (fun h6 => ?_) (fun h6 => ?_)
  · -- t
    have p7 : (((rk.length : Int)) ≤ (100)) := of_decide_eq_true h6
    refine wpF_seg 1 (by kernel_rfl) ?_
    refine gF hM4 (.load 23 (.tmp 8)) (some 9) (by kernel_rfl) (Y_load 0 rfl (off := 1) (by kernel_rfl) (.slice Arq (rq).length crq) (by kernel_rfl)) ?_
    refine wpF_seg 4 (by kernel_rfl) ?_
    refine wpF_end _ (by kernel_rfl) (then_n (hK5 _ _ ?_))
    refine wp_ret ?_
    refine retN [.bool (decide (((rq.length : Int)) ≤ (100)))] (.bool (decide (((rq.length : Int)) ≤ (100)))) Try.results15 (.tmp (by kernel_rfl) (by kernel_rfl) .nil) (by kernel_rfl) (hRet _ _ ⟨_, _, rfl, hM4.clear, ?_⟩)
    -- end t
    simp only [fewR, h6, Bool.true_or, Bool.or_true, Bool.false_or, Bool.or_false, Bool.true_and, Bool.and_true, Bool.false_and, Bool.and_false, Bool.not_true, Bool.not_false]
  · -- f
    have p8 : ¬ (((rk.length : Int)) ≤ (100)) := of_decide_eq_false h6
    refine wpF_seg 6 (by kernel_rfl) ?_
    refine wpF_end _ (by kernel_rfl) (then_n (hK5 _ _ ?_))
    refine wp_ret ?_
    refine retN [.bool (false)] (.bool (false)) Try.results15 (.tmp (by kernel_rfl) (by kernel_rfl) .nil) (by kernel_rfl) (hRet _ _ ⟨_, _, rfl, hM4.clear, ?_⟩)
    -- end f
    simp only [fewR, h6, Bool.true_or, Bool.or_true, Bool.false_or, Bool.or_false, Bool.true_and, Bool.and_true, Bool.false_and, Bool.and_false, Bool.not_true, Bool.not_false]

set_option maxHeartbeats 4000000 in
set_option maxRecDepth 100000 in
theorem f139 (V : VT) (w : World) (hV : V.inW w) (x : Str) (hx : x.length ≤ maxL) :
    Calls Try.prog 139 #[bs (x)] w (RetP V w fun rv V' => rv = .bool (false)) := by
  have mxx : x.length ≤ 140737488355328 := hx
  refine calls_env (n := 6) Try.func139 (c := _) rfl Try.ntmps139 (by kernel_rfl) (fun R hRet => ?_)
  have hM0 : Step V w [] V w [] := Step.refl (St.nilE hV)
  refine wp_seq_k (fun K1 hK1 => ?_)
  refine wp_reg ?_
  refine wpF_seg 1 (by kernel_rfl) ?_
  refine wpF_end _ (by kernel_rfl) (then_n (hK1 _ _ ?_))
  refine wp_seq_k (fun K2 hK2 => ?_)
  refine wp_reg ?_
  refine wpF_seg 4 (by kernel_rfl) ?_
  refine wpF_end _ (by kernel_rfl) (then_n (hK2 _ _ ?_))
  refine wp_ret ?_
  refine retN [.bool (!(decide ((x) = (x))))] (.bool (!(decide ((x) = (x))))) Try.results139 (.tmp (by kernel_rfl) (by kernel_rfl) .nil) (by kernel_rfl) (hRet _ _ ⟨_, _, rfl, hM0.clear, ?_⟩)
  -- end 
  simp

set_option maxHeartbeats 4000000 in
set_option maxRecDepth 100000 in
theorem f104 (V : VT) (w : World) (hV : V.inW w) (x : Str) (hx : x.length ≤ maxL) :
    Calls Try.prog 104 #[bs (x)] w (RetP V w fun rv V' => rv = .bool (false)) := by
  have mxx : x.length ≤ 140737488355328 := hx
  refine calls_env (n := 6) Try.func104 (c := _) rfl Try.ntmps104 (by kernel_rfl) (fun R hRet => ?_)
  have hM0 : Step V w [] V w [] := Step.refl (St.nilE hV)
  refine wp_seq_k (fun K1 hK1 => ?_)
  refine wp_reg ?_
  refine wpF_seg 1 (by kernel_rfl) ?_
  refine wpF_end _ (by kernel_rfl) (then_n (hK1 _ _ ?_))
  refine wp_seq_k (fun K2 hK2 => ?_)
  refine wp_reg ?_
  refine wpF_seg 4 (by kernel_rfl) ?_
  refine wpF_end _ (by kernel_rfl) (then_n (hK2 _ _ ?_))
  refine wp_ret ?_
  refine retN [.bool (!(decide ((x) = (x))))] (.bool (!(decide ((x) = (x))))) Try.results104 (.tmp (by kernel_rfl) (by kernel_rfl) .nil) (by kernel_rfl) (hRet _ _ ⟨_, _, rfl, hM0.clear, ?_⟩)
  -- end 
  simp

set_option maxHeartbeats 4000000 in
set_option maxRecDepth 100000 in
theorem f103 (V : VT) (w : World) (hV : V.inW w) (x : Str) (hx : x.length ≤ maxL) (y : Str) (hy : y.length ≤ maxL) :
    Calls Try.prog 103 #[bs (x), bs (y)] w (RetP V w fun rv V' => rv = .bool (decide (x < y))) := by
  have mxx : x.length ≤ 140737488355328 := hx
  have mxy : y.length ≤ 140737488355328 := hy
  refine calls_env (n := 17) Try.func103 (c := _) rfl Try.ntmps103 (by kernel_rfl) (fun R hRet => ?_)
  have hM0 : Step V w [] V w [] := Step.refl (St.nilE hV)
  refine wp_seq_k (fun K1 hK1 => ?_)
  refine wp_reg ?_
  refine wpF_seg 1 (by kernel_rfl) ?_
  refine wpF_end _ (by kernel_rfl) (then_n (hK1 _ _ ?_))
  refine wp_seq_k (fun K2 hK2 => ?_)
  refine wp_reg ?_
  refine wpF_seg 1 (by kernel_rfl) ?_
  refine wpF_callP hM0 (f := 139) (caps := #[]) (h := (by kernel_rfl : opAt _ _ _ _ _ = some (.call (.mk (.value (.func 139)) #[(.tmp 5)] #[9]), some 6))) (by kernel_rfl) (by kernel_rfl) (by kernel_rfl) (f139 _ _ hM0.inW (x) (hx)) (fun v3 V4 w5 le6 hM7 hp8 => ?_)
  obtain rfl := hp8
  refine wpF_seg 11 (by kernel_rfl) ?_
  refine wpF_end _ (by kernel_rfl) (then_n (hK2 _ _ ?_))
  refine wp_ret ?_
  refine retN [.bool (decide ((x) < (y)))] (.bool (decide ((x) < (y)))) Try.results103 (.tmp (by kernel_rfl) (by kernel_rfl) .nil) (by kernel_rfl) (hRet _ _ ⟨_, _, rfl, hM7.clear, ?_⟩)
  -- end 
  rfl

set_option maxHeartbeats 4000000 in
set_option maxRecDepth 100000 in
theorem f55 (V : VT) (w : World) (hV : V.inW w) (Al : Option Addr) (cl : Nat) (l : List Str) (hl : Rd strK V Al cl l) (y : Str) (hy : y.length ≤ maxL) :
    Calls Try.prog 55 #[.slice Al (l).length cl, bs (y)] w (RetP V w fun rv V' => rv = .tuple #[.int .i64 (((bsN l y : Nat) : Int)), .bool (bsB l y)]) := by
  have mxl : l.length ≤ 140737488355328 := hl.max
  have mxy : y.length ≤ 140737488355328 := hy
  refine calls_env (n := 54) Try.func55 (c := _) rfl Try.ntmps55 (by kernel_rfl) (fun R hRet => ?_)
  have hM0 : Step V w [] V w [] := Step.refl (St.nilE hV)
  refine wp_seq_k (fun K1 hK1 => ?_)
  refine wp_reg ?_
  refine wpF_seg 2 (by kernel_rfl) ?_
  refine wpF_end _ (by kernel_rfl) (then_n (hK1 _ _ ?_))
  refine wp_seq_k (fun K2 hK2 => ?_)
  refine wp_reg ?_
  refine wpF_seg 3 (by kernel_rfl) ?_
  refine wpF_end _ (by kernel_rfl) (then_n (hK2 _ _ ?_))
  refine wp_seq_k (fun K3 hK3 => ?_)
  refine wp_reg ?_
  refine wpF_seg 3 (by kernel_rfl) ?_
  refine wpF_end _ (by kernel_rfl) (then_n (hK3 _ _ ?_))
  refine wp_seq_k (fun K4 hK4 => ?_)
  refine wp_block ?_
  refine wp_base [(0, .slice Al (l).length cl), (1, bs (y)), (4, .int .i64 (0)), (5, .bool (false)), (6, .int .i64 ((l.length : Int))), (7, .int .i64 (((0 : Nat) : Int))), (8, .int .i64 (((l.length : Nat) : Int)))] (by kernel_rfl) (fun g6 => ?_)
  refine wp_loopX (fun (x_ : Nat × Nat) a_ w_ => ∃ (g : Nat → Value) (V_ : VT), a_ = env [] 54 [(0, .slice Al (l).length cl), (1, bs (y)), (4, .int .i64 (0)), (5, .bool (false)), (6, .int .i64 ((l.length : Int))), (7, .int .i64 (((x_.1 : Nat) : Int))), (8, .int .i64 (((x_.2 : Nat) : Int)))] g ∧ Step V w [] V_ w_ [] ∧ VT.le V V_ ∧ (x_.1 ≤ x_.2 ∧ x_.2 ≤ l.length) ∧ (srch (fun (j_ : Nat) => !decide (l.getD j_ [] < y)) x_.1 x_.2 = srch (fun (j_ : Nat) => !decide (l.getD j_ [] < y)) 0 l.length)) (fun (x_ : Nat × Nat) => x_.2 - x_.1) ((0 : Nat), (l.length : Nat)) ⟨g6, V, rfl, hM0, VT.le.refl _, by omega, by rfl⟩ ?_
  rintro ⟨i, j⟩ a_ w8 ⟨g7, Vl5, rfl, hM9, le10, hi11_0, hi11_1⟩ K11 hK11
  refine wp_seq_k (fun K12 hK12 => ?_)
  refine wp_seq_k (fun K13 hK13 => ?_)
  refine wp_reg ?_
  refine wpF_seg 3 (by kernel_rfl) ?_
  refine wpF_end _ (by kernel_rfl) (then_n (hK13 _ _ ?_))
  refine wp_if (decide ((((i : Nat) : Int)) < (((j : Nat) : Int)))) (by kernel_rfl) (fun h14 => ?_) (fun h14 => ?_)
  · -- Lt
    have p15 : ((((i : Nat) : Int)) < (((j : Nat) : Int))) := of_decide_eq_true h14
    refine wp_skip (then_n (hK12 _ _ ?_))
    refine wp_block ?_
    refine wp_seq_k (fun K16 hK16 => ?_)
    refine wp_reg ?_
    refine wpF_seg 2 (by kernel_rfl) ?_
    refine gF hM9 (.binOp .add 3 (.tmp 16) (.tmp 17) 3) (some 18) (by kernel_rfl) (Y_add .i64 (((i : Nat) : Int)) (((j : Nat) : Int)) (((i : Nat) : Int) + ((j : Nat) : Int)) (by kernel_rfl) (by kernel_rfl) (wrap64_ok _ (by omega))) ?_
    refine gF hM9 (.convert 3 155 (.tmp 18)) (some 19) (by kernel_rfl) (Y_conv .i64 .i64 .u64 (((i : Nat) : Int) + ((j : Nat) : Int)) (((i : Nat) : Int) + ((j : Nat) : Int)) (by kernel_rfl) (by kernel_rfl) (by kernel_rfl) (wrapu64_ok _ (by omega))) ?_
    refine gF hM9 (.binOp .shr 155 (.tmp 19) (.const (.int .u64 1)) 155) (some 20) (by kernel_rfl) (Y_shr .u64 .u64 (((i : Nat) : Int) + ((j : Nat) : Int)) (1) ((((i : Nat) : Int) + ((j : Nat) : Int)) / 2) (by kernel_rfl) (by kernel_rfl) (by omega) (by rw [Int.fdiv_eq_ediv_of_nonneg _ (by decide)]; rfl)) ?_
    refine gF hM9 (.convert 155 3 (.tmp 20)) (some 21) (by kernel_rfl) (Y_conv .u64 .u64 .i64 ((((i : Nat) : Int) + ((j : Nat) : Int)) / 2) ((((i : Nat) : Int) + ((j : Nat) : Int)) / 2) (by kernel_rfl) (by kernel_rfl) (by kernel_rfl) (wrap64_ok _ (by omega))) ?_
    refine wpF_seg 1 (by kernel_rfl) ?_
    refine wpF_end _ (by kernel_rfl) (then_n (hK16 _ _ ?_))
    refine wp_seq_k (fun K17 hK17 => ?_)
    refine wp_reg ?_
    refine wpF_seg 2 (by kernel_rfl) ?_
    refine gF_index (A := Al) (c := cl) (hl.up hM9.le) .i64 ((((i : Nat) : Int) + ((j : Nat) : Int)) / 2) (h := (by kernel_rfl : opAt _ _ _ _ _ = some (.indexAddr 22 (.tmp 22) (.tmp 23), some 24))) (e := 9) (by kernel_rfl) (by kernel_rfl) (by kernel_rfl) (((i : Nat) + (j : Nat)) / 2) (by omega) (by omega) (fun b18 o19 at_b18 => ?_)
    have c20 : Vl5 b18 o19 = some (bs (l.getD (((i : Nat) + (j : Nat)) / 2) [])) := (At.str at_b18).1
    have l21 : (l.getD (((i : Nat) + (j : Nat)) / 2) []).length ≤ 140737488355328 := (At.str at_b18).2
    refine gF hM9 (.load 9 (.tmp 24)) (some 25) (by kernel_rfl) (Y_loadV c20 (by kernel_rfl) (by kernel_rfl)) ?_
    refine wpF_seg 1 (by kernel_rfl) ?_
    refine wpF_callP hM9 (f := 103) (caps := #[]) (h := (by kernel_rfl : opAt _ _ _ _ _ = some (.call (.mk (.value (.func 103)) #[(.tmp 25), (.tmp 26)] #[9, 9]), some 27))) (by kernel_rfl) (by kernel_rfl) (by kernel_rfl) (f103 _ _ hM9.inW ((l.getD (((i : Nat) + (j : Nat)) / 2) [])) (l21) (y) (hy)) (fun v22 V23 w24 le25 hM26 hp27 => ?_)
    obtain rfl := hp27
    refine wpF_end _ (by kernel_rfl) (then_n (hK17 _ _ ?_))
    refine wp_if (decide (((l.getD (((i : Nat) + (j : Nat)) / 2) [])) < (y))) (by kernel_rfl) (fun h28 => ?_) (fun h28 => ?_)
    · -- Ltt
      have p29 : (((l.getD (((i : Nat) + (j : Nat)) / 2) [])) < (y)) := of_decide_eq_true h28
      refine wp_reg ?_
      refine wpF_seg 1 (by kernel_rfl) ?_
      refine gF hM26 (.binOp .add 3 (.tmp 28) (.const (.int .i64 1)) 3) (some 29) (by kernel_rfl) (Y_add .i64 ((((i : Nat) : Int) + ((j : Nat) : Int)) / 2) (1) (((((i : Nat) : Int) + ((j : Nat) : Int)) / 2) + 1) (by kernel_rfl) (by kernel_rfl) (wrap64_ok _ (by omega))) ?_
      refine wpF_seg 1 (by kernel_rfl) ?_
      refine wpF_base [(0, .slice Al (l).length cl), (1, bs (y)), (4, .int .i64 (0)), (5, .bool (false)), (6, .int .i64 ((l.length : Int))), (7, .int .i64 ((((i + j) / 2 + 1 : Nat) : Int))), (8, .int .i64 (((j : Nat) : Int)))] (by kernel_rfl) (fun g30 => ?_)
      refine wpF_end _ (by kernel_rfl) (blk_n (then_n (hK11 _ _ ((i + j) / 2 + 1, j) (by omega) ?_)))
      refine ⟨g30, V23, rfl, hM26, hM26.le, ?_, ?_⟩
      · -- Ltt inv 0
        omega
      · -- Ltt inv 1
        rw [← (by assumption : srch (fun (j_ : Nat) => !decide (l.getD j_ [] < y)) i j = srch (fun (j_ : Nat) => !decide (l.getD j_ [] < y)) 0 l.length)]; exact bs_lo (by omega) (by assumption)
    · -- Ltf
      have p31 : ¬ (((l.getD (((i : Nat) + (j : Nat)) / 2) [])) < (y)) := of_decide_eq_false h28
      refine wp_reg ?_
      refine wpF_seg 2 (by kernel_rfl) ?_
      refine wpF_base [(0, .slice Al (l).length cl), (1, bs (y)), (4, .int .i64 (0)), (5, .bool (false)), (6, .int .i64 ((l.length : Int))), (7, .int .i64 (((i : Nat) : Int))), (8, .int .i64 ((((i + j) / 2 : Nat) : Int)))] (by kernel_rfl) (fun g32 => ?_)
      refine wpF_end _ (by kernel_rfl) (blk_n (then_n (hK11 _ _ (i, (i + j) / 2) (by omega) ?_)))
      refine ⟨g32, V23, rfl, hM26, hM26.le, ?_, ?_⟩
      · -- Ltf inv 0
        omega
      · -- Ltf inv 1
        rw [← (by assumption : srch (fun (j_ : Nat) => !decide (l.getD j_ [] < y)) i j = srch (fun (j_ : Nat) => !decide (l.getD j_ [] < y)) 0 l.length)]; exact bs_hi (by omega) (by assumption)
  · -- Lf
    have p33 : ¬ ((((i : Nat) : Int)) < (((j : Nat) : Int))) := of_decide_eq_false h14
    refine wp_exit (then_x (then_x (blk_hit (then_n (hK4 _ _ ?_)))))
    refine wp_seq_k (fun K34 hK34 => ?_)
    refine wp_reg ?_
    refine wpF_seg 5 (by kernel_rfl) ?_
    refine wpF_caseB 35 (decide ((((i : Nat) : Int)) < ((l.length : Int)))) (by kernel_rfl) (by kernel_rfl) (fun h35 => ?_) (fun h35 => ?_)
    · -- Lft
      have p36 : ((((i : Nat) : Int)) < ((l.length : Int))) := of_decide_eq_true h35
      refine wpF_seg 2 (by kernel_rfl) ?_
      refine gF_index (A := Al) (c := cl) (hl.up hM9.le) .i64 (((i : Nat) : Int)) (h := (by kernel_rfl : opAt _ _ _ _ _ = some (.indexAddr 22 (.tmp 36) (.tmp 37), some 38))) (e := 9) (by kernel_rfl) (by kernel_rfl) (by kernel_rfl) ((i)) (by omega) (by omega) (fun b37 o38 at_b37 => ?_)
      have c39 : Vl5 b37 o38 = some (bs (l.getD ((i)) [])) := (At.str at_b37).1
      have l40 : (l.getD ((i)) []).length ≤ 140737488355328 := (At.str at_b37).2
      refine gF hM9 (.load 9 (.tmp 38)) (some 39) (by kernel_rfl) (Y_loadV c39 (by kernel_rfl) (by kernel_rfl)) ?_
      refine wpF_seg 3 (by kernel_rfl) ?_
      refine wpF_caseB 42 (decide (((l.getD ((i)) [])) = (y))) (by kernel_rfl) (by kernel_rfl) (fun h41 => ?_) (fun h41 => ?_)
      · -- Lftt
        have p42 : (((l.getD ((i)) [])) = (y)) := of_decide_eq_true h41
        refine wpF_seg 13 (by kernel_rfl) ?_
        refine wpF_end _ (by kernel_rfl) (then_n (hK34 _ _ ?_))
        refine wp_ret ?_
        refine retN [.int .i64 (((i : Nat) : Int)), .bool (true)] (.tuple #[.int .i64 (((i : Nat) : Int)), .bool (true)]) Try.results55 (.tmp (by kernel_rfl) (by kernel_rfl) (.tmp (by kernel_rfl) (by kernel_rfl) .nil)) (by kernel_rfl) (hRet _ _ ⟨_, _, rfl, hM9.clear, ?_⟩)
        -- end Lftt
        have hb : bsN l y = i := by unfold bsN; rw [← (by assumption : srch (fun (j_ : Nat) => !decide (l.getD j_ [] < y)) i j = srch (fun (j_ : Nat) => !decide (l.getD j_ [] < y)) 0 l.length), srch_end (by omega)]
        rw [bsB, hb]; simp only [h14, h35, h41, Bool.true_and, Bool.and_true, Bool.false_and, Bool.and_false]
      · -- Lftf
        have p43 : ¬ (((l.getD ((i)) [])) = (y)) := of_decide_eq_false h41
        refine wpF_seg 2 (by kernel_rfl) ?_
        refine gF_index (A := Al) (c := cl) (hl.up hM9.le) .i64 (((i : Nat) : Int)) (h := (by kernel_rfl : opAt _ _ _ _ _ = some (.indexAddr 22 (.tmp 43) (.tmp 44), some 45))) (e := 9) (by kernel_rfl) (by kernel_rfl) (by kernel_rfl) ((i)) (by omega) (by omega) (fun b44 o45 at_b44 => ?_)
        have c46 : Vl5 b44 o45 = some (bs (l.getD ((i)) [])) := (At.str at_b44).1
        have l47 : (l.getD ((i)) []).length ≤ 140737488355328 := (At.str at_b44).2
        refine gF hM9 (.load 9 (.tmp 45)) (some 46) (by kernel_rfl) (Y_loadV c46 (by kernel_rfl) (by kernel_rfl)) ?_
        refine wpF_callP hM9 (f := 104) (caps := #[]) (h := (by kernel_rfl : opAt _ _ _ _ _ = some (.call (.mk (.value (.func 104)) #[(.tmp 46)] #[9]), some 47))) (by kernel_rfl) (by kernel_rfl) (by kernel_rfl) (f104 _ _ hM9.inW ((l.getD ((i)) [])) (l47)) (fun v48 V49 w50 le51 hM52 hp53 => ?_)
        obtain rfl := hp53
        refine wpF_seg 8 (by kernel_rfl) ?_
        refine wpF_end _ (by kernel_rfl) (then_n (hK34 _ _ ?_))
        refine wp_ret ?_
        refine retN [.int .i64 (((i : Nat) : Int)), .bool (false)] (.tuple #[.int .i64 (((i : Nat) : Int)), .bool (false)]) Try.results55 (.tmp (by kernel_rfl) (by kernel_rfl) (.tmp (by kernel_rfl) (by kernel_rfl) .nil)) (by kernel_rfl) (hRet _ _ ⟨_, _, rfl, hM52.clear, ?_⟩)
        -- end Lftf
        have hb : bsN l y = i := by unfold bsN; rw [← (by assumption : srch (fun (j_ : Nat) => !decide (l.getD j_ [] < y)) i j = srch (fun (j_ : Nat) => !decide (l.getD j_ [] < y)) 0 l.length), srch_end (by omega)]
        rw [bsB, hb]; simp only [h14, h35, h41, Bool.true_and, Bool.and_true, Bool.false_and, Bool.and_false]
    · -- Lff
      have p54 : ¬ ((((i : Nat) : Int)) < ((l.length : Int))) := of_decide_eq_false h35
      refine wpF_seg 20 (by kernel_rfl) ?_
      refine wpF_end _ (by kernel_rfl) (then_n (hK34 _ _ ?_))
      refine wp_ret ?_
      refine retN [.int .i64 (((i : Nat) : Int)), .bool (false)] (.tuple #[.int .i64 (((i : Nat) : Int)), .bool (false)]) Try.results55 (.tmp (by kernel_rfl) (by kernel_rfl) (.tmp (by kernel_rfl) (by kernel_rfl) .nil)) (by kernel_rfl) (hRet _ _ ⟨_, _, rfl, hM9.clear, ?_⟩)
      -- end Lff
      have hb : bsN l y = i := by unfold bsN; rw [← (by assumption : srch (fun (j_ : Nat) => !decide (l.getD j_ [] < y)) i j = srch (fun (j_ : Nat) => !decide (l.getD j_ [] < y)) 0 l.length), srch_end (by omega)]
      rw [bsB, hb]; simp only [h14, h35, Bool.true_and, Bool.and_true, Bool.false_and, Bool.and_false]

end Go.Vk
