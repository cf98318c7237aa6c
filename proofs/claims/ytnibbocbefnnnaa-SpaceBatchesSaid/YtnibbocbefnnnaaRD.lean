import Derived.Test.YtnibbocbefnnnaaRPlain
set_option linter.unusedVariables false
set_option linter.unusedSimpArgs false
namespace Go.Vk
open Go.Proofs
set_option maxHeartbeats 4000000 in
set_option maxRecDepth 100000 in
theorem f54 (V : VT) (w : World) (hV : V.inW w) (Al : Option Addr) (cl : Nat) (l : List Str) (hl : Rd strK V Al cl l) (h5 : l.length ≤ 100000) :
    Calls Try.prog 54 #[.slice Al (l).length cl] w (Ret V w [] fun rv V' E' => ∃ (A1 : Option Addr), ∃ (c1 : Nat), rv = .slice A1 (l).length c1 ∧ E' = [.row strK 9 A1 c1 (l)]) := by
  have mxl : l.length ≤ 140737488355328 := hl.max
  refine calls_env (n := 8) Try.func54 (c := _) rfl Try.ntmps54 (by kernel_rfl) (fun R hRet => ?_)
  have hM0 : Step V w [] V w [] := Step.refl (St.nilE hV)
  refine wp_seq_k (fun K1 hK1 => ?_)
  refine wp_reg ?_
  refine wpF_seg 1 (by kernel_rfl) ?_
  refine wpF_end _ (by kernel_rfl) (then_n (hK1 _ _ ?_))
  refine wp_seq_k (fun K2 hK2 => ?_)
  refine wp_seq_k (fun K3 hK3 => ?_)
  refine wp_reg ?_
  refine wpF_seg 1 (by kernel_rfl) ?_
  refine gF hM0 (.binOp .eql 22 (.tmp 3) (.const (.slice none 0 0)) 22) (some 4) (by kernel_rfl) (Y_eql (.slice Al (l).length cl) (.slice none 0 0) (Al.isNone) (by kernel_rfl) (by kernel_rfl) (by kernel_rfl)) ?_
  refine wpF_end _ (by kernel_rfl) (then_n (hK3 _ _ ?_))
  refine wp_if (Al.isNone) (by kernel_rfl) (fun h4 => ?_) (fun h4 => ?_)
  · -- t
    have e0 : l = [] := Rd.isNil hl (by assumption)
    refine wp_seq_k (fun K5 hK5 => ?_)
    refine wp_reg ?_
    refine wpF_seg 1 (by kernel_rfl) ?_
    refine wpF_end _ (by kernel_rfl) (then_n (hK5 _ _ ?_))
    refine wp_ret (then_r (?_))
    have hM6 := hM0.nilrow strK 9
    have hM7 : Step V w [] V _ ([.row strK 9 none 0 (([] : List Str))]) := hM6
    have hM8 := hM7.front 0 rfl
    have hM9 : Step V w [] V _ ([.row strK 9 none 0 (([] : List Str))]) := hM8
    refine retN [.slice none 0 0] (.slice none 0 0) Try.results54 (.tmp (by kernel_rfl) (by kernel_rfl) .nil) (by kernel_rfl) (hRet _ _ ⟨_, _, _, rfl, hM9, ?_⟩)
    -- end t
    refine ⟨none, 0, ?_, ?_⟩
    · first | rfl | (rw [e0]; rfl)
    · first | rfl | (rw [e0])
  · -- f
    refine wp_skip (then_n (hK2 _ _ ?_))
    refine wp_seq_k (fun K10 hK10 => ?_)
    refine wp_reg ?_
    refine wpF_litW strK hM0 #[] (h := (by kernel_rfl : opAt _ _ _ _ _ = some (.buildSlice 22 0 #[], some 5))) (e := 9) (by kernel_rfl) (([] : List Str)) Reps.nils rfl (by simp [maxL]) (fun A11 c12 w13 hM14 => ?_)
    refine wpF_seg 1 (by kernel_rfl) ?_
    refine wpF_append (by_ := 16) hM14 0 rfl (h := (by kernel_rfl : opAt _ _ _ _ _ = some (.call (.mk (.builtin .append) #[(.tmp 5), (.tmp 6)] #[22, 22]), some 7))) (by kernel_rfl) (by kernel_rfl) (by kernel_rfl) (by kernel_rfl) (by kernel_rfl) (by kernel_rfl) (by kernel_rfl) (Src.rd hl) (by first | omega | (simp only [List.length_append, List.length_cons, List.length_nil, List.length_take, List.length_drop]; omega)) (fun A15 c16 w17 hM18 => ?_)
    have hM19 : Step V w [] V _ ([.row strK 9 A15 c16 (l)]) := hM18
    refine wpF_seg 1 (by kernel_rfl) ?_
    refine wpF_end _ (by kernel_rfl) (then_n (hK10 _ _ ?_))
    refine wp_ret ?_
    have hM20 := hM19.front 0 rfl
    have hM21 : Step V w [] V _ ([.row strK 9 A15 c16 (l)]) := hM20
    refine retN [.slice A15 (l).length c16] (.slice A15 (l).length c16) Try.results54 (.tmp (by kernel_rfl) (by kernel_rfl) .nil) (by kernel_rfl) (hRet _ _ ⟨_, _, _, rfl, hM21, ?_⟩)
    -- end f
    refine ⟨A15, c16, ?_, ?_⟩
    · first | rfl | (rw [e0]; rfl)
    · first | rfl | (rw [e0])

set_option maxHeartbeats 4000000 in
set_option maxRecDepth 100000 in
theorem f139 (V : VT) (w : World) (hV : V.inW w) (x : Str) (hx : x.length ≤ maxL) :
    Calls Try.prog 139 #[bs (x)] w (RetP V w fun rv V' => rv = .bool (false)) := by
  have mxx : x.length ≤ 140737488355328 := hx
  refine calls_env (n := 6) Try.func139 (c := _) rfl Try.ntmps139 (by kernel_rfl) (fun R hRet => ?_)
  have hM0 : Step V w [] V w [] := Step.refl (St.nilE hV)
  refine wp_seq_k (fun K1 hK1 => ?_)
  refine wp_reg ?_
  refine wpF_seg 1 (by kernel_rfl) ?_
  refine wpF_end _ (by kernel_rfl) (then_n (hK1 _ _ ?_))
  refine wp_seq_k (fun K2 hK2 => ?_)
  refine wp_reg ?_
  refine wpF_seg 4 (by kernel_rfl) ?_
  refine wpF_end _ (by kernel_rfl) (then_n (hK2 _ _ ?_))
  refine wp_ret ?_
  refine retN [.bool (!(decide ((x) = (x))))] (.bool (!(decide ((x) = (x))))) Try.results139 (.tmp (by kernel_rfl) (by kernel_rfl) .nil) (by kernel_rfl) (hRet _ _ ⟨_, _, rfl, hM0.clear, ?_⟩)
  -- end 
  simp

set_option maxHeartbeats 4000000 in
set_option maxRecDepth 100000 in
theorem f104 (V : VT) (w : World) (hV : V.inW w) (x : Str) (hx : x.length ≤ maxL) :
    Calls Try.prog 104 #[bs (x)] w (RetP V w fun rv V' => rv = .bool (false)) := by
  have mxx : x.length ≤ 140737488355328 := hx
  refine calls_env (n := 6) Try.func104 (c := _) rfl Try.ntmps104 (by kernel_rfl) (fun R hRet => ?_)
  have hM0 : Step V w [] V w [] := Step.refl (St.nilE hV)
  refine wp_seq_k (fun K1 hK1 => ?_)
  refine wp_reg ?_
  refine wpF_seg 1 (by kernel_rfl) ?_
  refine wpF_end _ (by kernel_rfl) (then_n (hK1 _ _ ?_))
  refine wp_seq_k (fun K2 hK2 => ?_)
  refine wp_reg ?_
  refine wpF_seg 4 (by kernel_rfl) ?_
  refine wpF_end _ (by kernel_rfl) (then_n (hK2 _ _ ?_))
  refine wp_ret ?_
  refine retN [.bool (!(decide ((x) = (x))))] (.bool (!(decide ((x) = (x))))) Try.results104 (.tmp (by kernel_rfl) (by kernel_rfl) .nil) (by kernel_rfl) (hRet _ _ ⟨_, _, rfl, hM0.clear, ?_⟩)
  -- end 
  simp

set_option maxHeartbeats 4000000 in
set_option maxRecDepth 100000 in
theorem f103 (V : VT) (w : World) (hV : V.inW w) (x : Str) (hx : x.length ≤ maxL) (y : Str) (hy : y.length ≤ maxL) :
    Calls Try.prog 103 #[bs (x), bs (y)] w (RetP V w fun rv V' => rv = .bool (decide (x < y))) := by
  have mxx : x.length ≤ 140737488355328 := hx
  have mxy : y.length ≤ 140737488355328 := hy
  refine calls_env (n := 17) Try.func103 (c := _) rfl Try.ntmps103 (by kernel_rfl) (fun R hRet => ?_)
  have hM0 : Step V w [] V w [] := Step.refl (St.nilE hV)
  refine wp_seq_k (fun K1 hK1 => ?_)
  refine wp_reg ?_
  refine wpF_seg 1 (by kernel_rfl) ?_
  refine wpF_end _ (by kernel_rfl) (then_n (hK1 _ _ ?_))
  refine wp_seq_k (fun K2 hK2 => ?_)
  refine wp_reg ?_
  refine wpF_seg 1 (by kernel_rfl) ?_
  refine wpF_callP hM0 (f := 139) (caps := #[]) (h := (by kernel_rfl : opAt _ _ _ _ _ = some (.call (.mk (.value (.func 139)) #[(.tmp 5)] #[9]), some 6))) (by kernel_rfl) (by kernel_rfl) (by kernel_rfl) (f139 _ _ hM0.inW (x) (hx)) (fun v3 V4 w5 le6 hM7 hp8 => ?_)
  obtain rfl := hp8
  refine wpF_seg 11 (by kernel_rfl) ?_
  refine wpF_end _ (by kernel_rfl) (then_n (hK2 _ _ ?_))
  refine wp_ret ?_
  refine retN [.bool (decide ((x) < (y)))] (.bool (decide ((x) < (y)))) Try.results103 (.tmp (by kernel_rfl) (by kernel_rfl) .nil) (by kernel_rfl) (hRet _ _ ⟨_, _, rfl, hM7.clear, ?_⟩)
  -- end 
  rfl

end Go.Vk
