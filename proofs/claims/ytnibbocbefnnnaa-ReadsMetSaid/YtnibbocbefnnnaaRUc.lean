import Derived.Test.YtnibbocbefnnnaaRIt
import Derived.Test.YtnibbocbefnnnaaRMathRd
import Derived.Test.YtnibbocbefnnnaaRMathSp
import Derived.Test.YtnibbocbefnnnaaRMathSq
import Derived.Test.YtnibbocbefnnnaaRMathSr
import Derived.Test.YtnibbocbefnnnaaRMathSs
import Derived.Test.YtnibbocbefnnnaaRPlainSp
import Derived.Test.YtnibbocbefnnnaaRSk
import Derived.Test.YtnibbocbefnnnaaRSp
set_option linter.unusedVariables false
set_option linter.unusedSimpArgs false
namespace Go.Vk
open Go.Proofs
variable {D : List Deferred}
set_option maxHeartbeats 4000000 in
set_option maxRecDepth 100000 in
theorem f73 (V : VT) (w : World) (y : Str) (hy : y.length ≤ maxL) (bp : Nat) (Ap : Option Addr) (cp mp : Nat) (pL : List (Str × List (Int × Str × Bool))) (pl pm : Int) (cb : Nat) (hcb : ∀ i_ v_, (#[.pointer (some ⟨bp, 0, none⟩)] : Array Value)[i_]? = some v_ → V cb i_ = some v_) (t : Int) (ct : Nat) (hct : ∀ i_ v_, (#[.int .i64 (t)] : Array Value)[i_]? = some v_ → V ct i_ = some v_) (hS : St V w [spE bp Ap cp mp (pL) (pl) (pm)]) (h5 : pL.length ≤ 99000) (h6 : y.length ≤ 140737488351232) :
    Calls Try.prog 73 #[bs (y), .pointer (some ⟨cb, 0, none⟩), .pointer (some ⟨ct, 0, none⟩)] w (Ret V w [spE bp Ap cp mp (pL) (pl) (pm)] fun rv V' E' => rv = .bool (sinB pL y (y ++ [0]) t) ∧ E' = [spE bp Ap cp mp (pL) (pl) (pm)]) := by
  have mxy : y.length ≤ 140737488355328 := hy
  refine calls_env (n := 11) Try.func73 (c := _) rfl Try.ntmps73 (by kernel_rfl) (fun R hRet => ?_)
  have hV := hS.inW
  have hM0 : Step V w [spE bp Ap cp mp (pL) (pl) (pm)] V w [spE bp Ap cp mp (pL) (pl) (pm)] := Step.refl hS
  refine wp_seq_k (fun K1 hK1 => ?_)
  refine wp_reg ?_
  refine wpF_seg 1 (by kernel_rfl) ?_
  refine wpF_end _ (by kernel_rfl) (then_n (hK1 _ _ ?_))
  refine wp_seq_k (fun K2 hK2 => ?_)
  refine wp_reg ?_
  refine gF hM0 (.load 53 (.tmp 1)) (some 5) (by kernel_rfl) (Y_loadB #[.pointer (some ⟨bp, 0, none⟩)] hcb (off := 0) (by kernel_rfl) (.pointer (some ⟨bp, 0, none⟩)) (by kernel_rfl)) ?_
  refine wpF_seg 2 (by kernel_rfl) ?_
  refine gF hM0 (.binOp .add 9 (.tmp 7) (.const (.string (ByteArray.mk #[0]))) 9) (some 8) (by kernel_rfl) (Y_concat (y) (([0] : Str)) (by kernel_rfl) (by kernel_rfl) (by simp only [List.length_append, List.length_cons, List.length_nil]; omega)) ?_
  refine gF hM0 (.load 3 (.tmp 2)) (some 9) (by kernel_rfl) (Y_loadB #[.int .i64 (t)] hct (off := 0) (by kernel_rfl) (.int .i64 (t)) (by kernel_rfl)) ?_
  have hM3 := hM0.front 0 rfl
  have hM11 : Step V w [spE bp Ap cp mp (pL) (pl) (pm)] V _ ([spE bp Ap cp mp (pL) (pl) (pm)]) := hM3
  refine wpF_callE [spE bp Ap cp mp (pL) (pl) (pm)] ([]) hM11 (f := 42) (caps := #[]) (h := (by kernel_rfl : opAt _ _ _ _ _ = some (.call (.mk (.value (.func 42)) #[(.tmp 5), (.tmp 6), (.tmp 8), (.tmp 9)] #[53, 9, 9, 3]), some 10))) (by kernel_rfl) (by kernel_rfl) (by kernel_rfl) (f42 _ _ bp Ap cp mp (pL) (pl) (pm) (y) (hy) (y ++ ([0] : Str)) (by first | decide | (simp only [maxL, List.length_append, List.length_cons, List.length_nil]; omega)) (t) (St.part (E := [spE bp Ap cp mp (pL) (pl) (pm)]) (F := ([])) hM11.ok) (by omega)) (fun v4 V5 w6 Eo7 le8 hM9 hp10 => ?_)
  obtain ⟨rfl, rfl⟩ := hp10
  have hM12 : Step V w [spE bp Ap cp mp (pL) (pl) (pm)] V5 _ ([spE bp Ap cp mp ((pL)) ((pl)) ((pm))]) := hM9
  refine wpF_seg 1 (by kernel_rfl) ?_
  refine wpF_end _ (by kernel_rfl) (then_n (hK2 _ _ ?_))
  refine wp_ret ?_
  have hM13 := hM12.front 0 rfl
  have hM14 : Step V w [spE bp Ap cp mp (pL) (pl) (pm)] V5 _ ([spE bp Ap cp mp ((pL)) ((pl)) ((pm))]) := hM13
  refine retN [.bool (sinB (pL) (y) (y ++ ([0] : Str)) (t))] (.bool (sinB (pL) (y) (y ++ ([0] : Str)) (t))) Try.results73 (.tmp (by kernel_rfl) (by kernel_rfl) .nil) (by kernel_rfl) (hRet _ _ ⟨_, _, _, rfl, hM14, ?_⟩)
  -- end 
  refine ⟨?_, ?_⟩
  · rfl
  · rfl

set_option maxHeartbeats 4000000 in
set_option maxRecDepth 100000 in
theorem f75 (V : VT) (w : World) (sf : Str) (hsf : sf.length ≤ maxL) (su : Str) (hsu : su.length ≤ maxL) (bp : Nat) (Ap : Option Addr) (cp mp : Nat) (pL : List (Str × List (Int × Str × Bool))) (pl pm : Int) (cb : Nat) (hcb : ∀ i_ v_, (#[.pointer (some ⟨bp, 0, none⟩)] : Array Value)[i_]? = some v_ → V cb i_ = some v_) (t : Int) (ct : Nat) (hct : ∀ i_ v_, (#[.int .i64 (t)] : Array Value)[i_]? = some v_ → V ct i_ = some v_) (hS : St V w [spE bp Ap cp mp (pL) (pl) (pm)]) (h5 : pL.length ≤ 99000) :
    Calls Try.prog 75 #[.agg #[bs (sf), bs (su)], .pointer (some ⟨cb, 0, none⟩), .pointer (some ⟨ct, 0, none⟩)] w (Ret V w [spE bp Ap cp mp (pL) (pl) (pm)] fun rv V' E' => rv = .bool (sinB pL sf su t) ∧ E' = [spE bp Ap cp mp (pL) (pl) (pm)]) := by
  have mxsf : sf.length ≤ 140737488355328 := hsf
  have mxsu : su.length ≤ 140737488355328 := hsu
  refine calls_env (n := 12) Try.func75 (c := _) rfl Try.ntmps75 (by kernel_rfl) (fun R hRet => ?_)
  have hV := hS.inW
  have hM0 : Step V w [spE bp Ap cp mp (pL) (pl) (pm)] V w [spE bp Ap cp mp (pL) (pl) (pm)] := Step.refl hS
  refine wp_seq_k (fun K1 hK1 => ?_)
  refine wp_reg ?_
  refine wpF_box hM0 #[bs (sf), bs (su)] (h := (by kernel_rfl : opAt _ _ _ _ _ = some (.box 40 (.tmp 0), some 3))) (by kernel_rfl) (fun b2 w3 hM4 => ?_)
  refine wpF_seg 1 (by kernel_rfl) ?_
  refine wpF_end _ (by kernel_rfl) (then_n (hK1 _ _ ?_))
  refine wp_seq_k (fun K5 hK5 => ?_)
  refine wp_reg ?_
  refine gF hM4 (.load 53 (.tmp 1)) (some 5) (by kernel_rfl) (Y_loadB #[.pointer (some ⟨bp, 0, none⟩)] hcb (off := 0) (by kernel_rfl) (.pointer (some ⟨bp, 0, none⟩)) (by kernel_rfl)) ?_
  refine wpF_seg 1 (by kernel_rfl) ?_
  refine gF hM4 (.load 9 (.tmp 6)) (some 7) (by kernel_rfl) (Y_load 0 rfl (off := 0) (by kernel_rfl) (bs (sf)) (by kernel_rfl)) ?_
  refine wpF_seg 1 (by kernel_rfl) ?_
  refine gF hM4 (.load 9 (.tmp 8)) (some 9) (by kernel_rfl) (Y_load 0 rfl (off := 1) (by kernel_rfl) (bs (su)) (by kernel_rfl)) ?_
  refine gF hM4 (.load 3 (.tmp 2)) (some 10) (by kernel_rfl) (Y_loadB #[.int .i64 (t)] hct (off := 0) (by kernel_rfl) (.int .i64 (t)) (by kernel_rfl)) ?_
  have hM6 := hM4.front 1 rfl
  have hM14 : Step V w [spE bp Ap cp mp (pL) (pl) (pm)] V _ ([spE bp Ap cp mp (pL) (pl) (pm), .blk b2 (.cells #[bs (sf), bs (su)] 40)]) := hM6
  refine wpF_callE [spE bp Ap cp mp (pL) (pl) (pm)] ([.blk b2 (.cells #[bs (sf), bs (su)] 40)]) hM14 (f := 42) (caps := #[]) (h := (by kernel_rfl : opAt _ _ _ _ _ = some (.call (.mk (.value (.func 42)) #[(.tmp 5), (.tmp 7), (.tmp 9), (.tmp 10)] #[53, 9, 9, 3]), some 11))) (by kernel_rfl) (by kernel_rfl) (by kernel_rfl) (f42 _ _ bp Ap cp mp (pL) (pl) (pm) (sf) (hsf) (su) (hsu) (t) (St.part (E := [spE bp Ap cp mp (pL) (pl) (pm)]) (F := ([.blk b2 (.cells #[bs (sf), bs (su)] 40)])) hM14.ok) (by omega)) (fun v7 V8 w9 Eo10 le11 hM12 hp13 => ?_)
  obtain ⟨rfl, rfl⟩ := hp13
  have hM15 : Step V w [spE bp Ap cp mp (pL) (pl) (pm)] V8 _ ([spE bp Ap cp mp ((pL)) ((pl)) ((pm)), .blk b2 (.cells #[bs (sf), bs (su)] 40)]) := hM12
  refine wpF_seg 1 (by kernel_rfl) ?_
  refine wpF_end _ (by kernel_rfl) (then_n (hK5 _ _ ?_))
  refine wp_ret ?_
  have hM16 := hM15.front 0 rfl
  have hM17 := (hM16.front 1 rfl).drop
  have hM18 : Step V w [spE bp Ap cp mp (pL) (pl) (pm)] V8 _ ([spE bp Ap cp mp ((pL)) ((pl)) ((pm))]) := hM17
  refine retN [.bool (sinB (pL) (sf) (su) (t))] (.bool (sinB (pL) (sf) (su) (t))) Try.results75 (.tmp (by kernel_rfl) (by kernel_rfl) .nil) (by kernel_rfl) (hRet _ _ ⟨_, _, _, rfl, hM18, ?_⟩)
  -- end 
  refine ⟨?_, ?_⟩
  · rfl
  · rfl

end Go.Vk
