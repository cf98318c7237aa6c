import Derived.Test.YtnibbocbefnnnaaRA
import Derived.Test.YtnibbocbefnnnaaRC
import Derived.Test.YtnibbocbefnnnaaRIt
import Derived.Test.YtnibbocbefnnnaaRMathRd
import Derived.Test.YtnibbocbefnnnaaRMathSp
import Derived.Test.YtnibbocbefnnnaaRMathSq
import Derived.Test.YtnibbocbefnnnaaRMathSr
import Derived.Test.YtnibbocbefnnnaaRMathSs
import Derived.Test.YtnibbocbefnnnaaRPlainSp
import Derived.Test.YtnibbocbefnnnaaRSp
import Derived.Test.YtnibbocbefnnnaaRUb
import Derived.Test.YtnibbocbefnnnaaRUc
set_option linter.unusedVariables false
set_option linter.unusedSimpArgs false
namespace Go.Vk
open Go.Proofs
variable {D : List Deferred}
set_option maxHeartbeats 4000000 in
set_option maxRecDepth 100000 in
theorem f29 (V : VT) (w : World) (Ark : Option Addr) (crk : Nat) (rk : List Str) (hrk : Rd strK V Ark crk rk) (Arq : Option Addr) (crq : Nat) (rq : List ((Str × Str))) (hrq : Rd (prK strK strK) V Arq crq rq) (bp : Nat) (Ap : Option Addr) (cp mp : Nat) (pL : List (Str × List (Int × Str × Bool))) (pl pm : Int) (t : Int) (hS : St V w [spE bp Ap cp mp (pL) (pl) (pm)]) (h5 : pL.length ≤ 99000) (hky : ∀ y, y ∈ rk → y.length ≤ 140737488351232) :
    Calls Try.prog 29 #[.agg #[.slice Ark (rk).length crk, .slice Arq (rq).length crq], .pointer (some ⟨bp, 0, none⟩), .int .i64 (t)] w (Ret V w [spE bp Ap cp mp (pL) (pl) (pm)] fun rv V' E' => rv = .bool (stlB rk rq pL t) ∧ E' = [spE bp Ap cp mp (pL) (pl) (pm)]) := by
  have mxrk : rk.length ≤ 140737488355328 := hrk.max
  have mxrq : rq.length ≤ 140737488355328 := hrq.max
  refine calls_env (n := 20) Try.func29 (c := _) rfl Try.ntmps29 (by kernel_rfl) (fun R hRet => ?_)
  have hV := hS.inW
  have hM0 : Step V w [spE bp Ap cp mp (pL) (pl) (pm)] V w [spE bp Ap cp mp (pL) (pl) (pm)] := Step.refl hS
  refine wp_seq_k (fun K1 hK1 => ?_)
  refine wp_reg ?_
  refine wpF_box hM0 #[.slice Ark (rk).length crk, .slice Arq (rq).length crq] (h := (by kernel_rfl : opAt _ _ _ _ _ = some (.box 25 (.tmp 0), some 3))) (by kernel_rfl) (fun b2 w3 hM4 => ?_)
  refine wpF_box hM4 #[.pointer (some ⟨bp, 0, none⟩)] (h := (by kernel_rfl : opAt _ _ _ _ _ = some (.box 53 (.tmp 1), some 4))) (by kernel_rfl) (fun b5 w6 hM7 => ?_)
  refine wpF_box hM7 #[.int .i64 (t)] (h := (by kernel_rfl : opAt _ _ _ _ _ = some (.box 3 (.tmp 2), some 5))) (by kernel_rfl) (fun b8 w9 hM10 => ?_)
  refine wpF_seg 1 (by kernel_rfl) ?_
  refine wpF_end _ (by kernel_rfl) (then_n (hK1 _ _ ?_))
  refine wp_seq_k (fun K11 hK11 => ?_)
  refine wp_seq_k (fun K12 hK12 => ?_)
  refine wp_reg ?_
  refine gF hM10 (.load 25 (.tmp 3)) (some 7) (by kernel_rfl) (Y_load 2 rfl (off := 0) (by kernel_rfl) (.agg #[.slice Ark (rk).length crk, .slice Arq (rq).length crq]) (by kernel_rfl)) ?_
  refine wpF_callP hM10 (f := 22) (caps := #[]) (h := (by kernel_rfl : opAt _ _ _ _ _ = some (.call (.mk (.value (.func 22)) #[(.tmp 7)] #[25]), some 8))) (by kernel_rfl) (by kernel_rfl) (by kernel_rfl) (f22 _ _ hM10.inW Ark crk (rk) hrk Arq crq (rq) hrq) (fun v13 V14 w15 le16 hM17 hp18 => ?_)
  obtain rfl := hp18
  refine wpF_seg 1 (by kernel_rfl) ?_
  refine wpF_end _ (by kernel_rfl) (then_n (hK12 _ _ ?_))
  refine wp_if (!(decide ((chkM (rk) (rq)) = (0)))) (by kernel_rfl) (fun h19 => ?_) (fun h19 => ?_)
  · -- t
    have h20 : decide ((chkM (rk) (rq)) = (0)) = false := by rw [← Bool.not_not (decide _), h19]; rfl
    have p21 : ¬ ((chkM (rk) (rq)) = (0)) := of_decide_eq_false h20
    have hr := (chk_n (by assumption : ¬ chkM rk rq = 0)).1
    refine wp_seq_k (fun K22 hK22 => ?_)
    refine wp_reg ?_
    refine wpF_seg 1 (by kernel_rfl) ?_
    refine wpF_end _ (by kernel_rfl) (then_n (hK22 _ _ ?_))
    refine wp_ret (then_r (?_))
    have hM23 := hM17.front 3 rfl
    have hM24 := (hM23.front 3 rfl).drop
    have hM25 := (hM24.front 2 rfl).drop
    have hM26 := (hM25.front 1 rfl).drop
    have hM27 : Step V w [spE bp Ap cp mp (pL) (pl) (pm)] V14 _ ([spE bp Ap cp mp (pL) (pl) (pm)]) := hM26
    refine retN [.bool (false)] (.bool (false)) Try.results29 (.tmp (by kernel_rfl) (by kernel_rfl) .nil) (by kernel_rfl) (hRet _ _ ⟨_, _, _, rfl, hM27, ?_⟩)
    -- end t
    refine ⟨?_, ?_⟩
    · simp only [stlB, hr, h19, h20, Bool.true_and, Bool.false_and, Bool.true_or, Bool.false_or]
    · rfl
  · -- f
    have h28 : decide ((chkM (rk) (rq)) = (0)) = true := by rw [← Bool.not_not (decide _), h19]; rfl
    have p29 : ((chkM (rk) (rq)) = (0)) := of_decide_eq_true h28
    have hr := chk_0 (by assumption : chkM rk rq = 0)
    refine wp_skip (then_n (hK11 _ _ ?_))
    refine wp_seq_k (fun K30 hK30 => ?_)
    refine wp_reg ?_
    refine wpF_seg 1 (by kernel_rfl) ?_
    refine gF hM17 (.load 22 (.tmp 10)) (some 11) (by kernel_rfl) (Y_load 2 rfl (off := 0) (by kernel_rfl) (.slice Ark (rk).length crk) (by kernel_rfl)) ?_
    obtain ⟨V31, le32, hM33, hc34⟩ := hM17.settle 1 rfl
    have hM35 : Step V w [spE bp Ap cp mp (pL) (pl) (pm)] V31 _ ([.blk b8 (.cells #[.int .i64 (t)] 3), .blk b2 (.cells #[.slice Ark (rk).length crk, .slice Arq (rq).length crq] 25), spE bp Ap cp mp (pL) (pl) (pm)]) := hM33
    obtain ⟨V36, le37, hM38, hc39⟩ := hM35.settle 0 rfl
    have hM40 : Step V w [spE bp Ap cp mp (pL) (pl) (pm)] V36 _ ([.blk b2 (.cells #[.slice Ark (rk).length crk, .slice Arq (rq).length crq] 25), spE bp Ap cp mp (pL) (pl) (pm)]) := hM38
    refine wpF_seg 1 (by kernel_rfl) ?_
    have hM41 := hM40.front 1 rfl
    have hM49 : Step V w [spE bp Ap cp mp (pL) (pl) (pm)] V36 _ ([spE bp Ap cp mp (pL) (pl) (pm), .blk b2 (.cells #[.slice Ark (rk).length crk, .slice Arq (rq).length crq] 25)]) := hM41
    refine wpF_callE [spE bp Ap cp mp (pL) (pl) (pm)] ([.blk b2 (.cells #[.slice Ark (rk).length crk, .slice Arq (rq).length crq] 25)]) hM49 (f := 72) (caps := #[]) (h := (by kernel_rfl : opAt _ _ _ _ _ = some (.call (.mk (.value (.func 72)) #[(.tmp 11), (.tmp 12)] #[22, 122]), some 13))) (by kernel_rfl) (by kernel_rfl) (by kernel_rfl) (f72e _ _ [spE bp Ap cp mp (pL) (pl) (pm)] 73 #[.pointer (some ⟨b5, 0, none⟩), .pointer (some ⟨b8, 0, none⟩)] (by kernel_rfl) (fun (y_ : Str) => sinB (pL) y_ (y_ ++ [0]) (t)) Ark crk (rk) (hrk.up hM40.le) (fun V_ w_ l_ i_ j_ hj_ h_ => f73 V_ w_ ((rk).getD j_ []) h_ bp Ap cp mp (pL) (pl) (pm) b5 (fun i_ v_ hi_ => l_ _ _ _ (le37 _ _ _ (hc34 i_ v_ hi_))) (t) b8 (fun i_ v_ hi_ => l_ _ _ _ (hc39 i_ v_ hi_)) i_ (by omega) (by (have hq := hky _ (getD_mem (d := []) hj_)); omega)) (St.part (E := [spE bp Ap cp mp (pL) (pl) (pm)]) (F := ([.blk b2 (.cells #[.slice Ark (rk).length crk, .slice Arq (rq).length crq] 25)])) hM49.ok)) (fun v42 V43 w44 Eo45 le46 hM47 hp48 => ?_)
    obtain ⟨rfl, rfl⟩ := hp48
    have hM50 : Step V w [spE bp Ap cp mp (pL) (pl) (pm)] V43 _ ([spE bp Ap cp mp (pL) (pl) (pm), .blk b2 (.cells #[.slice Ark (rk).length crk, .slice Arq (rq).length crq] 25)]) := hM47
    refine wpF_seg 1 (by kernel_rfl) ?_
    refine wpF_caseB 14 ((rk).any (fun (y_ : Str) => sinB (pL) y_ (y_ ++ [0]) (t))) (by kernel_rfl) (by kernel_rfl) (fun h51 => ?_) (fun h51 => ?_)
    · -- ft
      refine wpF_seg 6 (by kernel_rfl) ?_
      refine wpF_end _ (by kernel_rfl) (then_n (hK30 _ _ ?_))
      refine wp_ret ?_
      have hM52 := hM50.front 0 rfl
      have hM53 := (hM52.front 1 rfl).drop
      have hM54 : Step V w [spE bp Ap cp mp (pL) (pl) (pm)] V43 _ ([spE bp Ap cp mp (pL) (pl) (pm)]) := hM53
      refine retN [.bool (true)] (.bool (true)) Try.results29 (.tmp (by kernel_rfl) (by kernel_rfl) .nil) (by kernel_rfl) (hRet _ _ ⟨_, _, _, rfl, hM54, ?_⟩)
      -- end ft
      refine ⟨?_, ?_⟩
      · simp only [stlB, hr, h19, h28, h51, Bool.true_and, Bool.false_and, Bool.true_or, Bool.false_or]
      · rfl
    · -- ff
      refine wpF_seg 1 (by kernel_rfl) ?_
      refine gF hM50 (.load 23 (.tmp 15)) (some 16) (by kernel_rfl) (Y_load 1 rfl (off := 1) (by kernel_rfl) (.slice Arq (rq).length crq) (by kernel_rfl)) ?_
      refine wpF_seg 1 (by kernel_rfl) ?_
      have hM55 := hM50.front 0 rfl
      have hM63 : Step V w [spE bp Ap cp mp (pL) (pl) (pm)] V43 _ ([spE bp Ap cp mp (pL) (pl) (pm), .blk b2 (.cells #[.slice Ark (rk).length crk, .slice Arq (rq).length crq] 25)]) := hM55
      refine wpF_callE [spE bp Ap cp mp (pL) (pl) (pm)] ([.blk b2 (.cells #[.slice Ark (rk).length crk, .slice Arq (rq).length crq] 25)]) hM63 (f := 74) (caps := #[]) (h := (by kernel_rfl : opAt _ _ _ _ _ = some (.call (.mk (.value (.func 74)) #[(.tmp 16), (.tmp 17)] #[23, 115]), some 18))) (by kernel_rfl) (by kernel_rfl) (by kernel_rfl) (f74e _ _ [spE bp Ap cp mp (pL) (pl) (pm)] 75 #[.pointer (some ⟨b5, 0, none⟩), .pointer (some ⟨b8, 0, none⟩)] (by kernel_rfl) (fun (y_ : (Str × Str)) => sinB (pL) y_.1 y_.2 (t)) Arq crq (rq) (hrq.up hM50.le) (fun V_ w_ l_ i_ j_ hj_ h_ => f75 V_ w_ ((rq).getD j_ ([], [])).1 h_.1 ((rq).getD j_ ([], [])).2 h_.2 bp Ap cp mp (pL) (pl) (pm) b5 (fun i_ v_ hi_ => l_ _ _ _ ((le37.trans le46) _ _ _ (hc34 i_ v_ hi_))) (t) b8 (fun i_ v_ hi_ => l_ _ _ _ (le46 _ _ _ (hc39 i_ v_ hi_))) i_ (by omega)) (St.part (E := [spE bp Ap cp mp (pL) (pl) (pm)]) (F := ([.blk b2 (.cells #[.slice Ark (rk).length crk, .slice Arq (rq).length crq] 25)])) hM63.ok)) (fun v56 V57 w58 Eo59 le60 hM61 hp62 => ?_)
      obtain ⟨rfl, rfl⟩ := hp62
      have hM64 : Step V w [spE bp Ap cp mp (pL) (pl) (pm)] V57 _ ([spE bp Ap cp mp (pL) (pl) (pm), .blk b2 (.cells #[.slice Ark (rk).length crk, .slice Arq (rq).length crq] 25)]) := hM61
      refine wpF_seg 2 (by kernel_rfl) ?_
      refine wpF_end _ (by kernel_rfl) (then_n (hK30 _ _ ?_))
      refine wp_ret ?_
      have hM65 := hM64.front 0 rfl
      have hM66 := (hM65.front 1 rfl).drop
      have hM67 : Step V w [spE bp Ap cp mp (pL) (pl) (pm)] V57 _ ([spE bp Ap cp mp (pL) (pl) (pm)]) := hM66
      refine retN [.bool ((rq).any (fun (y_ : (Str × Str)) => sinB (pL) y_.1 y_.2 (t)))] (.bool ((rq).any (fun (y_ : (Str × Str)) => sinB (pL) y_.1 y_.2 (t)))) Try.results29 (.tmp (by kernel_rfl) (by kernel_rfl) .nil) (by kernel_rfl) (hRet _ _ ⟨_, _, _, rfl, hM67, ?_⟩)
      -- end ff
      refine ⟨?_, ?_⟩
      · simp only [stlB, hr, h19, h28, h51, Bool.true_and, Bool.false_and, Bool.true_or, Bool.false_or]
      · rfl

end Go.Vk
