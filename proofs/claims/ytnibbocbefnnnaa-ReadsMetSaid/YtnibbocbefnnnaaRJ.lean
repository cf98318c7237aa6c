import Derived.Test.YtnibbocbefnnnaaRA
import Derived.Test.YtnibbocbefnnnaaRC
import Derived.Test.YtnibbocbefnnnaaRD
set_option linter.unusedVariables false
set_option linter.unusedSimpArgs false
namespace Go.Vk
open Go.Proofs
set_option maxHeartbeats 4000000 in
set_option maxRecDepth 100000 in
theorem f68 (V : VT) (w : World) (hV : V.inW w) (Ark : Option Addr) (crk : Nat) (rk : List Str) (hrk : Rd strK V Ark crk rk) (Arq : Option Addr) (crq : Nat) (rq : List ((Str × Str))) (hrq : Rd (prK strK strK) V Arq crq rq) (y : Str) (hy : y.length ≤ maxL) :
    Calls Try.prog 68 #[.agg #[.slice Ark (rk).length crk, .slice Arq (rq).length crq], bs (y)] w (RetP V w fun rv V' => rv = .bool (cvB rk rq y)) := by
  have mxrk : rk.length ≤ 140737488355328 := hrk.max
  have mxrq : rq.length ≤ 140737488355328 := hrq.max
  have mxy : y.length ≤ 140737488355328 := hy
  refine calls_env (n := 21) Try.func68 (c := _) rfl Try.ntmps68 (by kernel_rfl) (fun R hRet => ?_)
  have hM0 : Step V w [] V w [] := Step.refl (St.nilE hV)
  refine wp_seq_k (fun K1 hK1 => ?_)
  refine wp_reg ?_
  refine wpF_box hM0 #[.slice Ark (rk).length crk, .slice Arq (rq).length crq] (h := (by kernel_rfl : opAt _ _ _ _ _ = some (.box 25 (.tmp 0), some 2))) (by kernel_rfl) (fun b2 w3 hM4 => ?_)
  refine wpF_seg 1 (by kernel_rfl) ?_
  refine wpF_end _ (by kernel_rfl) (then_n (hK1 _ _ ?_))
  refine wp_seq_k (fun K5 hK5 => ?_)
  refine wp_reg ?_
  refine wpF_seg 1 (by kernel_rfl) ?_
  refine gF hM4 (.load 22 (.tmp 8)) (some 9) (by kernel_rfl) (Y_load 0 rfl (off := 0) (by kernel_rfl) (.slice Ark (rk).length crk) (by kernel_rfl)) ?_
  refine wpF_seg 1 (by kernel_rfl) ?_
  refine wpF_callP hM4 (f := 55) (caps := #[]) (h := (by kernel_rfl : opAt _ _ _ _ _ = some (.call (.mk (.value (.func 55)) #[(.tmp 9), (.tmp 10)] #[22, 9]), some 11))) (by kernel_rfl) (by kernel_rfl) (by kernel_rfl) (f55 _ _ hM4.inW Ark crk (rk) hrk (y) (hy)) (fun v6 V7 w8 le9 hM10 hp11 => ?_)
  obtain rfl := hp11
  refine wpF_seg 5 (by kernel_rfl) ?_
  refine wpF_end _ (by kernel_rfl) (then_n (hK5 _ _ ?_))
  refine wp_seq_k (fun K12 hK12 => ?_)
  refine wp_reg ?_
  refine wpF_seg 2 (by kernel_rfl) ?_
  refine wpF_caseB 15 (bsB (rk) (y)) (by kernel_rfl) (by kernel_rfl) (fun h13 => ?_) (fun h13 => ?_)
  · -- t
    refine wpF_seg 6 (by kernel_rfl) ?_
    refine wpF_end _ (by kernel_rfl) (then_n (hK12 _ _ ?_))
    refine wp_ret ?_
    refine retN [.bool (true)] (.bool (true)) Try.results68 (.tmp (by kernel_rfl) (by kernel_rfl) .nil) (by kernel_rfl) (hRet _ _ ⟨_, _, rfl, hM10.clear, ?_⟩)
    -- end t
    simp only [cvB, h13, Bool.true_or, Bool.or_true, Bool.false_or, Bool.or_false, Bool.true_and, Bool.and_true, Bool.false_and, Bool.and_false, Bool.not_true, Bool.not_false]
  · -- f
    refine wpF_seg 1 (by kernel_rfl) ?_
    refine gF hM10 (.load 23 (.tmp 16)) (some 17) (by kernel_rfl) (Y_load 0 rfl (off := 1) (by kernel_rfl) (.slice Arq (rq).length crq) (by kernel_rfl)) ?_
    refine wpF_seg 1 (by kernel_rfl) ?_
    refine wpF_callP hM10 (f := 67) (caps := #[]) (h := (by kernel_rfl : opAt _ _ _ _ _ = some (.call (.mk (.value (.func 67)) #[(.tmp 17), (.tmp 18)] #[23, 9]), some 19))) (by kernel_rfl) (by kernel_rfl) (by kernel_rfl) (f67 _ _ hM10.inW Arq crq (rq) (hrq.up hM10.le) (y) (hy)) (fun v14 V15 w16 le17 hM18 hp19 => ?_)
    obtain rfl := hp19
    refine wpF_seg 2 (by kernel_rfl) ?_
    refine wpF_end _ (by kernel_rfl) (then_n (hK12 _ _ ?_))
    refine wp_ret ?_
    refine retN [.bool (spB (rq) (y))] (.bool (spB (rq) (y))) Try.results68 (.tmp (by kernel_rfl) (by kernel_rfl) .nil) (by kernel_rfl) (hRet _ _ ⟨_, _, rfl, hM18.clear, ?_⟩)
    -- end f
    simp only [cvB, h13, Bool.true_or, Bool.or_true, Bool.false_or, Bool.or_false, Bool.true_and, Bool.and_true, Bool.false_and, Bool.and_false, Bool.not_true, Bool.not_false]

set_option maxHeartbeats 4000000 in
set_option maxRecDepth 100000 in
theorem f25 (V : VT) (w : World) (hV : V.inW w) (Ark : Option Addr) (crk : Nat) (rk : List Str) (hrk : Rd strK V Ark crk rk) (Arq : Option Addr) (crq : Nat) (rq : List ((Str × Str))) (hrq : Rd (prK strK strK) V Arq crq rq) (y : Str) (hy : y.length ≤ maxL) :
    Calls Try.prog 25 #[.agg #[.slice Ark (rk).length crk, .slice Arq (rq).length crq], bs (y)] w (RetP V w fun rv V' => rv = .bool (coB rk rq y)) := by
  have mxrk : rk.length ≤ 140737488355328 := hrk.max
  have mxrq : rq.length ≤ 140737488355328 := hrq.max
  have mxy : y.length ≤ 140737488355328 := hy
  refine calls_env (n := 13) Try.func25 (c := _) rfl Try.ntmps25 (by kernel_rfl) (fun R hRet => ?_)
  have hM0 : Step V w [] V w [] := Step.refl (St.nilE hV)
  refine wp_seq_k (fun K1 hK1 => ?_)
  refine wp_reg ?_
  refine wpF_box hM0 #[.slice Ark (rk).length crk, .slice Arq (rq).length crq] (h := (by kernel_rfl : opAt _ _ _ _ _ = some (.box 25 (.tmp 0), some 2))) (by kernel_rfl) (fun b2 w3 hM4 => ?_)
  refine wpF_seg 1 (by kernel_rfl) ?_
  refine wpF_end _ (by kernel_rfl) (then_n (hK1 _ _ ?_))
  refine wp_seq_k (fun K5 hK5 => ?_)
  refine wp_reg ?_
  refine gF hM4 (.load 25 (.tmp 2)) (some 5) (by kernel_rfl) (Y_load 0 rfl (off := 0) (by kernel_rfl) (.agg #[.slice Ark (rk).length crk, .slice Arq (rq).length crq]) (by kernel_rfl)) ?_
  refine wpF_callP hM4 (f := 22) (caps := #[]) (h := (by kernel_rfl : opAt _ _ _ _ _ = some (.call (.mk (.value (.func 22)) #[(.tmp 5)] #[25]), some 6))) (by kernel_rfl) (by kernel_rfl) (by kernel_rfl) (f22 _ _ hM4.inW Ark crk (rk) hrk Arq crq (rq) hrq) (fun v6 V7 w8 le9 hM10 hp11 => ?_)
  obtain rfl := hp11
  refine wpF_seg 2 (by kernel_rfl) ?_
  refine wpF_caseB 8 (decide ((chkM (rk) (rq)) = (0))) (by kernel_rfl) (by kernel_rfl) (fun h12 => ?_) (fun h12 => ?_)
  · -- t
    have p13 : ((chkM (rk) (rq)) = (0)) := of_decide_eq_true h12
    have hr := chk_0 (by assumption : chkM rk rq = 0)
    refine gF hM10 (.load 25 (.tmp 2)) (some 9) (by kernel_rfl) (Y_load 0 rfl (off := 0) (by kernel_rfl) (.agg #[.slice Ark (rk).length crk, .slice Arq (rq).length crq]) (by kernel_rfl)) ?_
    refine wpF_seg 1 (by kernel_rfl) ?_
    refine wpF_callP hM10 (f := 68) (caps := #[]) (h := (by kernel_rfl : opAt _ _ _ _ _ = some (.call (.mk (.value (.func 68)) #[(.tmp 9), (.tmp 10)] #[25, 9]), some 11))) (by kernel_rfl) (by kernel_rfl) (by kernel_rfl) (f68 _ _ hM10.inW Ark crk (rk) (hrk.up hM10.le) Arq crq (rq) (hrq.up hM10.le) (y) (hy)) (fun v14 V15 w16 le17 hM18 hp19 => ?_)
    obtain rfl := hp19
    refine wpF_seg 2 (by kernel_rfl) ?_
    refine wpF_end _ (by kernel_rfl) (then_n (hK5 _ _ ?_))
    refine wp_ret ?_
    refine retN [.bool (cvB (rk) (rq) (y))] (.bool (cvB (rk) (rq) (y))) Try.results25 (.tmp (by kernel_rfl) (by kernel_rfl) .nil) (by kernel_rfl) (hRet _ _ ⟨_, _, rfl, hM18.clear, ?_⟩)
    -- end t
    simp only [coB, hr, Bool.true_and, Bool.false_and]
  · -- f
    have p20 : ¬ ((chkM (rk) (rq)) = (0)) := of_decide_eq_false h12
    have hr := (chk_n (by assumption : ¬ chkM rk rq = 0)).1
    refine wpF_seg 5 (by kernel_rfl) ?_
    refine wpF_end _ (by kernel_rfl) (then_n (hK5 _ _ ?_))
    refine wp_ret ?_
    refine retN [.bool (false)] (.bool (false)) Try.results25 (.tmp (by kernel_rfl) (by kernel_rfl) .nil) (by kernel_rfl) (hRet _ _ ⟨_, _, rfl, hM10.clear, ?_⟩)
    -- end f
    simp only [coB, hr, Bool.true_and, Bool.false_and]

set_option maxHeartbeats 4000000 in
set_option maxRecDepth 100000 in
theorem f71 (V : VT) (w : World) (hV : V.inW w) (cK : Str) (hcK : cK.length ≤ maxL) (cV : Str) (hcV : cV.length ≤ maxL) (cD : Bool) (Ark : Option Addr) (crk : Nat) (rk : List Str) (hrk : Rd strK V Ark crk rk) (Arq : Option Addr) (crq : Nat) (rq : List ((Str × Str))) (hrq : Rd (prK strK strK) V Arq crq rq) (br : Nat) (hbr : ∀ i_ v_, (#[.slice Ark (rk).length crk, .slice Arq (rq).length crq] : Array Value)[i_]? = some v_ → V br i_ = some v_) :
    Calls Try.prog 71 #[.agg #[bs (cK), bs (cV), .bool (cD)], .pointer (some ⟨br, 0, none⟩)] w (RetP V w fun rv V' => rv = .bool (cvB rk rq cK)) := by
  have mxcK : cK.length ≤ 140737488355328 := hcK
  have mxcV : cV.length ≤ 140737488355328 := hcV
  have mxrk : rk.length ≤ 140737488355328 := hrk.max
  have mxrq : rq.length ≤ 140737488355328 := hrq.max
  refine calls_env (n := 8) Try.func71 (c := _) rfl Try.ntmps71 (by kernel_rfl) (fun R hRet => ?_)
  have hM0 : Step V w [] V w [] := Step.refl (St.nilE hV)
  refine wp_seq_k (fun K1 hK1 => ?_)
  refine wp_reg ?_
  refine wpF_box hM0 #[bs (cK), bs (cV), .bool (cD)] (h := (by kernel_rfl : opAt _ _ _ _ _ = some (.box 105 (.tmp 0), some 2))) (by kernel_rfl) (fun b2 w3 hM4 => ?_)
  refine wpF_seg 1 (by kernel_rfl) ?_
  refine wpF_end _ (by kernel_rfl) (then_n (hK1 _ _ ?_))
  refine wp_seq_k (fun K5 hK5 => ?_)
  refine wp_reg ?_
  refine gF hM4 (.load 25 (.tmp 1)) (some 4) (by kernel_rfl) (Y_loadB #[.slice Ark (rk).length crk, .slice Arq (rq).length crq] hbr (off := 0) (by kernel_rfl) (.agg #[.slice Ark (rk).length crk, .slice Arq (rq).length crq]) (by kernel_rfl)) ?_
  refine wpF_seg 1 (by kernel_rfl) ?_
  refine gF hM4 (.load 9 (.tmp 5)) (some 6) (by kernel_rfl) (Y_load 0 rfl (off := 0) (by kernel_rfl) (bs (cK)) (by kernel_rfl)) ?_
  refine wpF_callP hM4 (f := 68) (caps := #[]) (h := (by kernel_rfl : opAt _ _ _ _ _ = some (.call (.mk (.value (.func 68)) #[(.tmp 4), (.tmp 6)] #[25, 9]), some 7))) (by kernel_rfl) (by kernel_rfl) (by kernel_rfl) (f68 _ _ hM4.inW Ark crk (rk) hrk Arq crq (rq) hrq (cK) (hcK)) (fun v6 V7 w8 le9 hM10 hp11 => ?_)
  obtain rfl := hp11
  refine wpF_seg 1 (by kernel_rfl) ?_
  refine wpF_end _ (by kernel_rfl) (then_n (hK5 _ _ ?_))
  refine wp_ret ?_
  refine retN [.bool (cvB (rk) (rq) (cK))] (.bool (cvB (rk) (rq) (cK))) Try.results71 (.tmp (by kernel_rfl) (by kernel_rfl) .nil) (by kernel_rfl) (hRet _ _ ⟨_, _, rfl, hM10.clear, ?_⟩)
  -- end 
  rfl

set_option maxHeartbeats 4000000 in
set_option maxRecDepth 100000 in
theorem f27 (V : VT) (w : World) (hV : V.inW w) (Ark : Option Addr) (crk : Nat) (rk : List Str) (hrk : Rd strK V Ark crk rk) (Arq : Option Addr) (crq : Nat) (rq : List ((Str × Str))) (hrq : Rd (prK strK strK) V Arq crq rq) (Al : Option Addr) (cl : Nat) (l : List ((Str × Str × Bool))) (hl : Rd (prK strK (prK strK boolK)) V Al cl l) :
    Calls Try.prog 27 #[.agg #[.slice Ark (rk).length crk, .slice Arq (rq).length crq], .slice Al (l).length cl] w (RetP V w fun rv V' => rv = .bool (hitB rk rq l)) := by
  have mxrk : rk.length ≤ 140737488355328 := hrk.max
  have mxrq : rq.length ≤ 140737488355328 := hrq.max
  have mxl : l.length ≤ 140737488355328 := hl.max
  refine calls_env (n := 13) Try.func27 (c := _) rfl Try.ntmps27 (by kernel_rfl) (fun R hRet => ?_)
  have hM0 : Step V w [] V w [] := Step.refl (St.nilE hV)
  refine wp_seq_k (fun K1 hK1 => ?_)
  refine wp_reg ?_
  refine wpF_box hM0 #[.slice Ark (rk).length crk, .slice Arq (rq).length crq] (h := (by kernel_rfl : opAt _ _ _ _ _ = some (.box 25 (.tmp 0), some 2))) (by kernel_rfl) (fun b2 w3 hM4 => ?_)
  refine wpF_seg 1 (by kernel_rfl) ?_
  refine wpF_end _ (by kernel_rfl) (then_n (hK1 _ _ ?_))
  refine wp_seq_k (fun K5 hK5 => ?_)
  refine wp_reg ?_
  refine gF hM4 (.load 25 (.tmp 2)) (some 5) (by kernel_rfl) (Y_load 0 rfl (off := 0) (by kernel_rfl) (.agg #[.slice Ark (rk).length crk, .slice Arq (rq).length crq]) (by kernel_rfl)) ?_
  refine wpF_callP hM4 (f := 22) (caps := #[]) (h := (by kernel_rfl : opAt _ _ _ _ _ = some (.call (.mk (.value (.func 22)) #[(.tmp 5)] #[25]), some 6))) (by kernel_rfl) (by kernel_rfl) (by kernel_rfl) (f22 _ _ hM4.inW Ark crk (rk) hrk Arq crq (rq) hrq) (fun v6 V7 w8 le9 hM10 hp11 => ?_)
  obtain rfl := hp11
  refine wpF_seg 2 (by kernel_rfl) ?_
  refine wpF_caseB 8 (decide ((chkM (rk) (rq)) = (0))) (by kernel_rfl) (by kernel_rfl) (fun h12 => ?_) (fun h12 => ?_)
  · -- t
    have p13 : ((chkM (rk) (rq)) = (0)) := of_decide_eq_true h12
    have hr := chk_0 (by assumption : chkM rk rq = 0)
    refine wpF_seg 1 (by kernel_rfl) ?_
    obtain ⟨V14, le15, hM16, hc17⟩ := hM10.settle 0 rfl
    have hM18 : Step V w [] V14 _ ([]) := hM16
    refine wpF_seg 1 (by kernel_rfl) ?_
    refine wpF_callP hM18 (f := 70) (caps := #[]) (h := (by kernel_rfl : opAt _ _ _ _ _ = some (.call (.mk (.value (.func 70)) #[(.tmp 9), (.tmp 10)] #[45, 120]), some 11))) (by kernel_rfl) (by kernel_rfl) (by kernel_rfl) (f70 _ _ hM18.inW 71 #[.pointer (some ⟨b2, 0, none⟩)] (by kernel_rfl) (fun (y_ : (Str × Str × Bool)) => cvB (rk) (rq) y_.1) Al cl (l) (hl.up hM18.le) (fun V_ w_ l_ i_ j_ hj_ h_ => f71 V_ w_ i_ ((l).getD j_ ([], [], false)).1 h_.1 ((l).getD j_ ([], [], false)).2.1 h_.2 ((l).getD j_ ([], [], false)).2.2 Ark crk (rk) ((hrk.up hM18.le).up l_) Arq crq (rq) ((hrq.up hM18.le).up l_) b2 (fun i_ v_ hi_ => l_ _ _ _ (hc17 i_ v_ hi_)))) (fun v19 V20 w21 le22 hM23 hp24 => ?_)
    obtain rfl := hp24
    refine wpF_seg 2 (by kernel_rfl) ?_
    refine wpF_end _ (by kernel_rfl) (then_n (hK5 _ _ ?_))
    refine wp_ret ?_
    refine retN [.bool ((l).any (fun (y_ : (Str × Str × Bool)) => cvB (rk) (rq) y_.1))] (.bool ((l).any (fun (y_ : (Str × Str × Bool)) => cvB (rk) (rq) y_.1))) Try.results27 (.tmp (by kernel_rfl) (by kernel_rfl) .nil) (by kernel_rfl) (hRet _ _ ⟨_, _, rfl, hM23.clear, ?_⟩)
    -- end t
    simp only [hitB, hr, Bool.true_and, Bool.false_and]
  · -- f
    have p25 : ¬ ((chkM (rk) (rq)) = (0)) := of_decide_eq_false h12
    have hr := (chk_n (by assumption : ¬ chkM rk rq = 0)).1
    refine wpF_seg 5 (by kernel_rfl) ?_
    refine wpF_end _ (by kernel_rfl) (then_n (hK5 _ _ ?_))
    refine wp_ret ?_
    refine retN [.bool (false)] (.bool (false)) Try.results27 (.tmp (by kernel_rfl) (by kernel_rfl) .nil) (by kernel_rfl) (hRet _ _ ⟨_, _, rfl, hM10.clear, ?_⟩)
    -- end f
    simp only [hitB, hr, Bool.true_and, Bool.false_and]

end Go.Vk
