/- Contracts of the second seat's functions, part N: printed by wip/tools/st.py. -/
import Derived.Test.YtnibbocbefnnnaaRC
import Derived.Test.YtnibbocbefnnnaaRE
import Derived.Test.YtnibbocbefnnnaaRH
import Derived.Test.YtnibbocbefnnnaaRI
import Derived.Test.YtnibbocbefnnnaaRK
import Derived.Test.YtnibbocbefnnnaaRMathb
set_option linter.unusedVariables false
set_option linter.unusedSimpArgs false
namespace Go.Vk
open Go.Proofs
set_option maxHeartbeats 4000000 in
set_option maxRecDepth 100000 in
theorem f5 (V : VT) (w : World) (hV : V.inW w) (Ark : Option Addr) (crk : Nat) (rk : List Str) (hrk : Rd strK V Ark crk rk) (Arq : Option Addr) (crq : Nat) (rq : List ((Str × Str))) (hrq : Rd (prK strK strK) V Arq crq rq) (aF : Str) (haF : aF.length ≤ maxL) (aT : Str) (haT : aT.length ≤ maxL) (bF : Str) (hbF : bF.length ≤ maxL) (bT : Str) (hbT : bT.length ≤ maxL) (j : Str) (hj : j.length ≤ maxL) (k : Str) (hk : k.length ≤ maxL) :
    Calls Try.prog 5 #[.agg #[.slice Ark (rk).length crk, .slice Arq (rq).length crq], .agg #[bs (aF), bs (aT)], .agg #[bs (bF), bs (bT)], bs (j), bs (k)] w (RetP V w fun rv V' => rv = .bool (true)) := by
  have mxrk : rk.length ≤ 140737488355328 := hrk.max
  have mxrq : rq.length ≤ 140737488355328 := hrq.max
  have mxaF : aF.length ≤ 140737488355328 := haF
  have mxaT : aT.length ≤ 140737488355328 := haT
  have mxbF : bF.length ≤ 140737488355328 := hbF
  have mxbT : bT.length ≤ 140737488355328 := hbT
  have mxj : j.length ≤ 140737488355328 := hj
  have mxk : k.length ≤ 140737488355328 := hk
  refine calls_env (n := 174) Try.func5 (c := _) rfl Try.ntmps5 (by kernel_rfl) (fun R hRet => ?_)
  have hM0 : Step V w [] V w [] := Step.refl (St.nilE hV)
  refine wp_seq_k (fun K1 hK1 => ?_)
  refine wp_reg ?_
  refine wpF_box hM0 #[.slice Ark (rk).length crk, .slice Arq (rq).length crq] (h := (by kernel_rfl : opAt _ _ _ _ _ = some (.box 25 (.tmp 0), some 5))) (by kernel_rfl) (fun b2 w3 hM4 => ?_)
  refine wpF_box hM4 #[bs (aF), bs (aT)] (h := (by kernel_rfl : opAt _ _ _ _ _ = some (.box 40 (.tmp 1), some 6))) (by kernel_rfl) (fun b5 w6 hM7 => ?_)
  refine wpF_box hM7 #[bs (bF), bs (bT)] (h := (by kernel_rfl : opAt _ _ _ _ _ = some (.box 40 (.tmp 2), some 7))) (by kernel_rfl) (fun b8 w9 hM10 => ?_)
  refine wpF_seg 1 (by kernel_rfl) ?_
  refine wpF_end _ (by kernel_rfl) (then_n (hK1 _ _ ?_))
  refine wp_seq_k (fun K11 hK11 => ?_)
  refine wp_seq_k (fun K12 hK12 => ?_)
  refine wp_reg ?_
  refine wpF_seg 1 (by kernel_rfl) ?_
  refine gF hM10 (.load 22 (.tmp 22)) (some 23) (by kernel_rfl) (Y_load 2 rfl (off := 0) (by kernel_rfl) (.slice Ark (rk).length crk) (by kernel_rfl)) ?_
  refine wpF_seg 3 (by kernel_rfl) ?_
  refine wpF_caseB 26 (decide ((40) < ((rk.length : Int)))) (by kernel_rfl) (by kernel_rfl) (fun h13 => ?_) (fun h13 => ?_)
  · -- t
    have p14 : ((40) < ((rk.length : Int))) := of_decide_eq_true h13
    refine wpF_seg 10 (by kernel_rfl) ?_
    refine wpF_end _ (by kernel_rfl) (then_n (hK12 _ _ ?_))
    refine wp_ct (by kernel_rfl) ?_
    refine wp_seq_k (fun K15 hK15 => ?_)
    refine wp_reg ?_
    refine wpF_callP hM10 (f := 16) (caps := #[]) (h := (by kernel_rfl : opAt _ _ _ _ _ = some (.call (.mk (.value (.func 16)) #[] #[]), some 37))) (by kernel_rfl) (by kernel_rfl) (by kernel_rfl) (f16 _ _ hM10.inW ) (fun v16 V17 w18 le19 hM20 hp21 => ?_)
    obtain rfl := hp21
    refine wpF_seg 1 (by kernel_rfl) ?_
    refine wpF_end _ (by kernel_rfl) (then_n (hK15 _ _ ?_))
    refine wp_ret (then_r (?_))
    refine retN [.bool (true)] (.bool (true)) Try.results5 (.tmp (by kernel_rfl) (by kernel_rfl) .nil) (by kernel_rfl) (hRet _ _ ⟨_, _, rfl, hM20.clear, ?_⟩)
    -- end t
    rfl
  · -- f
    have p22 : ¬ ((40) < ((rk.length : Int))) := of_decide_eq_false h13
    refine wpF_seg 1 (by kernel_rfl) ?_
    refine gF hM10 (.load 23 (.tmp 27)) (some 28) (by kernel_rfl) (Y_load 2 rfl (off := 1) (by kernel_rfl) (.slice Arq (rq).length crq) (by kernel_rfl)) ?_
    refine wpF_seg 4 (by kernel_rfl) ?_
    refine wpF_caseB 32 (decide ((40) < ((rq.length : Int)))) (by kernel_rfl) (by kernel_rfl) (fun h23 => ?_) (fun h23 => ?_)
    · -- ft
      have p24 : ((40) < ((rq.length : Int))) := of_decide_eq_true h23
      refine wpF_seg 4 (by kernel_rfl) ?_
      refine wpF_end _ (by kernel_rfl) (then_n (hK12 _ _ ?_))
      refine wp_ct (by kernel_rfl) ?_
      refine wp_seq_k (fun K25 hK25 => ?_)
      refine wp_reg ?_
      refine wpF_callP hM10 (f := 16) (caps := #[]) (h := (by kernel_rfl : opAt _ _ _ _ _ = some (.call (.mk (.value (.func 16)) #[] #[]), some 37))) (by kernel_rfl) (by kernel_rfl) (by kernel_rfl) (f16 _ _ hM10.inW ) (fun v26 V27 w28 le29 hM30 hp31 => ?_)
      obtain rfl := hp31
      refine wpF_seg 1 (by kernel_rfl) ?_
      refine wpF_end _ (by kernel_rfl) (then_n (hK25 _ _ ?_))
      refine wp_ret (then_r (?_))
      refine retN [.bool (true)] (.bool (true)) Try.results5 (.tmp (by kernel_rfl) (by kernel_rfl) .nil) (by kernel_rfl) (hRet _ _ ⟨_, _, rfl, hM30.clear, ?_⟩)
      -- end ft
      rfl
    · -- ff
      have p32 : ¬ ((40) < ((rq.length : Int))) := of_decide_eq_false h23
      refine gF hM10 (.load 25 (.tmp 5)) (some 33) (by kernel_rfl) (Y_load 2 rfl (off := 0) (by kernel_rfl) (.agg #[.slice Ark (rk).length crk, .slice Arq (rq).length crq]) (by kernel_rfl)) ?_
      refine wpF_callP hM10 (f := 22) (caps := #[]) (h := (by kernel_rfl : opAt _ _ _ _ _ = some (.call (.mk (.value (.func 22)) #[(.tmp 33)] #[25]), some 34))) (by kernel_rfl) (by kernel_rfl) (by kernel_rfl) (f22 _ _ hM10.inW Ark crk (rk) hrk Arq crq (rq) hrq) (fun v33 V34 w35 le36 hM37 hp38 => ?_)
      obtain rfl := hp38
      refine wpF_seg 2 (by kernel_rfl) ?_
      refine wpF_end _ (by kernel_rfl) (then_n (hK12 _ _ ?_))
      refine wp_if (!(decide ((chkM (rk) (rq)) = (0)))) (by kernel_rfl) (fun h39 => ?_) (fun h39 => ?_)
      · -- fft
        have h40 : decide ((chkM (rk) (rq)) = (0)) = false := by rw [← Bool.not_not (decide _), h39]; rfl
        have p41 : ¬ ((chkM (rk) (rq)) = (0)) := of_decide_eq_false h40
        refine wp_seq_k (fun K42 hK42 => ?_)
        refine wp_reg ?_
        refine wpF_callP hM37 (f := 16) (caps := #[]) (h := (by kernel_rfl : opAt _ _ _ _ _ = some (.call (.mk (.value (.func 16)) #[] #[]), some 37))) (by kernel_rfl) (by kernel_rfl) (by kernel_rfl) (f16 _ _ hM37.inW ) (fun v43 V44 w45 le46 hM47 hp48 => ?_)
        obtain rfl := hp48
        refine wpF_seg 1 (by kernel_rfl) ?_
        refine wpF_end _ (by kernel_rfl) (then_n (hK42 _ _ ?_))
        refine wp_ret (then_r (?_))
        refine retN [.bool (true)] (.bool (true)) Try.results5 (.tmp (by kernel_rfl) (by kernel_rfl) .nil) (by kernel_rfl) (hRet _ _ ⟨_, _, rfl, hM47.clear, ?_⟩)
        -- end fft
        rfl
      · -- fff
        have h49 : decide ((chkM (rk) (rq)) = (0)) = true := by rw [← Bool.not_not (decide _), h39]; rfl
        have p50 : ((chkM (rk) (rq)) = (0)) := of_decide_eq_true h49
        have hr := chk_0 (by assumption : chkM rk rq = 0)
        have hso := spans_order hr (by omega) aF aT bF bT
        have hko := keys_order hr (by omega) j k
        refine wp_skip (then_n (hK11 _ _ ?_))
        refine wp_seq_k (fun K51 hK51 => ?_)
        refine wp_reg ?_
        refine gF hM37 (.load 25 (.tmp 5)) (some 39) (by kernel_rfl) (Y_load 2 rfl (off := 0) (by kernel_rfl) (.agg #[.slice Ark (rk).length crk, .slice Arq (rq).length crq]) (by kernel_rfl)) ?_
        refine wpF_seg 1 (by kernel_rfl) ?_
        refine gF hM37 (.load 9 (.tmp 40)) (some 41) (by kernel_rfl) (Y_load 1 rfl (off := 0) (by kernel_rfl) (bs (aF)) (by kernel_rfl)) ?_
        refine wpF_seg 1 (by kernel_rfl) ?_
        refine gF hM37 (.load 9 (.tmp 42)) (some 43) (by kernel_rfl) (Y_load 1 rfl (off := 1) (by kernel_rfl) (bs (aT)) (by kernel_rfl)) ?_
        refine wpF_callP hM37 (f := 20) (caps := #[]) (h := (by kernel_rfl : opAt _ _ _ _ _ = some (.call (.mk (.value (.func 20)) #[(.tmp 39), (.tmp 41), (.tmp 43)] #[25, 9, 9]), some 44))) (by kernel_rfl) (by kernel_rfl) (by kernel_rfl) (f20 _ _ hM37.inW Ark crk (rk) (hrk.up hM37.le) Arq crq (rq) (hrq.up hM37.le) (aF) (haF) (aT) (haT)) (fun v52 V53 w54 le55 hM56 hp57 => ?_)
        obtain ⟨Ar57_1, cr57_1, Ar57_2, cr57_2, rfl, r58, r59⟩ := hp57
        have l60 : (snK (rk) (rq) (aF) (aT)).length ≤ 140737488355328 := r58.max
        have l61 : (snQ (rk) (rq) (aF) (aT)).length ≤ 140737488355328 := r59.max
        refine wpF_seg 3 (by kernel_rfl) ?_
        refine wpF_alloc hM56 #[.slice none 0 0, .slice none 0 0] (h := (by kernel_rfl : opAt _ _ _ _ _ = some (.alloc 25, some 11))) (by kernel_rfl) (fun b62 w63 hM64 => ?_)
        refine wpF_store hM64 0 rfl (h := (by kernel_rfl : opAt _ _ _ _ _ = some (.store 25 (.tmp 11) (.tmp 45), none))) (off := 0) (by kernel_rfl) #[.slice Ar57_1 (snK (rk) (rq) (aF) (aT)).length cr57_1, .slice Ar57_2 (snQ (rk) (rq) (aF) (aT)).length cr57_2] (by kernel_rfl) (by kernel_rfl) (by kernel_rfl) (by kernel_rfl) (fun w66 hM65 => ?_)
        have hM67 : Step V w [] V53 _ ([.blk b62 (.cells #[.slice Ar57_1 (snK (rk) (rq) (aF) (aT)).length cr57_1, .slice Ar57_2 (snQ (rk) (rq) (aF) (aT)).length cr57_2] 25), .blk b8 (.cells #[bs (bF), bs (bT)] 40), .blk b5 (.cells #[bs (aF), bs (aT)] 40), .blk b2 (.cells #[.slice Ark (rk).length crk, .slice Arq (rq).length crq] 25)]) := hM65
        refine wpF_seg 1 (by kernel_rfl) ?_
        refine wpF_end _ (by kernel_rfl) (then_n (hK51 _ _ ?_))
        refine wp_seq_k (fun K68 hK68 => ?_)
        refine wp_reg ?_
        refine gF hM67 (.load 25 (.tmp 11)) (some 48) (by kernel_rfl) (Y_load 0 rfl (off := 0) (by kernel_rfl) (.agg #[.slice Ar57_1 (snK (rk) (rq) (aF) (aT)).length cr57_1, .slice Ar57_2 (snQ (rk) (rq) (aF) (aT)).length cr57_2]) (by kernel_rfl)) ?_
        refine wpF_seg 1 (by kernel_rfl) ?_
        refine gF hM67 (.load 9 (.tmp 49)) (some 50) (by kernel_rfl) (Y_load 1 rfl (off := 0) (by kernel_rfl) (bs (bF)) (by kernel_rfl)) ?_
        refine wpF_seg 1 (by kernel_rfl) ?_
        refine gF hM67 (.load 9 (.tmp 51)) (some 52) (by kernel_rfl) (Y_load 1 rfl (off := 1) (by kernel_rfl) (bs (bT)) (by kernel_rfl)) ?_
        refine wpF_callP hM67 (f := 20) (caps := #[]) (h := (by kernel_rfl : opAt _ _ _ _ _ = some (.call (.mk (.value (.func 20)) #[(.tmp 48), (.tmp 50), (.tmp 52)] #[25, 9, 9]), some 53))) (by kernel_rfl) (by kernel_rfl) (by kernel_rfl) (f20 _ _ hM67.inW Ar57_1 cr57_1 (snK (rk) (rq) (aF) (aT)) r58 Ar57_2 cr57_2 (snQ (rk) (rq) (aF) (aT)) r59 (bF) (hbF) (bT) (hbT)) (fun v69 V70 w71 le72 hM73 hp74 => ?_)
        obtain ⟨Ar74_1, cr74_1, Ar74_2, cr74_2, rfl, r75, r76⟩ := hp74
        have l77 : (snK (snK (rk) (rq) (aF) (aT)) (snQ (rk) (rq) (aF) (aT)) (bF) (bT)).length ≤ 140737488355328 := r75.max
        have l78 : (snQ (snK (rk) (rq) (aF) (aT)) (snQ (rk) (rq) (aF) (aT)) (bF) (bT)).length ≤ 140737488355328 := r76.max
        refine wpF_seg 3 (by kernel_rfl) ?_
        refine wpF_store hM73 0 rfl (h := (by kernel_rfl : opAt _ _ _ _ _ = some (.store 25 (.tmp 11) (.tmp 54), none))) (off := 0) (by kernel_rfl) #[.slice Ar74_1 (snK (snK (rk) (rq) (aF) (aT)) (snQ (rk) (rq) (aF) (aT)) (bF) (bT)).length cr74_1, .slice Ar74_2 (snQ (snK (rk) (rq) (aF) (aT)) (snQ (rk) (rq) (aF) (aT)) (bF) (bT)).length cr74_2] (by kernel_rfl) (by kernel_rfl) (by kernel_rfl) (by kernel_rfl) (fun w80 hM79 => ?_)
        have hM81 : Step V w [] V70 _ ([.blk b62 (.cells #[.slice Ar74_1 (snK (snK (rk) (rq) (aF) (aT)) (snQ (rk) (rq) (aF) (aT)) (bF) (bT)).length cr74_1, .slice Ar74_2 (snQ (snK (rk) (rq) (aF) (aT)) (snQ (rk) (rq) (aF) (aT)) (bF) (bT)).length cr74_2] 25), .blk b8 (.cells #[bs (bF), bs (bT)] 40), .blk b5 (.cells #[bs (aF), bs (aT)] 40), .blk b2 (.cells #[.slice Ark (rk).length crk, .slice Arq (rq).length crq] 25)]) := hM79
        refine wpF_seg 1 (by kernel_rfl) ?_
        refine wpF_end _ (by kernel_rfl) (then_n (hK68 _ _ ?_))
        refine wp_seq_k (fun K82 hK82 => ?_)
        refine wp_reg ?_
        refine gF hM81 (.load 25 (.tmp 5)) (some 57) (by kernel_rfl) (Y_load 3 rfl (off := 0) (by kernel_rfl) (.agg #[.slice Ark (rk).length crk, .slice Arq (rq).length crq]) (by kernel_rfl)) ?_
        refine wpF_seg 1 (by kernel_rfl) ?_
        refine gF hM81 (.load 9 (.tmp 58)) (some 59) (by kernel_rfl) (Y_load 1 rfl (off := 0) (by kernel_rfl) (bs (bF)) (by kernel_rfl)) ?_
        refine wpF_seg 1 (by kernel_rfl) ?_
        refine gF hM81 (.load 9 (.tmp 60)) (some 61) (by kernel_rfl) (Y_load 1 rfl (off := 1) (by kernel_rfl) (bs (bT)) (by kernel_rfl)) ?_
        refine wpF_callP hM81 (f := 20) (caps := #[]) (h := (by kernel_rfl : opAt _ _ _ _ _ = some (.call (.mk (.value (.func 20)) #[(.tmp 57), (.tmp 59), (.tmp 61)] #[25, 9, 9]), some 62))) (by kernel_rfl) (by kernel_rfl) (by kernel_rfl) (f20 _ _ hM81.inW Ark crk (rk) (hrk.up hM81.le) Arq crq (rq) (hrq.up hM81.le) (bF) (hbF) (bT) (hbT)) (fun v83 V84 w85 le86 hM87 hp88 => ?_)
        obtain ⟨Ar88_1, cr88_1, Ar88_2, cr88_2, rfl, r89, r90⟩ := hp88
        have l91 : (snK (rk) (rq) (bF) (bT)).length ≤ 140737488355328 := r89.max
        have l92 : (snQ (rk) (rq) (bF) (bT)).length ≤ 140737488355328 := r90.max
        refine wpF_seg 3 (by kernel_rfl) ?_
        refine wpF_alloc hM87 #[.slice none 0 0, .slice none 0 0] (h := (by kernel_rfl : opAt _ _ _ _ _ = some (.alloc 25, some 14))) (by kernel_rfl) (fun b93 w94 hM95 => ?_)
        refine wpF_store hM95 0 rfl (h := (by kernel_rfl : opAt _ _ _ _ _ = some (.store 25 (.tmp 14) (.tmp 63), none))) (off := 0) (by kernel_rfl) #[.slice Ar88_1 (snK (rk) (rq) (bF) (bT)).length cr88_1, .slice Ar88_2 (snQ (rk) (rq) (bF) (bT)).length cr88_2] (by kernel_rfl) (by kernel_rfl) (by kernel_rfl) (by kernel_rfl) (fun w97 hM96 => ?_)
        have hM98 : Step V w [] V84 _ ([.blk b93 (.cells #[.slice Ar88_1 (snK (rk) (rq) (bF) (bT)).length cr88_1, .slice Ar88_2 (snQ (rk) (rq) (bF) (bT)).length cr88_2] 25), .blk b62 (.cells #[.slice Ar74_1 (snK (snK (rk) (rq) (aF) (aT)) (snQ (rk) (rq) (aF) (aT)) (bF) (bT)).length cr74_1, .slice Ar74_2 (snQ (snK (rk) (rq) (aF) (aT)) (snQ (rk) (rq) (aF) (aT)) (bF) (bT)).length cr74_2] 25), .blk b8 (.cells #[bs (bF), bs (bT)] 40), .blk b5 (.cells #[bs (aF), bs (aT)] 40), .blk b2 (.cells #[.slice Ark (rk).length crk, .slice Arq (rq).length crq] 25)]) := hM96
        refine wpF_seg 1 (by kernel_rfl) ?_
        refine wpF_end _ (by kernel_rfl) (then_n (hK82 _ _ ?_))
        refine wp_seq_k (fun K99 hK99 => ?_)
        refine wp_reg ?_
        refine gF hM98 (.load 25 (.tmp 14)) (some 66) (by kernel_rfl) (Y_load 0 rfl (off := 0) (by kernel_rfl) (.agg #[.slice Ar88_1 (snK (rk) (rq) (bF) (bT)).length cr88_1, .slice Ar88_2 (snQ (rk) (rq) (bF) (bT)).length cr88_2]) (by kernel_rfl)) ?_
        refine wpF_seg 1 (by kernel_rfl) ?_
        refine gF hM98 (.load 9 (.tmp 67)) (some 68) (by kernel_rfl) (Y_load 3 rfl (off := 0) (by kernel_rfl) (bs (aF)) (by kernel_rfl)) ?_
        refine wpF_seg 1 (by kernel_rfl) ?_
        refine gF hM98 (.load 9 (.tmp 69)) (some 70) (by kernel_rfl) (Y_load 3 rfl (off := 1) (by kernel_rfl) (bs (aT)) (by kernel_rfl)) ?_
        refine wpF_callP hM98 (f := 20) (caps := #[]) (h := (by kernel_rfl : opAt _ _ _ _ _ = some (.call (.mk (.value (.func 20)) #[(.tmp 66), (.tmp 68), (.tmp 70)] #[25, 9, 9]), some 71))) (by kernel_rfl) (by kernel_rfl) (by kernel_rfl) (f20 _ _ hM98.inW Ar88_1 cr88_1 (snK (rk) (rq) (bF) (bT)) r89 Ar88_2 cr88_2 (snQ (rk) (rq) (bF) (bT)) r90 (aF) (haF) (aT) (haT)) (fun v100 V101 w102 le103 hM104 hp105 => ?_)
        obtain ⟨Ar105_1, cr105_1, Ar105_2, cr105_2, rfl, r106, r107⟩ := hp105
        have l108 : (snK (snK (rk) (rq) (bF) (bT)) (snQ (rk) (rq) (bF) (bT)) (aF) (aT)).length ≤ 140737488355328 := r106.max
        have l109 : (snQ (snK (rk) (rq) (bF) (bT)) (snQ (rk) (rq) (bF) (bT)) (aF) (aT)).length ≤ 140737488355328 := r107.max
        refine wpF_seg 3 (by kernel_rfl) ?_
        refine wpF_store hM104 0 rfl (h := (by kernel_rfl : opAt _ _ _ _ _ = some (.store 25 (.tmp 14) (.tmp 72), none))) (off := 0) (by kernel_rfl) #[.slice Ar105_1 (snK (snK (rk) (rq) (bF) (bT)) (snQ (rk) (rq) (bF) (bT)) (aF) (aT)).length cr105_1, .slice Ar105_2 (snQ (snK (rk) (rq) (bF) (bT)) (snQ (rk) (rq) (bF) (bT)) (aF) (aT)).length cr105_2] (by kernel_rfl) (by kernel_rfl) (by kernel_rfl) (by kernel_rfl) (fun w111 hM110 => ?_)
        have hM112 : Step V w [] V101 _ ([.blk b93 (.cells #[.slice Ar105_1 (snK (snK (rk) (rq) (bF) (bT)) (snQ (rk) (rq) (bF) (bT)) (aF) (aT)).length cr105_1, .slice Ar105_2 (snQ (snK (rk) (rq) (bF) (bT)) (snQ (rk) (rq) (bF) (bT)) (aF) (aT)).length cr105_2] 25), .blk b62 (.cells #[.slice Ar74_1 (snK (snK (rk) (rq) (aF) (aT)) (snQ (rk) (rq) (aF) (aT)) (bF) (bT)).length cr74_1, .slice Ar74_2 (snQ (snK (rk) (rq) (aF) (aT)) (snQ (rk) (rq) (aF) (aT)) (bF) (bT)).length cr74_2] 25), .blk b8 (.cells #[bs (bF), bs (bT)] 40), .blk b5 (.cells #[bs (aF), bs (aT)] 40), .blk b2 (.cells #[.slice Ark (rk).length crk, .slice Arq (rq).length crq] 25)]) := hM110
        refine wpF_seg 1 (by kernel_rfl) ?_
        refine wpF_end _ (by kernel_rfl) (then_n (hK99 _ _ ?_))
        refine wp_seq_k (fun K113 hK113 => ?_)
        refine wp_reg ?_
        refine gF hM112 (.load 25 (.tmp 11)) (some 75) (by kernel_rfl) (Y_load 1 rfl (off := 0) (by kernel_rfl) (.agg #[.slice Ar74_1 (snK (snK (rk) (rq) (aF) (aT)) (snQ (rk) (rq) (aF) (aT)) (bF) (bT)).length cr74_1, .slice Ar74_2 (snQ (snK (rk) (rq) (aF) (aT)) (snQ (rk) (rq) (aF) (aT)) (bF) (bT)).length cr74_2]) (by kernel_rfl)) ?_
        refine wpF_seg 1 (by kernel_rfl) ?_
        refine gF hM112 (.load 9 (.tmp 76)) (some 77) (by kernel_rfl) (Y_load 3 rfl (off := 0) (by kernel_rfl) (bs (aF)) (by kernel_rfl)) ?_
        refine wpF_seg 1 (by kernel_rfl) ?_
        refine gF hM112 (.load 9 (.tmp 78)) (some 79) (by kernel_rfl) (Y_load 3 rfl (off := 1) (by kernel_rfl) (bs (aT)) (by kernel_rfl)) ?_
        refine wpF_callP hM112 (f := 20) (caps := #[]) (h := (by kernel_rfl : opAt _ _ _ _ _ = some (.call (.mk (.value (.func 20)) #[(.tmp 75), (.tmp 77), (.tmp 79)] #[25, 9, 9]), some 80))) (by kernel_rfl) (by kernel_rfl) (by kernel_rfl) (f20 _ _ hM112.inW Ar74_1 cr74_1 (snK (snK (rk) (rq) (aF) (aT)) (snQ (rk) (rq) (aF) (aT)) (bF) (bT)) (r75.up (le86.trans le103)) Ar74_2 cr74_2 (snQ (snK (rk) (rq) (aF) (aT)) (snQ (rk) (rq) (aF) (aT)) (bF) (bT)) (r76.up (le86.trans le103)) (aF) (haF) (aT) (haT)) (fun v114 V115 w116 le117 hM118 hp119 => ?_)
        obtain ⟨Ar119_1, cr119_1, Ar119_2, cr119_2, rfl, r120, r121⟩ := hp119
        have l122 : (snK (snK (snK (rk) (rq) (aF) (aT)) (snQ (rk) (rq) (aF) (aT)) (bF) (bT)) (snQ (snK (rk) (rq) (aF) (aT)) (snQ (rk) (rq) (aF) (aT)) (bF) (bT)) (aF) (aT)).length ≤ 140737488355328 := r120.max
        have l123 : (snQ (snK (snK (rk) (rq) (aF) (aT)) (snQ (rk) (rq) (aF) (aT)) (bF) (bT)) (snQ (snK (rk) (rq) (aF) (aT)) (snQ (rk) (rq) (aF) (aT)) (bF) (bT)) (aF) (aT)).length ≤ 140737488355328 := r121.max
        refine wpF_seg 3 (by kernel_rfl) ?_
        refine wpF_alloc hM118 #[.slice none 0 0, .slice none 0 0] (h := (by kernel_rfl : opAt _ _ _ _ _ = some (.alloc 25, some 17))) (by kernel_rfl) (fun b124 w125 hM126 => ?_)
        refine wpF_store hM126 0 rfl (h := (by kernel_rfl : opAt _ _ _ _ _ = some (.store 25 (.tmp 17) (.tmp 81), none))) (off := 0) (by kernel_rfl) #[.slice Ar119_1 (snK (snK (snK (rk) (rq) (aF) (aT)) (snQ (rk) (rq) (aF) (aT)) (bF) (bT)) (snQ (snK (rk) (rq) (aF) (aT)) (snQ (rk) (rq) (aF) (aT)) (bF) (bT)) (aF) (aT)).length cr119_1, .slice Ar119_2 (snQ (snK (snK (rk) (rq) (aF) (aT)) (snQ (rk) (rq) (aF) (aT)) (bF) (bT)) (snQ (snK (rk) (rq) (aF) (aT)) (snQ (rk) (rq) (aF) (aT)) (bF) (bT)) (aF) (aT)).length cr119_2] (by kernel_rfl) (by kernel_rfl) (by kernel_rfl) (by kernel_rfl) (fun w128 hM127 => ?_)
        have hM129 : Step V w [] V115 _ ([.blk b124 (.cells #[.slice Ar119_1 (snK (snK (snK (rk) (rq) (aF) (aT)) (snQ (rk) (rq) (aF) (aT)) (bF) (bT)) (snQ (snK (rk) (rq) (aF) (aT)) (snQ (rk) (rq) (aF) (aT)) (bF) (bT)) (aF) (aT)).length cr119_1, .slice Ar119_2 (snQ (snK (snK (rk) (rq) (aF) (aT)) (snQ (rk) (rq) (aF) (aT)) (bF) (bT)) (snQ (snK (rk) (rq) (aF) (aT)) (snQ (rk) (rq) (aF) (aT)) (bF) (bT)) (aF) (aT)).length cr119_2] 25), .blk b93 (.cells #[.slice Ar105_1 (snK (snK (rk) (rq) (bF) (bT)) (snQ (rk) (rq) (bF) (bT)) (aF) (aT)).length cr105_1, .slice Ar105_2 (snQ (snK (rk) (rq) (bF) (bT)) (snQ (rk) (rq) (bF) (bT)) (aF) (aT)).length cr105_2] 25), .blk b62 (.cells #[.slice Ar74_1 (snK (snK (rk) (rq) (aF) (aT)) (snQ (rk) (rq) (aF) (aT)) (bF) (bT)).length cr74_1, .slice Ar74_2 (snQ (snK (rk) (rq) (aF) (aT)) (snQ (rk) (rq) (aF) (aT)) (bF) (bT)).length cr74_2] 25), .blk b8 (.cells #[bs (bF), bs (bT)] 40), .blk b5 (.cells #[bs (aF), bs (aT)] 40), .blk b2 (.cells #[.slice Ark (rk).length crk, .slice Arq (rq).length crq] 25)]) := hM127
        refine wpF_seg 1 (by kernel_rfl) ?_
        refine wpF_end _ (by kernel_rfl) (then_n (hK113 _ _ ?_))
        refine wp_seq_k (fun K130 hK130 => ?_)
        refine wp_seq_k (fun K131 hK131 => ?_)
        refine wp_reg ?_
        refine wpF_seg 3 (by kernel_rfl) ?_
        have h132 : (decide ((snE (rk) (rq) (aF) (aT)) = (0))) = true := by exact decide_eq_true (by first | exact hso.1 | exact hso.2.1 | exact hso.2.2.1 | exact hso.2.2.2.1 | exact hso.2.2.2.2.1)
        have p133 : ((snE (rk) (rq) (aF) (aT)) = (0)) := of_decide_eq_true h132
        refine wpF_slot 85 (.bool (!(decide ((snE (rk) (rq) (aF) (aT)) = (0))))) (.bool false) (by kernel_rfl) (by kernel_rfl) (by rw [(show (!(decide ((snE (rk) (rq) (aF) (aT)) = (0)))) = false from by rw [h132]; rfl)]) ?_
        refine wpF_seg 4 (by kernel_rfl) ?_
        have h134 : (decide ((snE (snK (rk) (rq) (aF) (aT)) (snQ (rk) (rq) (aF) (aT)) (bF) (bT)) = (0))) = true := by exact decide_eq_true (by first | exact hso.1 | exact hso.2.1 | exact hso.2.2.1 | exact hso.2.2.2.1 | exact hso.2.2.2.2.1)
        have p135 : ((snE (snK (rk) (rq) (aF) (aT)) (snQ (rk) (rq) (aF) (aT)) (bF) (bT)) = (0)) := of_decide_eq_true h134
        refine wpF_slot 89 (.bool (!(decide ((snE (snK (rk) (rq) (aF) (aT)) (snQ (rk) (rq) (aF) (aT)) (bF) (bT)) = (0))))) (.bool false) (by kernel_rfl) (by kernel_rfl) (by rw [(show (!(decide ((snE (snK (rk) (rq) (aF) (aT)) (snQ (rk) (rq) (aF) (aT)) (bF) (bT)) = (0)))) = false from by rw [h134]; rfl)]) ?_
        refine wpF_seg 4 (by kernel_rfl) ?_
        have h136 : (decide ((snE (rk) (rq) (bF) (bT)) = (0))) = true := by exact decide_eq_true (by first | exact hso.1 | exact hso.2.1 | exact hso.2.2.1 | exact hso.2.2.2.1 | exact hso.2.2.2.2.1)
        have p137 : ((snE (rk) (rq) (bF) (bT)) = (0)) := of_decide_eq_true h136
        refine wpF_slot 93 (.bool (!(decide ((snE (rk) (rq) (bF) (bT)) = (0))))) (.bool false) (by kernel_rfl) (by kernel_rfl) (by rw [(show (!(decide ((snE (rk) (rq) (bF) (bT)) = (0)))) = false from by rw [h136]; rfl)]) ?_
        refine wpF_seg 4 (by kernel_rfl) ?_
        have h138 : (decide ((snE (snK (rk) (rq) (bF) (bT)) (snQ (rk) (rq) (bF) (bT)) (aF) (aT)) = (0))) = true := by exact decide_eq_true (by first | exact hso.1 | exact hso.2.1 | exact hso.2.2.1 | exact hso.2.2.2.1 | exact hso.2.2.2.2.1)
        have p139 : ((snE (snK (rk) (rq) (bF) (bT)) (snQ (rk) (rq) (bF) (bT)) (aF) (aT)) = (0)) := of_decide_eq_true h138
        refine wpF_slot 97 (.bool (!(decide ((snE (snK (rk) (rq) (bF) (bT)) (snQ (rk) (rq) (bF) (bT)) (aF) (aT)) = (0))))) (.bool false) (by kernel_rfl) (by kernel_rfl) (by rw [(show (!(decide ((snE (snK (rk) (rq) (bF) (bT)) (snQ (rk) (rq) (bF) (bT)) (aF) (aT)) = (0)))) = false from by rw [h138]; rfl)]) ?_
        refine wpF_seg 4 (by kernel_rfl) ?_
        have h140 : (decide ((snE (snK (snK (rk) (rq) (aF) (aT)) (snQ (rk) (rq) (aF) (aT)) (bF) (bT)) (snQ (snK (rk) (rq) (aF) (aT)) (snQ (rk) (rq) (aF) (aT)) (bF) (bT)) (aF) (aT)) = (0))) = true := by exact decide_eq_true (by first | exact hso.1 | exact hso.2.1 | exact hso.2.2.1 | exact hso.2.2.2.1 | exact hso.2.2.2.2.1)
        have p141 : ((snE (snK (snK (rk) (rq) (aF) (aT)) (snQ (rk) (rq) (aF) (aT)) (bF) (bT)) (snQ (snK (rk) (rq) (aF) (aT)) (snQ (rk) (rq) (aF) (aT)) (bF) (bT)) (aF) (aT)) = (0)) := of_decide_eq_true h140
        refine wpF_slot 101 (.bool (!(decide ((snE (snK (snK (rk) (rq) (aF) (aT)) (snQ (rk) (rq) (aF) (aT)) (bF) (bT)) (snQ (snK (rk) (rq) (aF) (aT)) (snQ (rk) (rq) (aF) (aT)) (bF) (bT)) (aF) (aT)) = (0))))) (.bool false) (by kernel_rfl) (by kernel_rfl) (by rw [(show (!(decide ((snE (snK (snK (rk) (rq) (aF) (aT)) (snQ (rk) (rq) (aF) (aT)) (bF) (bT)) (snQ (snK (rk) (rq) (aF) (aT)) (snQ (rk) (rq) (aF) (aT)) (bF) (bT)) (aF) (aT)) = (0)))) = false from by rw [h140]; rfl)]) ?_
        refine gF hM129 (.load 25 (.tmp 11)) (some 102) (by kernel_rfl) (Y_load 2 rfl (off := 0) (by kernel_rfl) (.agg #[.slice Ar74_1 (snK (snK (rk) (rq) (aF) (aT)) (snQ (rk) (rq) (aF) (aT)) (bF) (bT)).length cr74_1, .slice Ar74_2 (snQ (snK (rk) (rq) (aF) (aT)) (snQ (rk) (rq) (aF) (aT)) (bF) (bT)).length cr74_2]) (by kernel_rfl)) ?_
        refine gF hM129 (.load 25 (.tmp 14)) (some 103) (by kernel_rfl) (Y_load 1 rfl (off := 0) (by kernel_rfl) (.agg #[.slice Ar105_1 (snK (snK (rk) (rq) (bF) (bT)) (snQ (rk) (rq) (bF) (bT)) (aF) (aT)).length cr105_1, .slice Ar105_2 (snQ (snK (rk) (rq) (bF) (bT)) (snQ (rk) (rq) (bF) (bT)) (aF) (aT)).length cr105_2]) (by kernel_rfl)) ?_
        refine wpF_callP hM129 (f := 24) (caps := #[]) (h := (by kernel_rfl : opAt _ _ _ _ _ = some (.call (.mk (.value (.func 24)) #[(.tmp 102), (.tmp 103)] #[25, 25]), some 104))) (by kernel_rfl) (by kernel_rfl) (by kernel_rfl) (f24 _ _ hM129.inW Ar74_1 cr74_1 (snK (snK (rk) (rq) (aF) (aT)) (snQ (rk) (rq) (aF) (aT)) (bF) (bT)) (r75.up ((le86.trans le103).trans le117)) Ar74_2 cr74_2 (snQ (snK (rk) (rq) (aF) (aT)) (snQ (rk) (rq) (aF) (aT)) (bF) (bT)) (r76.up ((le86.trans le103).trans le117)) Ar105_1 cr105_1 (snK (snK (rk) (rq) (bF) (bT)) (snQ (rk) (rq) (bF) (bT)) (aF) (aT)) (r106.up le117) Ar105_2 cr105_2 (snQ (snK (rk) (rq) (bF) (bT)) (snQ (rk) (rq) (bF) (bT)) (aF) (aT)) (r107.up le117)) (fun v142 V143 w144 le145 hM146 hp147 => ?_)
        obtain rfl := hp147
        refine wpF_seg 3 (by kernel_rfl) ?_
        have h148 : (decide ((snK (snK (rk) (rq) (aF) (aT)) (snQ (rk) (rq) (aF) (aT)) (bF) (bT)) = (snK (snK (rk) (rq) (bF) (bT)) (snQ (rk) (rq) (bF) (bT)) (aF) (aT)) ∧ (snQ (snK (rk) (rq) (aF) (aT)) (snQ (rk) (rq) (aF) (aT)) (bF) (bT)) = (snQ (snK (rk) (rq) (bF) (bT)) (snQ (rk) (rq) (bF) (bT)) (aF) (aT)))) = true := by exact decide_eq_true (by first | exact hso.2.2.2.2.2.1 | exact hso.2.2.2.2.2.2)
        have p149 : ((snK (snK (rk) (rq) (aF) (aT)) (snQ (rk) (rq) (aF) (aT)) (bF) (bT)) = (snK (snK (rk) (rq) (bF) (bT)) (snQ (rk) (rq) (bF) (bT)) (aF) (aT)) ∧ (snQ (snK (rk) (rq) (aF) (aT)) (snQ (rk) (rq) (aF) (aT)) (bF) (bT)) = (snQ (snK (rk) (rq) (bF) (bT)) (snQ (rk) (rq) (bF) (bT)) (aF) (aT))) := of_decide_eq_true h148
        refine wpF_slot 107 (.bool (!(decide ((snK (snK (rk) (rq) (aF) (aT)) (snQ (rk) (rq) (aF) (aT)) (bF) (bT)) = (snK (snK (rk) (rq) (bF) (bT)) (snQ (rk) (rq) (bF) (bT)) (aF) (aT)) ∧ (snQ (snK (rk) (rq) (aF) (aT)) (snQ (rk) (rq) (aF) (aT)) (bF) (bT)) = (snQ (snK (rk) (rq) (bF) (bT)) (snQ (rk) (rq) (bF) (bT)) (aF) (aT)))))) (.bool false) (by kernel_rfl) (by kernel_rfl) (by rw [(show (!(decide ((snK (snK (rk) (rq) (aF) (aT)) (snQ (rk) (rq) (aF) (aT)) (bF) (bT)) = (snK (snK (rk) (rq) (bF) (bT)) (snQ (rk) (rq) (bF) (bT)) (aF) (aT)) ∧ (snQ (snK (rk) (rq) (aF) (aT)) (snQ (rk) (rq) (aF) (aT)) (bF) (bT)) = (snQ (snK (rk) (rq) (bF) (bT)) (snQ (rk) (rq) (bF) (bT)) (aF) (aT))))) = false from by rw [h148]; rfl)]) ?_
        refine gF hM146 (.load 25 (.tmp 11)) (some 108) (by kernel_rfl) (Y_load 2 rfl (off := 0) (by kernel_rfl) (.agg #[.slice Ar74_1 (snK (snK (rk) (rq) (aF) (aT)) (snQ (rk) (rq) (aF) (aT)) (bF) (bT)).length cr74_1, .slice Ar74_2 (snQ (snK (rk) (rq) (aF) (aT)) (snQ (rk) (rq) (aF) (aT)) (bF) (bT)).length cr74_2]) (by kernel_rfl)) ?_
        refine gF hM146 (.load 25 (.tmp 17)) (some 109) (by kernel_rfl) (Y_load 0 rfl (off := 0) (by kernel_rfl) (.agg #[.slice Ar119_1 (snK (snK (snK (rk) (rq) (aF) (aT)) (snQ (rk) (rq) (aF) (aT)) (bF) (bT)) (snQ (snK (rk) (rq) (aF) (aT)) (snQ (rk) (rq) (aF) (aT)) (bF) (bT)) (aF) (aT)).length cr119_1, .slice Ar119_2 (snQ (snK (snK (rk) (rq) (aF) (aT)) (snQ (rk) (rq) (aF) (aT)) (bF) (bT)) (snQ (snK (rk) (rq) (aF) (aT)) (snQ (rk) (rq) (aF) (aT)) (bF) (bT)) (aF) (aT)).length cr119_2]) (by kernel_rfl)) ?_
        refine wpF_callP hM146 (f := 24) (caps := #[]) (h := (by kernel_rfl : opAt _ _ _ _ _ = some (.call (.mk (.value (.func 24)) #[(.tmp 108), (.tmp 109)] #[25, 25]), some 110))) (by kernel_rfl) (by kernel_rfl) (by kernel_rfl) (f24 _ _ hM146.inW Ar74_1 cr74_1 (snK (snK (rk) (rq) (aF) (aT)) (snQ (rk) (rq) (aF) (aT)) (bF) (bT)) (r75.up (((le86.trans le103).trans le117).trans le145)) Ar74_2 cr74_2 (snQ (snK (rk) (rq) (aF) (aT)) (snQ (rk) (rq) (aF) (aT)) (bF) (bT)) (r76.up (((le86.trans le103).trans le117).trans le145)) Ar119_1 cr119_1 (snK (snK (snK (rk) (rq) (aF) (aT)) (snQ (rk) (rq) (aF) (aT)) (bF) (bT)) (snQ (snK (rk) (rq) (aF) (aT)) (snQ (rk) (rq) (aF) (aT)) (bF) (bT)) (aF) (aT)) (r120.up le145) Ar119_2 cr119_2 (snQ (snK (snK (rk) (rq) (aF) (aT)) (snQ (rk) (rq) (aF) (aT)) (bF) (bT)) (snQ (snK (rk) (rq) (aF) (aT)) (snQ (rk) (rq) (aF) (aT)) (bF) (bT)) (aF) (aT)) (r121.up le145)) (fun v150 V151 w152 le153 hM154 hp155 => ?_)
        obtain rfl := hp155
        refine wpF_seg 2 (by kernel_rfl) ?_
        refine wpF_end _ (by kernel_rfl) (then_n (hK131 _ _ ?_))
        have h156 : (decide ((snK (snK (rk) (rq) (aF) (aT)) (snQ (rk) (rq) (aF) (aT)) (bF) (bT)) = (snK (snK (snK (rk) (rq) (aF) (aT)) (snQ (rk) (rq) (aF) (aT)) (bF) (bT)) (snQ (snK (rk) (rq) (aF) (aT)) (snQ (rk) (rq) (aF) (aT)) (bF) (bT)) (aF) (aT)) ∧ (snQ (snK (rk) (rq) (aF) (aT)) (snQ (rk) (rq) (aF) (aT)) (bF) (bT)) = (snQ (snK (snK (rk) (rq) (aF) (aT)) (snQ (rk) (rq) (aF) (aT)) (bF) (bT)) (snQ (snK (rk) (rq) (aF) (aT)) (snQ (rk) (rq) (aF) (aT)) (bF) (bT)) (aF) (aT)))) = true := by exact decide_eq_true (by first | exact hso.2.2.2.2.2.1 | exact hso.2.2.2.2.2.2)
        have p157 : ((snK (snK (rk) (rq) (aF) (aT)) (snQ (rk) (rq) (aF) (aT)) (bF) (bT)) = (snK (snK (snK (rk) (rq) (aF) (aT)) (snQ (rk) (rq) (aF) (aT)) (bF) (bT)) (snQ (snK (rk) (rq) (aF) (aT)) (snQ (rk) (rq) (aF) (aT)) (bF) (bT)) (aF) (aT)) ∧ (snQ (snK (rk) (rq) (aF) (aT)) (snQ (rk) (rq) (aF) (aT)) (bF) (bT)) = (snQ (snK (snK (rk) (rq) (aF) (aT)) (snQ (rk) (rq) (aF) (aT)) (bF) (bT)) (snQ (snK (rk) (rq) (aF) (aT)) (snQ (rk) (rq) (aF) (aT)) (bF) (bT)) (aF) (aT))) := of_decide_eq_true h156
        refine wp_slot 112 (.bool (!(decide ((snK (snK (rk) (rq) (aF) (aT)) (snQ (rk) (rq) (aF) (aT)) (bF) (bT)) = (snK (snK (snK (rk) (rq) (aF) (aT)) (snQ (rk) (rq) (aF) (aT)) (bF) (bT)) (snQ (snK (rk) (rq) (aF) (aT)) (snQ (rk) (rq) (aF) (aT)) (bF) (bT)) (aF) (aT)) ∧ (snQ (snK (rk) (rq) (aF) (aT)) (snQ (rk) (rq) (aF) (aT)) (bF) (bT)) = (snQ (snK (snK (rk) (rq) (aF) (aT)) (snQ (rk) (rq) (aF) (aT)) (bF) (bT)) (snQ (snK (rk) (rq) (aF) (aT)) (snQ (rk) (rq) (aF) (aT)) (bF) (bT)) (aF) (aT)))))) (.bool false) (by kernel_rfl) (by rw [(show (!(decide ((snK (snK (rk) (rq) (aF) (aT)) (snQ (rk) (rq) (aF) (aT)) (bF) (bT)) = (snK (snK (snK (rk) (rq) (aF) (aT)) (snQ (rk) (rq) (aF) (aT)) (bF) (bT)) (snQ (snK (rk) (rq) (aF) (aT)) (snQ (rk) (rq) (aF) (aT)) (bF) (bT)) (aF) (aT)) ∧ (snQ (snK (rk) (rq) (aF) (aT)) (snQ (rk) (rq) (aF) (aT)) (bF) (bT)) = (snQ (snK (snK (rk) (rq) (aF) (aT)) (snQ (rk) (rq) (aF) (aT)) (bF) (bT)) (snQ (snK (rk) (rq) (aF) (aT)) (snQ (rk) (rq) (aF) (aT)) (bF) (bT)) (aF) (aT))))) = false from by rw [h156]; rfl)]) ?_
        refine wp_cf (by kernel_rfl) ?_
        refine wp_skip (then_n (hK130 _ _ ?_))
        refine wp_seq_k (fun K158 hK158 => ?_)
        refine wp_reg ?_
        refine gF hM154 (.load 25 (.tmp 5)) (some 114) (by kernel_rfl) (Y_load 5 rfl (off := 0) (by kernel_rfl) (.agg #[.slice Ark (rk).length crk, .slice Arq (rq).length crq]) (by kernel_rfl)) ?_
        refine wpF_seg 1 (by kernel_rfl) ?_
        refine wpF_callP hM154 (f := 18) (caps := #[]) (h := (by kernel_rfl : opAt _ _ _ _ _ = some (.call (.mk (.value (.func 18)) #[(.tmp 114), (.tmp 115)] #[25, 9]), some 116))) (by kernel_rfl) (by kernel_rfl) (by kernel_rfl) (f18 _ _ hM154.inW Ark crk (rk) (hrk.up hM154.le) Arq crq (rq) (hrq.up hM154.le) (j) (hj)) (fun v159 V160 w161 le162 hM163 hp164 => ?_)
        obtain ⟨Ar164_1, cr164_1, Ar164_2, cr164_2, rfl, r165, r166⟩ := hp164
        have l167 : (kyK (rk) (rq) (j)).length ≤ 140737488355328 := r165.max
        have l168 : (kyS (rk) (rq) (j)).length ≤ 140737488355328 := r166.max
        refine wpF_seg 3 (by kernel_rfl) ?_
        refine wpF_alloc hM163 #[.slice none 0 0, .slice none 0 0] (h := (by kernel_rfl : opAt _ _ _ _ _ = some (.alloc 25, some 19))) (by kernel_rfl) (fun b169 w170 hM171 => ?_)
        refine wpF_store hM171 0 rfl (h := (by kernel_rfl : opAt _ _ _ _ _ = some (.store 25 (.tmp 19) (.tmp 117), none))) (off := 0) (by kernel_rfl) #[.slice Ar164_1 (kyK (rk) (rq) (j)).length cr164_1, .slice Ar164_2 (kyS (rk) (rq) (j)).length cr164_2] (by kernel_rfl) (by kernel_rfl) (by kernel_rfl) (by kernel_rfl) (fun w173 hM172 => ?_)
        have hM174 : Step V w [] V160 _ ([.blk b169 (.cells #[.slice Ar164_1 (kyK (rk) (rq) (j)).length cr164_1, .slice Ar164_2 (kyS (rk) (rq) (j)).length cr164_2] 25), .blk b124 (.cells #[.slice Ar119_1 (snK (snK (snK (rk) (rq) (aF) (aT)) (snQ (rk) (rq) (aF) (aT)) (bF) (bT)) (snQ (snK (rk) (rq) (aF) (aT)) (snQ (rk) (rq) (aF) (aT)) (bF) (bT)) (aF) (aT)).length cr119_1, .slice Ar119_2 (snQ (snK (snK (rk) (rq) (aF) (aT)) (snQ (rk) (rq) (aF) (aT)) (bF) (bT)) (snQ (snK (rk) (rq) (aF) (aT)) (snQ (rk) (rq) (aF) (aT)) (bF) (bT)) (aF) (aT)).length cr119_2] 25), .blk b93 (.cells #[.slice Ar105_1 (snK (snK (rk) (rq) (bF) (bT)) (snQ (rk) (rq) (bF) (bT)) (aF) (aT)).length cr105_1, .slice Ar105_2 (snQ (snK (rk) (rq) (bF) (bT)) (snQ (rk) (rq) (bF) (bT)) (aF) (aT)).length cr105_2] 25), .blk b62 (.cells #[.slice Ar74_1 (snK (snK (rk) (rq) (aF) (aT)) (snQ (rk) (rq) (aF) (aT)) (bF) (bT)).length cr74_1, .slice Ar74_2 (snQ (snK (rk) (rq) (aF) (aT)) (snQ (rk) (rq) (aF) (aT)) (bF) (bT)).length cr74_2] 25), .blk b8 (.cells #[bs (bF), bs (bT)] 40), .blk b5 (.cells #[bs (aF), bs (aT)] 40), .blk b2 (.cells #[.slice Ark (rk).length crk, .slice Arq (rq).length crq] 25)]) := hM172
        refine wpF_seg 1 (by kernel_rfl) ?_
        refine wpF_end _ (by kernel_rfl) (then_n (hK158 _ _ ?_))
        refine wp_seq_k (fun K175 hK175 => ?_)
        refine wp_reg ?_
        refine gF hM174 (.load 25 (.tmp 19)) (some 120) (by kernel_rfl) (Y_load 0 rfl (off := 0) (by kernel_rfl) (.agg #[.slice Ar164_1 (kyK (rk) (rq) (j)).length cr164_1, .slice Ar164_2 (kyS (rk) (rq) (j)).length cr164_2]) (by kernel_rfl)) ?_
        refine wpF_seg 1 (by kernel_rfl) ?_
        refine wpF_callP hM174 (f := 18) (caps := #[]) (h := (by kernel_rfl : opAt _ _ _ _ _ = some (.call (.mk (.value (.func 18)) #[(.tmp 120), (.tmp 121)] #[25, 9]), some 122))) (by kernel_rfl) (by kernel_rfl) (by kernel_rfl) (f18 _ _ hM174.inW Ar164_1 cr164_1 (kyK (rk) (rq) (j)) r165 Ar164_2 cr164_2 (kyS (rk) (rq) (j)) r166 (k) (hk)) (fun v176 V177 w178 le179 hM180 hp181 => ?_)
        obtain ⟨Ar181_1, cr181_1, Ar181_2, cr181_2, rfl, r182, r183⟩ := hp181
        have l184 : (kyK (kyK (rk) (rq) (j)) (kyS (rk) (rq) (j)) (k)).length ≤ 140737488355328 := r182.max
        have l185 : (kyS (kyK (rk) (rq) (j)) (kyS (rk) (rq) (j)) (k)).length ≤ 140737488355328 := r183.max
        refine wpF_seg 3 (by kernel_rfl) ?_
        refine wpF_store hM180 0 rfl (h := (by kernel_rfl : opAt _ _ _ _ _ = some (.store 25 (.tmp 19) (.tmp 123), none))) (off := 0) (by kernel_rfl) #[.slice Ar181_1 (kyK (kyK (rk) (rq) (j)) (kyS (rk) (rq) (j)) (k)).length cr181_1, .slice Ar181_2 (kyS (kyK (rk) (rq) (j)) (kyS (rk) (rq) (j)) (k)).length cr181_2] (by kernel_rfl) (by kernel_rfl) (by kernel_rfl) (by kernel_rfl) (fun w187 hM186 => ?_)
        have hM188 : Step V w [] V177 _ ([.blk b169 (.cells #[.slice Ar181_1 (kyK (kyK (rk) (rq) (j)) (kyS (rk) (rq) (j)) (k)).length cr181_1, .slice Ar181_2 (kyS (kyK (rk) (rq) (j)) (kyS (rk) (rq) (j)) (k)).length cr181_2] 25), .blk b124 (.cells #[.slice Ar119_1 (snK (snK (snK (rk) (rq) (aF) (aT)) (snQ (rk) (rq) (aF) (aT)) (bF) (bT)) (snQ (snK (rk) (rq) (aF) (aT)) (snQ (rk) (rq) (aF) (aT)) (bF) (bT)) (aF) (aT)).length cr119_1, .slice Ar119_2 (snQ (snK (snK (rk) (rq) (aF) (aT)) (snQ (rk) (rq) (aF) (aT)) (bF) (bT)) (snQ (snK (rk) (rq) (aF) (aT)) (snQ (rk) (rq) (aF) (aT)) (bF) (bT)) (aF) (aT)).length cr119_2] 25), .blk b93 (.cells #[.slice Ar105_1 (snK (snK (rk) (rq) (bF) (bT)) (snQ (rk) (rq) (bF) (bT)) (aF) (aT)).length cr105_1, .slice Ar105_2 (snQ (snK (rk) (rq) (bF) (bT)) (snQ (rk) (rq) (bF) (bT)) (aF) (aT)).length cr105_2] 25), .blk b62 (.cells #[.slice Ar74_1 (snK (snK (rk) (rq) (aF) (aT)) (snQ (rk) (rq) (aF) (aT)) (bF) (bT)).length cr74_1, .slice Ar74_2 (snQ (snK (rk) (rq) (aF) (aT)) (snQ (rk) (rq) (aF) (aT)) (bF) (bT)).length cr74_2] 25), .blk b8 (.cells #[bs (bF), bs (bT)] 40), .blk b5 (.cells #[bs (aF), bs (aT)] 40), .blk b2 (.cells #[.slice Ark (rk).length crk, .slice Arq (rq).length crq] 25)]) := hM186
        refine wpF_seg 1 (by kernel_rfl) ?_
        refine wpF_end _ (by kernel_rfl) (then_n (hK175 _ _ ?_))
        refine wp_seq_k (fun K189 hK189 => ?_)
        refine wp_reg ?_
        refine gF hM188 (.load 25 (.tmp 5)) (some 126) (by kernel_rfl) (Y_load 6 rfl (off := 0) (by kernel_rfl) (.agg #[.slice Ark (rk).length crk, .slice Arq (rq).length crq]) (by kernel_rfl)) ?_
        refine wpF_seg 1 (by kernel_rfl) ?_
        refine wpF_callP hM188 (f := 18) (caps := #[]) (h := (by kernel_rfl : opAt _ _ _ _ _ = some (.call (.mk (.value (.func 18)) #[(.tmp 126), (.tmp 127)] #[25, 9]), some 128))) (by kernel_rfl) (by kernel_rfl) (by kernel_rfl) (f18 _ _ hM188.inW Ark crk (rk) (hrk.up hM188.le) Arq crq (rq) (hrq.up hM188.le) (k) (hk)) (fun v190 V191 w192 le193 hM194 hp195 => ?_)
        obtain ⟨Ar195_1, cr195_1, Ar195_2, cr195_2, rfl, r196, r197⟩ := hp195
        have l198 : (kyK (rk) (rq) (k)).length ≤ 140737488355328 := r196.max
        have l199 : (kyS (rk) (rq) (k)).length ≤ 140737488355328 := r197.max
        refine wpF_seg 3 (by kernel_rfl) ?_
        refine wpF_alloc hM194 #[.slice none 0 0, .slice none 0 0] (h := (by kernel_rfl : opAt _ _ _ _ _ = some (.alloc 25, some 20))) (by kernel_rfl) (fun b200 w201 hM202 => ?_)
        refine wpF_store hM202 0 rfl (h := (by kernel_rfl : opAt _ _ _ _ _ = some (.store 25 (.tmp 20) (.tmp 129), none))) (off := 0) (by kernel_rfl) #[.slice Ar195_1 (kyK (rk) (rq) (k)).length cr195_1, .slice Ar195_2 (kyS (rk) (rq) (k)).length cr195_2] (by kernel_rfl) (by kernel_rfl) (by kernel_rfl) (by kernel_rfl) (fun w204 hM203 => ?_)
        have hM205 : Step V w [] V191 _ ([.blk b200 (.cells #[.slice Ar195_1 (kyK (rk) (rq) (k)).length cr195_1, .slice Ar195_2 (kyS (rk) (rq) (k)).length cr195_2] 25), .blk b169 (.cells #[.slice Ar181_1 (kyK (kyK (rk) (rq) (j)) (kyS (rk) (rq) (j)) (k)).length cr181_1, .slice Ar181_2 (kyS (kyK (rk) (rq) (j)) (kyS (rk) (rq) (j)) (k)).length cr181_2] 25), .blk b124 (.cells #[.slice Ar119_1 (snK (snK (snK (rk) (rq) (aF) (aT)) (snQ (rk) (rq) (aF) (aT)) (bF) (bT)) (snQ (snK (rk) (rq) (aF) (aT)) (snQ (rk) (rq) (aF) (aT)) (bF) (bT)) (aF) (aT)).length cr119_1, .slice Ar119_2 (snQ (snK (snK (rk) (rq) (aF) (aT)) (snQ (rk) (rq) (aF) (aT)) (bF) (bT)) (snQ (snK (rk) (rq) (aF) (aT)) (snQ (rk) (rq) (aF) (aT)) (bF) (bT)) (aF) (aT)).length cr119_2] 25), .blk b93 (.cells #[.slice Ar105_1 (snK (snK (rk) (rq) (bF) (bT)) (snQ (rk) (rq) (bF) (bT)) (aF) (aT)).length cr105_1, .slice Ar105_2 (snQ (snK (rk) (rq) (bF) (bT)) (snQ (rk) (rq) (bF) (bT)) (aF) (aT)).length cr105_2] 25), .blk b62 (.cells #[.slice Ar74_1 (snK (snK (rk) (rq) (aF) (aT)) (snQ (rk) (rq) (aF) (aT)) (bF) (bT)).length cr74_1, .slice Ar74_2 (snQ (snK (rk) (rq) (aF) (aT)) (snQ (rk) (rq) (aF) (aT)) (bF) (bT)).length cr74_2] 25), .blk b8 (.cells #[bs (bF), bs (bT)] 40), .blk b5 (.cells #[bs (aF), bs (aT)] 40), .blk b2 (.cells #[.slice Ark (rk).length crk, .slice Arq (rq).length crq] 25)]) := hM203
        refine wpF_seg 1 (by kernel_rfl) ?_
        refine wpF_end _ (by kernel_rfl) (then_n (hK189 _ _ ?_))
        refine wp_seq_k (fun K206 hK206 => ?_)
        refine wp_reg ?_
        refine gF hM205 (.load 25 (.tmp 20)) (some 132) (by kernel_rfl) (Y_load 0 rfl (off := 0) (by kernel_rfl) (.agg #[.slice Ar195_1 (kyK (rk) (rq) (k)).length cr195_1, .slice Ar195_2 (kyS (rk) (rq) (k)).length cr195_2]) (by kernel_rfl)) ?_
        refine wpF_seg 1 (by kernel_rfl) ?_
        refine wpF_callP hM205 (f := 18) (caps := #[]) (h := (by kernel_rfl : opAt _ _ _ _ _ = some (.call (.mk (.value (.func 18)) #[(.tmp 132), (.tmp 133)] #[25, 9]), some 134))) (by kernel_rfl) (by kernel_rfl) (by kernel_rfl) (f18 _ _ hM205.inW Ar195_1 cr195_1 (kyK (rk) (rq) (k)) r196 Ar195_2 cr195_2 (kyS (rk) (rq) (k)) r197 (j) (hj)) (fun v207 V208 w209 le210 hM211 hp212 => ?_)
        obtain ⟨Ar212_1, cr212_1, Ar212_2, cr212_2, rfl, r213, r214⟩ := hp212
        have l215 : (kyK (kyK (rk) (rq) (k)) (kyS (rk) (rq) (k)) (j)).length ≤ 140737488355328 := r213.max
        have l216 : (kyS (kyK (rk) (rq) (k)) (kyS (rk) (rq) (k)) (j)).length ≤ 140737488355328 := r214.max
        refine wpF_seg 3 (by kernel_rfl) ?_
        refine wpF_store hM211 0 rfl (h := (by kernel_rfl : opAt _ _ _ _ _ = some (.store 25 (.tmp 20) (.tmp 135), none))) (off := 0) (by kernel_rfl) #[.slice Ar212_1 (kyK (kyK (rk) (rq) (k)) (kyS (rk) (rq) (k)) (j)).length cr212_1, .slice Ar212_2 (kyS (kyK (rk) (rq) (k)) (kyS (rk) (rq) (k)) (j)).length cr212_2] (by kernel_rfl) (by kernel_rfl) (by kernel_rfl) (by kernel_rfl) (fun w218 hM217 => ?_)
        have hM219 : Step V w [] V208 _ ([.blk b200 (.cells #[.slice Ar212_1 (kyK (kyK (rk) (rq) (k)) (kyS (rk) (rq) (k)) (j)).length cr212_1, .slice Ar212_2 (kyS (kyK (rk) (rq) (k)) (kyS (rk) (rq) (k)) (j)).length cr212_2] 25), .blk b169 (.cells #[.slice Ar181_1 (kyK (kyK (rk) (rq) (j)) (kyS (rk) (rq) (j)) (k)).length cr181_1, .slice Ar181_2 (kyS (kyK (rk) (rq) (j)) (kyS (rk) (rq) (j)) (k)).length cr181_2] 25), .blk b124 (.cells #[.slice Ar119_1 (snK (snK (snK (rk) (rq) (aF) (aT)) (snQ (rk) (rq) (aF) (aT)) (bF) (bT)) (snQ (snK (rk) (rq) (aF) (aT)) (snQ (rk) (rq) (aF) (aT)) (bF) (bT)) (aF) (aT)).length cr119_1, .slice Ar119_2 (snQ (snK (snK (rk) (rq) (aF) (aT)) (snQ (rk) (rq) (aF) (aT)) (bF) (bT)) (snQ (snK (rk) (rq) (aF) (aT)) (snQ (rk) (rq) (aF) (aT)) (bF) (bT)) (aF) (aT)).length cr119_2] 25), .blk b93 (.cells #[.slice Ar105_1 (snK (snK (rk) (rq) (bF) (bT)) (snQ (rk) (rq) (bF) (bT)) (aF) (aT)).length cr105_1, .slice Ar105_2 (snQ (snK (rk) (rq) (bF) (bT)) (snQ (rk) (rq) (bF) (bT)) (aF) (aT)).length cr105_2] 25), .blk b62 (.cells #[.slice Ar74_1 (snK (snK (rk) (rq) (aF) (aT)) (snQ (rk) (rq) (aF) (aT)) (bF) (bT)).length cr74_1, .slice Ar74_2 (snQ (snK (rk) (rq) (aF) (aT)) (snQ (rk) (rq) (aF) (aT)) (bF) (bT)).length cr74_2] 25), .blk b8 (.cells #[bs (bF), bs (bT)] 40), .blk b5 (.cells #[bs (aF), bs (aT)] 40), .blk b2 (.cells #[.slice Ark (rk).length crk, .slice Arq (rq).length crq] 25)]) := hM217
        refine wpF_seg 1 (by kernel_rfl) ?_
        refine wpF_end _ (by kernel_rfl) (then_n (hK206 _ _ ?_))
        refine wp_seq_k (fun K220 hK220 => ?_)
        refine wp_reg ?_
        refine gF hM219 (.load 25 (.tmp 19)) (some 138) (by kernel_rfl) (Y_load 1 rfl (off := 0) (by kernel_rfl) (.agg #[.slice Ar181_1 (kyK (kyK (rk) (rq) (j)) (kyS (rk) (rq) (j)) (k)).length cr181_1, .slice Ar181_2 (kyS (kyK (rk) (rq) (j)) (kyS (rk) (rq) (j)) (k)).length cr181_2]) (by kernel_rfl)) ?_
        refine wpF_seg 1 (by kernel_rfl) ?_
        refine wpF_callP hM219 (f := 18) (caps := #[]) (h := (by kernel_rfl : opAt _ _ _ _ _ = some (.call (.mk (.value (.func 18)) #[(.tmp 138), (.tmp 139)] #[25, 9]), some 140))) (by kernel_rfl) (by kernel_rfl) (by kernel_rfl) (f18 _ _ hM219.inW Ar181_1 cr181_1 (kyK (kyK (rk) (rq) (j)) (kyS (rk) (rq) (j)) (k)) (r182.up (le193.trans le210)) Ar181_2 cr181_2 (kyS (kyK (rk) (rq) (j)) (kyS (rk) (rq) (j)) (k)) (r183.up (le193.trans le210)) (j) (hj)) (fun v221 V222 w223 le224 hM225 hp226 => ?_)
        obtain ⟨Ar226_1, cr226_1, Ar226_2, cr226_2, rfl, r227, r228⟩ := hp226
        have l229 : (kyK (kyK (kyK (rk) (rq) (j)) (kyS (rk) (rq) (j)) (k)) (kyS (kyK (rk) (rq) (j)) (kyS (rk) (rq) (j)) (k)) (j)).length ≤ 140737488355328 := r227.max
        have l230 : (kyS (kyK (kyK (rk) (rq) (j)) (kyS (rk) (rq) (j)) (k)) (kyS (kyK (rk) (rq) (j)) (kyS (rk) (rq) (j)) (k)) (j)).length ≤ 140737488355328 := r228.max
        refine wpF_seg 3 (by kernel_rfl) ?_
        refine wpF_alloc hM225 #[.slice none 0 0, .slice none 0 0] (h := (by kernel_rfl : opAt _ _ _ _ _ = some (.alloc 25, some 21))) (by kernel_rfl) (fun b231 w232 hM233 => ?_)
        refine wpF_store hM233 0 rfl (h := (by kernel_rfl : opAt _ _ _ _ _ = some (.store 25 (.tmp 21) (.tmp 141), none))) (off := 0) (by kernel_rfl) #[.slice Ar226_1 (kyK (kyK (kyK (rk) (rq) (j)) (kyS (rk) (rq) (j)) (k)) (kyS (kyK (rk) (rq) (j)) (kyS (rk) (rq) (j)) (k)) (j)).length cr226_1, .slice Ar226_2 (kyS (kyK (kyK (rk) (rq) (j)) (kyS (rk) (rq) (j)) (k)) (kyS (kyK (rk) (rq) (j)) (kyS (rk) (rq) (j)) (k)) (j)).length cr226_2] (by kernel_rfl) (by kernel_rfl) (by kernel_rfl) (by kernel_rfl) (fun w235 hM234 => ?_)
        have hM236 : Step V w [] V222 _ ([.blk b231 (.cells #[.slice Ar226_1 (kyK (kyK (kyK (rk) (rq) (j)) (kyS (rk) (rq) (j)) (k)) (kyS (kyK (rk) (rq) (j)) (kyS (rk) (rq) (j)) (k)) (j)).length cr226_1, .slice Ar226_2 (kyS (kyK (kyK (rk) (rq) (j)) (kyS (rk) (rq) (j)) (k)) (kyS (kyK (rk) (rq) (j)) (kyS (rk) (rq) (j)) (k)) (j)).length cr226_2] 25), .blk b200 (.cells #[.slice Ar212_1 (kyK (kyK (rk) (rq) (k)) (kyS (rk) (rq) (k)) (j)).length cr212_1, .slice Ar212_2 (kyS (kyK (rk) (rq) (k)) (kyS (rk) (rq) (k)) (j)).length cr212_2] 25), .blk b169 (.cells #[.slice Ar181_1 (kyK (kyK (rk) (rq) (j)) (kyS (rk) (rq) (j)) (k)).length cr181_1, .slice Ar181_2 (kyS (kyK (rk) (rq) (j)) (kyS (rk) (rq) (j)) (k)).length cr181_2] 25), .blk b124 (.cells #[.slice Ar119_1 (snK (snK (snK (rk) (rq) (aF) (aT)) (snQ (rk) (rq) (aF) (aT)) (bF) (bT)) (snQ (snK (rk) (rq) (aF) (aT)) (snQ (rk) (rq) (aF) (aT)) (bF) (bT)) (aF) (aT)).length cr119_1, .slice Ar119_2 (snQ (snK (snK (rk) (rq) (aF) (aT)) (snQ (rk) (rq) (aF) (aT)) (bF) (bT)) (snQ (snK (rk) (rq) (aF) (aT)) (snQ (rk) (rq) (aF) (aT)) (bF) (bT)) (aF) (aT)).length cr119_2] 25), .blk b93 (.cells #[.slice Ar105_1 (snK (snK (rk) (rq) (bF) (bT)) (snQ (rk) (rq) (bF) (bT)) (aF) (aT)).length cr105_1, .slice Ar105_2 (snQ (snK (rk) (rq) (bF) (bT)) (snQ (rk) (rq) (bF) (bT)) (aF) (aT)).length cr105_2] 25), .blk b62 (.cells #[.slice Ar74_1 (snK (snK (rk) (rq) (aF) (aT)) (snQ (rk) (rq) (aF) (aT)) (bF) (bT)).length cr74_1, .slice Ar74_2 (snQ (snK (rk) (rq) (aF) (aT)) (snQ (rk) (rq) (aF) (aT)) (bF) (bT)).length cr74_2] 25), .blk b8 (.cells #[bs (bF), bs (bT)] 40), .blk b5 (.cells #[bs (aF), bs (aT)] 40), .blk b2 (.cells #[.slice Ark (rk).length crk, .slice Arq (rq).length crq] 25)]) := hM234
        refine wpF_seg 1 (by kernel_rfl) ?_
        refine wpF_end _ (by kernel_rfl) (then_n (hK220 _ _ ?_))
        refine wp_seq_k (fun K237 hK237 => ?_)
        refine wp_reg ?_
        refine wpF_seg 3 (by kernel_rfl) ?_
        have h238 : (decide ((kyE (rk) (rq) (j)) = (0))) = true := by exact decide_eq_true (by first | exact hko.1 | exact hko.2.1 | exact hko.2.2.1 | exact hko.2.2.2.1 | exact hko.2.2.2.2.1)
        have p239 : ((kyE (rk) (rq) (j)) = (0)) := of_decide_eq_true h238
        refine wpF_slot 145 (.bool (decide ((kyE (rk) (rq) (j)) = (0)))) (.bool true) (by kernel_rfl) (by kernel_rfl) (by rw [h238]) ?_
        refine wpF_seg 4 (by kernel_rfl) ?_
        have h240 : (decide ((kyE (kyK (rk) (rq) (j)) (kyS (rk) (rq) (j)) (k)) = (0))) = true := by exact decide_eq_true (by first | exact hko.1 | exact hko.2.1 | exact hko.2.2.1 | exact hko.2.2.2.1 | exact hko.2.2.2.2.1)
        have p241 : ((kyE (kyK (rk) (rq) (j)) (kyS (rk) (rq) (j)) (k)) = (0)) := of_decide_eq_true h240
        refine wpF_slot 149 (.bool (decide ((kyE (kyK (rk) (rq) (j)) (kyS (rk) (rq) (j)) (k)) = (0)))) (.bool true) (by kernel_rfl) (by kernel_rfl) (by rw [h240]) ?_
        refine wpF_seg 4 (by kernel_rfl) ?_
        have h242 : (decide ((kyE (rk) (rq) (k)) = (0))) = true := by exact decide_eq_true (by first | exact hko.1 | exact hko.2.1 | exact hko.2.2.1 | exact hko.2.2.2.1 | exact hko.2.2.2.2.1)
        have p243 : ((kyE (rk) (rq) (k)) = (0)) := of_decide_eq_true h242
        refine wpF_slot 153 (.bool (decide ((kyE (rk) (rq) (k)) = (0)))) (.bool true) (by kernel_rfl) (by kernel_rfl) (by rw [h242]) ?_
        refine wpF_seg 4 (by kernel_rfl) ?_
        have h244 : (decide ((kyE (kyK (rk) (rq) (k)) (kyS (rk) (rq) (k)) (j)) = (0))) = true := by exact decide_eq_true (by first | exact hko.1 | exact hko.2.1 | exact hko.2.2.1 | exact hko.2.2.2.1 | exact hko.2.2.2.2.1)
        have p245 : ((kyE (kyK (rk) (rq) (k)) (kyS (rk) (rq) (k)) (j)) = (0)) := of_decide_eq_true h244
        refine wpF_slot 157 (.bool (decide ((kyE (kyK (rk) (rq) (k)) (kyS (rk) (rq) (k)) (j)) = (0)))) (.bool true) (by kernel_rfl) (by kernel_rfl) (by rw [h244]) ?_
        refine wpF_seg 4 (by kernel_rfl) ?_
        have h246 : (decide ((kyE (kyK (kyK (rk) (rq) (j)) (kyS (rk) (rq) (j)) (k)) (kyS (kyK (rk) (rq) (j)) (kyS (rk) (rq) (j)) (k)) (j)) = (0))) = true := by exact decide_eq_true (by first | exact hko.1 | exact hko.2.1 | exact hko.2.2.1 | exact hko.2.2.2.1 | exact hko.2.2.2.2.1)
        have p247 : ((kyE (kyK (kyK (rk) (rq) (j)) (kyS (rk) (rq) (j)) (k)) (kyS (kyK (rk) (rq) (j)) (kyS (rk) (rq) (j)) (k)) (j)) = (0)) := of_decide_eq_true h246
        refine wpF_slot 161 (.bool (decide ((kyE (kyK (kyK (rk) (rq) (j)) (kyS (rk) (rq) (j)) (k)) (kyS (kyK (rk) (rq) (j)) (kyS (rk) (rq) (j)) (k)) (j)) = (0)))) (.bool true) (by kernel_rfl) (by kernel_rfl) (by rw [h246]) ?_
        refine gF hM236 (.load 25 (.tmp 19)) (some 162) (by kernel_rfl) (Y_load 2 rfl (off := 0) (by kernel_rfl) (.agg #[.slice Ar181_1 (kyK (kyK (rk) (rq) (j)) (kyS (rk) (rq) (j)) (k)).length cr181_1, .slice Ar181_2 (kyS (kyK (rk) (rq) (j)) (kyS (rk) (rq) (j)) (k)).length cr181_2]) (by kernel_rfl)) ?_
        refine gF hM236 (.load 25 (.tmp 20)) (some 163) (by kernel_rfl) (Y_load 1 rfl (off := 0) (by kernel_rfl) (.agg #[.slice Ar212_1 (kyK (kyK (rk) (rq) (k)) (kyS (rk) (rq) (k)) (j)).length cr212_1, .slice Ar212_2 (kyS (kyK (rk) (rq) (k)) (kyS (rk) (rq) (k)) (j)).length cr212_2]) (by kernel_rfl)) ?_
        refine wpF_callP hM236 (f := 24) (caps := #[]) (h := (by kernel_rfl : opAt _ _ _ _ _ = some (.call (.mk (.value (.func 24)) #[(.tmp 162), (.tmp 163)] #[25, 25]), some 164))) (by kernel_rfl) (by kernel_rfl) (by kernel_rfl) (f24 _ _ hM236.inW Ar181_1 cr181_1 (kyK (kyK (rk) (rq) (j)) (kyS (rk) (rq) (j)) (k)) (r182.up ((le193.trans le210).trans le224)) Ar181_2 cr181_2 (kyS (kyK (rk) (rq) (j)) (kyS (rk) (rq) (j)) (k)) (r183.up ((le193.trans le210).trans le224)) Ar212_1 cr212_1 (kyK (kyK (rk) (rq) (k)) (kyS (rk) (rq) (k)) (j)) (r213.up le224) Ar212_2 cr212_2 (kyS (kyK (rk) (rq) (k)) (kyS (rk) (rq) (k)) (j)) (r214.up le224)) (fun v248 V249 w250 le251 hM252 hp253 => ?_)
        obtain rfl := hp253
        refine wpF_seg 2 (by kernel_rfl) ?_
        have h254 : (decide ((kyK (kyK (rk) (rq) (j)) (kyS (rk) (rq) (j)) (k)) = (kyK (kyK (rk) (rq) (k)) (kyS (rk) (rq) (k)) (j)) ∧ (kyS (kyK (rk) (rq) (j)) (kyS (rk) (rq) (j)) (k)) = (kyS (kyK (rk) (rq) (k)) (kyS (rk) (rq) (k)) (j)))) = true := by exact decide_eq_true (by first | exact hko.2.2.2.2.2.1 | exact hko.2.2.2.2.2.2)
        have p255 : ((kyK (kyK (rk) (rq) (j)) (kyS (rk) (rq) (j)) (k)) = (kyK (kyK (rk) (rq) (k)) (kyS (rk) (rq) (k)) (j)) ∧ (kyS (kyK (rk) (rq) (j)) (kyS (rk) (rq) (j)) (k)) = (kyS (kyK (rk) (rq) (k)) (kyS (rk) (rq) (k)) (j))) := of_decide_eq_true h254
        refine wpF_slot 166 (.bool (decide ((kyK (kyK (rk) (rq) (j)) (kyS (rk) (rq) (j)) (k)) = (kyK (kyK (rk) (rq) (k)) (kyS (rk) (rq) (k)) (j)) ∧ (kyS (kyK (rk) (rq) (j)) (kyS (rk) (rq) (j)) (k)) = (kyS (kyK (rk) (rq) (k)) (kyS (rk) (rq) (k)) (j))))) (.bool true) (by kernel_rfl) (by kernel_rfl) (by rw [h254]) ?_
        refine gF hM252 (.load 25 (.tmp 19)) (some 167) (by kernel_rfl) (Y_load 2 rfl (off := 0) (by kernel_rfl) (.agg #[.slice Ar181_1 (kyK (kyK (rk) (rq) (j)) (kyS (rk) (rq) (j)) (k)).length cr181_1, .slice Ar181_2 (kyS (kyK (rk) (rq) (j)) (kyS (rk) (rq) (j)) (k)).length cr181_2]) (by kernel_rfl)) ?_
        refine gF hM252 (.load 25 (.tmp 21)) (some 168) (by kernel_rfl) (Y_load 0 rfl (off := 0) (by kernel_rfl) (.agg #[.slice Ar226_1 (kyK (kyK (kyK (rk) (rq) (j)) (kyS (rk) (rq) (j)) (k)) (kyS (kyK (rk) (rq) (j)) (kyS (rk) (rq) (j)) (k)) (j)).length cr226_1, .slice Ar226_2 (kyS (kyK (kyK (rk) (rq) (j)) (kyS (rk) (rq) (j)) (k)) (kyS (kyK (rk) (rq) (j)) (kyS (rk) (rq) (j)) (k)) (j)).length cr226_2]) (by kernel_rfl)) ?_
        refine wpF_callP hM252 (f := 24) (caps := #[]) (h := (by kernel_rfl : opAt _ _ _ _ _ = some (.call (.mk (.value (.func 24)) #[(.tmp 167), (.tmp 168)] #[25, 25]), some 169))) (by kernel_rfl) (by kernel_rfl) (by kernel_rfl) (f24 _ _ hM252.inW Ar181_1 cr181_1 (kyK (kyK (rk) (rq) (j)) (kyS (rk) (rq) (j)) (k)) (r182.up (((le193.trans le210).trans le224).trans le251)) Ar181_2 cr181_2 (kyS (kyK (rk) (rq) (j)) (kyS (rk) (rq) (j)) (k)) (r183.up (((le193.trans le210).trans le224).trans le251)) Ar226_1 cr226_1 (kyK (kyK (kyK (rk) (rq) (j)) (kyS (rk) (rq) (j)) (k)) (kyS (kyK (rk) (rq) (j)) (kyS (rk) (rq) (j)) (k)) (j)) (r227.up le251) Ar226_2 cr226_2 (kyS (kyK (kyK (rk) (rq) (j)) (kyS (rk) (rq) (j)) (k)) (kyS (kyK (rk) (rq) (j)) (kyS (rk) (rq) (j)) (k)) (j)) (r228.up le251)) (fun v256 V257 w258 le259 hM260 hp261 => ?_)
        obtain rfl := hp261
        refine wpF_seg 2 (by kernel_rfl) ?_
        have h262 : (decide ((kyK (kyK (rk) (rq) (j)) (kyS (rk) (rq) (j)) (k)) = (kyK (kyK (kyK (rk) (rq) (j)) (kyS (rk) (rq) (j)) (k)) (kyS (kyK (rk) (rq) (j)) (kyS (rk) (rq) (j)) (k)) (j)) ∧ (kyS (kyK (rk) (rq) (j)) (kyS (rk) (rq) (j)) (k)) = (kyS (kyK (kyK (rk) (rq) (j)) (kyS (rk) (rq) (j)) (k)) (kyS (kyK (rk) (rq) (j)) (kyS (rk) (rq) (j)) (k)) (j)))) = true := by exact decide_eq_true (by first | exact hko.2.2.2.2.2.1 | exact hko.2.2.2.2.2.2)
        have p263 : ((kyK (kyK (rk) (rq) (j)) (kyS (rk) (rq) (j)) (k)) = (kyK (kyK (kyK (rk) (rq) (j)) (kyS (rk) (rq) (j)) (k)) (kyS (kyK (rk) (rq) (j)) (kyS (rk) (rq) (j)) (k)) (j)) ∧ (kyS (kyK (rk) (rq) (j)) (kyS (rk) (rq) (j)) (k)) = (kyS (kyK (kyK (rk) (rq) (j)) (kyS (rk) (rq) (j)) (k)) (kyS (kyK (rk) (rq) (j)) (kyS (rk) (rq) (j)) (k)) (j))) := of_decide_eq_true h262
        refine wpF_slot 171 (.bool (decide ((kyK (kyK (rk) (rq) (j)) (kyS (rk) (rq) (j)) (k)) = (kyK (kyK (kyK (rk) (rq) (j)) (kyS (rk) (rq) (j)) (k)) (kyS (kyK (rk) (rq) (j)) (kyS (rk) (rq) (j)) (k)) (j)) ∧ (kyS (kyK (rk) (rq) (j)) (kyS (rk) (rq) (j)) (k)) = (kyS (kyK (kyK (rk) (rq) (j)) (kyS (rk) (rq) (j)) (k)) (kyS (kyK (rk) (rq) (j)) (kyS (rk) (rq) (j)) (k)) (j))))) (.bool true) (by kernel_rfl) (by kernel_rfl) (by rw [h262]) ?_
        refine wpF_callP hM260 (f := 16) (caps := #[]) (h := (by kernel_rfl : opAt _ _ _ _ _ = some (.call (.mk (.value (.func 16)) #[] #[]), some 172))) (by kernel_rfl) (by kernel_rfl) (by kernel_rfl) (f16 _ _ hM260.inW ) (fun v264 V265 w266 le267 hM268 hp269 => ?_)
        obtain rfl := hp269
        refine wpF_seg 2 (by kernel_rfl) ?_
        refine wpF_end _ (by kernel_rfl) (then_n (hK237 _ _ ?_))
        refine wp_ret ?_
        refine retN [.bool (true)] (.bool (true)) Try.results5 (.tmp (by kernel_rfl) (by kernel_rfl) .nil) (by kernel_rfl) (hRet _ _ ⟨_, _, rfl, hM268.clear, ?_⟩)
        -- end fff
        rfl

end Go.Vk
