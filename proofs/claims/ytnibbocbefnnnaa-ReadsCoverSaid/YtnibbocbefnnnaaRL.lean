/- Contracts of the second seat's functions, part L: printed by wip/tools/st.py. -/
import Derived.Test.YtnibbocbefnnnaaRC
import Derived.Test.YtnibbocbefnnnaaRD
import Derived.Test.YtnibbocbefnnnaaRH
import Derived.Test.YtnibbocbefnnnaaRI
import Derived.Test.YtnibbocbefnnnaaRJ
import Derived.Test.YtnibbocbefnnnaaRK
import Derived.Test.YtnibbocbefnnnaaRMathb
set_option linter.unusedVariables false
set_option linter.unusedSimpArgs false
namespace Go.Vk
open Go.Proofs
set_option maxHeartbeats 4000000 in
set_option maxRecDepth 100000 in
theorem f4 (V : VT) (w : World) (hV : V.inW w) (Ark : Option Addr) (crk : Nat) (rk : List Str) (hrk : Rd strK V Ark crk rk) (Arq : Option Addr) (crq : Nat) (rq : List ((Str × Str))) (hrq : Rd (prK strK strK) V Arq crq rq) (fa : Str) (hfa : fa.length ≤ maxL) (tb : Str) (htb : tb.length ≤ maxL) (y : Str) (hy : y.length ≤ maxL) :
    Calls Try.prog 4 #[.agg #[.slice Ark (rk).length crk, .slice Arq (rq).length crq], bs (fa), bs (tb), bs (y)] w (RetP V w fun rv V' => rv = .bool (true)) := by
  have mxrk : rk.length ≤ 140737488355328 := hrk.max
  have mxrq : rq.length ≤ 140737488355328 := hrq.max
  have mxfa : fa.length ≤ 140737488355328 := hfa
  have mxtb : tb.length ≤ 140737488355328 := htb
  have mxy : y.length ≤ 140737488355328 := hy
  refine calls_env (n := 105) Try.func4 (c := _) rfl Try.ntmps4 (by kernel_rfl) (fun R hRet => ?_)
  have hM0 : Step V w [] V w [] := Step.refl (St.nilE hV)
  refine wp_seq_k (fun K1 hK1 => ?_)
  refine wp_reg ?_
  refine wpF_box hM0 #[.slice Ark (rk).length crk, .slice Arq (rq).length crq] (h := (by kernel_rfl : opAt _ _ _ _ _ = some (.box 25 (.tmp 0), some 4))) (by kernel_rfl) (fun b2 w3 hM4 => ?_)
  refine wpF_seg 1 (by kernel_rfl) ?_
  refine wpF_end _ (by kernel_rfl) (then_n (hK1 _ _ ?_))
  refine wp_seq_k (fun K5 hK5 => ?_)
  refine wp_seq_k (fun K6 hK6 => ?_)
  refine wp_reg ?_
  refine gF hM4 (.load 25 (.tmp 4)) (some 15) (by kernel_rfl) (Y_load 0 rfl (off := 0) (by kernel_rfl) (.agg #[.slice Ark (rk).length crk, .slice Arq (rq).length crq]) (by kernel_rfl)) ?_
  refine wpF_callP hM4 (f := 15) (caps := #[]) (h := (by kernel_rfl : opAt _ _ _ _ _ = some (.call (.mk (.value (.func 15)) #[(.tmp 15)] #[25]), some 16))) (by kernel_rfl) (by kernel_rfl) (by kernel_rfl) (f15 _ _ hM4.inW Ark crk (rk) hrk Arq crq (rq) hrq) (fun v7 V8 w9 le10 hM11 hp12 => ?_)
  obtain rfl := hp12
  refine wpF_seg 2 (by kernel_rfl) ?_
  refine wpF_caseB 18 (!(fewR (rk) (rq))) (by kernel_rfl) (by kernel_rfl) (fun h13 => ?_) (fun h13 => ?_)
  · -- t
    have h14 : (fewR (rk) (rq)) = false := by simpa using h13
    refine wpF_seg 4 (by kernel_rfl) ?_
    refine wpF_end _ (by kernel_rfl) (then_n (hK6 _ _ ?_))
    refine wp_ct (by kernel_rfl) ?_
    refine wp_seq_k (fun K15 hK15 => ?_)
    refine wp_reg ?_
    refine wpF_callP hM11 (f := 16) (caps := #[]) (h := (by kernel_rfl : opAt _ _ _ _ _ = some (.call (.mk (.value (.func 16)) #[] #[]), some 23))) (by kernel_rfl) (by kernel_rfl) (by kernel_rfl) (f16 _ _ hM11.inW ) (fun v16 V17 w18 le19 hM20 hp21 => ?_)
    obtain rfl := hp21
    refine wpF_seg 1 (by kernel_rfl) ?_
    refine wpF_end _ (by kernel_rfl) (then_n (hK15 _ _ ?_))
    refine wp_ret (then_r (?_))
    refine retN [.bool (true)] (.bool (true)) Try.results4 (.tmp (by kernel_rfl) (by kernel_rfl) .nil) (by kernel_rfl) (hRet _ _ ⟨_, _, rfl, hM20.clear, ?_⟩)
    -- end t
    rfl
  · -- f
    have h22 : (fewR (rk) (rq)) = true := by simpa using h13
    refine gF hM11 (.load 25 (.tmp 4)) (some 19) (by kernel_rfl) (Y_load 0 rfl (off := 0) (by kernel_rfl) (.agg #[.slice Ark (rk).length crk, .slice Arq (rq).length crq]) (by kernel_rfl)) ?_
    refine wpF_callP hM11 (f := 22) (caps := #[]) (h := (by kernel_rfl : opAt _ _ _ _ _ = some (.call (.mk (.value (.func 22)) #[(.tmp 19)] #[25]), some 20))) (by kernel_rfl) (by kernel_rfl) (by kernel_rfl) (f22 _ _ hM11.inW Ark crk (rk) (hrk.up hM11.le) Arq crq (rq) (hrq.up hM11.le)) (fun v23 V24 w25 le26 hM27 hp28 => ?_)
    obtain rfl := hp28
    refine wpF_seg 2 (by kernel_rfl) ?_
    refine wpF_end _ (by kernel_rfl) (then_n (hK6 _ _ ?_))
    refine wp_if (!(decide ((chkM (rk) (rq)) = (0)))) (by kernel_rfl) (fun h29 => ?_) (fun h29 => ?_)
    · -- ft
      have h30 : decide ((chkM (rk) (rq)) = (0)) = false := by rw [← Bool.not_not (decide _), h29]; rfl
      have p31 : ¬ ((chkM (rk) (rq)) = (0)) := of_decide_eq_false h30
      refine wp_seq_k (fun K32 hK32 => ?_)
      refine wp_reg ?_
      refine wpF_callP hM27 (f := 16) (caps := #[]) (h := (by kernel_rfl : opAt _ _ _ _ _ = some (.call (.mk (.value (.func 16)) #[] #[]), some 23))) (by kernel_rfl) (by kernel_rfl) (by kernel_rfl) (f16 _ _ hM27.inW ) (fun v33 V34 w35 le36 hM37 hp38 => ?_)
      obtain rfl := hp38
      refine wpF_seg 1 (by kernel_rfl) ?_
      refine wpF_end _ (by kernel_rfl) (then_n (hK32 _ _ ?_))
      refine wp_ret (then_r (?_))
      refine retN [.bool (true)] (.bool (true)) Try.results4 (.tmp (by kernel_rfl) (by kernel_rfl) .nil) (by kernel_rfl) (hRet _ _ ⟨_, _, rfl, hM37.clear, ?_⟩)
      -- end ft
      rfl
    · -- ff
      have h39 : decide ((chkM (rk) (rq)) = (0)) = true := by rw [← Bool.not_not (decide _), h29]; rfl
      have p40 : ((chkM (rk) (rq)) = (0)) := of_decide_eq_true h39
      have hr := chk_0 (by assumption : chkM rk rq = 0)
      have hkf := key_facts hr fa
      have hsf := span_facts hr fa tb
      refine wp_skip (then_n (hK5 _ _ ?_))
      refine wp_seq_k (fun K41 hK41 => ?_)
      refine wp_reg ?_
      refine gF hM27 (.load 25 (.tmp 4)) (some 24) (by kernel_rfl) (Y_load 0 rfl (off := 0) (by kernel_rfl) (.agg #[.slice Ark (rk).length crk, .slice Arq (rq).length crq]) (by kernel_rfl)) ?_
      refine wpF_seg 1 (by kernel_rfl) ?_
      refine wpF_callP hM27 (f := 25) (caps := #[]) (h := (by kernel_rfl : opAt _ _ _ _ _ = some (.call (.mk (.value (.func 25)) #[(.tmp 24), (.tmp 25)] #[25, 9]), some 26))) (by kernel_rfl) (by kernel_rfl) (by kernel_rfl) (f25 _ _ hM27.inW Ark crk (rk) (hrk.up hM27.le) Arq crq (rq) (hrq.up hM27.le) (y) (hy)) (fun v42 V43 w44 le45 hM46 hp47 => ?_)
      obtain rfl := hp47
      refine wpF_seg 1 (by kernel_rfl) ?_
      refine wpF_end _ (by kernel_rfl) (then_n (hK41 _ _ ?_))
      refine wp_seq_k (fun K48 hK48 => ?_)
      refine wp_reg ?_
      refine gF hM46 (.load 25 (.tmp 4)) (some 28) (by kernel_rfl) (Y_load 0 rfl (off := 0) (by kernel_rfl) (.agg #[.slice Ark (rk).length crk, .slice Arq (rq).length crq]) (by kernel_rfl)) ?_
      refine wpF_seg 1 (by kernel_rfl) ?_
      refine wpF_callP hM46 (f := 18) (caps := #[]) (h := (by kernel_rfl : opAt _ _ _ _ _ = some (.call (.mk (.value (.func 18)) #[(.tmp 28), (.tmp 29)] #[25, 9]), some 30))) (by kernel_rfl) (by kernel_rfl) (by kernel_rfl) (f18 _ _ hM46.inW Ark crk (rk) (hrk.up hM46.le) Arq crq (rq) (hrq.up hM46.le) (fa) (hfa)) (fun v49 V50 w51 le52 hM53 hp54 => ?_)
      obtain ⟨Ar54_1, cr54_1, Ar54_2, cr54_2, rfl, r55, r56⟩ := hp54
      have l57 : (kyK (rk) (rq) (fa)).length ≤ 140737488355328 := r55.max
      have l58 : (kyS (rk) (rq) (fa)).length ≤ 140737488355328 := r56.max
      refine wpF_seg 3 (by kernel_rfl) ?_
      refine wpF_alloc hM53 #[.slice none 0 0, .slice none 0 0] (h := (by kernel_rfl : opAt _ _ _ _ _ = some (.alloc 25, some 10))) (by kernel_rfl) (fun b59 w60 hM61 => ?_)
      refine wpF_store hM61 0 rfl (h := (by kernel_rfl : opAt _ _ _ _ _ = some (.store 25 (.tmp 10) (.tmp 31), none))) (off := 0) (by kernel_rfl) #[.slice Ar54_1 (kyK (rk) (rq) (fa)).length cr54_1, .slice Ar54_2 (kyS (rk) (rq) (fa)).length cr54_2] (by kernel_rfl) (by kernel_rfl) (by kernel_rfl) (by kernel_rfl) (fun w63 hM62 => ?_)
      have hM64 : Step V w [] V50 _ ([.blk b59 (.cells #[.slice Ar54_1 (kyK (rk) (rq) (fa)).length cr54_1, .slice Ar54_2 (kyS (rk) (rq) (fa)).length cr54_2] 25), .blk b2 (.cells #[.slice Ark (rk).length crk, .slice Arq (rq).length crq] 25)]) := hM62
      refine wpF_seg 1 (by kernel_rfl) ?_
      refine wpF_end _ (by kernel_rfl) (then_n (hK48 _ _ ?_))
      refine wp_seq_k (fun K65 hK65 => ?_)
      refine wp_reg ?_
      refine gF hM64 (.load 25 (.tmp 4)) (some 34) (by kernel_rfl) (Y_load 1 rfl (off := 0) (by kernel_rfl) (.agg #[.slice Ark (rk).length crk, .slice Arq (rq).length crq]) (by kernel_rfl)) ?_
      refine wpF_seg 2 (by kernel_rfl) ?_
      refine wpF_callP hM64 (f := 20) (caps := #[]) (h := (by kernel_rfl : opAt _ _ _ _ _ = some (.call (.mk (.value (.func 20)) #[(.tmp 34), (.tmp 35), (.tmp 36)] #[25, 9, 9]), some 37))) (by kernel_rfl) (by kernel_rfl) (by kernel_rfl) (f20 _ _ hM64.inW Ark crk (rk) (hrk.up hM64.le) Arq crq (rq) (hrq.up hM64.le) (fa) (hfa) (tb) (htb)) (fun v66 V67 w68 le69 hM70 hp71 => ?_)
      obtain ⟨Ar71_1, cr71_1, Ar71_2, cr71_2, rfl, r72, r73⟩ := hp71
      have l74 : (snK (rk) (rq) (fa) (tb)).length ≤ 140737488355328 := r72.max
      have l75 : (snQ (rk) (rq) (fa) (tb)).length ≤ 140737488355328 := r73.max
      refine wpF_seg 3 (by kernel_rfl) ?_
      refine wpF_alloc hM70 #[.slice none 0 0, .slice none 0 0] (h := (by kernel_rfl : opAt _ _ _ _ _ = some (.alloc 25, some 12))) (by kernel_rfl) (fun b76 w77 hM78 => ?_)
      refine wpF_store hM78 0 rfl (h := (by kernel_rfl : opAt _ _ _ _ _ = some (.store 25 (.tmp 12) (.tmp 38), none))) (off := 0) (by kernel_rfl) #[.slice Ar71_1 (snK (rk) (rq) (fa) (tb)).length cr71_1, .slice Ar71_2 (snQ (rk) (rq) (fa) (tb)).length cr71_2] (by kernel_rfl) (by kernel_rfl) (by kernel_rfl) (by kernel_rfl) (fun w80 hM79 => ?_)
      have hM81 : Step V w [] V67 _ ([.blk b76 (.cells #[.slice Ar71_1 (snK (rk) (rq) (fa) (tb)).length cr71_1, .slice Ar71_2 (snQ (rk) (rq) (fa) (tb)).length cr71_2] 25), .blk b59 (.cells #[.slice Ar54_1 (kyK (rk) (rq) (fa)).length cr54_1, .slice Ar54_2 (kyS (rk) (rq) (fa)).length cr54_2] 25), .blk b2 (.cells #[.slice Ark (rk).length crk, .slice Arq (rq).length crq] 25)]) := hM79
      refine wpF_seg 1 (by kernel_rfl) ?_
      refine wpF_end _ (by kernel_rfl) (then_n (hK65 _ _ ?_))
      refine wp_seq_k (fun K82 hK82 => ?_)
      refine wp_reg ?_
      refine wpF_seg 4 (by kernel_rfl) ?_
      refine wpF_caseB 43 (!(decide ((y) < (fa)))) (by kernel_rfl) (by kernel_rfl) (fun h83 => ?_) (fun h83 => ?_)
      · -- fft
        have h84 : decide ((y) < (fa)) = false := by rw [← Bool.not_not (decide _), h83]; rfl
        have p85 : ¬ ((y) < (fa)) := of_decide_eq_false h84
        refine wpF_seg 3 (by kernel_rfl) ?_
        refine wpF_caseB 46 (decide ((tb) = ([]))) (by kernel_rfl) (by kernel_rfl) (fun h86 => ?_) (fun h86 => ?_)
        · -- fftt
          have p87 : ((tb) = ([])) := of_decide_eq_true h86
          refine wpF_seg 6 (by kernel_rfl) ?_
          refine wpF_end _ (by kernel_rfl) (then_n (hK82 _ _ ?_))
          refine wp_seq_k (fun K88 hK88 => ?_)
          refine wp_seq_k (fun K89 hK89 => ?_)
          refine wp_reg ?_
          refine wpF_seg 3 (by kernel_rfl) ?_
          refine wpF_caseB 54 (decide ((kyE (rk) (rq) (fa)) = (0))) (by kernel_rfl) (by kernel_rfl) (fun h90 => ?_) (fun h90 => ?_)
          · -- ffttt
            have p91 : ((kyE (rk) (rq) (fa)) = (0)) := of_decide_eq_true h90
            refine gF hM81 (.load 25 (.tmp 10)) (some 55) (by kernel_rfl) (Y_load 1 rfl (off := 0) (by kernel_rfl) (.agg #[.slice Ar54_1 (kyK (rk) (rq) (fa)).length cr54_1, .slice Ar54_2 (kyS (rk) (rq) (fa)).length cr54_2]) (by kernel_rfl)) ?_
            refine wpF_seg 1 (by kernel_rfl) ?_
            refine wpF_callP hM81 (f := 25) (caps := #[]) (h := (by kernel_rfl : opAt _ _ _ _ _ = some (.call (.mk (.value (.func 25)) #[(.tmp 55), (.tmp 56)] #[25, 9]), some 57))) (by kernel_rfl) (by kernel_rfl) (by kernel_rfl) (f25 _ _ hM81.inW Ar54_1 cr54_1 (kyK (rk) (rq) (fa)) (r55.up le69) Ar54_2 cr54_2 (kyS (rk) (rq) (fa)) (r56.up le69) (y) (hy)) (fun v92 V93 w94 le95 hM96 hp97 => ?_)
            obtain rfl := hp97
            refine wpF_seg 2 (by kernel_rfl) ?_
            refine wpF_caseB 59 (coB (rk) (rq) (y)) (by kernel_rfl) (by kernel_rfl) (fun h98 => ?_) (fun h98 => ?_)
            · -- fftttt
              refine wpF_seg 4 (by kernel_rfl) ?_
              refine gF hM96 (.binOp .neq 4 (.tmp 57) (.tmp 63) 4) (some 64) (by kernel_rfl) (Y_neq (.bool (coB (kyK (rk) (rq) (fa)) (kyS (rk) (rq) (fa)) (y))) (.bool (true)) ((coB (kyK (rk) (rq) (fa)) (kyS (rk) (rq) (fa)) (y)) == (true)) (by kernel_rfl) (by kernel_rfl) (by kernel_rfl)) ?_
              refine wpF_seg 1 (by kernel_rfl) ?_
              have h99 : ((coB (kyK (rk) (rq) (fa)) (kyS (rk) (rq) (fa)) (y)) == (true)) = true := by have hk1 := hkf.resolve_right (fun h => by omega); rw [co_right hk1.2.2.2.1, hk1.2.2.2.2 y, ← co_right hr y]; first | (rw [(by assumption : coB rk rq y = true)]; rfl) | (rw [(by assumption : coB rk rq y = false), Bool.false_or]; exact beq_self_eq_true _)
              have p100 : ((coB (kyK (rk) (rq) (fa)) (kyS (rk) (rq) (fa)) (y)) = (true)) := by simpa using h99
              refine wpF_slot 65 (.bool (!((coB (kyK (rk) (rq) (fa)) (kyS (rk) (rq) (fa)) (y)) == (true)))) (.bool false) (by kernel_rfl) (by kernel_rfl) (by rw [(show (!((coB (kyK (rk) (rq) (fa)) (kyS (rk) (rq) (fa)) (y)) == (true))) = false from by rw [h99]; rfl)]) ?_
              refine gF hM96 (.load 25 (.tmp 10)) (some 66) (by kernel_rfl) (Y_load 1 rfl (off := 0) (by kernel_rfl) (.agg #[.slice Ar54_1 (kyK (rk) (rq) (fa)).length cr54_1, .slice Ar54_2 (kyS (rk) (rq) (fa)).length cr54_2]) (by kernel_rfl)) ?_
              refine wpF_callP hM96 (f := 22) (caps := #[]) (h := (by kernel_rfl : opAt _ _ _ _ _ = some (.call (.mk (.value (.func 22)) #[(.tmp 66)] #[25]), some 67))) (by kernel_rfl) (by kernel_rfl) (by kernel_rfl) (f22 _ _ hM96.inW Ar54_1 cr54_1 (kyK (rk) (rq) (fa)) (r55.up (le69.trans le95)) Ar54_2 cr54_2 (kyS (rk) (rq) (fa)) (r56.up (le69.trans le95))) (fun v101 V102 w103 le104 hM105 hp106 => ?_)
              obtain rfl := hp106
              refine wpF_seg 3 (by kernel_rfl) ?_
              refine wpF_end _ (by kernel_rfl) (then_n (hK89 _ _ ?_))
              have h107 : (decide ((chkM (kyK (rk) (rq) (fa)) (kyS (rk) (rq) (fa))) = (0))) = true := by have hk1 := hkf.resolve_right (fun h => by omega); exact decide_eq_true (chk_right hk1.2.2.2.1)
              have p108 : ((chkM (kyK (rk) (rq) (fa)) (kyS (rk) (rq) (fa))) = (0)) := of_decide_eq_true h107
              refine wp_slot 70 (.bool (!(decide ((chkM (kyK (rk) (rq) (fa)) (kyS (rk) (rq) (fa))) = (0))))) (.bool false) (by kernel_rfl) (by rw [(show (!(decide ((chkM (kyK (rk) (rq) (fa)) (kyS (rk) (rq) (fa))) = (0)))) = false from by rw [h107]; rfl)]) ?_
              refine wp_cf (by kernel_rfl) ?_
              refine wp_skip (then_n (hK88 _ _ ?_))
              refine wp_seq_k (fun K109 hK109 => ?_)
              refine wp_seq_k (fun K110 hK110 => ?_)
              refine wp_reg ?_
              refine wpF_seg 3 (by kernel_rfl) ?_
              refine wpF_caseB 73 (decide ((snE (rk) (rq) (fa) (tb)) = (0))) (by kernel_rfl) (by kernel_rfl) (fun h111 => ?_) (fun h111 => ?_)
              · -- ffttttt
                have p112 : ((snE (rk) (rq) (fa) (tb)) = (0)) := of_decide_eq_true h111
                refine gF hM105 (.load 25 (.tmp 12)) (some 74) (by kernel_rfl) (Y_load 0 rfl (off := 0) (by kernel_rfl) (.agg #[.slice Ar71_1 (snK (rk) (rq) (fa) (tb)).length cr71_1, .slice Ar71_2 (snQ (rk) (rq) (fa) (tb)).length cr71_2]) (by kernel_rfl)) ?_
                refine wpF_seg 1 (by kernel_rfl) ?_
                refine wpF_callP hM105 (f := 25) (caps := #[]) (h := (by kernel_rfl : opAt _ _ _ _ _ = some (.call (.mk (.value (.func 25)) #[(.tmp 74), (.tmp 75)] #[25, 9]), some 76))) (by kernel_rfl) (by kernel_rfl) (by kernel_rfl) (f25 _ _ hM105.inW Ar71_1 cr71_1 (snK (rk) (rq) (fa) (tb)) (r72.up (le95.trans le104)) Ar71_2 cr71_2 (snQ (rk) (rq) (fa) (tb)) (r73.up (le95.trans le104)) (y) (hy)) (fun v113 V114 w115 le116 hM117 hp118 => ?_)
                obtain rfl := hp118
                refine wpF_seg 2 (by kernel_rfl) ?_
                refine wpF_slot 78 (.bool (coB (rk) (rq) (y))) (.bool true) (by kernel_rfl) (by kernel_rfl) (by rw [h98]) ?_
                refine wpF_seg 2 (by kernel_rfl) ?_
                refine gF hM117 (.binOp .neq 4 (.tmp 76) (.tmp 80) 4) (some 81) (by kernel_rfl) (Y_neq (.bool (coB (snK (rk) (rq) (fa) (tb)) (snQ (rk) (rq) (fa) (tb)) (y))) (.bool (true)) ((coB (snK (rk) (rq) (fa) (tb)) (snQ (rk) (rq) (fa) (tb)) (y)) == (true)) (by kernel_rfl) (by kernel_rfl) (by kernel_rfl)) ?_
                refine wpF_seg 1 (by kernel_rfl) ?_
                have h119 : ((coB (snK (rk) (rq) (fa) (tb)) (snQ (rk) (rq) (fa) (tb)) (y)) == (true)) = true := by have hs1 := hsf.resolve_right (fun h => by omega); rw [co_right hs1.2.2.2.1, hs1.2.2.2.2 y, ← co_right hr y]; first | (rw [(by assumption : coB rk rq y = true)]; rfl) | (rw [(by assumption : coB rk rq y = false), Bool.false_or]; (first | rw [within_1 (by assumption)] | rw [within_2 (by assumption) (by assumption)] | rw [within_3 (by assumption) (by assumption)]); first | rfl | exact beq_self_eq_true _)
                have p120 : ((coB (snK (rk) (rq) (fa) (tb)) (snQ (rk) (rq) (fa) (tb)) (y)) = (true)) := by simpa using h119
                refine wpF_slot 82 (.bool (!((coB (snK (rk) (rq) (fa) (tb)) (snQ (rk) (rq) (fa) (tb)) (y)) == (true)))) (.bool false) (by kernel_rfl) (by kernel_rfl) (by rw [(show (!((coB (snK (rk) (rq) (fa) (tb)) (snQ (rk) (rq) (fa) (tb)) (y)) == (true))) = false from by rw [h119]; rfl)]) ?_
                refine gF hM117 (.load 25 (.tmp 12)) (some 83) (by kernel_rfl) (Y_load 0 rfl (off := 0) (by kernel_rfl) (.agg #[.slice Ar71_1 (snK (rk) (rq) (fa) (tb)).length cr71_1, .slice Ar71_2 (snQ (rk) (rq) (fa) (tb)).length cr71_2]) (by kernel_rfl)) ?_
                refine wpF_callP hM117 (f := 22) (caps := #[]) (h := (by kernel_rfl : opAt _ _ _ _ _ = some (.call (.mk (.value (.func 22)) #[(.tmp 83)] #[25]), some 84))) (by kernel_rfl) (by kernel_rfl) (by kernel_rfl) (f22 _ _ hM117.inW Ar71_1 cr71_1 (snK (rk) (rq) (fa) (tb)) (r72.up ((le95.trans le104).trans le116)) Ar71_2 cr71_2 (snQ (rk) (rq) (fa) (tb)) (r73.up ((le95.trans le104).trans le116))) (fun v121 V122 w123 le124 hM125 hp126 => ?_)
                obtain rfl := hp126
                refine wpF_seg 3 (by kernel_rfl) ?_
                refine wpF_end _ (by kernel_rfl) (then_n (hK110 _ _ ?_))
                have h127 : (decide ((chkM (snK (rk) (rq) (fa) (tb)) (snQ (rk) (rq) (fa) (tb))) = (0))) = true := by have hs1 := hsf.resolve_right (fun h => by omega); exact decide_eq_true (chk_right hs1.2.2.2.1)
                have p128 : ((chkM (snK (rk) (rq) (fa) (tb)) (snQ (rk) (rq) (fa) (tb))) = (0)) := of_decide_eq_true h127
                refine wp_slot 87 (.bool (!(decide ((chkM (snK (rk) (rq) (fa) (tb)) (snQ (rk) (rq) (fa) (tb))) = (0))))) (.bool false) (by kernel_rfl) (by rw [(show (!(decide ((chkM (snK (rk) (rq) (fa) (tb)) (snQ (rk) (rq) (fa) (tb))) = (0)))) = false from by rw [h127]; rfl)]) ?_
                refine wp_cf (by kernel_rfl) ?_
                refine wp_skip (then_n (hK109 _ _ ?_))
                refine wp_seq_k (fun K129 hK129 => ?_)
                refine wp_reg ?_
                refine wpF_seg 3 (by kernel_rfl) ?_
                refine wpF_slot 90 (.bool (decide ((kyE (rk) (rq) (fa)) = (0)))) (.bool true) (by kernel_rfl) (by kernel_rfl) (by rw [h90]) ?_
                refine wpF_seg 7 (by kernel_rfl) ?_
                refine wpF_slot 97 (.bool (decide ((snE (rk) (rq) (fa) (tb)) = (0)))) (.bool true) (by kernel_rfl) (by kernel_rfl) (by rw [h111]) ?_
                refine wpF_seg 5 (by kernel_rfl) ?_
                refine wpF_callP hM125 (f := 16) (caps := #[]) (h := (by kernel_rfl : opAt _ _ _ _ _ = some (.call (.mk (.value (.func 16)) #[] #[]), some 103))) (by kernel_rfl) (by kernel_rfl) (by kernel_rfl) (f16 _ _ hM125.inW ) (fun v130 V131 w132 le133 hM134 hp135 => ?_)
                obtain rfl := hp135
                refine wpF_seg 2 (by kernel_rfl) ?_
                refine wpF_end _ (by kernel_rfl) (then_n (hK129 _ _ ?_))
                refine wp_ret ?_
                refine retN [.bool (true)] (.bool (true)) Try.results4 (.tmp (by kernel_rfl) (by kernel_rfl) .nil) (by kernel_rfl) (hRet _ _ ⟨_, _, rfl, hM134.clear, ?_⟩)
                -- end ffttttt
                rfl
              · -- ffttttf
                have p136 : ¬ ((snE (rk) (rq) (fa) (tb)) = (0)) := of_decide_eq_false h111
                refine wpF_seg 14 (by kernel_rfl) ?_
                refine wpF_end _ (by kernel_rfl) (then_n (hK110 _ _ ?_))
                refine wp_cf (by kernel_rfl) ?_
                refine wp_skip (then_n (hK109 _ _ ?_))
                refine wp_seq_k (fun K137 hK137 => ?_)
                refine wp_reg ?_
                refine wpF_seg 3 (by kernel_rfl) ?_
                refine wpF_slot 90 (.bool (decide ((kyE (rk) (rq) (fa)) = (0)))) (.bool true) (by kernel_rfl) (by kernel_rfl) (by rw [h90]) ?_
                refine wpF_seg 7 (by kernel_rfl) ?_
                refine wpF_slot 97 (.bool (decide ((snE (rk) (rq) (fa) (tb)) = (0)))) (.bool false) (by kernel_rfl) (by kernel_rfl) (by rw [h111]) ?_
                refine wpF_seg 5 (by kernel_rfl) ?_
                have h138 : (decide ((snE (rk) (rq) (fa) (tb)) = (9))) = true := by exact decide_eq_true (hsf.resolve_left (fun h => by omega)).1
                have p139 : ((snE (rk) (rq) (fa) (tb)) = (9)) := of_decide_eq_true h138
                refine wpF_slot 102 (.bool (decide ((snE (rk) (rq) (fa) (tb)) = (9)))) (.bool true) (by kernel_rfl) (by kernel_rfl) (by rw [h138]) ?_
                refine wpF_callP hM105 (f := 16) (caps := #[]) (h := (by kernel_rfl : opAt _ _ _ _ _ = some (.call (.mk (.value (.func 16)) #[] #[]), some 103))) (by kernel_rfl) (by kernel_rfl) (by kernel_rfl) (f16 _ _ hM105.inW ) (fun v140 V141 w142 le143 hM144 hp145 => ?_)
                obtain rfl := hp145
                refine wpF_seg 2 (by kernel_rfl) ?_
                refine wpF_end _ (by kernel_rfl) (then_n (hK137 _ _ ?_))
                refine wp_ret ?_
                refine retN [.bool (true)] (.bool (true)) Try.results4 (.tmp (by kernel_rfl) (by kernel_rfl) .nil) (by kernel_rfl) (hRet _ _ ⟨_, _, rfl, hM144.clear, ?_⟩)
                -- end ffttttf
                rfl
            · -- fftttf
              refine wpF_seg 4 (by kernel_rfl) ?_
              refine gF hM96 (.binOp .neq 4 (.tmp 57) (.tmp 63) 4) (some 64) (by kernel_rfl) (Y_neq (.bool (coB (kyK (rk) (rq) (fa)) (kyS (rk) (rq) (fa)) (y))) (.bool (decide ((y) = (fa)))) ((coB (kyK (rk) (rq) (fa)) (kyS (rk) (rq) (fa)) (y)) == (decide ((y) = (fa)))) (by kernel_rfl) (by kernel_rfl) (by kernel_rfl)) ?_
              refine wpF_seg 1 (by kernel_rfl) ?_
              have h146 : ((coB (kyK (rk) (rq) (fa)) (kyS (rk) (rq) (fa)) (y)) == (decide ((y) = (fa)))) = true := by have hk1 := hkf.resolve_right (fun h => by omega); rw [co_right hk1.2.2.2.1, hk1.2.2.2.2 y, ← co_right hr y]; first | (rw [(by assumption : coB rk rq y = true)]; rfl) | (rw [(by assumption : coB rk rq y = false), Bool.false_or]; exact beq_self_eq_true _)
              have p147 : ((coB (kyK (rk) (rq) (fa)) (kyS (rk) (rq) (fa)) (y)) = (decide ((y) = (fa)))) := by simpa using h146
              refine wpF_slot 65 (.bool (!((coB (kyK (rk) (rq) (fa)) (kyS (rk) (rq) (fa)) (y)) == (decide ((y) = (fa)))))) (.bool false) (by kernel_rfl) (by kernel_rfl) (by rw [(show (!((coB (kyK (rk) (rq) (fa)) (kyS (rk) (rq) (fa)) (y)) == (decide ((y) = (fa))))) = false from by rw [h146]; rfl)]) ?_
              refine gF hM96 (.load 25 (.tmp 10)) (some 66) (by kernel_rfl) (Y_load 1 rfl (off := 0) (by kernel_rfl) (.agg #[.slice Ar54_1 (kyK (rk) (rq) (fa)).length cr54_1, .slice Ar54_2 (kyS (rk) (rq) (fa)).length cr54_2]) (by kernel_rfl)) ?_
              refine wpF_callP hM96 (f := 22) (caps := #[]) (h := (by kernel_rfl : opAt _ _ _ _ _ = some (.call (.mk (.value (.func 22)) #[(.tmp 66)] #[25]), some 67))) (by kernel_rfl) (by kernel_rfl) (by kernel_rfl) (f22 _ _ hM96.inW Ar54_1 cr54_1 (kyK (rk) (rq) (fa)) (r55.up (le69.trans le95)) Ar54_2 cr54_2 (kyS (rk) (rq) (fa)) (r56.up (le69.trans le95))) (fun v148 V149 w150 le151 hM152 hp153 => ?_)
              obtain rfl := hp153
              refine wpF_seg 3 (by kernel_rfl) ?_
              refine wpF_end _ (by kernel_rfl) (then_n (hK89 _ _ ?_))
              have h154 : (decide ((chkM (kyK (rk) (rq) (fa)) (kyS (rk) (rq) (fa))) = (0))) = true := by have hk1 := hkf.resolve_right (fun h => by omega); exact decide_eq_true (chk_right hk1.2.2.2.1)
              have p155 : ((chkM (kyK (rk) (rq) (fa)) (kyS (rk) (rq) (fa))) = (0)) := of_decide_eq_true h154
              refine wp_slot 70 (.bool (!(decide ((chkM (kyK (rk) (rq) (fa)) (kyS (rk) (rq) (fa))) = (0))))) (.bool false) (by kernel_rfl) (by rw [(show (!(decide ((chkM (kyK (rk) (rq) (fa)) (kyS (rk) (rq) (fa))) = (0)))) = false from by rw [h154]; rfl)]) ?_
              refine wp_cf (by kernel_rfl) ?_
              refine wp_skip (then_n (hK88 _ _ ?_))
              refine wp_seq_k (fun K156 hK156 => ?_)
              refine wp_seq_k (fun K157 hK157 => ?_)
              refine wp_reg ?_
              refine wpF_seg 3 (by kernel_rfl) ?_
              refine wpF_caseB 73 (decide ((snE (rk) (rq) (fa) (tb)) = (0))) (by kernel_rfl) (by kernel_rfl) (fun h158 => ?_) (fun h158 => ?_)
              · -- fftttft
                have p159 : ((snE (rk) (rq) (fa) (tb)) = (0)) := of_decide_eq_true h158
                refine gF hM152 (.load 25 (.tmp 12)) (some 74) (by kernel_rfl) (Y_load 0 rfl (off := 0) (by kernel_rfl) (.agg #[.slice Ar71_1 (snK (rk) (rq) (fa) (tb)).length cr71_1, .slice Ar71_2 (snQ (rk) (rq) (fa) (tb)).length cr71_2]) (by kernel_rfl)) ?_
                refine wpF_seg 1 (by kernel_rfl) ?_
                refine wpF_callP hM152 (f := 25) (caps := #[]) (h := (by kernel_rfl : opAt _ _ _ _ _ = some (.call (.mk (.value (.func 25)) #[(.tmp 74), (.tmp 75)] #[25, 9]), some 76))) (by kernel_rfl) (by kernel_rfl) (by kernel_rfl) (f25 _ _ hM152.inW Ar71_1 cr71_1 (snK (rk) (rq) (fa) (tb)) (r72.up (le95.trans le151)) Ar71_2 cr71_2 (snQ (rk) (rq) (fa) (tb)) (r73.up (le95.trans le151)) (y) (hy)) (fun v160 V161 w162 le163 hM164 hp165 => ?_)
                obtain rfl := hp165
                refine wpF_seg 2 (by kernel_rfl) ?_
                refine wpF_slot 78 (.bool (coB (rk) (rq) (y))) (.bool false) (by kernel_rfl) (by kernel_rfl) (by rw [h98]) ?_
                refine wpF_seg 2 (by kernel_rfl) ?_
                refine gF hM164 (.binOp .neq 4 (.tmp 76) (.tmp 80) 4) (some 81) (by kernel_rfl) (Y_neq (.bool (coB (snK (rk) (rq) (fa) (tb)) (snQ (rk) (rq) (fa) (tb)) (y))) (.bool (true)) ((coB (snK (rk) (rq) (fa) (tb)) (snQ (rk) (rq) (fa) (tb)) (y)) == (true)) (by kernel_rfl) (by kernel_rfl) (by kernel_rfl)) ?_
                refine wpF_seg 1 (by kernel_rfl) ?_
                have h166 : ((coB (snK (rk) (rq) (fa) (tb)) (snQ (rk) (rq) (fa) (tb)) (y)) == (true)) = true := by have hs1 := hsf.resolve_right (fun h => by omega); rw [co_right hs1.2.2.2.1, hs1.2.2.2.2 y, ← co_right hr y]; first | (rw [(by assumption : coB rk rq y = true)]; rfl) | (rw [(by assumption : coB rk rq y = false), Bool.false_or]; (first | rw [within_1 (by assumption)] | rw [within_2 (by assumption) (by assumption)] | rw [within_3 (by assumption) (by assumption)]); first | rfl | exact beq_self_eq_true _)
                have p167 : ((coB (snK (rk) (rq) (fa) (tb)) (snQ (rk) (rq) (fa) (tb)) (y)) = (true)) := by simpa using h166
                refine wpF_slot 82 (.bool (!((coB (snK (rk) (rq) (fa) (tb)) (snQ (rk) (rq) (fa) (tb)) (y)) == (true)))) (.bool false) (by kernel_rfl) (by kernel_rfl) (by rw [(show (!((coB (snK (rk) (rq) (fa) (tb)) (snQ (rk) (rq) (fa) (tb)) (y)) == (true))) = false from by rw [h166]; rfl)]) ?_
                refine gF hM164 (.load 25 (.tmp 12)) (some 83) (by kernel_rfl) (Y_load 0 rfl (off := 0) (by kernel_rfl) (.agg #[.slice Ar71_1 (snK (rk) (rq) (fa) (tb)).length cr71_1, .slice Ar71_2 (snQ (rk) (rq) (fa) (tb)).length cr71_2]) (by kernel_rfl)) ?_
                refine wpF_callP hM164 (f := 22) (caps := #[]) (h := (by kernel_rfl : opAt _ _ _ _ _ = some (.call (.mk (.value (.func 22)) #[(.tmp 83)] #[25]), some 84))) (by kernel_rfl) (by kernel_rfl) (by kernel_rfl) (f22 _ _ hM164.inW Ar71_1 cr71_1 (snK (rk) (rq) (fa) (tb)) (r72.up ((le95.trans le151).trans le163)) Ar71_2 cr71_2 (snQ (rk) (rq) (fa) (tb)) (r73.up ((le95.trans le151).trans le163))) (fun v168 V169 w170 le171 hM172 hp173 => ?_)
                obtain rfl := hp173
                refine wpF_seg 3 (by kernel_rfl) ?_
                refine wpF_end _ (by kernel_rfl) (then_n (hK157 _ _ ?_))
                have h174 : (decide ((chkM (snK (rk) (rq) (fa) (tb)) (snQ (rk) (rq) (fa) (tb))) = (0))) = true := by have hs1 := hsf.resolve_right (fun h => by omega); exact decide_eq_true (chk_right hs1.2.2.2.1)
                have p175 : ((chkM (snK (rk) (rq) (fa) (tb)) (snQ (rk) (rq) (fa) (tb))) = (0)) := of_decide_eq_true h174
                refine wp_slot 87 (.bool (!(decide ((chkM (snK (rk) (rq) (fa) (tb)) (snQ (rk) (rq) (fa) (tb))) = (0))))) (.bool false) (by kernel_rfl) (by rw [(show (!(decide ((chkM (snK (rk) (rq) (fa) (tb)) (snQ (rk) (rq) (fa) (tb))) = (0)))) = false from by rw [h174]; rfl)]) ?_
                refine wp_cf (by kernel_rfl) ?_
                refine wp_skip (then_n (hK156 _ _ ?_))
                refine wp_seq_k (fun K176 hK176 => ?_)
                refine wp_reg ?_
                refine wpF_seg 3 (by kernel_rfl) ?_
                refine wpF_slot 90 (.bool (decide ((kyE (rk) (rq) (fa)) = (0)))) (.bool true) (by kernel_rfl) (by kernel_rfl) (by rw [h90]) ?_
                refine wpF_seg 7 (by kernel_rfl) ?_
                refine wpF_slot 97 (.bool (decide ((snE (rk) (rq) (fa) (tb)) = (0)))) (.bool true) (by kernel_rfl) (by kernel_rfl) (by rw [h158]) ?_
                refine wpF_seg 5 (by kernel_rfl) ?_
                refine wpF_callP hM172 (f := 16) (caps := #[]) (h := (by kernel_rfl : opAt _ _ _ _ _ = some (.call (.mk (.value (.func 16)) #[] #[]), some 103))) (by kernel_rfl) (by kernel_rfl) (by kernel_rfl) (f16 _ _ hM172.inW ) (fun v177 V178 w179 le180 hM181 hp182 => ?_)
                obtain rfl := hp182
                refine wpF_seg 2 (by kernel_rfl) ?_
                refine wpF_end _ (by kernel_rfl) (then_n (hK176 _ _ ?_))
                refine wp_ret ?_
                refine retN [.bool (true)] (.bool (true)) Try.results4 (.tmp (by kernel_rfl) (by kernel_rfl) .nil) (by kernel_rfl) (hRet _ _ ⟨_, _, rfl, hM181.clear, ?_⟩)
                -- end fftttft
                rfl
              · -- fftttff
                have p183 : ¬ ((snE (rk) (rq) (fa) (tb)) = (0)) := of_decide_eq_false h158
                refine wpF_seg 14 (by kernel_rfl) ?_
                refine wpF_end _ (by kernel_rfl) (then_n (hK157 _ _ ?_))
                refine wp_cf (by kernel_rfl) ?_
                refine wp_skip (then_n (hK156 _ _ ?_))
                refine wp_seq_k (fun K184 hK184 => ?_)
                refine wp_reg ?_
                refine wpF_seg 3 (by kernel_rfl) ?_
                refine wpF_slot 90 (.bool (decide ((kyE (rk) (rq) (fa)) = (0)))) (.bool true) (by kernel_rfl) (by kernel_rfl) (by rw [h90]) ?_
                refine wpF_seg 7 (by kernel_rfl) ?_
                refine wpF_slot 97 (.bool (decide ((snE (rk) (rq) (fa) (tb)) = (0)))) (.bool false) (by kernel_rfl) (by kernel_rfl) (by rw [h158]) ?_
                refine wpF_seg 5 (by kernel_rfl) ?_
                have h185 : (decide ((snE (rk) (rq) (fa) (tb)) = (9))) = true := by exact decide_eq_true (hsf.resolve_left (fun h => by omega)).1
                have p186 : ((snE (rk) (rq) (fa) (tb)) = (9)) := of_decide_eq_true h185
                refine wpF_slot 102 (.bool (decide ((snE (rk) (rq) (fa) (tb)) = (9)))) (.bool true) (by kernel_rfl) (by kernel_rfl) (by rw [h185]) ?_
                refine wpF_callP hM152 (f := 16) (caps := #[]) (h := (by kernel_rfl : opAt _ _ _ _ _ = some (.call (.mk (.value (.func 16)) #[] #[]), some 103))) (by kernel_rfl) (by kernel_rfl) (by kernel_rfl) (f16 _ _ hM152.inW ) (fun v187 V188 w189 le190 hM191 hp192 => ?_)
                obtain rfl := hp192
                refine wpF_seg 2 (by kernel_rfl) ?_
                refine wpF_end _ (by kernel_rfl) (then_n (hK184 _ _ ?_))
                refine wp_ret ?_
                refine retN [.bool (true)] (.bool (true)) Try.results4 (.tmp (by kernel_rfl) (by kernel_rfl) .nil) (by kernel_rfl) (hRet _ _ ⟨_, _, rfl, hM191.clear, ?_⟩)
                -- end fftttff
                rfl
          · -- ffttf
            have p193 : ¬ ((kyE (rk) (rq) (fa)) = (0)) := of_decide_eq_false h90
            refine wpF_seg 16 (by kernel_rfl) ?_
            refine wpF_end _ (by kernel_rfl) (then_n (hK89 _ _ ?_))
            refine wp_cf (by kernel_rfl) ?_
            refine wp_skip (then_n (hK88 _ _ ?_))
            refine wp_seq_k (fun K194 hK194 => ?_)
            refine wp_seq_k (fun K195 hK195 => ?_)
            refine wp_reg ?_
            refine wpF_seg 3 (by kernel_rfl) ?_
            refine wpF_caseB 73 (decide ((snE (rk) (rq) (fa) (tb)) = (0))) (by kernel_rfl) (by kernel_rfl) (fun h196 => ?_) (fun h196 => ?_)
            · -- ffttft
              have p197 : ((snE (rk) (rq) (fa) (tb)) = (0)) := of_decide_eq_true h196
              refine gF hM81 (.load 25 (.tmp 12)) (some 74) (by kernel_rfl) (Y_load 0 rfl (off := 0) (by kernel_rfl) (.agg #[.slice Ar71_1 (snK (rk) (rq) (fa) (tb)).length cr71_1, .slice Ar71_2 (snQ (rk) (rq) (fa) (tb)).length cr71_2]) (by kernel_rfl)) ?_
              refine wpF_seg 1 (by kernel_rfl) ?_
              refine wpF_callP hM81 (f := 25) (caps := #[]) (h := (by kernel_rfl : opAt _ _ _ _ _ = some (.call (.mk (.value (.func 25)) #[(.tmp 74), (.tmp 75)] #[25, 9]), some 76))) (by kernel_rfl) (by kernel_rfl) (by kernel_rfl) (f25 _ _ hM81.inW Ar71_1 cr71_1 (snK (rk) (rq) (fa) (tb)) r72 Ar71_2 cr71_2 (snQ (rk) (rq) (fa) (tb)) r73 (y) (hy)) (fun v198 V199 w200 le201 hM202 hp203 => ?_)
              obtain rfl := hp203
              refine wpF_seg 2 (by kernel_rfl) ?_
              refine wpF_caseB 78 (coB (rk) (rq) (y)) (by kernel_rfl) (by kernel_rfl) (fun h204 => ?_) (fun h204 => ?_)
              · -- ffttftt
                refine wpF_seg 2 (by kernel_rfl) ?_
                refine gF hM202 (.binOp .neq 4 (.tmp 76) (.tmp 80) 4) (some 81) (by kernel_rfl) (Y_neq (.bool (coB (snK (rk) (rq) (fa) (tb)) (snQ (rk) (rq) (fa) (tb)) (y))) (.bool (true)) ((coB (snK (rk) (rq) (fa) (tb)) (snQ (rk) (rq) (fa) (tb)) (y)) == (true)) (by kernel_rfl) (by kernel_rfl) (by kernel_rfl)) ?_
                refine wpF_seg 1 (by kernel_rfl) ?_
                have h205 : ((coB (snK (rk) (rq) (fa) (tb)) (snQ (rk) (rq) (fa) (tb)) (y)) == (true)) = true := by have hs1 := hsf.resolve_right (fun h => by omega); rw [co_right hs1.2.2.2.1, hs1.2.2.2.2 y, ← co_right hr y]; first | (rw [(by assumption : coB rk rq y = true)]; rfl) | (rw [(by assumption : coB rk rq y = false), Bool.false_or]; (first | rw [within_1 (by assumption)] | rw [within_2 (by assumption) (by assumption)] | rw [within_3 (by assumption) (by assumption)]); first | rfl | exact beq_self_eq_true _)
                have p206 : ((coB (snK (rk) (rq) (fa) (tb)) (snQ (rk) (rq) (fa) (tb)) (y)) = (true)) := by simpa using h205
                refine wpF_slot 82 (.bool (!((coB (snK (rk) (rq) (fa) (tb)) (snQ (rk) (rq) (fa) (tb)) (y)) == (true)))) (.bool false) (by kernel_rfl) (by kernel_rfl) (by rw [(show (!((coB (snK (rk) (rq) (fa) (tb)) (snQ (rk) (rq) (fa) (tb)) (y)) == (true))) = false from by rw [h205]; rfl)]) ?_
                refine gF hM202 (.load 25 (.tmp 12)) (some 83) (by kernel_rfl) (Y_load 0 rfl (off := 0) (by kernel_rfl) (.agg #[.slice Ar71_1 (snK (rk) (rq) (fa) (tb)).length cr71_1, .slice Ar71_2 (snQ (rk) (rq) (fa) (tb)).length cr71_2]) (by kernel_rfl)) ?_
                refine wpF_callP hM202 (f := 22) (caps := #[]) (h := (by kernel_rfl : opAt _ _ _ _ _ = some (.call (.mk (.value (.func 22)) #[(.tmp 83)] #[25]), some 84))) (by kernel_rfl) (by kernel_rfl) (by kernel_rfl) (f22 _ _ hM202.inW Ar71_1 cr71_1 (snK (rk) (rq) (fa) (tb)) (r72.up le201) Ar71_2 cr71_2 (snQ (rk) (rq) (fa) (tb)) (r73.up le201)) (fun v207 V208 w209 le210 hM211 hp212 => ?_)
                obtain rfl := hp212
                refine wpF_seg 3 (by kernel_rfl) ?_
                refine wpF_end _ (by kernel_rfl) (then_n (hK195 _ _ ?_))
                have h213 : (decide ((chkM (snK (rk) (rq) (fa) (tb)) (snQ (rk) (rq) (fa) (tb))) = (0))) = true := by have hs1 := hsf.resolve_right (fun h => by omega); exact decide_eq_true (chk_right hs1.2.2.2.1)
                have p214 : ((chkM (snK (rk) (rq) (fa) (tb)) (snQ (rk) (rq) (fa) (tb))) = (0)) := of_decide_eq_true h213
                refine wp_slot 87 (.bool (!(decide ((chkM (snK (rk) (rq) (fa) (tb)) (snQ (rk) (rq) (fa) (tb))) = (0))))) (.bool false) (by kernel_rfl) (by rw [(show (!(decide ((chkM (snK (rk) (rq) (fa) (tb)) (snQ (rk) (rq) (fa) (tb))) = (0)))) = false from by rw [h213]; rfl)]) ?_
                refine wp_cf (by kernel_rfl) ?_
                refine wp_skip (then_n (hK194 _ _ ?_))
                refine wp_seq_k (fun K215 hK215 => ?_)
                refine wp_reg ?_
                refine wpF_seg 3 (by kernel_rfl) ?_
                refine wpF_slot 90 (.bool (decide ((kyE (rk) (rq) (fa)) = (0)))) (.bool false) (by kernel_rfl) (by kernel_rfl) (by rw [h90]) ?_
                refine wpF_seg 4 (by kernel_rfl) ?_
                have h216 : (decide ((kyE (rk) (rq) (fa)) = (9))) = true := by exact decide_eq_true (hkf.resolve_left (fun h => by omega)).1
                have p217 : ((kyE (rk) (rq) (fa)) = (9)) := of_decide_eq_true h216
                refine wpF_slot 94 (.bool (decide ((kyE (rk) (rq) (fa)) = (9)))) (.bool true) (by kernel_rfl) (by kernel_rfl) (by rw [h216]) ?_
                refine wpF_seg 3 (by kernel_rfl) ?_
                refine wpF_slot 97 (.bool (decide ((snE (rk) (rq) (fa) (tb)) = (0)))) (.bool true) (by kernel_rfl) (by kernel_rfl) (by rw [h196]) ?_
                refine wpF_seg 5 (by kernel_rfl) ?_
                refine wpF_callP hM211 (f := 16) (caps := #[]) (h := (by kernel_rfl : opAt _ _ _ _ _ = some (.call (.mk (.value (.func 16)) #[] #[]), some 103))) (by kernel_rfl) (by kernel_rfl) (by kernel_rfl) (f16 _ _ hM211.inW ) (fun v218 V219 w220 le221 hM222 hp223 => ?_)
                obtain rfl := hp223
                refine wpF_seg 2 (by kernel_rfl) ?_
                refine wpF_end _ (by kernel_rfl) (then_n (hK215 _ _ ?_))
                refine wp_ret ?_
                refine retN [.bool (true)] (.bool (true)) Try.results4 (.tmp (by kernel_rfl) (by kernel_rfl) .nil) (by kernel_rfl) (hRet _ _ ⟨_, _, rfl, hM222.clear, ?_⟩)
                -- end ffttftt
                rfl
              · -- ffttftf
                refine wpF_seg 2 (by kernel_rfl) ?_
                refine gF hM202 (.binOp .neq 4 (.tmp 76) (.tmp 80) 4) (some 81) (by kernel_rfl) (Y_neq (.bool (coB (snK (rk) (rq) (fa) (tb)) (snQ (rk) (rq) (fa) (tb)) (y))) (.bool (true)) ((coB (snK (rk) (rq) (fa) (tb)) (snQ (rk) (rq) (fa) (tb)) (y)) == (true)) (by kernel_rfl) (by kernel_rfl) (by kernel_rfl)) ?_
                refine wpF_seg 1 (by kernel_rfl) ?_
                have h224 : ((coB (snK (rk) (rq) (fa) (tb)) (snQ (rk) (rq) (fa) (tb)) (y)) == (true)) = true := by have hs1 := hsf.resolve_right (fun h => by omega); rw [co_right hs1.2.2.2.1, hs1.2.2.2.2 y, ← co_right hr y]; first | (rw [(by assumption : coB rk rq y = true)]; rfl) | (rw [(by assumption : coB rk rq y = false), Bool.false_or]; (first | rw [within_1 (by assumption)] | rw [within_2 (by assumption) (by assumption)] | rw [within_3 (by assumption) (by assumption)]); first | rfl | exact beq_self_eq_true _)
                have p225 : ((coB (snK (rk) (rq) (fa) (tb)) (snQ (rk) (rq) (fa) (tb)) (y)) = (true)) := by simpa using h224
                refine wpF_slot 82 (.bool (!((coB (snK (rk) (rq) (fa) (tb)) (snQ (rk) (rq) (fa) (tb)) (y)) == (true)))) (.bool false) (by kernel_rfl) (by kernel_rfl) (by rw [(show (!((coB (snK (rk) (rq) (fa) (tb)) (snQ (rk) (rq) (fa) (tb)) (y)) == (true))) = false from by rw [h224]; rfl)]) ?_
                refine gF hM202 (.load 25 (.tmp 12)) (some 83) (by kernel_rfl) (Y_load 0 rfl (off := 0) (by kernel_rfl) (.agg #[.slice Ar71_1 (snK (rk) (rq) (fa) (tb)).length cr71_1, .slice Ar71_2 (snQ (rk) (rq) (fa) (tb)).length cr71_2]) (by kernel_rfl)) ?_
                refine wpF_callP hM202 (f := 22) (caps := #[]) (h := (by kernel_rfl : opAt _ _ _ _ _ = some (.call (.mk (.value (.func 22)) #[(.tmp 83)] #[25]), some 84))) (by kernel_rfl) (by kernel_rfl) (by kernel_rfl) (f22 _ _ hM202.inW Ar71_1 cr71_1 (snK (rk) (rq) (fa) (tb)) (r72.up le201) Ar71_2 cr71_2 (snQ (rk) (rq) (fa) (tb)) (r73.up le201)) (fun v226 V227 w228 le229 hM230 hp231 => ?_)
                obtain rfl := hp231
                refine wpF_seg 3 (by kernel_rfl) ?_
                refine wpF_end _ (by kernel_rfl) (then_n (hK195 _ _ ?_))
                have h232 : (decide ((chkM (snK (rk) (rq) (fa) (tb)) (snQ (rk) (rq) (fa) (tb))) = (0))) = true := by have hs1 := hsf.resolve_right (fun h => by omega); exact decide_eq_true (chk_right hs1.2.2.2.1)
                have p233 : ((chkM (snK (rk) (rq) (fa) (tb)) (snQ (rk) (rq) (fa) (tb))) = (0)) := of_decide_eq_true h232
                refine wp_slot 87 (.bool (!(decide ((chkM (snK (rk) (rq) (fa) (tb)) (snQ (rk) (rq) (fa) (tb))) = (0))))) (.bool false) (by kernel_rfl) (by rw [(show (!(decide ((chkM (snK (rk) (rq) (fa) (tb)) (snQ (rk) (rq) (fa) (tb))) = (0)))) = false from by rw [h232]; rfl)]) ?_
                refine wp_cf (by kernel_rfl) ?_
                refine wp_skip (then_n (hK194 _ _ ?_))
                refine wp_seq_k (fun K234 hK234 => ?_)
                refine wp_reg ?_
                refine wpF_seg 3 (by kernel_rfl) ?_
                refine wpF_slot 90 (.bool (decide ((kyE (rk) (rq) (fa)) = (0)))) (.bool false) (by kernel_rfl) (by kernel_rfl) (by rw [h90]) ?_
                refine wpF_seg 4 (by kernel_rfl) ?_
                have h235 : (decide ((kyE (rk) (rq) (fa)) = (9))) = true := by exact decide_eq_true (hkf.resolve_left (fun h => by omega)).1
                have p236 : ((kyE (rk) (rq) (fa)) = (9)) := of_decide_eq_true h235
                refine wpF_slot 94 (.bool (decide ((kyE (rk) (rq) (fa)) = (9)))) (.bool true) (by kernel_rfl) (by kernel_rfl) (by rw [h235]) ?_
                refine wpF_seg 3 (by kernel_rfl) ?_
                refine wpF_slot 97 (.bool (decide ((snE (rk) (rq) (fa) (tb)) = (0)))) (.bool true) (by kernel_rfl) (by kernel_rfl) (by rw [h196]) ?_
                refine wpF_seg 5 (by kernel_rfl) ?_
                refine wpF_callP hM230 (f := 16) (caps := #[]) (h := (by kernel_rfl : opAt _ _ _ _ _ = some (.call (.mk (.value (.func 16)) #[] #[]), some 103))) (by kernel_rfl) (by kernel_rfl) (by kernel_rfl) (f16 _ _ hM230.inW ) (fun v237 V238 w239 le240 hM241 hp242 => ?_)
                obtain rfl := hp242
                refine wpF_seg 2 (by kernel_rfl) ?_
                refine wpF_end _ (by kernel_rfl) (then_n (hK234 _ _ ?_))
                refine wp_ret ?_
                refine retN [.bool (true)] (.bool (true)) Try.results4 (.tmp (by kernel_rfl) (by kernel_rfl) .nil) (by kernel_rfl) (hRet _ _ ⟨_, _, rfl, hM241.clear, ?_⟩)
                -- end ffttftf
                rfl
            · -- ffttff
              have p243 : ¬ ((snE (rk) (rq) (fa) (tb)) = (0)) := of_decide_eq_false h196
              refine wpF_seg 14 (by kernel_rfl) ?_
              refine wpF_end _ (by kernel_rfl) (then_n (hK195 _ _ ?_))
              refine wp_cf (by kernel_rfl) ?_
              refine wp_skip (then_n (hK194 _ _ ?_))
              refine wp_seq_k (fun K244 hK244 => ?_)
              refine wp_reg ?_
              refine wpF_seg 3 (by kernel_rfl) ?_
              refine wpF_slot 90 (.bool (decide ((kyE (rk) (rq) (fa)) = (0)))) (.bool false) (by kernel_rfl) (by kernel_rfl) (by rw [h90]) ?_
              refine wpF_seg 4 (by kernel_rfl) ?_
              have h245 : (decide ((kyE (rk) (rq) (fa)) = (9))) = true := by exact decide_eq_true (hkf.resolve_left (fun h => by omega)).1
              have p246 : ((kyE (rk) (rq) (fa)) = (9)) := of_decide_eq_true h245
              refine wpF_slot 94 (.bool (decide ((kyE (rk) (rq) (fa)) = (9)))) (.bool true) (by kernel_rfl) (by kernel_rfl) (by rw [h245]) ?_
              refine wpF_seg 3 (by kernel_rfl) ?_
              refine wpF_slot 97 (.bool (decide ((snE (rk) (rq) (fa) (tb)) = (0)))) (.bool false) (by kernel_rfl) (by kernel_rfl) (by rw [h196]) ?_
              refine wpF_seg 5 (by kernel_rfl) ?_
              have h247 : (decide ((snE (rk) (rq) (fa) (tb)) = (9))) = true := by exact decide_eq_true (hsf.resolve_left (fun h => by omega)).1
              have p248 : ((snE (rk) (rq) (fa) (tb)) = (9)) := of_decide_eq_true h247
              refine wpF_slot 102 (.bool (decide ((snE (rk) (rq) (fa) (tb)) = (9)))) (.bool true) (by kernel_rfl) (by kernel_rfl) (by rw [h247]) ?_
              refine wpF_callP hM81 (f := 16) (caps := #[]) (h := (by kernel_rfl : opAt _ _ _ _ _ = some (.call (.mk (.value (.func 16)) #[] #[]), some 103))) (by kernel_rfl) (by kernel_rfl) (by kernel_rfl) (f16 _ _ hM81.inW ) (fun v249 V250 w251 le252 hM253 hp254 => ?_)
              obtain rfl := hp254
              refine wpF_seg 2 (by kernel_rfl) ?_
              refine wpF_end _ (by kernel_rfl) (then_n (hK244 _ _ ?_))
              refine wp_ret ?_
              refine retN [.bool (true)] (.bool (true)) Try.results4 (.tmp (by kernel_rfl) (by kernel_rfl) .nil) (by kernel_rfl) (hRet _ _ ⟨_, _, rfl, hM253.clear, ?_⟩)
              -- end ffttff
              rfl
        · -- fftf
          have p255 : ¬ ((tb) = ([])) := of_decide_eq_false h86
          refine wpF_seg 6 (by kernel_rfl) ?_
          refine wpF_end _ (by kernel_rfl) (then_n (hK82 _ _ ?_))
          refine wp_seq_k (fun K256 hK256 => ?_)
          refine wp_seq_k (fun K257 hK257 => ?_)
          refine wp_reg ?_
          refine wpF_seg 3 (by kernel_rfl) ?_
          refine wpF_caseB 54 (decide ((kyE (rk) (rq) (fa)) = (0))) (by kernel_rfl) (by kernel_rfl) (fun h258 => ?_) (fun h258 => ?_)
          · -- fftft
            have p259 : ((kyE (rk) (rq) (fa)) = (0)) := of_decide_eq_true h258
            refine gF hM81 (.load 25 (.tmp 10)) (some 55) (by kernel_rfl) (Y_load 1 rfl (off := 0) (by kernel_rfl) (.agg #[.slice Ar54_1 (kyK (rk) (rq) (fa)).length cr54_1, .slice Ar54_2 (kyS (rk) (rq) (fa)).length cr54_2]) (by kernel_rfl)) ?_
            refine wpF_seg 1 (by kernel_rfl) ?_
            refine wpF_callP hM81 (f := 25) (caps := #[]) (h := (by kernel_rfl : opAt _ _ _ _ _ = some (.call (.mk (.value (.func 25)) #[(.tmp 55), (.tmp 56)] #[25, 9]), some 57))) (by kernel_rfl) (by kernel_rfl) (by kernel_rfl) (f25 _ _ hM81.inW Ar54_1 cr54_1 (kyK (rk) (rq) (fa)) (r55.up le69) Ar54_2 cr54_2 (kyS (rk) (rq) (fa)) (r56.up le69) (y) (hy)) (fun v260 V261 w262 le263 hM264 hp265 => ?_)
            obtain rfl := hp265
            refine wpF_seg 2 (by kernel_rfl) ?_
            refine wpF_caseB 59 (coB (rk) (rq) (y)) (by kernel_rfl) (by kernel_rfl) (fun h266 => ?_) (fun h266 => ?_)
            · -- fftftt
              refine wpF_seg 4 (by kernel_rfl) ?_
              refine gF hM264 (.binOp .neq 4 (.tmp 57) (.tmp 63) 4) (some 64) (by kernel_rfl) (Y_neq (.bool (coB (kyK (rk) (rq) (fa)) (kyS (rk) (rq) (fa)) (y))) (.bool (true)) ((coB (kyK (rk) (rq) (fa)) (kyS (rk) (rq) (fa)) (y)) == (true)) (by kernel_rfl) (by kernel_rfl) (by kernel_rfl)) ?_
              refine wpF_seg 1 (by kernel_rfl) ?_
              have h267 : ((coB (kyK (rk) (rq) (fa)) (kyS (rk) (rq) (fa)) (y)) == (true)) = true := by have hk1 := hkf.resolve_right (fun h => by omega); rw [co_right hk1.2.2.2.1, hk1.2.2.2.2 y, ← co_right hr y]; first | (rw [(by assumption : coB rk rq y = true)]; rfl) | (rw [(by assumption : coB rk rq y = false), Bool.false_or]; exact beq_self_eq_true _)
              have p268 : ((coB (kyK (rk) (rq) (fa)) (kyS (rk) (rq) (fa)) (y)) = (true)) := by simpa using h267
              refine wpF_slot 65 (.bool (!((coB (kyK (rk) (rq) (fa)) (kyS (rk) (rq) (fa)) (y)) == (true)))) (.bool false) (by kernel_rfl) (by kernel_rfl) (by rw [(show (!((coB (kyK (rk) (rq) (fa)) (kyS (rk) (rq) (fa)) (y)) == (true))) = false from by rw [h267]; rfl)]) ?_
              refine gF hM264 (.load 25 (.tmp 10)) (some 66) (by kernel_rfl) (Y_load 1 rfl (off := 0) (by kernel_rfl) (.agg #[.slice Ar54_1 (kyK (rk) (rq) (fa)).length cr54_1, .slice Ar54_2 (kyS (rk) (rq) (fa)).length cr54_2]) (by kernel_rfl)) ?_
              refine wpF_callP hM264 (f := 22) (caps := #[]) (h := (by kernel_rfl : opAt _ _ _ _ _ = some (.call (.mk (.value (.func 22)) #[(.tmp 66)] #[25]), some 67))) (by kernel_rfl) (by kernel_rfl) (by kernel_rfl) (f22 _ _ hM264.inW Ar54_1 cr54_1 (kyK (rk) (rq) (fa)) (r55.up (le69.trans le263)) Ar54_2 cr54_2 (kyS (rk) (rq) (fa)) (r56.up (le69.trans le263))) (fun v269 V270 w271 le272 hM273 hp274 => ?_)
              obtain rfl := hp274
              refine wpF_seg 3 (by kernel_rfl) ?_
              refine wpF_end _ (by kernel_rfl) (then_n (hK257 _ _ ?_))
              have h275 : (decide ((chkM (kyK (rk) (rq) (fa)) (kyS (rk) (rq) (fa))) = (0))) = true := by have hk1 := hkf.resolve_right (fun h => by omega); exact decide_eq_true (chk_right hk1.2.2.2.1)
              have p276 : ((chkM (kyK (rk) (rq) (fa)) (kyS (rk) (rq) (fa))) = (0)) := of_decide_eq_true h275
              refine wp_slot 70 (.bool (!(decide ((chkM (kyK (rk) (rq) (fa)) (kyS (rk) (rq) (fa))) = (0))))) (.bool false) (by kernel_rfl) (by rw [(show (!(decide ((chkM (kyK (rk) (rq) (fa)) (kyS (rk) (rq) (fa))) = (0)))) = false from by rw [h275]; rfl)]) ?_
              refine wp_cf (by kernel_rfl) ?_
              refine wp_skip (then_n (hK256 _ _ ?_))
              refine wp_seq_k (fun K277 hK277 => ?_)
              refine wp_seq_k (fun K278 hK278 => ?_)
              refine wp_reg ?_
              refine wpF_seg 3 (by kernel_rfl) ?_
              refine wpF_caseB 73 (decide ((snE (rk) (rq) (fa) (tb)) = (0))) (by kernel_rfl) (by kernel_rfl) (fun h279 => ?_) (fun h279 => ?_)
              · -- fftfttt
                have p280 : ((snE (rk) (rq) (fa) (tb)) = (0)) := of_decide_eq_true h279
                refine gF hM273 (.load 25 (.tmp 12)) (some 74) (by kernel_rfl) (Y_load 0 rfl (off := 0) (by kernel_rfl) (.agg #[.slice Ar71_1 (snK (rk) (rq) (fa) (tb)).length cr71_1, .slice Ar71_2 (snQ (rk) (rq) (fa) (tb)).length cr71_2]) (by kernel_rfl)) ?_
                refine wpF_seg 1 (by kernel_rfl) ?_
                refine wpF_callP hM273 (f := 25) (caps := #[]) (h := (by kernel_rfl : opAt _ _ _ _ _ = some (.call (.mk (.value (.func 25)) #[(.tmp 74), (.tmp 75)] #[25, 9]), some 76))) (by kernel_rfl) (by kernel_rfl) (by kernel_rfl) (f25 _ _ hM273.inW Ar71_1 cr71_1 (snK (rk) (rq) (fa) (tb)) (r72.up (le263.trans le272)) Ar71_2 cr71_2 (snQ (rk) (rq) (fa) (tb)) (r73.up (le263.trans le272)) (y) (hy)) (fun v281 V282 w283 le284 hM285 hp286 => ?_)
                obtain rfl := hp286
                refine wpF_seg 2 (by kernel_rfl) ?_
                refine wpF_slot 78 (.bool (coB (rk) (rq) (y))) (.bool true) (by kernel_rfl) (by kernel_rfl) (by rw [h266]) ?_
                refine wpF_seg 2 (by kernel_rfl) ?_
                refine gF hM285 (.binOp .neq 4 (.tmp 76) (.tmp 80) 4) (some 81) (by kernel_rfl) (Y_neq (.bool (coB (snK (rk) (rq) (fa) (tb)) (snQ (rk) (rq) (fa) (tb)) (y))) (.bool (true)) ((coB (snK (rk) (rq) (fa) (tb)) (snQ (rk) (rq) (fa) (tb)) (y)) == (true)) (by kernel_rfl) (by kernel_rfl) (by kernel_rfl)) ?_
                refine wpF_seg 1 (by kernel_rfl) ?_
                have h287 : ((coB (snK (rk) (rq) (fa) (tb)) (snQ (rk) (rq) (fa) (tb)) (y)) == (true)) = true := by have hs1 := hsf.resolve_right (fun h => by omega); rw [co_right hs1.2.2.2.1, hs1.2.2.2.2 y, ← co_right hr y]; first | (rw [(by assumption : coB rk rq y = true)]; rfl) | (rw [(by assumption : coB rk rq y = false), Bool.false_or]; (first | rw [within_1 (by assumption)] | rw [within_2 (by assumption) (by assumption)] | rw [within_3 (by assumption) (by assumption)]); first | rfl | exact beq_self_eq_true _)
                have p288 : ((coB (snK (rk) (rq) (fa) (tb)) (snQ (rk) (rq) (fa) (tb)) (y)) = (true)) := by simpa using h287
                refine wpF_slot 82 (.bool (!((coB (snK (rk) (rq) (fa) (tb)) (snQ (rk) (rq) (fa) (tb)) (y)) == (true)))) (.bool false) (by kernel_rfl) (by kernel_rfl) (by rw [(show (!((coB (snK (rk) (rq) (fa) (tb)) (snQ (rk) (rq) (fa) (tb)) (y)) == (true))) = false from by rw [h287]; rfl)]) ?_
                refine gF hM285 (.load 25 (.tmp 12)) (some 83) (by kernel_rfl) (Y_load 0 rfl (off := 0) (by kernel_rfl) (.agg #[.slice Ar71_1 (snK (rk) (rq) (fa) (tb)).length cr71_1, .slice Ar71_2 (snQ (rk) (rq) (fa) (tb)).length cr71_2]) (by kernel_rfl)) ?_
                refine wpF_callP hM285 (f := 22) (caps := #[]) (h := (by kernel_rfl : opAt _ _ _ _ _ = some (.call (.mk (.value (.func 22)) #[(.tmp 83)] #[25]), some 84))) (by kernel_rfl) (by kernel_rfl) (by kernel_rfl) (f22 _ _ hM285.inW Ar71_1 cr71_1 (snK (rk) (rq) (fa) (tb)) (r72.up ((le263.trans le272).trans le284)) Ar71_2 cr71_2 (snQ (rk) (rq) (fa) (tb)) (r73.up ((le263.trans le272).trans le284))) (fun v289 V290 w291 le292 hM293 hp294 => ?_)
                obtain rfl := hp294
                refine wpF_seg 3 (by kernel_rfl) ?_
                refine wpF_end _ (by kernel_rfl) (then_n (hK278 _ _ ?_))
                have h295 : (decide ((chkM (snK (rk) (rq) (fa) (tb)) (snQ (rk) (rq) (fa) (tb))) = (0))) = true := by have hs1 := hsf.resolve_right (fun h => by omega); exact decide_eq_true (chk_right hs1.2.2.2.1)
                have p296 : ((chkM (snK (rk) (rq) (fa) (tb)) (snQ (rk) (rq) (fa) (tb))) = (0)) := of_decide_eq_true h295
                refine wp_slot 87 (.bool (!(decide ((chkM (snK (rk) (rq) (fa) (tb)) (snQ (rk) (rq) (fa) (tb))) = (0))))) (.bool false) (by kernel_rfl) (by rw [(show (!(decide ((chkM (snK (rk) (rq) (fa) (tb)) (snQ (rk) (rq) (fa) (tb))) = (0)))) = false from by rw [h295]; rfl)]) ?_
                refine wp_cf (by kernel_rfl) ?_
                refine wp_skip (then_n (hK277 _ _ ?_))
                refine wp_seq_k (fun K297 hK297 => ?_)
                refine wp_reg ?_
                refine wpF_seg 3 (by kernel_rfl) ?_
                refine wpF_slot 90 (.bool (decide ((kyE (rk) (rq) (fa)) = (0)))) (.bool true) (by kernel_rfl) (by kernel_rfl) (by rw [h258]) ?_
                refine wpF_seg 7 (by kernel_rfl) ?_
                refine wpF_slot 97 (.bool (decide ((snE (rk) (rq) (fa) (tb)) = (0)))) (.bool true) (by kernel_rfl) (by kernel_rfl) (by rw [h279]) ?_
                refine wpF_seg 5 (by kernel_rfl) ?_
                refine wpF_callP hM293 (f := 16) (caps := #[]) (h := (by kernel_rfl : opAt _ _ _ _ _ = some (.call (.mk (.value (.func 16)) #[] #[]), some 103))) (by kernel_rfl) (by kernel_rfl) (by kernel_rfl) (f16 _ _ hM293.inW ) (fun v298 V299 w300 le301 hM302 hp303 => ?_)
                obtain rfl := hp303
                refine wpF_seg 2 (by kernel_rfl) ?_
                refine wpF_end _ (by kernel_rfl) (then_n (hK297 _ _ ?_))
                refine wp_ret ?_
                refine retN [.bool (true)] (.bool (true)) Try.results4 (.tmp (by kernel_rfl) (by kernel_rfl) .nil) (by kernel_rfl) (hRet _ _ ⟨_, _, rfl, hM302.clear, ?_⟩)
                -- end fftfttt
                rfl
              · -- fftfttf
                have p304 : ¬ ((snE (rk) (rq) (fa) (tb)) = (0)) := of_decide_eq_false h279
                refine wpF_seg 14 (by kernel_rfl) ?_
                refine wpF_end _ (by kernel_rfl) (then_n (hK278 _ _ ?_))
                refine wp_cf (by kernel_rfl) ?_
                refine wp_skip (then_n (hK277 _ _ ?_))
                refine wp_seq_k (fun K305 hK305 => ?_)
                refine wp_reg ?_
                refine wpF_seg 3 (by kernel_rfl) ?_
                refine wpF_slot 90 (.bool (decide ((kyE (rk) (rq) (fa)) = (0)))) (.bool true) (by kernel_rfl) (by kernel_rfl) (by rw [h258]) ?_
                refine wpF_seg 7 (by kernel_rfl) ?_
                refine wpF_slot 97 (.bool (decide ((snE (rk) (rq) (fa) (tb)) = (0)))) (.bool false) (by kernel_rfl) (by kernel_rfl) (by rw [h279]) ?_
                refine wpF_seg 5 (by kernel_rfl) ?_
                have h306 : (decide ((snE (rk) (rq) (fa) (tb)) = (9))) = true := by exact decide_eq_true (hsf.resolve_left (fun h => by omega)).1
                have p307 : ((snE (rk) (rq) (fa) (tb)) = (9)) := of_decide_eq_true h306
                refine wpF_slot 102 (.bool (decide ((snE (rk) (rq) (fa) (tb)) = (9)))) (.bool true) (by kernel_rfl) (by kernel_rfl) (by rw [h306]) ?_
                refine wpF_callP hM273 (f := 16) (caps := #[]) (h := (by kernel_rfl : opAt _ _ _ _ _ = some (.call (.mk (.value (.func 16)) #[] #[]), some 103))) (by kernel_rfl) (by kernel_rfl) (by kernel_rfl) (f16 _ _ hM273.inW ) (fun v308 V309 w310 le311 hM312 hp313 => ?_)
                obtain rfl := hp313
                refine wpF_seg 2 (by kernel_rfl) ?_
                refine wpF_end _ (by kernel_rfl) (then_n (hK305 _ _ ?_))
                refine wp_ret ?_
                refine retN [.bool (true)] (.bool (true)) Try.results4 (.tmp (by kernel_rfl) (by kernel_rfl) .nil) (by kernel_rfl) (hRet _ _ ⟨_, _, rfl, hM312.clear, ?_⟩)
                -- end fftfttf
                rfl
            · -- fftftf
              refine wpF_seg 4 (by kernel_rfl) ?_
              refine gF hM264 (.binOp .neq 4 (.tmp 57) (.tmp 63) 4) (some 64) (by kernel_rfl) (Y_neq (.bool (coB (kyK (rk) (rq) (fa)) (kyS (rk) (rq) (fa)) (y))) (.bool (decide ((y) = (fa)))) ((coB (kyK (rk) (rq) (fa)) (kyS (rk) (rq) (fa)) (y)) == (decide ((y) = (fa)))) (by kernel_rfl) (by kernel_rfl) (by kernel_rfl)) ?_
              refine wpF_seg 1 (by kernel_rfl) ?_
              have h314 : ((coB (kyK (rk) (rq) (fa)) (kyS (rk) (rq) (fa)) (y)) == (decide ((y) = (fa)))) = true := by have hk1 := hkf.resolve_right (fun h => by omega); rw [co_right hk1.2.2.2.1, hk1.2.2.2.2 y, ← co_right hr y]; first | (rw [(by assumption : coB rk rq y = true)]; rfl) | (rw [(by assumption : coB rk rq y = false), Bool.false_or]; exact beq_self_eq_true _)
              have p315 : ((coB (kyK (rk) (rq) (fa)) (kyS (rk) (rq) (fa)) (y)) = (decide ((y) = (fa)))) := by simpa using h314
              refine wpF_slot 65 (.bool (!((coB (kyK (rk) (rq) (fa)) (kyS (rk) (rq) (fa)) (y)) == (decide ((y) = (fa)))))) (.bool false) (by kernel_rfl) (by kernel_rfl) (by rw [(show (!((coB (kyK (rk) (rq) (fa)) (kyS (rk) (rq) (fa)) (y)) == (decide ((y) = (fa))))) = false from by rw [h314]; rfl)]) ?_
              refine gF hM264 (.load 25 (.tmp 10)) (some 66) (by kernel_rfl) (Y_load 1 rfl (off := 0) (by kernel_rfl) (.agg #[.slice Ar54_1 (kyK (rk) (rq) (fa)).length cr54_1, .slice Ar54_2 (kyS (rk) (rq) (fa)).length cr54_2]) (by kernel_rfl)) ?_
              refine wpF_callP hM264 (f := 22) (caps := #[]) (h := (by kernel_rfl : opAt _ _ _ _ _ = some (.call (.mk (.value (.func 22)) #[(.tmp 66)] #[25]), some 67))) (by kernel_rfl) (by kernel_rfl) (by kernel_rfl) (f22 _ _ hM264.inW Ar54_1 cr54_1 (kyK (rk) (rq) (fa)) (r55.up (le69.trans le263)) Ar54_2 cr54_2 (kyS (rk) (rq) (fa)) (r56.up (le69.trans le263))) (fun v316 V317 w318 le319 hM320 hp321 => ?_)
              obtain rfl := hp321
              refine wpF_seg 3 (by kernel_rfl) ?_
              refine wpF_end _ (by kernel_rfl) (then_n (hK257 _ _ ?_))
              have h322 : (decide ((chkM (kyK (rk) (rq) (fa)) (kyS (rk) (rq) (fa))) = (0))) = true := by have hk1 := hkf.resolve_right (fun h => by omega); exact decide_eq_true (chk_right hk1.2.2.2.1)
              have p323 : ((chkM (kyK (rk) (rq) (fa)) (kyS (rk) (rq) (fa))) = (0)) := of_decide_eq_true h322
              refine wp_slot 70 (.bool (!(decide ((chkM (kyK (rk) (rq) (fa)) (kyS (rk) (rq) (fa))) = (0))))) (.bool false) (by kernel_rfl) (by rw [(show (!(decide ((chkM (kyK (rk) (rq) (fa)) (kyS (rk) (rq) (fa))) = (0)))) = false from by rw [h322]; rfl)]) ?_
              refine wp_cf (by kernel_rfl) ?_
              refine wp_skip (then_n (hK256 _ _ ?_))
              refine wp_seq_k (fun K324 hK324 => ?_)
              refine wp_seq_k (fun K325 hK325 => ?_)
              refine wp_reg ?_
              refine wpF_seg 3 (by kernel_rfl) ?_
              refine wpF_caseB 73 (decide ((snE (rk) (rq) (fa) (tb)) = (0))) (by kernel_rfl) (by kernel_rfl) (fun h326 => ?_) (fun h326 => ?_)
              · -- fftftft
                have p327 : ((snE (rk) (rq) (fa) (tb)) = (0)) := of_decide_eq_true h326
                refine gF hM320 (.load 25 (.tmp 12)) (some 74) (by kernel_rfl) (Y_load 0 rfl (off := 0) (by kernel_rfl) (.agg #[.slice Ar71_1 (snK (rk) (rq) (fa) (tb)).length cr71_1, .slice Ar71_2 (snQ (rk) (rq) (fa) (tb)).length cr71_2]) (by kernel_rfl)) ?_
                refine wpF_seg 1 (by kernel_rfl) ?_
                refine wpF_callP hM320 (f := 25) (caps := #[]) (h := (by kernel_rfl : opAt _ _ _ _ _ = some (.call (.mk (.value (.func 25)) #[(.tmp 74), (.tmp 75)] #[25, 9]), some 76))) (by kernel_rfl) (by kernel_rfl) (by kernel_rfl) (f25 _ _ hM320.inW Ar71_1 cr71_1 (snK (rk) (rq) (fa) (tb)) (r72.up (le263.trans le319)) Ar71_2 cr71_2 (snQ (rk) (rq) (fa) (tb)) (r73.up (le263.trans le319)) (y) (hy)) (fun v328 V329 w330 le331 hM332 hp333 => ?_)
                obtain rfl := hp333
                refine wpF_seg 2 (by kernel_rfl) ?_
                refine wpF_slot 78 (.bool (coB (rk) (rq) (y))) (.bool false) (by kernel_rfl) (by kernel_rfl) (by rw [h266]) ?_
                refine wpF_seg 2 (by kernel_rfl) ?_
                refine gF hM332 (.binOp .neq 4 (.tmp 76) (.tmp 80) 4) (some 81) (by kernel_rfl) (Y_neq (.bool (coB (snK (rk) (rq) (fa) (tb)) (snQ (rk) (rq) (fa) (tb)) (y))) (.bool (decide ((y) < (tb)))) ((coB (snK (rk) (rq) (fa) (tb)) (snQ (rk) (rq) (fa) (tb)) (y)) == (decide ((y) < (tb)))) (by kernel_rfl) (by kernel_rfl) (by kernel_rfl)) ?_
                refine wpF_seg 1 (by kernel_rfl) ?_
                have h334 : ((coB (snK (rk) (rq) (fa) (tb)) (snQ (rk) (rq) (fa) (tb)) (y)) == (decide ((y) < (tb)))) = true := by have hs1 := hsf.resolve_right (fun h => by omega); rw [co_right hs1.2.2.2.1, hs1.2.2.2.2 y, ← co_right hr y]; first | (rw [(by assumption : coB rk rq y = true)]; rfl) | (rw [(by assumption : coB rk rq y = false), Bool.false_or]; (first | rw [within_1 (by assumption)] | rw [within_2 (by assumption) (by assumption)] | rw [within_3 (by assumption) (by assumption)]); first | rfl | exact beq_self_eq_true _)
                have p335 : ((coB (snK (rk) (rq) (fa) (tb)) (snQ (rk) (rq) (fa) (tb)) (y)) = (decide ((y) < (tb)))) := by simpa using h334
                refine wpF_slot 82 (.bool (!((coB (snK (rk) (rq) (fa) (tb)) (snQ (rk) (rq) (fa) (tb)) (y)) == (decide ((y) < (tb)))))) (.bool false) (by kernel_rfl) (by kernel_rfl) (by rw [(show (!((coB (snK (rk) (rq) (fa) (tb)) (snQ (rk) (rq) (fa) (tb)) (y)) == (decide ((y) < (tb))))) = false from by rw [h334]; rfl)]) ?_
                refine gF hM332 (.load 25 (.tmp 12)) (some 83) (by kernel_rfl) (Y_load 0 rfl (off := 0) (by kernel_rfl) (.agg #[.slice Ar71_1 (snK (rk) (rq) (fa) (tb)).length cr71_1, .slice Ar71_2 (snQ (rk) (rq) (fa) (tb)).length cr71_2]) (by kernel_rfl)) ?_
                refine wpF_callP hM332 (f := 22) (caps := #[]) (h := (by kernel_rfl : opAt _ _ _ _ _ = some (.call (.mk (.value (.func 22)) #[(.tmp 83)] #[25]), some 84))) (by kernel_rfl) (by kernel_rfl) (by kernel_rfl) (f22 _ _ hM332.inW Ar71_1 cr71_1 (snK (rk) (rq) (fa) (tb)) (r72.up ((le263.trans le319).trans le331)) Ar71_2 cr71_2 (snQ (rk) (rq) (fa) (tb)) (r73.up ((le263.trans le319).trans le331))) (fun v336 V337 w338 le339 hM340 hp341 => ?_)
                obtain rfl := hp341
                refine wpF_seg 3 (by kernel_rfl) ?_
                refine wpF_end _ (by kernel_rfl) (then_n (hK325 _ _ ?_))
                have h342 : (decide ((chkM (snK (rk) (rq) (fa) (tb)) (snQ (rk) (rq) (fa) (tb))) = (0))) = true := by have hs1 := hsf.resolve_right (fun h => by omega); exact decide_eq_true (chk_right hs1.2.2.2.1)
                have p343 : ((chkM (snK (rk) (rq) (fa) (tb)) (snQ (rk) (rq) (fa) (tb))) = (0)) := of_decide_eq_true h342
                refine wp_slot 87 (.bool (!(decide ((chkM (snK (rk) (rq) (fa) (tb)) (snQ (rk) (rq) (fa) (tb))) = (0))))) (.bool false) (by kernel_rfl) (by rw [(show (!(decide ((chkM (snK (rk) (rq) (fa) (tb)) (snQ (rk) (rq) (fa) (tb))) = (0)))) = false from by rw [h342]; rfl)]) ?_
                refine wp_cf (by kernel_rfl) ?_
                refine wp_skip (then_n (hK324 _ _ ?_))
                refine wp_seq_k (fun K344 hK344 => ?_)
                refine wp_reg ?_
                refine wpF_seg 3 (by kernel_rfl) ?_
                refine wpF_slot 90 (.bool (decide ((kyE (rk) (rq) (fa)) = (0)))) (.bool true) (by kernel_rfl) (by kernel_rfl) (by rw [h258]) ?_
                refine wpF_seg 7 (by kernel_rfl) ?_
                refine wpF_slot 97 (.bool (decide ((snE (rk) (rq) (fa) (tb)) = (0)))) (.bool true) (by kernel_rfl) (by kernel_rfl) (by rw [h326]) ?_
                refine wpF_seg 5 (by kernel_rfl) ?_
                refine wpF_callP hM340 (f := 16) (caps := #[]) (h := (by kernel_rfl : opAt _ _ _ _ _ = some (.call (.mk (.value (.func 16)) #[] #[]), some 103))) (by kernel_rfl) (by kernel_rfl) (by kernel_rfl) (f16 _ _ hM340.inW ) (fun v345 V346 w347 le348 hM349 hp350 => ?_)
                obtain rfl := hp350
                refine wpF_seg 2 (by kernel_rfl) ?_
                refine wpF_end _ (by kernel_rfl) (then_n (hK344 _ _ ?_))
                refine wp_ret ?_
                refine retN [.bool (true)] (.bool (true)) Try.results4 (.tmp (by kernel_rfl) (by kernel_rfl) .nil) (by kernel_rfl) (hRet _ _ ⟨_, _, rfl, hM349.clear, ?_⟩)
                -- end fftftft
                rfl
              · -- fftftff
                have p351 : ¬ ((snE (rk) (rq) (fa) (tb)) = (0)) := of_decide_eq_false h326
                refine wpF_seg 14 (by kernel_rfl) ?_
                refine wpF_end _ (by kernel_rfl) (then_n (hK325 _ _ ?_))
                refine wp_cf (by kernel_rfl) ?_
                refine wp_skip (then_n (hK324 _ _ ?_))
                refine wp_seq_k (fun K352 hK352 => ?_)
                refine wp_reg ?_
                refine wpF_seg 3 (by kernel_rfl) ?_
                refine wpF_slot 90 (.bool (decide ((kyE (rk) (rq) (fa)) = (0)))) (.bool true) (by kernel_rfl) (by kernel_rfl) (by rw [h258]) ?_
                refine wpF_seg 7 (by kernel_rfl) ?_
                refine wpF_slot 97 (.bool (decide ((snE (rk) (rq) (fa) (tb)) = (0)))) (.bool false) (by kernel_rfl) (by kernel_rfl) (by rw [h326]) ?_
                refine wpF_seg 5 (by kernel_rfl) ?_
                have h353 : (decide ((snE (rk) (rq) (fa) (tb)) = (9))) = true := by exact decide_eq_true (hsf.resolve_left (fun h => by omega)).1
                have p354 : ((snE (rk) (rq) (fa) (tb)) = (9)) := of_decide_eq_true h353
                refine wpF_slot 102 (.bool (decide ((snE (rk) (rq) (fa) (tb)) = (9)))) (.bool true) (by kernel_rfl) (by kernel_rfl) (by rw [h353]) ?_
                refine wpF_callP hM320 (f := 16) (caps := #[]) (h := (by kernel_rfl : opAt _ _ _ _ _ = some (.call (.mk (.value (.func 16)) #[] #[]), some 103))) (by kernel_rfl) (by kernel_rfl) (by kernel_rfl) (f16 _ _ hM320.inW ) (fun v355 V356 w357 le358 hM359 hp360 => ?_)
                obtain rfl := hp360
                refine wpF_seg 2 (by kernel_rfl) ?_
                refine wpF_end _ (by kernel_rfl) (then_n (hK352 _ _ ?_))
                refine wp_ret ?_
                refine retN [.bool (true)] (.bool (true)) Try.results4 (.tmp (by kernel_rfl) (by kernel_rfl) .nil) (by kernel_rfl) (hRet _ _ ⟨_, _, rfl, hM359.clear, ?_⟩)
                -- end fftftff
                rfl
          · -- fftff
            have p361 : ¬ ((kyE (rk) (rq) (fa)) = (0)) := of_decide_eq_false h258
            refine wpF_seg 16 (by kernel_rfl) ?_
            refine wpF_end _ (by kernel_rfl) (then_n (hK257 _ _ ?_))
            refine wp_cf (by kernel_rfl) ?_
            refine wp_skip (then_n (hK256 _ _ ?_))
            refine wp_seq_k (fun K362 hK362 => ?_)
            refine wp_seq_k (fun K363 hK363 => ?_)
            refine wp_reg ?_
            refine wpF_seg 3 (by kernel_rfl) ?_
            refine wpF_caseB 73 (decide ((snE (rk) (rq) (fa) (tb)) = (0))) (by kernel_rfl) (by kernel_rfl) (fun h364 => ?_) (fun h364 => ?_)
            · -- fftfft
              have p365 : ((snE (rk) (rq) (fa) (tb)) = (0)) := of_decide_eq_true h364
              refine gF hM81 (.load 25 (.tmp 12)) (some 74) (by kernel_rfl) (Y_load 0 rfl (off := 0) (by kernel_rfl) (.agg #[.slice Ar71_1 (snK (rk) (rq) (fa) (tb)).length cr71_1, .slice Ar71_2 (snQ (rk) (rq) (fa) (tb)).length cr71_2]) (by kernel_rfl)) ?_
              refine wpF_seg 1 (by kernel_rfl) ?_
              refine wpF_callP hM81 (f := 25) (caps := #[]) (h := (by kernel_rfl : opAt _ _ _ _ _ = some (.call (.mk (.value (.func 25)) #[(.tmp 74), (.tmp 75)] #[25, 9]), some 76))) (by kernel_rfl) (by kernel_rfl) (by kernel_rfl) (f25 _ _ hM81.inW Ar71_1 cr71_1 (snK (rk) (rq) (fa) (tb)) r72 Ar71_2 cr71_2 (snQ (rk) (rq) (fa) (tb)) r73 (y) (hy)) (fun v366 V367 w368 le369 hM370 hp371 => ?_)
              obtain rfl := hp371
              refine wpF_seg 2 (by kernel_rfl) ?_
              refine wpF_caseB 78 (coB (rk) (rq) (y)) (by kernel_rfl) (by kernel_rfl) (fun h372 => ?_) (fun h372 => ?_)
              · -- fftfftt
                refine wpF_seg 2 (by kernel_rfl) ?_
                refine gF hM370 (.binOp .neq 4 (.tmp 76) (.tmp 80) 4) (some 81) (by kernel_rfl) (Y_neq (.bool (coB (snK (rk) (rq) (fa) (tb)) (snQ (rk) (rq) (fa) (tb)) (y))) (.bool (true)) ((coB (snK (rk) (rq) (fa) (tb)) (snQ (rk) (rq) (fa) (tb)) (y)) == (true)) (by kernel_rfl) (by kernel_rfl) (by kernel_rfl)) ?_
                refine wpF_seg 1 (by kernel_rfl) ?_
                have h373 : ((coB (snK (rk) (rq) (fa) (tb)) (snQ (rk) (rq) (fa) (tb)) (y)) == (true)) = true := by have hs1 := hsf.resolve_right (fun h => by omega); rw [co_right hs1.2.2.2.1, hs1.2.2.2.2 y, ← co_right hr y]; first | (rw [(by assumption : coB rk rq y = true)]; rfl) | (rw [(by assumption : coB rk rq y = false), Bool.false_or]; (first | rw [within_1 (by assumption)] | rw [within_2 (by assumption) (by assumption)] | rw [within_3 (by assumption) (by assumption)]); first | rfl | exact beq_self_eq_true _)
                have p374 : ((coB (snK (rk) (rq) (fa) (tb)) (snQ (rk) (rq) (fa) (tb)) (y)) = (true)) := by simpa using h373
                refine wpF_slot 82 (.bool (!((coB (snK (rk) (rq) (fa) (tb)) (snQ (rk) (rq) (fa) (tb)) (y)) == (true)))) (.bool false) (by kernel_rfl) (by kernel_rfl) (by rw [(show (!((coB (snK (rk) (rq) (fa) (tb)) (snQ (rk) (rq) (fa) (tb)) (y)) == (true))) = false from by rw [h373]; rfl)]) ?_
                refine gF hM370 (.load 25 (.tmp 12)) (some 83) (by kernel_rfl) (Y_load 0 rfl (off := 0) (by kernel_rfl) (.agg #[.slice Ar71_1 (snK (rk) (rq) (fa) (tb)).length cr71_1, .slice Ar71_2 (snQ (rk) (rq) (fa) (tb)).length cr71_2]) (by kernel_rfl)) ?_
                refine wpF_callP hM370 (f := 22) (caps := #[]) (h := (by kernel_rfl : opAt _ _ _ _ _ = some (.call (.mk (.value (.func 22)) #[(.tmp 83)] #[25]), some 84))) (by kernel_rfl) (by kernel_rfl) (by kernel_rfl) (f22 _ _ hM370.inW Ar71_1 cr71_1 (snK (rk) (rq) (fa) (tb)) (r72.up le369) Ar71_2 cr71_2 (snQ (rk) (rq) (fa) (tb)) (r73.up le369)) (fun v375 V376 w377 le378 hM379 hp380 => ?_)
                obtain rfl := hp380
                refine wpF_seg 3 (by kernel_rfl) ?_
                refine wpF_end _ (by kernel_rfl) (then_n (hK363 _ _ ?_))
                have h381 : (decide ((chkM (snK (rk) (rq) (fa) (tb)) (snQ (rk) (rq) (fa) (tb))) = (0))) = true := by have hs1 := hsf.resolve_right (fun h => by omega); exact decide_eq_true (chk_right hs1.2.2.2.1)
                have p382 : ((chkM (snK (rk) (rq) (fa) (tb)) (snQ (rk) (rq) (fa) (tb))) = (0)) := of_decide_eq_true h381
                refine wp_slot 87 (.bool (!(decide ((chkM (snK (rk) (rq) (fa) (tb)) (snQ (rk) (rq) (fa) (tb))) = (0))))) (.bool false) (by kernel_rfl) (by rw [(show (!(decide ((chkM (snK (rk) (rq) (fa) (tb)) (snQ (rk) (rq) (fa) (tb))) = (0)))) = false from by rw [h381]; rfl)]) ?_
                refine wp_cf (by kernel_rfl) ?_
                refine wp_skip (then_n (hK362 _ _ ?_))
                refine wp_seq_k (fun K383 hK383 => ?_)
                refine wp_reg ?_
                refine wpF_seg 3 (by kernel_rfl) ?_
                refine wpF_slot 90 (.bool (decide ((kyE (rk) (rq) (fa)) = (0)))) (.bool false) (by kernel_rfl) (by kernel_rfl) (by rw [h258]) ?_
                refine wpF_seg 4 (by kernel_rfl) ?_
                have h384 : (decide ((kyE (rk) (rq) (fa)) = (9))) = true := by exact decide_eq_true (hkf.resolve_left (fun h => by omega)).1
                have p385 : ((kyE (rk) (rq) (fa)) = (9)) := of_decide_eq_true h384
                refine wpF_slot 94 (.bool (decide ((kyE (rk) (rq) (fa)) = (9)))) (.bool true) (by kernel_rfl) (by kernel_rfl) (by rw [h384]) ?_
                refine wpF_seg 3 (by kernel_rfl) ?_
                refine wpF_slot 97 (.bool (decide ((snE (rk) (rq) (fa) (tb)) = (0)))) (.bool true) (by kernel_rfl) (by kernel_rfl) (by rw [h364]) ?_
                refine wpF_seg 5 (by kernel_rfl) ?_
                refine wpF_callP hM379 (f := 16) (caps := #[]) (h := (by kernel_rfl : opAt _ _ _ _ _ = some (.call (.mk (.value (.func 16)) #[] #[]), some 103))) (by kernel_rfl) (by kernel_rfl) (by kernel_rfl) (f16 _ _ hM379.inW ) (fun v386 V387 w388 le389 hM390 hp391 => ?_)
                obtain rfl := hp391
                refine wpF_seg 2 (by kernel_rfl) ?_
                refine wpF_end _ (by kernel_rfl) (then_n (hK383 _ _ ?_))
                refine wp_ret ?_
                refine retN [.bool (true)] (.bool (true)) Try.results4 (.tmp (by kernel_rfl) (by kernel_rfl) .nil) (by kernel_rfl) (hRet _ _ ⟨_, _, rfl, hM390.clear, ?_⟩)
                -- end fftfftt
                rfl
              · -- fftfftf
                refine wpF_seg 2 (by kernel_rfl) ?_
                refine gF hM370 (.binOp .neq 4 (.tmp 76) (.tmp 80) 4) (some 81) (by kernel_rfl) (Y_neq (.bool (coB (snK (rk) (rq) (fa) (tb)) (snQ (rk) (rq) (fa) (tb)) (y))) (.bool (decide ((y) < (tb)))) ((coB (snK (rk) (rq) (fa) (tb)) (snQ (rk) (rq) (fa) (tb)) (y)) == (decide ((y) < (tb)))) (by kernel_rfl) (by kernel_rfl) (by kernel_rfl)) ?_
                refine wpF_seg 1 (by kernel_rfl) ?_
                have h392 : ((coB (snK (rk) (rq) (fa) (tb)) (snQ (rk) (rq) (fa) (tb)) (y)) == (decide ((y) < (tb)))) = true := by have hs1 := hsf.resolve_right (fun h => by omega); rw [co_right hs1.2.2.2.1, hs1.2.2.2.2 y, ← co_right hr y]; first | (rw [(by assumption : coB rk rq y = true)]; rfl) | (rw [(by assumption : coB rk rq y = false), Bool.false_or]; (first | rw [within_1 (by assumption)] | rw [within_2 (by assumption) (by assumption)] | rw [within_3 (by assumption) (by assumption)]); first | rfl | exact beq_self_eq_true _)
                have p393 : ((coB (snK (rk) (rq) (fa) (tb)) (snQ (rk) (rq) (fa) (tb)) (y)) = (decide ((y) < (tb)))) := by simpa using h392
                refine wpF_slot 82 (.bool (!((coB (snK (rk) (rq) (fa) (tb)) (snQ (rk) (rq) (fa) (tb)) (y)) == (decide ((y) < (tb)))))) (.bool false) (by kernel_rfl) (by kernel_rfl) (by rw [(show (!((coB (snK (rk) (rq) (fa) (tb)) (snQ (rk) (rq) (fa) (tb)) (y)) == (decide ((y) < (tb))))) = false from by rw [h392]; rfl)]) ?_
                refine gF hM370 (.load 25 (.tmp 12)) (some 83) (by kernel_rfl) (Y_load 0 rfl (off := 0) (by kernel_rfl) (.agg #[.slice Ar71_1 (snK (rk) (rq) (fa) (tb)).length cr71_1, .slice Ar71_2 (snQ (rk) (rq) (fa) (tb)).length cr71_2]) (by kernel_rfl)) ?_
                refine wpF_callP hM370 (f := 22) (caps := #[]) (h := (by kernel_rfl : opAt _ _ _ _ _ = some (.call (.mk (.value (.func 22)) #[(.tmp 83)] #[25]), some 84))) (by kernel_rfl) (by kernel_rfl) (by kernel_rfl) (f22 _ _ hM370.inW Ar71_1 cr71_1 (snK (rk) (rq) (fa) (tb)) (r72.up le369) Ar71_2 cr71_2 (snQ (rk) (rq) (fa) (tb)) (r73.up le369)) (fun v394 V395 w396 le397 hM398 hp399 => ?_)
                obtain rfl := hp399
                refine wpF_seg 3 (by kernel_rfl) ?_
                refine wpF_end _ (by kernel_rfl) (then_n (hK363 _ _ ?_))
                have h400 : (decide ((chkM (snK (rk) (rq) (fa) (tb)) (snQ (rk) (rq) (fa) (tb))) = (0))) = true := by have hs1 := hsf.resolve_right (fun h => by omega); exact decide_eq_true (chk_right hs1.2.2.2.1)
                have p401 : ((chkM (snK (rk) (rq) (fa) (tb)) (snQ (rk) (rq) (fa) (tb))) = (0)) := of_decide_eq_true h400
                refine wp_slot 87 (.bool (!(decide ((chkM (snK (rk) (rq) (fa) (tb)) (snQ (rk) (rq) (fa) (tb))) = (0))))) (.bool false) (by kernel_rfl) (by rw [(show (!(decide ((chkM (snK (rk) (rq) (fa) (tb)) (snQ (rk) (rq) (fa) (tb))) = (0)))) = false from by rw [h400]; rfl)]) ?_
                refine wp_cf (by kernel_rfl) ?_
                refine wp_skip (then_n (hK362 _ _ ?_))
                refine wp_seq_k (fun K402 hK402 => ?_)
                refine wp_reg ?_
                refine wpF_seg 3 (by kernel_rfl) ?_
                refine wpF_slot 90 (.bool (decide ((kyE (rk) (rq) (fa)) = (0)))) (.bool false) (by kernel_rfl) (by kernel_rfl) (by rw [h258]) ?_
                refine wpF_seg 4 (by kernel_rfl) ?_
                have h403 : (decide ((kyE (rk) (rq) (fa)) = (9))) = true := by exact decide_eq_true (hkf.resolve_left (fun h => by omega)).1
                have p404 : ((kyE (rk) (rq) (fa)) = (9)) := of_decide_eq_true h403
                refine wpF_slot 94 (.bool (decide ((kyE (rk) (rq) (fa)) = (9)))) (.bool true) (by kernel_rfl) (by kernel_rfl) (by rw [h403]) ?_
                refine wpF_seg 3 (by kernel_rfl) ?_
                refine wpF_slot 97 (.bool (decide ((snE (rk) (rq) (fa) (tb)) = (0)))) (.bool true) (by kernel_rfl) (by kernel_rfl) (by rw [h364]) ?_
                refine wpF_seg 5 (by kernel_rfl) ?_
                refine wpF_callP hM398 (f := 16) (caps := #[]) (h := (by kernel_rfl : opAt _ _ _ _ _ = some (.call (.mk (.value (.func 16)) #[] #[]), some 103))) (by kernel_rfl) (by kernel_rfl) (by kernel_rfl) (f16 _ _ hM398.inW ) (fun v405 V406 w407 le408 hM409 hp410 => ?_)
                obtain rfl := hp410
                refine wpF_seg 2 (by kernel_rfl) ?_
                refine wpF_end _ (by kernel_rfl) (then_n (hK402 _ _ ?_))
                refine wp_ret ?_
                refine retN [.bool (true)] (.bool (true)) Try.results4 (.tmp (by kernel_rfl) (by kernel_rfl) .nil) (by kernel_rfl) (hRet _ _ ⟨_, _, rfl, hM409.clear, ?_⟩)
                -- end fftfftf
                rfl
            · -- fftfff
              have p411 : ¬ ((snE (rk) (rq) (fa) (tb)) = (0)) := of_decide_eq_false h364
              refine wpF_seg 14 (by kernel_rfl) ?_
              refine wpF_end _ (by kernel_rfl) (then_n (hK363 _ _ ?_))
              refine wp_cf (by kernel_rfl) ?_
              refine wp_skip (then_n (hK362 _ _ ?_))
              refine wp_seq_k (fun K412 hK412 => ?_)
              refine wp_reg ?_
              refine wpF_seg 3 (by kernel_rfl) ?_
              refine wpF_slot 90 (.bool (decide ((kyE (rk) (rq) (fa)) = (0)))) (.bool false) (by kernel_rfl) (by kernel_rfl) (by rw [h258]) ?_
              refine wpF_seg 4 (by kernel_rfl) ?_
              have h413 : (decide ((kyE (rk) (rq) (fa)) = (9))) = true := by exact decide_eq_true (hkf.resolve_left (fun h => by omega)).1
              have p414 : ((kyE (rk) (rq) (fa)) = (9)) := of_decide_eq_true h413
              refine wpF_slot 94 (.bool (decide ((kyE (rk) (rq) (fa)) = (9)))) (.bool true) (by kernel_rfl) (by kernel_rfl) (by rw [h413]) ?_
              refine wpF_seg 3 (by kernel_rfl) ?_
              refine wpF_slot 97 (.bool (decide ((snE (rk) (rq) (fa) (tb)) = (0)))) (.bool false) (by kernel_rfl) (by kernel_rfl) (by rw [h364]) ?_
              refine wpF_seg 5 (by kernel_rfl) ?_
              have h415 : (decide ((snE (rk) (rq) (fa) (tb)) = (9))) = true := by exact decide_eq_true (hsf.resolve_left (fun h => by omega)).1
              have p416 : ((snE (rk) (rq) (fa) (tb)) = (9)) := of_decide_eq_true h415
              refine wpF_slot 102 (.bool (decide ((snE (rk) (rq) (fa) (tb)) = (9)))) (.bool true) (by kernel_rfl) (by kernel_rfl) (by rw [h415]) ?_
              refine wpF_callP hM81 (f := 16) (caps := #[]) (h := (by kernel_rfl : opAt _ _ _ _ _ = some (.call (.mk (.value (.func 16)) #[] #[]), some 103))) (by kernel_rfl) (by kernel_rfl) (by kernel_rfl) (f16 _ _ hM81.inW ) (fun v417 V418 w419 le420 hM421 hp422 => ?_)
              obtain rfl := hp422
              refine wpF_seg 2 (by kernel_rfl) ?_
              refine wpF_end _ (by kernel_rfl) (then_n (hK412 _ _ ?_))
              refine wp_ret ?_
              refine retN [.bool (true)] (.bool (true)) Try.results4 (.tmp (by kernel_rfl) (by kernel_rfl) .nil) (by kernel_rfl) (hRet _ _ ⟨_, _, rfl, hM421.clear, ?_⟩)
              -- end fftfff
              rfl
      · -- fff
        have h423 : decide ((y) < (fa)) = true := by rw [← Bool.not_not (decide _), h83]; rfl
        have p424 : ((y) < (fa)) := of_decide_eq_true h423
        refine wpF_seg 9 (by kernel_rfl) ?_
        refine wpF_end _ (by kernel_rfl) (then_n (hK82 _ _ ?_))
        refine wp_seq_k (fun K425 hK425 => ?_)
        refine wp_seq_k (fun K426 hK426 => ?_)
        refine wp_reg ?_
        refine wpF_seg 3 (by kernel_rfl) ?_
        refine wpF_caseB 54 (decide ((kyE (rk) (rq) (fa)) = (0))) (by kernel_rfl) (by kernel_rfl) (fun h427 => ?_) (fun h427 => ?_)
        · -- ffft
          have p428 : ((kyE (rk) (rq) (fa)) = (0)) := of_decide_eq_true h427
          refine gF hM81 (.load 25 (.tmp 10)) (some 55) (by kernel_rfl) (Y_load 1 rfl (off := 0) (by kernel_rfl) (.agg #[.slice Ar54_1 (kyK (rk) (rq) (fa)).length cr54_1, .slice Ar54_2 (kyS (rk) (rq) (fa)).length cr54_2]) (by kernel_rfl)) ?_
          refine wpF_seg 1 (by kernel_rfl) ?_
          refine wpF_callP hM81 (f := 25) (caps := #[]) (h := (by kernel_rfl : opAt _ _ _ _ _ = some (.call (.mk (.value (.func 25)) #[(.tmp 55), (.tmp 56)] #[25, 9]), some 57))) (by kernel_rfl) (by kernel_rfl) (by kernel_rfl) (f25 _ _ hM81.inW Ar54_1 cr54_1 (kyK (rk) (rq) (fa)) (r55.up le69) Ar54_2 cr54_2 (kyS (rk) (rq) (fa)) (r56.up le69) (y) (hy)) (fun v429 V430 w431 le432 hM433 hp434 => ?_)
          obtain rfl := hp434
          refine wpF_seg 2 (by kernel_rfl) ?_
          refine wpF_caseB 59 (coB (rk) (rq) (y)) (by kernel_rfl) (by kernel_rfl) (fun h435 => ?_) (fun h435 => ?_)
          · -- ffftt
            refine wpF_seg 4 (by kernel_rfl) ?_
            refine gF hM433 (.binOp .neq 4 (.tmp 57) (.tmp 63) 4) (some 64) (by kernel_rfl) (Y_neq (.bool (coB (kyK (rk) (rq) (fa)) (kyS (rk) (rq) (fa)) (y))) (.bool (true)) ((coB (kyK (rk) (rq) (fa)) (kyS (rk) (rq) (fa)) (y)) == (true)) (by kernel_rfl) (by kernel_rfl) (by kernel_rfl)) ?_
            refine wpF_seg 1 (by kernel_rfl) ?_
            have h436 : ((coB (kyK (rk) (rq) (fa)) (kyS (rk) (rq) (fa)) (y)) == (true)) = true := by have hk1 := hkf.resolve_right (fun h => by omega); rw [co_right hk1.2.2.2.1, hk1.2.2.2.2 y, ← co_right hr y]; first | (rw [(by assumption : coB rk rq y = true)]; rfl) | (rw [(by assumption : coB rk rq y = false), Bool.false_or]; exact beq_self_eq_true _)
            have p437 : ((coB (kyK (rk) (rq) (fa)) (kyS (rk) (rq) (fa)) (y)) = (true)) := by simpa using h436
            refine wpF_slot 65 (.bool (!((coB (kyK (rk) (rq) (fa)) (kyS (rk) (rq) (fa)) (y)) == (true)))) (.bool false) (by kernel_rfl) (by kernel_rfl) (by rw [(show (!((coB (kyK (rk) (rq) (fa)) (kyS (rk) (rq) (fa)) (y)) == (true))) = false from by rw [h436]; rfl)]) ?_
            refine gF hM433 (.load 25 (.tmp 10)) (some 66) (by kernel_rfl) (Y_load 1 rfl (off := 0) (by kernel_rfl) (.agg #[.slice Ar54_1 (kyK (rk) (rq) (fa)).length cr54_1, .slice Ar54_2 (kyS (rk) (rq) (fa)).length cr54_2]) (by kernel_rfl)) ?_
            refine wpF_callP hM433 (f := 22) (caps := #[]) (h := (by kernel_rfl : opAt _ _ _ _ _ = some (.call (.mk (.value (.func 22)) #[(.tmp 66)] #[25]), some 67))) (by kernel_rfl) (by kernel_rfl) (by kernel_rfl) (f22 _ _ hM433.inW Ar54_1 cr54_1 (kyK (rk) (rq) (fa)) (r55.up (le69.trans le432)) Ar54_2 cr54_2 (kyS (rk) (rq) (fa)) (r56.up (le69.trans le432))) (fun v438 V439 w440 le441 hM442 hp443 => ?_)
            obtain rfl := hp443
            refine wpF_seg 3 (by kernel_rfl) ?_
            refine wpF_end _ (by kernel_rfl) (then_n (hK426 _ _ ?_))
            have h444 : (decide ((chkM (kyK (rk) (rq) (fa)) (kyS (rk) (rq) (fa))) = (0))) = true := by have hk1 := hkf.resolve_right (fun h => by omega); exact decide_eq_true (chk_right hk1.2.2.2.1)
            have p445 : ((chkM (kyK (rk) (rq) (fa)) (kyS (rk) (rq) (fa))) = (0)) := of_decide_eq_true h444
            refine wp_slot 70 (.bool (!(decide ((chkM (kyK (rk) (rq) (fa)) (kyS (rk) (rq) (fa))) = (0))))) (.bool false) (by kernel_rfl) (by rw [(show (!(decide ((chkM (kyK (rk) (rq) (fa)) (kyS (rk) (rq) (fa))) = (0)))) = false from by rw [h444]; rfl)]) ?_
            refine wp_cf (by kernel_rfl) ?_
            refine wp_skip (then_n (hK425 _ _ ?_))
            refine wp_seq_k (fun K446 hK446 => ?_)
            refine wp_seq_k (fun K447 hK447 => ?_)
            refine wp_reg ?_
            refine wpF_seg 3 (by kernel_rfl) ?_
            refine wpF_caseB 73 (decide ((snE (rk) (rq) (fa) (tb)) = (0))) (by kernel_rfl) (by kernel_rfl) (fun h448 => ?_) (fun h448 => ?_)
            · -- fffttt
              have p449 : ((snE (rk) (rq) (fa) (tb)) = (0)) := of_decide_eq_true h448
              refine gF hM442 (.load 25 (.tmp 12)) (some 74) (by kernel_rfl) (Y_load 0 rfl (off := 0) (by kernel_rfl) (.agg #[.slice Ar71_1 (snK (rk) (rq) (fa) (tb)).length cr71_1, .slice Ar71_2 (snQ (rk) (rq) (fa) (tb)).length cr71_2]) (by kernel_rfl)) ?_
              refine wpF_seg 1 (by kernel_rfl) ?_
              refine wpF_callP hM442 (f := 25) (caps := #[]) (h := (by kernel_rfl : opAt _ _ _ _ _ = some (.call (.mk (.value (.func 25)) #[(.tmp 74), (.tmp 75)] #[25, 9]), some 76))) (by kernel_rfl) (by kernel_rfl) (by kernel_rfl) (f25 _ _ hM442.inW Ar71_1 cr71_1 (snK (rk) (rq) (fa) (tb)) (r72.up (le432.trans le441)) Ar71_2 cr71_2 (snQ (rk) (rq) (fa) (tb)) (r73.up (le432.trans le441)) (y) (hy)) (fun v450 V451 w452 le453 hM454 hp455 => ?_)
              obtain rfl := hp455
              refine wpF_seg 2 (by kernel_rfl) ?_
              refine wpF_slot 78 (.bool (coB (rk) (rq) (y))) (.bool true) (by kernel_rfl) (by kernel_rfl) (by rw [h435]) ?_
              refine wpF_seg 2 (by kernel_rfl) ?_
              refine gF hM454 (.binOp .neq 4 (.tmp 76) (.tmp 80) 4) (some 81) (by kernel_rfl) (Y_neq (.bool (coB (snK (rk) (rq) (fa) (tb)) (snQ (rk) (rq) (fa) (tb)) (y))) (.bool (true)) ((coB (snK (rk) (rq) (fa) (tb)) (snQ (rk) (rq) (fa) (tb)) (y)) == (true)) (by kernel_rfl) (by kernel_rfl) (by kernel_rfl)) ?_
              refine wpF_seg 1 (by kernel_rfl) ?_
              have h456 : ((coB (snK (rk) (rq) (fa) (tb)) (snQ (rk) (rq) (fa) (tb)) (y)) == (true)) = true := by have hs1 := hsf.resolve_right (fun h => by omega); rw [co_right hs1.2.2.2.1, hs1.2.2.2.2 y, ← co_right hr y]; first | (rw [(by assumption : coB rk rq y = true)]; rfl) | (rw [(by assumption : coB rk rq y = false), Bool.false_or]; (first | rw [within_1 (by assumption)] | rw [within_2 (by assumption) (by assumption)] | rw [within_3 (by assumption) (by assumption)]); first | rfl | exact beq_self_eq_true _)
              have p457 : ((coB (snK (rk) (rq) (fa) (tb)) (snQ (rk) (rq) (fa) (tb)) (y)) = (true)) := by simpa using h456
              refine wpF_slot 82 (.bool (!((coB (snK (rk) (rq) (fa) (tb)) (snQ (rk) (rq) (fa) (tb)) (y)) == (true)))) (.bool false) (by kernel_rfl) (by kernel_rfl) (by rw [(show (!((coB (snK (rk) (rq) (fa) (tb)) (snQ (rk) (rq) (fa) (tb)) (y)) == (true))) = false from by rw [h456]; rfl)]) ?_
              refine gF hM454 (.load 25 (.tmp 12)) (some 83) (by kernel_rfl) (Y_load 0 rfl (off := 0) (by kernel_rfl) (.agg #[.slice Ar71_1 (snK (rk) (rq) (fa) (tb)).length cr71_1, .slice Ar71_2 (snQ (rk) (rq) (fa) (tb)).length cr71_2]) (by kernel_rfl)) ?_
              refine wpF_callP hM454 (f := 22) (caps := #[]) (h := (by kernel_rfl : opAt _ _ _ _ _ = some (.call (.mk (.value (.func 22)) #[(.tmp 83)] #[25]), some 84))) (by kernel_rfl) (by kernel_rfl) (by kernel_rfl) (f22 _ _ hM454.inW Ar71_1 cr71_1 (snK (rk) (rq) (fa) (tb)) (r72.up ((le432.trans le441).trans le453)) Ar71_2 cr71_2 (snQ (rk) (rq) (fa) (tb)) (r73.up ((le432.trans le441).trans le453))) (fun v458 V459 w460 le461 hM462 hp463 => ?_)
              obtain rfl := hp463
              refine wpF_seg 3 (by kernel_rfl) ?_
              refine wpF_end _ (by kernel_rfl) (then_n (hK447 _ _ ?_))
              have h464 : (decide ((chkM (snK (rk) (rq) (fa) (tb)) (snQ (rk) (rq) (fa) (tb))) = (0))) = true := by have hs1 := hsf.resolve_right (fun h => by omega); exact decide_eq_true (chk_right hs1.2.2.2.1)
              have p465 : ((chkM (snK (rk) (rq) (fa) (tb)) (snQ (rk) (rq) (fa) (tb))) = (0)) := of_decide_eq_true h464
              refine wp_slot 87 (.bool (!(decide ((chkM (snK (rk) (rq) (fa) (tb)) (snQ (rk) (rq) (fa) (tb))) = (0))))) (.bool false) (by kernel_rfl) (by rw [(show (!(decide ((chkM (snK (rk) (rq) (fa) (tb)) (snQ (rk) (rq) (fa) (tb))) = (0)))) = false from by rw [h464]; rfl)]) ?_
              refine wp_cf (by kernel_rfl) ?_
              refine wp_skip (then_n (hK446 _ _ ?_))
              refine wp_seq_k (fun K466 hK466 => ?_)
              refine wp_reg ?_
              refine wpF_seg 3 (by kernel_rfl) ?_
              refine wpF_slot 90 (.bool (decide ((kyE (rk) (rq) (fa)) = (0)))) (.bool true) (by kernel_rfl) (by kernel_rfl) (by rw [h427]) ?_
              refine wpF_seg 7 (by kernel_rfl) ?_
              refine wpF_slot 97 (.bool (decide ((snE (rk) (rq) (fa) (tb)) = (0)))) (.bool true) (by kernel_rfl) (by kernel_rfl) (by rw [h448]) ?_
              refine wpF_seg 5 (by kernel_rfl) ?_
              refine wpF_callP hM462 (f := 16) (caps := #[]) (h := (by kernel_rfl : opAt _ _ _ _ _ = some (.call (.mk (.value (.func 16)) #[] #[]), some 103))) (by kernel_rfl) (by kernel_rfl) (by kernel_rfl) (f16 _ _ hM462.inW ) (fun v467 V468 w469 le470 hM471 hp472 => ?_)
              obtain rfl := hp472
              refine wpF_seg 2 (by kernel_rfl) ?_
              refine wpF_end _ (by kernel_rfl) (then_n (hK466 _ _ ?_))
              refine wp_ret ?_
              refine retN [.bool (true)] (.bool (true)) Try.results4 (.tmp (by kernel_rfl) (by kernel_rfl) .nil) (by kernel_rfl) (hRet _ _ ⟨_, _, rfl, hM471.clear, ?_⟩)
              -- end fffttt
              rfl
            · -- fffttf
              have p473 : ¬ ((snE (rk) (rq) (fa) (tb)) = (0)) := of_decide_eq_false h448
              refine wpF_seg 14 (by kernel_rfl) ?_
              refine wpF_end _ (by kernel_rfl) (then_n (hK447 _ _ ?_))
              refine wp_cf (by kernel_rfl) ?_
              refine wp_skip (then_n (hK446 _ _ ?_))
              refine wp_seq_k (fun K474 hK474 => ?_)
              refine wp_reg ?_
              refine wpF_seg 3 (by kernel_rfl) ?_
              refine wpF_slot 90 (.bool (decide ((kyE (rk) (rq) (fa)) = (0)))) (.bool true) (by kernel_rfl) (by kernel_rfl) (by rw [h427]) ?_
              refine wpF_seg 7 (by kernel_rfl) ?_
              refine wpF_slot 97 (.bool (decide ((snE (rk) (rq) (fa) (tb)) = (0)))) (.bool false) (by kernel_rfl) (by kernel_rfl) (by rw [h448]) ?_
              refine wpF_seg 5 (by kernel_rfl) ?_
              have h475 : (decide ((snE (rk) (rq) (fa) (tb)) = (9))) = true := by exact decide_eq_true (hsf.resolve_left (fun h => by omega)).1
              have p476 : ((snE (rk) (rq) (fa) (tb)) = (9)) := of_decide_eq_true h475
              refine wpF_slot 102 (.bool (decide ((snE (rk) (rq) (fa) (tb)) = (9)))) (.bool true) (by kernel_rfl) (by kernel_rfl) (by rw [h475]) ?_
              refine wpF_callP hM442 (f := 16) (caps := #[]) (h := (by kernel_rfl : opAt _ _ _ _ _ = some (.call (.mk (.value (.func 16)) #[] #[]), some 103))) (by kernel_rfl) (by kernel_rfl) (by kernel_rfl) (f16 _ _ hM442.inW ) (fun v477 V478 w479 le480 hM481 hp482 => ?_)
              obtain rfl := hp482
              refine wpF_seg 2 (by kernel_rfl) ?_
              refine wpF_end _ (by kernel_rfl) (then_n (hK474 _ _ ?_))
              refine wp_ret ?_
              refine retN [.bool (true)] (.bool (true)) Try.results4 (.tmp (by kernel_rfl) (by kernel_rfl) .nil) (by kernel_rfl) (hRet _ _ ⟨_, _, rfl, hM481.clear, ?_⟩)
              -- end fffttf
              rfl
          · -- ffftf
            refine wpF_seg 4 (by kernel_rfl) ?_
            refine gF hM433 (.binOp .neq 4 (.tmp 57) (.tmp 63) 4) (some 64) (by kernel_rfl) (Y_neq (.bool (coB (kyK (rk) (rq) (fa)) (kyS (rk) (rq) (fa)) (y))) (.bool (decide ((y) = (fa)))) ((coB (kyK (rk) (rq) (fa)) (kyS (rk) (rq) (fa)) (y)) == (decide ((y) = (fa)))) (by kernel_rfl) (by kernel_rfl) (by kernel_rfl)) ?_
            refine wpF_seg 1 (by kernel_rfl) ?_
            have h483 : ((coB (kyK (rk) (rq) (fa)) (kyS (rk) (rq) (fa)) (y)) == (decide ((y) = (fa)))) = true := by have hk1 := hkf.resolve_right (fun h => by omega); rw [co_right hk1.2.2.2.1, hk1.2.2.2.2 y, ← co_right hr y]; first | (rw [(by assumption : coB rk rq y = true)]; rfl) | (rw [(by assumption : coB rk rq y = false), Bool.false_or]; exact beq_self_eq_true _)
            have p484 : ((coB (kyK (rk) (rq) (fa)) (kyS (rk) (rq) (fa)) (y)) = (decide ((y) = (fa)))) := by simpa using h483
            refine wpF_slot 65 (.bool (!((coB (kyK (rk) (rq) (fa)) (kyS (rk) (rq) (fa)) (y)) == (decide ((y) = (fa)))))) (.bool false) (by kernel_rfl) (by kernel_rfl) (by rw [(show (!((coB (kyK (rk) (rq) (fa)) (kyS (rk) (rq) (fa)) (y)) == (decide ((y) = (fa))))) = false from by rw [h483]; rfl)]) ?_
            refine gF hM433 (.load 25 (.tmp 10)) (some 66) (by kernel_rfl) (Y_load 1 rfl (off := 0) (by kernel_rfl) (.agg #[.slice Ar54_1 (kyK (rk) (rq) (fa)).length cr54_1, .slice Ar54_2 (kyS (rk) (rq) (fa)).length cr54_2]) (by kernel_rfl)) ?_
            refine wpF_callP hM433 (f := 22) (caps := #[]) (h := (by kernel_rfl : opAt _ _ _ _ _ = some (.call (.mk (.value (.func 22)) #[(.tmp 66)] #[25]), some 67))) (by kernel_rfl) (by kernel_rfl) (by kernel_rfl) (f22 _ _ hM433.inW Ar54_1 cr54_1 (kyK (rk) (rq) (fa)) (r55.up (le69.trans le432)) Ar54_2 cr54_2 (kyS (rk) (rq) (fa)) (r56.up (le69.trans le432))) (fun v485 V486 w487 le488 hM489 hp490 => ?_)
            obtain rfl := hp490
            refine wpF_seg 3 (by kernel_rfl) ?_
            refine wpF_end _ (by kernel_rfl) (then_n (hK426 _ _ ?_))
            have h491 : (decide ((chkM (kyK (rk) (rq) (fa)) (kyS (rk) (rq) (fa))) = (0))) = true := by have hk1 := hkf.resolve_right (fun h => by omega); exact decide_eq_true (chk_right hk1.2.2.2.1)
            have p492 : ((chkM (kyK (rk) (rq) (fa)) (kyS (rk) (rq) (fa))) = (0)) := of_decide_eq_true h491
            refine wp_slot 70 (.bool (!(decide ((chkM (kyK (rk) (rq) (fa)) (kyS (rk) (rq) (fa))) = (0))))) (.bool false) (by kernel_rfl) (by rw [(show (!(decide ((chkM (kyK (rk) (rq) (fa)) (kyS (rk) (rq) (fa))) = (0)))) = false from by rw [h491]; rfl)]) ?_
            refine wp_cf (by kernel_rfl) ?_
            refine wp_skip (then_n (hK425 _ _ ?_))
            refine wp_seq_k (fun K493 hK493 => ?_)
            refine wp_seq_k (fun K494 hK494 => ?_)
            refine wp_reg ?_
            refine wpF_seg 3 (by kernel_rfl) ?_
            refine wpF_caseB 73 (decide ((snE (rk) (rq) (fa) (tb)) = (0))) (by kernel_rfl) (by kernel_rfl) (fun h495 => ?_) (fun h495 => ?_)
            · -- ffftft
              have p496 : ((snE (rk) (rq) (fa) (tb)) = (0)) := of_decide_eq_true h495
              refine gF hM489 (.load 25 (.tmp 12)) (some 74) (by kernel_rfl) (Y_load 0 rfl (off := 0) (by kernel_rfl) (.agg #[.slice Ar71_1 (snK (rk) (rq) (fa) (tb)).length cr71_1, .slice Ar71_2 (snQ (rk) (rq) (fa) (tb)).length cr71_2]) (by kernel_rfl)) ?_
              refine wpF_seg 1 (by kernel_rfl) ?_
              refine wpF_callP hM489 (f := 25) (caps := #[]) (h := (by kernel_rfl : opAt _ _ _ _ _ = some (.call (.mk (.value (.func 25)) #[(.tmp 74), (.tmp 75)] #[25, 9]), some 76))) (by kernel_rfl) (by kernel_rfl) (by kernel_rfl) (f25 _ _ hM489.inW Ar71_1 cr71_1 (snK (rk) (rq) (fa) (tb)) (r72.up (le432.trans le488)) Ar71_2 cr71_2 (snQ (rk) (rq) (fa) (tb)) (r73.up (le432.trans le488)) (y) (hy)) (fun v497 V498 w499 le500 hM501 hp502 => ?_)
              obtain rfl := hp502
              refine wpF_seg 2 (by kernel_rfl) ?_
              refine wpF_slot 78 (.bool (coB (rk) (rq) (y))) (.bool false) (by kernel_rfl) (by kernel_rfl) (by rw [h435]) ?_
              refine wpF_seg 2 (by kernel_rfl) ?_
              refine gF hM501 (.binOp .neq 4 (.tmp 76) (.tmp 80) 4) (some 81) (by kernel_rfl) (Y_neq (.bool (coB (snK (rk) (rq) (fa) (tb)) (snQ (rk) (rq) (fa) (tb)) (y))) (.bool (false)) ((coB (snK (rk) (rq) (fa) (tb)) (snQ (rk) (rq) (fa) (tb)) (y)) == (false)) (by kernel_rfl) (by kernel_rfl) (by kernel_rfl)) ?_
              refine wpF_seg 1 (by kernel_rfl) ?_
              have h503 : ((coB (snK (rk) (rq) (fa) (tb)) (snQ (rk) (rq) (fa) (tb)) (y)) == (false)) = true := by have hs1 := hsf.resolve_right (fun h => by omega); rw [co_right hs1.2.2.2.1, hs1.2.2.2.2 y, ← co_right hr y]; first | (rw [(by assumption : coB rk rq y = true)]; rfl) | (rw [(by assumption : coB rk rq y = false), Bool.false_or]; (first | rw [within_1 (by assumption)] | rw [within_2 (by assumption) (by assumption)] | rw [within_3 (by assumption) (by assumption)]); first | rfl | exact beq_self_eq_true _)
              have p504 : ((coB (snK (rk) (rq) (fa) (tb)) (snQ (rk) (rq) (fa) (tb)) (y)) = (false)) := by simpa using h503
              refine wpF_slot 82 (.bool (!((coB (snK (rk) (rq) (fa) (tb)) (snQ (rk) (rq) (fa) (tb)) (y)) == (false)))) (.bool false) (by kernel_rfl) (by kernel_rfl) (by rw [(show (!((coB (snK (rk) (rq) (fa) (tb)) (snQ (rk) (rq) (fa) (tb)) (y)) == (false))) = false from by rw [h503]; rfl)]) ?_
              refine gF hM501 (.load 25 (.tmp 12)) (some 83) (by kernel_rfl) (Y_load 0 rfl (off := 0) (by kernel_rfl) (.agg #[.slice Ar71_1 (snK (rk) (rq) (fa) (tb)).length cr71_1, .slice Ar71_2 (snQ (rk) (rq) (fa) (tb)).length cr71_2]) (by kernel_rfl)) ?_
              refine wpF_callP hM501 (f := 22) (caps := #[]) (h := (by kernel_rfl : opAt _ _ _ _ _ = some (.call (.mk (.value (.func 22)) #[(.tmp 83)] #[25]), some 84))) (by kernel_rfl) (by kernel_rfl) (by kernel_rfl) (f22 _ _ hM501.inW Ar71_1 cr71_1 (snK (rk) (rq) (fa) (tb)) (r72.up ((le432.trans le488).trans le500)) Ar71_2 cr71_2 (snQ (rk) (rq) (fa) (tb)) (r73.up ((le432.trans le488).trans le500))) (fun v505 V506 w507 le508 hM509 hp510 => ?_)
              obtain rfl := hp510
              refine wpF_seg 3 (by kernel_rfl) ?_
              refine wpF_end _ (by kernel_rfl) (then_n (hK494 _ _ ?_))
              have h511 : (decide ((chkM (snK (rk) (rq) (fa) (tb)) (snQ (rk) (rq) (fa) (tb))) = (0))) = true := by have hs1 := hsf.resolve_right (fun h => by omega); exact decide_eq_true (chk_right hs1.2.2.2.1)
              have p512 : ((chkM (snK (rk) (rq) (fa) (tb)) (snQ (rk) (rq) (fa) (tb))) = (0)) := of_decide_eq_true h511
              refine wp_slot 87 (.bool (!(decide ((chkM (snK (rk) (rq) (fa) (tb)) (snQ (rk) (rq) (fa) (tb))) = (0))))) (.bool false) (by kernel_rfl) (by rw [(show (!(decide ((chkM (snK (rk) (rq) (fa) (tb)) (snQ (rk) (rq) (fa) (tb))) = (0)))) = false from by rw [h511]; rfl)]) ?_
              refine wp_cf (by kernel_rfl) ?_
              refine wp_skip (then_n (hK493 _ _ ?_))
              refine wp_seq_k (fun K513 hK513 => ?_)
              refine wp_reg ?_
              refine wpF_seg 3 (by kernel_rfl) ?_
              refine wpF_slot 90 (.bool (decide ((kyE (rk) (rq) (fa)) = (0)))) (.bool true) (by kernel_rfl) (by kernel_rfl) (by rw [h427]) ?_
              refine wpF_seg 7 (by kernel_rfl) ?_
              refine wpF_slot 97 (.bool (decide ((snE (rk) (rq) (fa) (tb)) = (0)))) (.bool true) (by kernel_rfl) (by kernel_rfl) (by rw [h495]) ?_
              refine wpF_seg 5 (by kernel_rfl) ?_
              refine wpF_callP hM509 (f := 16) (caps := #[]) (h := (by kernel_rfl : opAt _ _ _ _ _ = some (.call (.mk (.value (.func 16)) #[] #[]), some 103))) (by kernel_rfl) (by kernel_rfl) (by kernel_rfl) (f16 _ _ hM509.inW ) (fun v514 V515 w516 le517 hM518 hp519 => ?_)
              obtain rfl := hp519
              refine wpF_seg 2 (by kernel_rfl) ?_
              refine wpF_end _ (by kernel_rfl) (then_n (hK513 _ _ ?_))
              refine wp_ret ?_
              refine retN [.bool (true)] (.bool (true)) Try.results4 (.tmp (by kernel_rfl) (by kernel_rfl) .nil) (by kernel_rfl) (hRet _ _ ⟨_, _, rfl, hM518.clear, ?_⟩)
              -- end ffftft
              rfl
            · -- ffftff
              have p520 : ¬ ((snE (rk) (rq) (fa) (tb)) = (0)) := of_decide_eq_false h495
              refine wpF_seg 14 (by kernel_rfl) ?_
              refine wpF_end _ (by kernel_rfl) (then_n (hK494 _ _ ?_))
              refine wp_cf (by kernel_rfl) ?_
              refine wp_skip (then_n (hK493 _ _ ?_))
              refine wp_seq_k (fun K521 hK521 => ?_)
              refine wp_reg ?_
              refine wpF_seg 3 (by kernel_rfl) ?_
              refine wpF_slot 90 (.bool (decide ((kyE (rk) (rq) (fa)) = (0)))) (.bool true) (by kernel_rfl) (by kernel_rfl) (by rw [h427]) ?_
              refine wpF_seg 7 (by kernel_rfl) ?_
              refine wpF_slot 97 (.bool (decide ((snE (rk) (rq) (fa) (tb)) = (0)))) (.bool false) (by kernel_rfl) (by kernel_rfl) (by rw [h495]) ?_
              refine wpF_seg 5 (by kernel_rfl) ?_
              have h522 : (decide ((snE (rk) (rq) (fa) (tb)) = (9))) = true := by exact decide_eq_true (hsf.resolve_left (fun h => by omega)).1
              have p523 : ((snE (rk) (rq) (fa) (tb)) = (9)) := of_decide_eq_true h522
              refine wpF_slot 102 (.bool (decide ((snE (rk) (rq) (fa) (tb)) = (9)))) (.bool true) (by kernel_rfl) (by kernel_rfl) (by rw [h522]) ?_
              refine wpF_callP hM489 (f := 16) (caps := #[]) (h := (by kernel_rfl : opAt _ _ _ _ _ = some (.call (.mk (.value (.func 16)) #[] #[]), some 103))) (by kernel_rfl) (by kernel_rfl) (by kernel_rfl) (f16 _ _ hM489.inW ) (fun v524 V525 w526 le527 hM528 hp529 => ?_)
              obtain rfl := hp529
              refine wpF_seg 2 (by kernel_rfl) ?_
              refine wpF_end _ (by kernel_rfl) (then_n (hK521 _ _ ?_))
              refine wp_ret ?_
              refine retN [.bool (true)] (.bool (true)) Try.results4 (.tmp (by kernel_rfl) (by kernel_rfl) .nil) (by kernel_rfl) (hRet _ _ ⟨_, _, rfl, hM528.clear, ?_⟩)
              -- end ffftff
              rfl
        · -- ffff
          have p530 : ¬ ((kyE (rk) (rq) (fa)) = (0)) := of_decide_eq_false h427
          refine wpF_seg 16 (by kernel_rfl) ?_
          refine wpF_end _ (by kernel_rfl) (then_n (hK426 _ _ ?_))
          refine wp_cf (by kernel_rfl) ?_
          refine wp_skip (then_n (hK425 _ _ ?_))
          refine wp_seq_k (fun K531 hK531 => ?_)
          refine wp_seq_k (fun K532 hK532 => ?_)
          refine wp_reg ?_
          refine wpF_seg 3 (by kernel_rfl) ?_
          refine wpF_caseB 73 (decide ((snE (rk) (rq) (fa) (tb)) = (0))) (by kernel_rfl) (by kernel_rfl) (fun h533 => ?_) (fun h533 => ?_)
          · -- fffft
            have p534 : ((snE (rk) (rq) (fa) (tb)) = (0)) := of_decide_eq_true h533
            refine gF hM81 (.load 25 (.tmp 12)) (some 74) (by kernel_rfl) (Y_load 0 rfl (off := 0) (by kernel_rfl) (.agg #[.slice Ar71_1 (snK (rk) (rq) (fa) (tb)).length cr71_1, .slice Ar71_2 (snQ (rk) (rq) (fa) (tb)).length cr71_2]) (by kernel_rfl)) ?_
            refine wpF_seg 1 (by kernel_rfl) ?_
            refine wpF_callP hM81 (f := 25) (caps := #[]) (h := (by kernel_rfl : opAt _ _ _ _ _ = some (.call (.mk (.value (.func 25)) #[(.tmp 74), (.tmp 75)] #[25, 9]), some 76))) (by kernel_rfl) (by kernel_rfl) (by kernel_rfl) (f25 _ _ hM81.inW Ar71_1 cr71_1 (snK (rk) (rq) (fa) (tb)) r72 Ar71_2 cr71_2 (snQ (rk) (rq) (fa) (tb)) r73 (y) (hy)) (fun v535 V536 w537 le538 hM539 hp540 => ?_)
            obtain rfl := hp540
            refine wpF_seg 2 (by kernel_rfl) ?_
            refine wpF_caseB 78 (coB (rk) (rq) (y)) (by kernel_rfl) (by kernel_rfl) (fun h541 => ?_) (fun h541 => ?_)
            · -- fffftt
              refine wpF_seg 2 (by kernel_rfl) ?_
              refine gF hM539 (.binOp .neq 4 (.tmp 76) (.tmp 80) 4) (some 81) (by kernel_rfl) (Y_neq (.bool (coB (snK (rk) (rq) (fa) (tb)) (snQ (rk) (rq) (fa) (tb)) (y))) (.bool (true)) ((coB (snK (rk) (rq) (fa) (tb)) (snQ (rk) (rq) (fa) (tb)) (y)) == (true)) (by kernel_rfl) (by kernel_rfl) (by kernel_rfl)) ?_
              refine wpF_seg 1 (by kernel_rfl) ?_
              have h542 : ((coB (snK (rk) (rq) (fa) (tb)) (snQ (rk) (rq) (fa) (tb)) (y)) == (true)) = true := by have hs1 := hsf.resolve_right (fun h => by omega); rw [co_right hs1.2.2.2.1, hs1.2.2.2.2 y, ← co_right hr y]; first | (rw [(by assumption : coB rk rq y = true)]; rfl) | (rw [(by assumption : coB rk rq y = false), Bool.false_or]; (first | rw [within_1 (by assumption)] | rw [within_2 (by assumption) (by assumption)] | rw [within_3 (by assumption) (by assumption)]); first | rfl | exact beq_self_eq_true _)
              have p543 : ((coB (snK (rk) (rq) (fa) (tb)) (snQ (rk) (rq) (fa) (tb)) (y)) = (true)) := by simpa using h542
              refine wpF_slot 82 (.bool (!((coB (snK (rk) (rq) (fa) (tb)) (snQ (rk) (rq) (fa) (tb)) (y)) == (true)))) (.bool false) (by kernel_rfl) (by kernel_rfl) (by rw [(show (!((coB (snK (rk) (rq) (fa) (tb)) (snQ (rk) (rq) (fa) (tb)) (y)) == (true))) = false from by rw [h542]; rfl)]) ?_
              refine gF hM539 (.load 25 (.tmp 12)) (some 83) (by kernel_rfl) (Y_load 0 rfl (off := 0) (by kernel_rfl) (.agg #[.slice Ar71_1 (snK (rk) (rq) (fa) (tb)).length cr71_1, .slice Ar71_2 (snQ (rk) (rq) (fa) (tb)).length cr71_2]) (by kernel_rfl)) ?_
              refine wpF_callP hM539 (f := 22) (caps := #[]) (h := (by kernel_rfl : opAt _ _ _ _ _ = some (.call (.mk (.value (.func 22)) #[(.tmp 83)] #[25]), some 84))) (by kernel_rfl) (by kernel_rfl) (by kernel_rfl) (f22 _ _ hM539.inW Ar71_1 cr71_1 (snK (rk) (rq) (fa) (tb)) (r72.up le538) Ar71_2 cr71_2 (snQ (rk) (rq) (fa) (tb)) (r73.up le538)) (fun v544 V545 w546 le547 hM548 hp549 => ?_)
              obtain rfl := hp549
              refine wpF_seg 3 (by kernel_rfl) ?_
              refine wpF_end _ (by kernel_rfl) (then_n (hK532 _ _ ?_))
              have h550 : (decide ((chkM (snK (rk) (rq) (fa) (tb)) (snQ (rk) (rq) (fa) (tb))) = (0))) = true := by have hs1 := hsf.resolve_right (fun h => by omega); exact decide_eq_true (chk_right hs1.2.2.2.1)
              have p551 : ((chkM (snK (rk) (rq) (fa) (tb)) (snQ (rk) (rq) (fa) (tb))) = (0)) := of_decide_eq_true h550
              refine wp_slot 87 (.bool (!(decide ((chkM (snK (rk) (rq) (fa) (tb)) (snQ (rk) (rq) (fa) (tb))) = (0))))) (.bool false) (by kernel_rfl) (by rw [(show (!(decide ((chkM (snK (rk) (rq) (fa) (tb)) (snQ (rk) (rq) (fa) (tb))) = (0)))) = false from by rw [h550]; rfl)]) ?_
              refine wp_cf (by kernel_rfl) ?_
              refine wp_skip (then_n (hK531 _ _ ?_))
              refine wp_seq_k (fun K552 hK552 => ?_)
              refine wp_reg ?_
              refine wpF_seg 3 (by kernel_rfl) ?_
              refine wpF_slot 90 (.bool (decide ((kyE (rk) (rq) (fa)) = (0)))) (.bool false) (by kernel_rfl) (by kernel_rfl) (by rw [h427]) ?_
              refine wpF_seg 4 (by kernel_rfl) ?_
              have h553 : (decide ((kyE (rk) (rq) (fa)) = (9))) = true := by exact decide_eq_true (hkf.resolve_left (fun h => by omega)).1
              have p554 : ((kyE (rk) (rq) (fa)) = (9)) := of_decide_eq_true h553
              refine wpF_slot 94 (.bool (decide ((kyE (rk) (rq) (fa)) = (9)))) (.bool true) (by kernel_rfl) (by kernel_rfl) (by rw [h553]) ?_
              refine wpF_seg 3 (by kernel_rfl) ?_
              refine wpF_slot 97 (.bool (decide ((snE (rk) (rq) (fa) (tb)) = (0)))) (.bool true) (by kernel_rfl) (by kernel_rfl) (by rw [h533]) ?_
              refine wpF_seg 5 (by kernel_rfl) ?_
              refine wpF_callP hM548 (f := 16) (caps := #[]) (h := (by kernel_rfl : opAt _ _ _ _ _ = some (.call (.mk (.value (.func 16)) #[] #[]), some 103))) (by kernel_rfl) (by kernel_rfl) (by kernel_rfl) (f16 _ _ hM548.inW ) (fun v555 V556 w557 le558 hM559 hp560 => ?_)
              obtain rfl := hp560
              refine wpF_seg 2 (by kernel_rfl) ?_
              refine wpF_end _ (by kernel_rfl) (then_n (hK552 _ _ ?_))
              refine wp_ret ?_
              refine retN [.bool (true)] (.bool (true)) Try.results4 (.tmp (by kernel_rfl) (by kernel_rfl) .nil) (by kernel_rfl) (hRet _ _ ⟨_, _, rfl, hM559.clear, ?_⟩)
              -- end fffftt
              rfl
            · -- fffftf
              refine wpF_seg 2 (by kernel_rfl) ?_
              refine gF hM539 (.binOp .neq 4 (.tmp 76) (.tmp 80) 4) (some 81) (by kernel_rfl) (Y_neq (.bool (coB (snK (rk) (rq) (fa) (tb)) (snQ (rk) (rq) (fa) (tb)) (y))) (.bool (false)) ((coB (snK (rk) (rq) (fa) (tb)) (snQ (rk) (rq) (fa) (tb)) (y)) == (false)) (by kernel_rfl) (by kernel_rfl) (by kernel_rfl)) ?_
              refine wpF_seg 1 (by kernel_rfl) ?_
              have h561 : ((coB (snK (rk) (rq) (fa) (tb)) (snQ (rk) (rq) (fa) (tb)) (y)) == (false)) = true := by have hs1 := hsf.resolve_right (fun h => by omega); rw [co_right hs1.2.2.2.1, hs1.2.2.2.2 y, ← co_right hr y]; first | (rw [(by assumption : coB rk rq y = true)]; rfl) | (rw [(by assumption : coB rk rq y = false), Bool.false_or]; (first | rw [within_1 (by assumption)] | rw [within_2 (by assumption) (by assumption)] | rw [within_3 (by assumption) (by assumption)]); first | rfl | exact beq_self_eq_true _)
              have p562 : ((coB (snK (rk) (rq) (fa) (tb)) (snQ (rk) (rq) (fa) (tb)) (y)) = (false)) := by simpa using h561
              refine wpF_slot 82 (.bool (!((coB (snK (rk) (rq) (fa) (tb)) (snQ (rk) (rq) (fa) (tb)) (y)) == (false)))) (.bool false) (by kernel_rfl) (by kernel_rfl) (by rw [(show (!((coB (snK (rk) (rq) (fa) (tb)) (snQ (rk) (rq) (fa) (tb)) (y)) == (false))) = false from by rw [h561]; rfl)]) ?_
              refine gF hM539 (.load 25 (.tmp 12)) (some 83) (by kernel_rfl) (Y_load 0 rfl (off := 0) (by kernel_rfl) (.agg #[.slice Ar71_1 (snK (rk) (rq) (fa) (tb)).length cr71_1, .slice Ar71_2 (snQ (rk) (rq) (fa) (tb)).length cr71_2]) (by kernel_rfl)) ?_
              refine wpF_callP hM539 (f := 22) (caps := #[]) (h := (by kernel_rfl : opAt _ _ _ _ _ = some (.call (.mk (.value (.func 22)) #[(.tmp 83)] #[25]), some 84))) (by kernel_rfl) (by kernel_rfl) (by kernel_rfl) (f22 _ _ hM539.inW Ar71_1 cr71_1 (snK (rk) (rq) (fa) (tb)) (r72.up le538) Ar71_2 cr71_2 (snQ (rk) (rq) (fa) (tb)) (r73.up le538)) (fun v563 V564 w565 le566 hM567 hp568 => ?_)
              obtain rfl := hp568
              refine wpF_seg 3 (by kernel_rfl) ?_
              refine wpF_end _ (by kernel_rfl) (then_n (hK532 _ _ ?_))
              have h569 : (decide ((chkM (snK (rk) (rq) (fa) (tb)) (snQ (rk) (rq) (fa) (tb))) = (0))) = true := by have hs1 := hsf.resolve_right (fun h => by omega); exact decide_eq_true (chk_right hs1.2.2.2.1)
              have p570 : ((chkM (snK (rk) (rq) (fa) (tb)) (snQ (rk) (rq) (fa) (tb))) = (0)) := of_decide_eq_true h569
              refine wp_slot 87 (.bool (!(decide ((chkM (snK (rk) (rq) (fa) (tb)) (snQ (rk) (rq) (fa) (tb))) = (0))))) (.bool false) (by kernel_rfl) (by rw [(show (!(decide ((chkM (snK (rk) (rq) (fa) (tb)) (snQ (rk) (rq) (fa) (tb))) = (0)))) = false from by rw [h569]; rfl)]) ?_
              refine wp_cf (by kernel_rfl) ?_
              refine wp_skip (then_n (hK531 _ _ ?_))
              refine wp_seq_k (fun K571 hK571 => ?_)
              refine wp_reg ?_
              refine wpF_seg 3 (by kernel_rfl) ?_
              refine wpF_slot 90 (.bool (decide ((kyE (rk) (rq) (fa)) = (0)))) (.bool false) (by kernel_rfl) (by kernel_rfl) (by rw [h427]) ?_
              refine wpF_seg 4 (by kernel_rfl) ?_
              have h572 : (decide ((kyE (rk) (rq) (fa)) = (9))) = true := by exact decide_eq_true (hkf.resolve_left (fun h => by omega)).1
              have p573 : ((kyE (rk) (rq) (fa)) = (9)) := of_decide_eq_true h572
              refine wpF_slot 94 (.bool (decide ((kyE (rk) (rq) (fa)) = (9)))) (.bool true) (by kernel_rfl) (by kernel_rfl) (by rw [h572]) ?_
              refine wpF_seg 3 (by kernel_rfl) ?_
              refine wpF_slot 97 (.bool (decide ((snE (rk) (rq) (fa) (tb)) = (0)))) (.bool true) (by kernel_rfl) (by kernel_rfl) (by rw [h533]) ?_
              refine wpF_seg 5 (by kernel_rfl) ?_
              refine wpF_callP hM567 (f := 16) (caps := #[]) (h := (by kernel_rfl : opAt _ _ _ _ _ = some (.call (.mk (.value (.func 16)) #[] #[]), some 103))) (by kernel_rfl) (by kernel_rfl) (by kernel_rfl) (f16 _ _ hM567.inW ) (fun v574 V575 w576 le577 hM578 hp579 => ?_)
              obtain rfl := hp579
              refine wpF_seg 2 (by kernel_rfl) ?_
              refine wpF_end _ (by kernel_rfl) (then_n (hK571 _ _ ?_))
              refine wp_ret ?_
              refine retN [.bool (true)] (.bool (true)) Try.results4 (.tmp (by kernel_rfl) (by kernel_rfl) .nil) (by kernel_rfl) (hRet _ _ ⟨_, _, rfl, hM578.clear, ?_⟩)
              -- end fffftf
              rfl
          · -- fffff
            have p580 : ¬ ((snE (rk) (rq) (fa) (tb)) = (0)) := of_decide_eq_false h533
            refine wpF_seg 14 (by kernel_rfl) ?_
            refine wpF_end _ (by kernel_rfl) (then_n (hK532 _ _ ?_))
            refine wp_cf (by kernel_rfl) ?_
            refine wp_skip (then_n (hK531 _ _ ?_))
            refine wp_seq_k (fun K581 hK581 => ?_)
            refine wp_reg ?_
            refine wpF_seg 3 (by kernel_rfl) ?_
            refine wpF_slot 90 (.bool (decide ((kyE (rk) (rq) (fa)) = (0)))) (.bool false) (by kernel_rfl) (by kernel_rfl) (by rw [h427]) ?_
            refine wpF_seg 4 (by kernel_rfl) ?_
            have h582 : (decide ((kyE (rk) (rq) (fa)) = (9))) = true := by exact decide_eq_true (hkf.resolve_left (fun h => by omega)).1
            have p583 : ((kyE (rk) (rq) (fa)) = (9)) := of_decide_eq_true h582
            refine wpF_slot 94 (.bool (decide ((kyE (rk) (rq) (fa)) = (9)))) (.bool true) (by kernel_rfl) (by kernel_rfl) (by rw [h582]) ?_
            refine wpF_seg 3 (by kernel_rfl) ?_
            refine wpF_slot 97 (.bool (decide ((snE (rk) (rq) (fa) (tb)) = (0)))) (.bool false) (by kernel_rfl) (by kernel_rfl) (by rw [h533]) ?_
            refine wpF_seg 5 (by kernel_rfl) ?_
            have h584 : (decide ((snE (rk) (rq) (fa) (tb)) = (9))) = true := by exact decide_eq_true (hsf.resolve_left (fun h => by omega)).1
            have p585 : ((snE (rk) (rq) (fa) (tb)) = (9)) := of_decide_eq_true h584
            refine wpF_slot 102 (.bool (decide ((snE (rk) (rq) (fa) (tb)) = (9)))) (.bool true) (by kernel_rfl) (by kernel_rfl) (by rw [h584]) ?_
            refine wpF_callP hM81 (f := 16) (caps := #[]) (h := (by kernel_rfl : opAt _ _ _ _ _ = some (.call (.mk (.value (.func 16)) #[] #[]), some 103))) (by kernel_rfl) (by kernel_rfl) (by kernel_rfl) (f16 _ _ hM81.inW ) (fun v586 V587 w588 le589 hM590 hp591 => ?_)
            obtain rfl := hp591
            refine wpF_seg 2 (by kernel_rfl) ?_
            refine wpF_end _ (by kernel_rfl) (then_n (hK581 _ _ ?_))
            refine wp_ret ?_
            refine retN [.bool (true)] (.bool (true)) Try.results4 (.tmp (by kernel_rfl) (by kernel_rfl) .nil) (by kernel_rfl) (hRet _ _ ⟨_, _, rfl, hM590.clear, ?_⟩)
            -- end fffff
            rfl

end Go.Vk
