/- Contracts of the second seat's functions, part U: printed by wip/tools/st.py. -/
import Derived.Test.YtnibbocbefnnnaaRC
import Derived.Test.YtnibbocbefnnnaaRD
import Derived.Test.YtnibbocbefnnnaaRE
import Derived.Test.YtnibbocbefnnnaaRH
import Derived.Test.YtnibbocbefnnnaaRI
import Derived.Test.YtnibbocbefnnnaaRK
import Derived.Test.YtnibbocbefnnnaaRO
import Derived.Test.YtnibbocbefnnnaaRP
import Derived.Test.YtnibbocbefnnnaaRQ
import Derived.Test.YtnibbocbefnnnaaRMathc
set_option linter.unusedVariables false
set_option linter.unusedSimpArgs false
namespace Go.Vk
open Go.Proofs
set_option maxHeartbeats 4000000 in
set_option maxRecDepth 100000 in
theorem f3 (V : VT) (w : World) (hV : V.inW w) (Ark : Option Addr) (crk : Nat) (rk : List Str) (hrk : Rd strK V Ark crk rk) (Arq : Option Addr) (crq : Nat) (rq : List ((Str × Str))) (hrq : Rd (prK strK strK) V Arq crq rq) (f0 : Str) (hf0 : f0.length ≤ maxL) (t0 : Str) (ht0 : t0.length ≤ maxL) :
    Calls Try.prog 3 #[.agg #[.slice Ark (rk).length crk, .slice Arq (rq).length crq], bs (f0), bs (t0)] w (RetP V w fun rv V' => rv = .bool (true)) := by
  have mxrk : rk.length ≤ 140737488355328 := hrk.max
  have mxrq : rq.length ≤ 140737488355328 := hrq.max
  have mxf0 : f0.length ≤ 140737488355328 := hf0
  have mxt0 : t0.length ≤ 140737488355328 := ht0
  refine calls_env (n := 116) Try.func3 (c := _) rfl Try.ntmps3 (by kernel_rfl) (fun R hRet => ?_)
  have hM0 : Step V w [] V w [] := Step.refl (St.nilE hV)
  refine wp_seq_k (fun K1 hK1 => ?_)
  refine wp_reg ?_
  refine wpF_box hM0 #[.slice Ark (rk).length crk, .slice Arq (rq).length crq] (h := (by kernel_rfl : opAt _ _ _ _ _ = some (.box 25 (.tmp 0), some 3))) (by kernel_rfl) (fun b2 w3 hM4 => ?_)
  obtain ⟨V5, le6, hM7, hc8⟩ := hM4.settle 0 rfl
  have hM9 : Step V w [] V5 _ ([]) := hM7
  refine wpF_seg 1 (by kernel_rfl) ?_
  refine wpF_end _ (by kernel_rfl) (then_n (hK1 _ _ ?_))
  refine wp_seq_k (fun K10 hK10 => ?_)
  refine wp_seq_k (fun K11 hK11 => ?_)
  refine wp_reg ?_
  refine gF hM9 (.load 25 (.tmp 3)) (some 18) (by kernel_rfl) (Y_loadB #[.slice Ark (rk).length crk, .slice Arq (rq).length crq] hc8 (off := 0) (by kernel_rfl) (.agg #[.slice Ark (rk).length crk, .slice Arq (rq).length crq]) (by kernel_rfl)) ?_
  refine wpF_callP hM9 (f := 15) (caps := #[]) (h := (by kernel_rfl : opAt _ _ _ _ _ = some (.call (.mk (.value (.func 15)) #[(.tmp 18)] #[25]), some 19))) (by kernel_rfl) (by kernel_rfl) (by kernel_rfl) (f15 _ _ hM9.inW Ark crk (rk) (hrk.up hM9.le) Arq crq (rq) (hrq.up hM9.le)) (fun v12 V13 w14 le15 hM16 hp17 => ?_)
  obtain rfl := hp17
  refine wpF_seg 1 (by kernel_rfl) ?_
  refine wpF_end _ (by kernel_rfl) (then_n (hK11 _ _ ?_))
  refine wp_if (!(fewR (rk) (rq))) (by kernel_rfl) (fun h18 => ?_) (fun h18 => ?_)
  · -- t
    have h19 : (fewR (rk) (rq)) = false := by simpa using h18
    refine wp_seq_k (fun K20 hK20 => ?_)
    refine wp_reg ?_
    refine wpF_callP hM16 (f := 16) (caps := #[]) (h := (by kernel_rfl : opAt _ _ _ _ _ = some (.call (.mk (.value (.func 16)) #[] #[]), some 21))) (by kernel_rfl) (by kernel_rfl) (by kernel_rfl) (f16 _ _ hM16.inW ) (fun v21 V22 w23 le24 hM25 hp26 => ?_)
    obtain rfl := hp26
    refine wpF_seg 1 (by kernel_rfl) ?_
    refine wpF_end _ (by kernel_rfl) (then_n (hK20 _ _ ?_))
    refine wp_ret (then_r (?_))
    refine retN [.bool (true)] (.bool (true)) Try.results3 (.tmp (by kernel_rfl) (by kernel_rfl) .nil) (by kernel_rfl) (hRet _ _ ⟨_, _, rfl, hM25.clear, ?_⟩)
    -- end t
    rfl
  · -- f
    have h27 : (fewR (rk) (rq)) = true := by simpa using h18
    have hf : rk.length ≤ 100 ∧ rq.length ≤ 100 := by have hh := (by assumption : fewR rk rq = true); simp only [fewR, Bool.and_eq_true, decide_eq_true_eq] at hh; omega
    have hlk : (rk ++ ([([63] : Str)] : List Str)).length = rk.length + 1 := by simp
    have hlq : (rq ++ ([([63], [])] : List (Str × Str))).length = rq.length + 1 := by simp
    have hks := key_same rk rq f0
    have hss := span_same rk rq f0 t0
    refine wp_skip (then_n (hK10 _ _ ?_))
    refine wp_seq_k (fun K28 hK28 => ?_)
    refine wp_reg ?_
    refine gF hM16 (.load 25 (.tmp 3)) (some 22) (by kernel_rfl) (Y_loadB #[.slice Ark (rk).length crk, .slice Arq (rq).length crq] (fun i v hi => le15 _ _ _ (hc8 i v hi)) (off := 0) (by kernel_rfl) (.agg #[.slice Ark (rk).length crk, .slice Arq (rq).length crq]) (by kernel_rfl)) ?_
    refine wpF_callP hM16 (f := 17) (caps := #[]) (h := (by kernel_rfl : opAt _ _ _ _ _ = some (.call (.mk (.value (.func 17)) #[(.tmp 22)] #[25]), some 23))) (by kernel_rfl) (by kernel_rfl) (by kernel_rfl) (f17 _ _ hM16.inW Ark crk (rk) (hrk.up hM16.le) Arq crq (rq) (hrq.up hM16.le) (by omega) (by omega)) (fun v29 V30 w31 le32 hM33 hp34 => ?_)
    obtain ⟨Ar34_1, cr34_1, Ar34_2, cr34_2, rfl, r35, r36, x37, x38⟩ := hp34
    have l39 : ((rk)).length ≤ 140737488355328 := r35.max
    have l40 : ((rq)).length ≤ 140737488355328 := r36.max
    have x37 : Rd strK V30 Ar34_1 cr34_1 ((rk) ++ ([([63] : Str)] : List Str)) := x37
    have x38 : Rd (prK strK strK) V30 Ar34_2 cr34_2 ((rq) ++ ([([63], [])] : List (Str × Str))) := x38
    refine wpF_alloc hM33 #[.slice none 0 0, .slice none 0 0] (h := (by kernel_rfl : opAt _ _ _ _ _ = some (.alloc 25, some 7))) (by kernel_rfl) (fun b41 w42 hM43 => ?_)
    refine wpF_store hM43 0 rfl (h := (by kernel_rfl : opAt _ _ _ _ _ = some (.store 25 (.tmp 7) (.tmp 23), none))) (off := 0) (by kernel_rfl) #[.slice Ar34_1 ((rk)).length cr34_1, .slice Ar34_2 ((rq)).length cr34_2] (by kernel_rfl) (by kernel_rfl) (by kernel_rfl) (by kernel_rfl) (fun w45 hM44 => ?_)
    have hM46 : Step V w [] V30 _ ([.blk b41 (.cells #[.slice Ar34_1 ((rk)).length cr34_1, .slice Ar34_2 ((rq)).length cr34_2] 25)]) := hM44
    refine wpF_end _ (by kernel_rfl) (then_n (hK28 _ _ ?_))
    refine wp_seq_k (fun K47 hK47 => ?_)
    refine wp_reg ?_
    refine gF hM46 (.load 25 (.tmp 7)) (some 25) (by kernel_rfl) (Y_load 0 rfl (off := 0) (by kernel_rfl) (.agg #[.slice Ar34_1 ((rk)).length cr34_1, .slice Ar34_2 ((rq)).length cr34_2]) (by kernel_rfl)) ?_
    refine wpF_seg 1 (by kernel_rfl) ?_
    refine wpF_callP hM46 (f := 18) (caps := #[]) (h := (by kernel_rfl : opAt _ _ _ _ _ = some (.call (.mk (.value (.func 18)) #[(.tmp 25), (.tmp 26)] #[25, 9]), some 27))) (by kernel_rfl) (by kernel_rfl) (by kernel_rfl) (f18 _ _ hM46.inW Ar34_1 cr34_1 ((rk)) r35 Ar34_2 cr34_2 ((rq)) r36 (f0) (hf0)) (fun v48 V49 w50 le51 hM52 hp53 => ?_)
    obtain ⟨Ar53_1, cr53_1, Ar53_2, cr53_2, rfl, r54, r55⟩ := hp53
    have l56 : (kyK ((rk)) ((rq)) (f0)).length ≤ 140737488355328 := r54.max
    have l57 : (kyS ((rk)) ((rq)) (f0)).length ≤ 140737488355328 := r55.max
    refine wpF_seg 3 (by kernel_rfl) ?_
    refine wpF_alloc hM52 #[.slice none 0 0, .slice none 0 0] (h := (by kernel_rfl : opAt _ _ _ _ _ = some (.alloc 25, some 8))) (by kernel_rfl) (fun b58 w59 hM60 => ?_)
    refine wpF_store hM60 0 rfl (h := (by kernel_rfl : opAt _ _ _ _ _ = some (.store 25 (.tmp 8) (.tmp 28), none))) (off := 0) (by kernel_rfl) #[.slice Ar53_1 (kyK ((rk)) ((rq)) (f0)).length cr53_1, .slice Ar53_2 (kyS ((rk)) ((rq)) (f0)).length cr53_2] (by kernel_rfl) (by kernel_rfl) (by kernel_rfl) (by kernel_rfl) (fun w62 hM61 => ?_)
    have hM63 : Step V w [] V49 _ ([.blk b58 (.cells #[.slice Ar53_1 (kyK ((rk)) ((rq)) (f0)).length cr53_1, .slice Ar53_2 (kyS ((rk)) ((rq)) (f0)).length cr53_2] 25), .blk b41 (.cells #[.slice Ar34_1 ((rk)).length cr34_1, .slice Ar34_2 ((rq)).length cr34_2] 25)]) := hM61
    refine wpF_seg 1 (by kernel_rfl) ?_
    refine wpF_end _ (by kernel_rfl) (then_n (hK47 _ _ ?_))
    refine wp_seq_k (fun K64 hK64 => ?_)
    refine wp_reg ?_
    refine gF hM63 (.load 25 (.tmp 3)) (some 31) (by kernel_rfl) (Y_loadB #[.slice Ark (rk).length crk, .slice Arq (rq).length crq] (fun i v hi => ((le15.trans le32).trans le51) _ _ _ (hc8 i v hi)) (off := 0) (by kernel_rfl) (.agg #[.slice Ark (rk).length crk, .slice Arq (rq).length crq]) (by kernel_rfl)) ?_
    refine wpF_seg 1 (by kernel_rfl) ?_
    refine wpF_callP hM63 (f := 19) (caps := #[]) (h := (by kernel_rfl : opAt _ _ _ _ _ = some (.call (.mk (.value (.func 19)) #[(.tmp 31), (.tmp 32)] #[25, 9]), some 33))) (by kernel_rfl) (by kernel_rfl) (by kernel_rfl) (f19 _ _ hM63.inW Ark crk (rk) (hrk.up hM63.le) Arq crq (rq) (hrq.up hM63.le) (f0) (hf0)) (fun v65 V66 w67 le68 hM69 hp70 => ?_)
    obtain ⟨Ar70_1, cr70_1, Ar70_2, cr70_2, rfl, r71, r72⟩ := hp70
    have l73 : (rkK (rk) (rq) (f0)).length ≤ 140737488355328 := r71.max
    have l74 : (rkS (rk) (rq) (f0)).length ≤ 140737488355328 := r72.max
    refine wpF_seg 3 (by kernel_rfl) ?_
    refine wpF_alloc hM69 #[.slice none 0 0, .slice none 0 0] (h := (by kernel_rfl : opAt _ _ _ _ _ = some (.alloc 25, some 10))) (by kernel_rfl) (fun b75 w76 hM77 => ?_)
    refine wpF_store hM77 0 rfl (h := (by kernel_rfl : opAt _ _ _ _ _ = some (.store 25 (.tmp 10) (.tmp 34), none))) (off := 0) (by kernel_rfl) #[.slice Ar70_1 (rkK (rk) (rq) (f0)).length cr70_1, .slice Ar70_2 (rkS (rk) (rq) (f0)).length cr70_2] (by kernel_rfl) (by kernel_rfl) (by kernel_rfl) (by kernel_rfl) (fun w79 hM78 => ?_)
    have hM80 : Step V w [] V66 _ ([.blk b75 (.cells #[.slice Ar70_1 (rkK (rk) (rq) (f0)).length cr70_1, .slice Ar70_2 (rkS (rk) (rq) (f0)).length cr70_2] 25), .blk b58 (.cells #[.slice Ar53_1 (kyK ((rk)) ((rq)) (f0)).length cr53_1, .slice Ar53_2 (kyS ((rk)) ((rq)) (f0)).length cr53_2] 25), .blk b41 (.cells #[.slice Ar34_1 ((rk)).length cr34_1, .slice Ar34_2 ((rq)).length cr34_2] 25)]) := hM78
    refine wpF_seg 1 (by kernel_rfl) ?_
    refine wpF_end _ (by kernel_rfl) (then_n (hK64 _ _ ?_))
    refine wp_seq_k (fun K81 hK81 => ?_)
    refine wp_reg ?_
    refine gF hM80 (.load 25 (.tmp 7)) (some 37) (by kernel_rfl) (Y_load 2 rfl (off := 0) (by kernel_rfl) (.agg #[.slice Ar34_1 ((rk)).length cr34_1, .slice Ar34_2 ((rq)).length cr34_2]) (by kernel_rfl)) ?_
    refine wpF_seg 2 (by kernel_rfl) ?_
    refine wpF_callP hM80 (f := 20) (caps := #[]) (h := (by kernel_rfl : opAt _ _ _ _ _ = some (.call (.mk (.value (.func 20)) #[(.tmp 37), (.tmp 38), (.tmp 39)] #[25, 9, 9]), some 40))) (by kernel_rfl) (by kernel_rfl) (by kernel_rfl) (f20 _ _ hM80.inW Ar34_1 cr34_1 ((rk)) (r35.up (le51.trans le68)) Ar34_2 cr34_2 ((rq)) (r36.up (le51.trans le68)) (f0) (hf0) (t0) (ht0)) (fun v82 V83 w84 le85 hM86 hp87 => ?_)
    obtain ⟨Ar87_1, cr87_1, Ar87_2, cr87_2, rfl, r88, r89⟩ := hp87
    have l90 : (snK ((rk)) ((rq)) (f0) (t0)).length ≤ 140737488355328 := r88.max
    have l91 : (snQ ((rk)) ((rq)) (f0) (t0)).length ≤ 140737488355328 := r89.max
    refine wpF_seg 3 (by kernel_rfl) ?_
    refine wpF_alloc hM86 #[.slice none 0 0, .slice none 0 0] (h := (by kernel_rfl : opAt _ _ _ _ _ = some (.alloc 25, some 12))) (by kernel_rfl) (fun b92 w93 hM94 => ?_)
    refine wpF_store hM94 0 rfl (h := (by kernel_rfl : opAt _ _ _ _ _ = some (.store 25 (.tmp 12) (.tmp 41), none))) (off := 0) (by kernel_rfl) #[.slice Ar87_1 (snK ((rk)) ((rq)) (f0) (t0)).length cr87_1, .slice Ar87_2 (snQ ((rk)) ((rq)) (f0) (t0)).length cr87_2] (by kernel_rfl) (by kernel_rfl) (by kernel_rfl) (by kernel_rfl) (fun w96 hM95 => ?_)
    have hM97 : Step V w [] V83 _ ([.blk b92 (.cells #[.slice Ar87_1 (snK ((rk)) ((rq)) (f0) (t0)).length cr87_1, .slice Ar87_2 (snQ ((rk)) ((rq)) (f0) (t0)).length cr87_2] 25), .blk b75 (.cells #[.slice Ar70_1 (rkK (rk) (rq) (f0)).length cr70_1, .slice Ar70_2 (rkS (rk) (rq) (f0)).length cr70_2] 25), .blk b58 (.cells #[.slice Ar53_1 (kyK ((rk)) ((rq)) (f0)).length cr53_1, .slice Ar53_2 (kyS ((rk)) ((rq)) (f0)).length cr53_2] 25), .blk b41 (.cells #[.slice Ar34_1 ((rk)).length cr34_1, .slice Ar34_2 ((rq)).length cr34_2] 25)]) := hM95
    refine wpF_seg 1 (by kernel_rfl) ?_
    refine wpF_end _ (by kernel_rfl) (then_n (hK81 _ _ ?_))
    refine wp_seq_k (fun K98 hK98 => ?_)
    refine wp_reg ?_
    refine gF hM97 (.load 25 (.tmp 3)) (some 44) (by kernel_rfl) (Y_loadB #[.slice Ark (rk).length crk, .slice Arq (rq).length crq] (fun i v hi => ((((le15.trans le32).trans le51).trans le68).trans le85) _ _ _ (hc8 i v hi)) (off := 0) (by kernel_rfl) (.agg #[.slice Ark (rk).length crk, .slice Arq (rq).length crq]) (by kernel_rfl)) ?_
    refine wpF_seg 2 (by kernel_rfl) ?_
    refine wpF_callP hM97 (f := 21) (caps := #[]) (h := (by kernel_rfl : opAt _ _ _ _ _ = some (.call (.mk (.value (.func 21)) #[(.tmp 44), (.tmp 45), (.tmp 46)] #[25, 9, 9]), some 47))) (by kernel_rfl) (by kernel_rfl) (by kernel_rfl) (f21 _ _ hM97.inW Ark crk (rk) (hrk.up hM97.le) Arq crq (rq) (hrq.up hM97.le) (f0) (hf0) (t0) (ht0)) (fun v99 V100 w101 le102 hM103 hp104 => ?_)
    obtain ⟨Ar104_1, cr104_1, Ar104_2, cr104_2, rfl, r105, r106⟩ := hp104
    have l107 : (rsK (rk) (rq) (f0) (t0)).length ≤ 140737488355328 := r105.max
    have l108 : (rsS (rk) (rq) (f0) (t0)).length ≤ 140737488355328 := r106.max
    refine wpF_seg 3 (by kernel_rfl) ?_
    refine wpF_alloc hM103 #[.slice none 0 0, .slice none 0 0] (h := (by kernel_rfl : opAt _ _ _ _ _ = some (.alloc 25, some 14))) (by kernel_rfl) (fun b109 w110 hM111 => ?_)
    refine wpF_store hM111 0 rfl (h := (by kernel_rfl : opAt _ _ _ _ _ = some (.store 25 (.tmp 14) (.tmp 48), none))) (off := 0) (by kernel_rfl) #[.slice Ar104_1 (rsK (rk) (rq) (f0) (t0)).length cr104_1, .slice Ar104_2 (rsS (rk) (rq) (f0) (t0)).length cr104_2] (by kernel_rfl) (by kernel_rfl) (by kernel_rfl) (by kernel_rfl) (fun w113 hM112 => ?_)
    have hM114 : Step V w [] V100 _ ([.blk b109 (.cells #[.slice Ar104_1 (rsK (rk) (rq) (f0) (t0)).length cr104_1, .slice Ar104_2 (rsS (rk) (rq) (f0) (t0)).length cr104_2] 25), .blk b92 (.cells #[.slice Ar87_1 (snK ((rk)) ((rq)) (f0) (t0)).length cr87_1, .slice Ar87_2 (snQ ((rk)) ((rq)) (f0) (t0)).length cr87_2] 25), .blk b75 (.cells #[.slice Ar70_1 (rkK (rk) (rq) (f0)).length cr70_1, .slice Ar70_2 (rkS (rk) (rq) (f0)).length cr70_2] 25), .blk b58 (.cells #[.slice Ar53_1 (kyK ((rk)) ((rq)) (f0)).length cr53_1, .slice Ar53_2 (kyS ((rk)) ((rq)) (f0)).length cr53_2] 25), .blk b41 (.cells #[.slice Ar34_1 ((rk)).length cr34_1, .slice Ar34_2 ((rq)).length cr34_2] 25)]) := hM112
    refine wpF_seg 1 (by kernel_rfl) ?_
    refine wpF_end _ (by kernel_rfl) (then_n (hK98 _ _ ?_))
    refine wp_seq_k (fun K115 hK115 => ?_)
    refine wp_seq_k (fun K116 hK116 => ?_)
    refine wp_base [(1, bs (f0)), (2, bs (t0)), (3, .pointer (some ⟨b2, 0, none⟩)), (6, .bool (false)), (7, .pointer (some ⟨b41, 0, none⟩)), (8, .pointer (some ⟨b58, 0, none⟩)), (9, .int .i64 (kyE ((rk)) ((rq)) (f0))), (10, .pointer (some ⟨b75, 0, none⟩)), (11, .int .i64 (rkE (rk) (rq) (f0))), (12, .pointer (some ⟨b92, 0, none⟩)), (13, .int .i64 (snE ((rk)) ((rq)) (f0) (t0))), (14, .pointer (some ⟨b109, 0, none⟩)), (15, .int .i64 (rsE (rk) (rq) (f0) (t0)))] (by kernel_rfl) (fun g117 => ?_)
    refine wp_drawN hM114 [(.blk b109 (.cells #[.slice Ar104_1 (rsK (rk) (rq) (f0) (t0)).length cr104_1, .slice Ar104_2 (rsS (rk) (rq) (f0) (t0)).length cr104_2] 25), 9999), (.blk b92 (.cells #[.slice Ar87_1 (snK ((rk)) ((rq)) (f0) (t0)).length cr87_1, .slice Ar87_2 (snQ ((rk)) ((rq)) (f0) (t0)).length cr87_2] 25), 9999), (.blk b75 (.cells #[.slice Ar70_1 (rkK (rk) (rq) (f0)).length cr70_1, .slice Ar70_2 (rkS (rk) (rq) (f0)).length cr70_2] 25), 9999), (.blk b58 (.cells #[.slice Ar53_1 (kyK ((rk)) ((rq)) (f0)).length cr53_1, .slice Ar53_2 (kyS ((rk)) ((rq)) (f0)).length cr53_2] 25), 9999), (.blk b41 (.cells #[.slice Ar34_1 ((rk)).length cr34_1, .slice Ar34_2 ((rq)).length cr34_2] 25), 9999)] (and_held 0 rfl (and_held 1 rfl (and_held 2 rfl (and_held 3 rfl (and_held 4 rfl no_held))))) [] [0, 2] [.a 1, .a 3, .p 4, .p 5, .p 6, .p 7, .a 8, .p 9, .p 10, .p 11, .p 12, .p 13, .p 14, .p 15, .p 16, .p 17, .p 18, .a 19, .p 20, .p 21, .p 22, .p 23, .p 24, .p 25, .p 26] [.p 0, .p 2, .s, .a 1, .a 3, .p 4, .p 5, .p 6, .p 7, .a 8, .p 9, .p 10, .p 11, .p 12, .p 13, .p 14, .p 15, .p 16, .p 17, .p 18, .a 19, .p 20, .p 21, .p 22, .p 23, .p 24, .p 25, .p 26] rfl (by kernel_rfl) (by kernel_rfl) ?_
    refine gH (.load 25 (.tmp 7)) (some 50) (by kernel_rfl) (Y_load 4 (by kernel_rfl : (FOf _ _ _)[4]? = some (.blk b41 (.cells #[.slice Ar34_1 ((rk)).length cr34_1, .slice Ar34_2 ((rq)).length cr34_2] 25))) (off := 0) (by kernel_rfl) (.agg #[.slice Ar34_1 ((rk)).length cr34_1, .slice Ar34_2 ((rq)).length cr34_2]) (by kernel_rfl)) ?_
    refine gH (.load 25 (.tmp 3)) (some 52) (by kernel_rfl) (Y_loadB #[.slice Ark (rk).length crk, .slice Arq (rq).length crq] (fun i v hi => (((((le15.trans le32).trans le51).trans le68).trans le85).trans le102) _ _ _ (hc8 i v hi)) (off := 0) (by kernel_rfl) (.agg #[.slice Ark (rk).length crk, .slice Arq (rq).length crq]) (by kernel_rfl)) ?_
    refine h_s no_fs ?_
    refine h_a (by kernel_rfl) (by kernel_rfl) (fun w118 X119 hM120 => ?_)
    refine wpF_callP hM120 (f := 22) (caps := #[]) (h := (by kernel_rfl : opAt _ _ _ _ _ = some (.call (.mk (.value (.func 22)) #[(.tmp 50)] #[25]), some 51))) (by kernel_rfl) (by kernel_rfl) (by kernel_rfl) (f22 _ _ hM120.inW Ar34_1 cr34_1 ((rk)) (r35.up (((le51.trans le68).trans le85).trans le102)) Ar34_2 cr34_2 ((rq)) (r36.up (((le51.trans le68).trans le85).trans le102))) (fun v121 V122 w123 le124 hM125 hp126 => ?_)
    obtain rfl := hp126
    refine wpF_end _ (by kernel_rfl) (then_n (h_d [(.blk b109 (.cells #[.slice Ar104_1 (rsK (rk) (rq) (f0) (t0)).length cr104_1, .slice Ar104_2 (rsS (rk) (rq) (f0) (t0)).length cr104_2] 25), 9999), (.blk b92 (.cells #[.slice Ar87_1 (snK ((rk)) ((rq)) (f0) (t0)).length cr87_1, .slice Ar87_2 (snQ ((rk)) ((rq)) (f0) (t0)).length cr87_2] 25), 9999), (.blk b75 (.cells #[.slice Ar70_1 (rkK (rk) (rq) (f0)).length cr70_1, .slice Ar70_2 (rkS (rk) (rq) (f0)).length cr70_2] 25), 9999), (.blk b58 (.cells #[.slice Ar53_1 (kyK ((rk)) ((rq)) (f0)).length cr53_1, .slice Ar53_2 (kyS ((rk)) ((rq)) (f0)).length cr53_2] 25), 9999), (.blk b41 (.cells #[.slice Ar34_1 ((rk)).length cr34_1, .slice Ar34_2 ((rq)).length cr34_2] 25), 9999)] (by kernel_rfl) [.blk b109 (.cells #[.slice Ar104_1 (rsK (rk) (rq) (f0) (t0)).length cr104_1, .slice Ar104_2 (rsS (rk) (rq) (f0) (t0)).length cr104_2] 25), .blk b92 (.cells #[.slice Ar87_1 (snK ((rk)) ((rq)) (f0) (t0)).length cr87_1, .slice Ar87_2 (snQ ((rk)) ((rq)) (f0) (t0)).length cr87_2] 25), .blk b75 (.cells #[.slice Ar70_1 (rkK (rk) (rq) (f0)).length cr70_1, .slice Ar70_2 (rkS (rk) (rq) (f0)).length cr70_2] 25), .blk b58 (.cells #[.slice Ar53_1 (kyK ((rk)) ((rq)) (f0)).length cr53_1, .slice Ar53_2 (kyS ((rk)) ((rq)) (f0)).length cr53_2] 25), .blk b41 (.cells #[.slice Ar34_1 ((rk)).length cr34_1, .slice Ar34_2 ((rq)).length cr34_2] 25)] hM125 (and_held 0 rfl (and_held 1 rfl (and_held 2 rfl (and_held 3 rfl (and_held 4 rfl no_held))))) le124 ?_))
    refine h_a (by kernel_rfl) (by kernel_rfl) (fun w127 X128 hM129 => ?_)
    refine wpF_callP hM129 (f := 23) (caps := #[]) (h := (by kernel_rfl : opAt _ _ _ _ _ = some (.call (.mk (.value (.func 23)) #[(.tmp 52)] #[25]), some 53))) (by kernel_rfl) (by kernel_rfl) (by kernel_rfl) (f23 _ _ hM129.inW Ark crk (rk) (hrk.up hM129.le) Arq crq (rq) (hrq.up hM129.le)) (fun v130 V131 w132 le133 hM134 hp135 => ?_)
    obtain rfl := hp135
    refine wpF_end _ (by kernel_rfl) (then_n (h_d [(.blk b109 (.cells #[.slice Ar104_1 (rsK (rk) (rq) (f0) (t0)).length cr104_1, .slice Ar104_2 (rsS (rk) (rq) (f0) (t0)).length cr104_2] 25), 9999), (.blk b92 (.cells #[.slice Ar87_1 (snK ((rk)) ((rq)) (f0) (t0)).length cr87_1, .slice Ar87_2 (snQ ((rk)) ((rq)) (f0) (t0)).length cr87_2] 25), 9999), (.blk b75 (.cells #[.slice Ar70_1 (rkK (rk) (rq) (f0)).length cr70_1, .slice Ar70_2 (rkS (rk) (rq) (f0)).length cr70_2] 25), 9999), (.blk b58 (.cells #[.slice Ar53_1 (kyK ((rk)) ((rq)) (f0)).length cr53_1, .slice Ar53_2 (kyS ((rk)) ((rq)) (f0)).length cr53_2] 25), 9999), (.blk b41 (.cells #[.slice Ar34_1 ((rk)).length cr34_1, .slice Ar34_2 ((rq)).length cr34_2] 25), 9999)] (by kernel_rfl) [.blk b109 (.cells #[.slice Ar104_1 (rsK (rk) (rq) (f0) (t0)).length cr104_1, .slice Ar104_2 (rsS (rk) (rq) (f0) (t0)).length cr104_2] 25), .blk b92 (.cells #[.slice Ar87_1 (snK ((rk)) ((rq)) (f0) (t0)).length cr87_1, .slice Ar87_2 (snQ ((rk)) ((rq)) (f0) (t0)).length cr87_2] 25), .blk b75 (.cells #[.slice Ar70_1 (rkK (rk) (rq) (f0)).length cr70_1, .slice Ar70_2 (rkS (rk) (rq) (f0)).length cr70_2] 25), .blk b58 (.cells #[.slice Ar53_1 (kyK ((rk)) ((rq)) (f0)).length cr53_1, .slice Ar53_2 (kyS ((rk)) ((rq)) (f0)).length cr53_2] 25), .blk b41 (.cells #[.slice Ar34_1 ((rk)).length cr34_1, .slice Ar34_2 ((rq)).length cr34_2] 25)] hM134 (and_held 0 rfl (and_held 1 rfl (and_held 2 rfl (and_held 3 rfl (and_held 4 rfl no_held))))) le133 ?_))
    refine h_seg 2 (by kernel_rfl) ?_
    have h136 : (decide ((chkM ((rk)) ((rq))) = (chkM (rk) (rq)))) = true := by exact decide_eq_true rfl
    have p137 : ((chkM ((rk)) ((rq))) = (chkM (rk) (rq))) := of_decide_eq_true h136
    refine h_slot 55 (.bool (!(decide ((chkM ((rk)) ((rq))) = (chkM (rk) (rq)))))) (.bool false) (by kernel_rfl) (by kernel_rfl) (by rw [(show (!(decide ((chkM ((rk)) ((rq))) = (chkM (rk) (rq))))) = false from by rw [h136]; rfl)]) ?_
    refine gH (.load 25 (.tmp 8)) (some 56) (by kernel_rfl) (Y_load 3 (by kernel_rfl : (FOf _ _ _)[3]? = some (.blk b58 (.cells #[.slice Ar53_1 (kyK ((rk)) ((rq)) (f0)).length cr53_1, .slice Ar53_2 (kyS ((rk)) ((rq)) (f0)).length cr53_2] 25))) (off := 0) (by kernel_rfl) (.agg #[.slice Ar53_1 (kyK ((rk)) ((rq)) (f0)).length cr53_1, .slice Ar53_2 (kyS ((rk)) ((rq)) (f0)).length cr53_2]) (by kernel_rfl)) ?_
    refine gH (.load 25 (.tmp 10)) (some 57) (by kernel_rfl) (Y_load 2 (by kernel_rfl : (FOf _ _ _)[2]? = some (.blk b75 (.cells #[.slice Ar70_1 (rkK (rk) (rq) (f0)).length cr70_1, .slice Ar70_2 (rkS (rk) (rq) (f0)).length cr70_2] 25))) (off := 0) (by kernel_rfl) (.agg #[.slice Ar70_1 (rkK (rk) (rq) (f0)).length cr70_1, .slice Ar70_2 (rkS (rk) (rq) (f0)).length cr70_2]) (by kernel_rfl)) ?_
    refine h_a (by kernel_rfl) (by kernel_rfl) (fun w138 X139 hM140 => ?_)
    refine wpF_callP hM140 (f := 24) (caps := #[]) (h := (by kernel_rfl : opAt _ _ _ _ _ = some (.call (.mk (.value (.func 24)) #[(.tmp 56), (.tmp 57)] #[25, 25]), some 58))) (by kernel_rfl) (by kernel_rfl) (by kernel_rfl) (f24 _ _ hM140.inW Ar53_1 cr53_1 (kyK ((rk)) ((rq)) (f0)) (r54.up ((((le68.trans le85).trans le102).trans le124).trans le133)) Ar53_2 cr53_2 (kyS ((rk)) ((rq)) (f0)) (r55.up ((((le68.trans le85).trans le102).trans le124).trans le133)) Ar70_1 cr70_1 (rkK (rk) (rq) (f0)) (r71.up (((le85.trans le102).trans le124).trans le133)) Ar70_2 cr70_2 (rkS (rk) (rq) (f0)) (r72.up (((le85.trans le102).trans le124).trans le133))) (fun v141 V142 w143 le144 hM145 hp146 => ?_)
    obtain rfl := hp146
    refine wpF_end _ (by kernel_rfl) (then_n (h_d [(.blk b109 (.cells #[.slice Ar104_1 (rsK (rk) (rq) (f0) (t0)).length cr104_1, .slice Ar104_2 (rsS (rk) (rq) (f0) (t0)).length cr104_2] 25), 9999), (.blk b92 (.cells #[.slice Ar87_1 (snK ((rk)) ((rq)) (f0) (t0)).length cr87_1, .slice Ar87_2 (snQ ((rk)) ((rq)) (f0) (t0)).length cr87_2] 25), 9999), (.blk b75 (.cells #[.slice Ar70_1 (rkK (rk) (rq) (f0)).length cr70_1, .slice Ar70_2 (rkS (rk) (rq) (f0)).length cr70_2] 25), 9999), (.blk b58 (.cells #[.slice Ar53_1 (kyK ((rk)) ((rq)) (f0)).length cr53_1, .slice Ar53_2 (kyS ((rk)) ((rq)) (f0)).length cr53_2] 25), 9999), (.blk b41 (.cells #[.slice Ar34_1 ((rk)).length cr34_1, .slice Ar34_2 ((rq)).length cr34_2] 25), 9999)] (by kernel_rfl) [.blk b109 (.cells #[.slice Ar104_1 (rsK (rk) (rq) (f0) (t0)).length cr104_1, .slice Ar104_2 (rsS (rk) (rq) (f0) (t0)).length cr104_2] 25), .blk b92 (.cells #[.slice Ar87_1 (snK ((rk)) ((rq)) (f0) (t0)).length cr87_1, .slice Ar87_2 (snQ ((rk)) ((rq)) (f0) (t0)).length cr87_2] 25), .blk b75 (.cells #[.slice Ar70_1 (rkK (rk) (rq) (f0)).length cr70_1, .slice Ar70_2 (rkS (rk) (rq) (f0)).length cr70_2] 25), .blk b58 (.cells #[.slice Ar53_1 (kyK ((rk)) ((rq)) (f0)).length cr53_1, .slice Ar53_2 (kyS ((rk)) ((rq)) (f0)).length cr53_2] 25), .blk b41 (.cells #[.slice Ar34_1 ((rk)).length cr34_1, .slice Ar34_2 ((rq)).length cr34_2] 25)] hM145 (and_held 0 rfl (and_held 1 rfl (and_held 2 rfl (and_held 3 rfl (and_held 4 rfl no_held))))) le144 ?_))
    refine h_seg 3 (by kernel_rfl) ?_
    have h147 : (decide ((kyK ((rk)) ((rq)) (f0)) = (rkK (rk) (rq) (f0)) ∧ (kyS ((rk)) ((rq)) (f0)) = (rkS (rk) (rq) (f0)))) = true := by exact decide_eq_true ⟨hks.1, hks.2.1⟩
    have p148 : ((kyK ((rk)) ((rq)) (f0)) = (rkK (rk) (rq) (f0)) ∧ (kyS ((rk)) ((rq)) (f0)) = (rkS (rk) (rq) (f0))) := of_decide_eq_true h147
    refine h_slot 61 (.bool (!(decide ((kyK ((rk)) ((rq)) (f0)) = (rkK (rk) (rq) (f0)) ∧ (kyS ((rk)) ((rq)) (f0)) = (rkS (rk) (rq) (f0)))))) (.bool false) (by kernel_rfl) (by kernel_rfl) (by rw [(show (!(decide ((kyK ((rk)) ((rq)) (f0)) = (rkK (rk) (rq) (f0)) ∧ (kyS ((rk)) ((rq)) (f0)) = (rkS (rk) (rq) (f0))))) = false from by rw [h147]; rfl)]) ?_
    refine h_seg 5 (by kernel_rfl) ?_
    have h149 : (decide ((kyE ((rk)) ((rq)) (f0)) = (rkE (rk) (rq) (f0)))) = true := by exact decide_eq_true hks.2.2
    have p150 : ((kyE ((rk)) ((rq)) (f0)) = (rkE (rk) (rq) (f0))) := of_decide_eq_true h149
    refine h_slot 66 (.bool (!(decide ((kyE ((rk)) ((rq)) (f0)) = (rkE (rk) (rq) (f0)))))) (.bool false) (by kernel_rfl) (by kernel_rfl) (by rw [(show (!(decide ((kyE ((rk)) ((rq)) (f0)) = (rkE (rk) (rq) (f0))))) = false from by rw [h149]; rfl)]) ?_
    refine gH (.load 25 (.tmp 12)) (some 67) (by kernel_rfl) (Y_load 1 (by kernel_rfl : (FOf _ _ _)[1]? = some (.blk b92 (.cells #[.slice Ar87_1 (snK ((rk)) ((rq)) (f0) (t0)).length cr87_1, .slice Ar87_2 (snQ ((rk)) ((rq)) (f0) (t0)).length cr87_2] 25))) (off := 0) (by kernel_rfl) (.agg #[.slice Ar87_1 (snK ((rk)) ((rq)) (f0) (t0)).length cr87_1, .slice Ar87_2 (snQ ((rk)) ((rq)) (f0) (t0)).length cr87_2]) (by kernel_rfl)) ?_
    refine gH (.load 25 (.tmp 14)) (some 68) (by kernel_rfl) (Y_load 0 (by kernel_rfl : (FOf _ _ _)[0]? = some (.blk b109 (.cells #[.slice Ar104_1 (rsK (rk) (rq) (f0) (t0)).length cr104_1, .slice Ar104_2 (rsS (rk) (rq) (f0) (t0)).length cr104_2] 25))) (off := 0) (by kernel_rfl) (.agg #[.slice Ar104_1 (rsK (rk) (rq) (f0) (t0)).length cr104_1, .slice Ar104_2 (rsS (rk) (rq) (f0) (t0)).length cr104_2]) (by kernel_rfl)) ?_
    refine h_a (by kernel_rfl) (by kernel_rfl) (fun w151 X152 hM153 => ?_)
    refine wpF_callP hM153 (f := 24) (caps := #[]) (h := (by kernel_rfl : opAt _ _ _ _ _ = some (.call (.mk (.value (.func 24)) #[(.tmp 67), (.tmp 68)] #[25, 25]), some 69))) (by kernel_rfl) (by kernel_rfl) (by kernel_rfl) (f24 _ _ hM153.inW Ar87_1 cr87_1 (snK ((rk)) ((rq)) (f0) (t0)) (r88.up (((le102.trans le124).trans le133).trans le144)) Ar87_2 cr87_2 (snQ ((rk)) ((rq)) (f0) (t0)) (r89.up (((le102.trans le124).trans le133).trans le144)) Ar104_1 cr104_1 (rsK (rk) (rq) (f0) (t0)) (r105.up ((le124.trans le133).trans le144)) Ar104_2 cr104_2 (rsS (rk) (rq) (f0) (t0)) (r106.up ((le124.trans le133).trans le144))) (fun v154 V155 w156 le157 hM158 hp159 => ?_)
    obtain rfl := hp159
    refine wpF_end _ (by kernel_rfl) (then_n (h_d [(.blk b109 (.cells #[.slice Ar104_1 (rsK (rk) (rq) (f0) (t0)).length cr104_1, .slice Ar104_2 (rsS (rk) (rq) (f0) (t0)).length cr104_2] 25), 9999), (.blk b92 (.cells #[.slice Ar87_1 (snK ((rk)) ((rq)) (f0) (t0)).length cr87_1, .slice Ar87_2 (snQ ((rk)) ((rq)) (f0) (t0)).length cr87_2] 25), 9999), (.blk b75 (.cells #[.slice Ar70_1 (rkK (rk) (rq) (f0)).length cr70_1, .slice Ar70_2 (rkS (rk) (rq) (f0)).length cr70_2] 25), 9999), (.blk b58 (.cells #[.slice Ar53_1 (kyK ((rk)) ((rq)) (f0)).length cr53_1, .slice Ar53_2 (kyS ((rk)) ((rq)) (f0)).length cr53_2] 25), 9999), (.blk b41 (.cells #[.slice Ar34_1 ((rk)).length cr34_1, .slice Ar34_2 ((rq)).length cr34_2] 25), 9999)] (by kernel_rfl) [.blk b109 (.cells #[.slice Ar104_1 (rsK (rk) (rq) (f0) (t0)).length cr104_1, .slice Ar104_2 (rsS (rk) (rq) (f0) (t0)).length cr104_2] 25), .blk b92 (.cells #[.slice Ar87_1 (snK ((rk)) ((rq)) (f0) (t0)).length cr87_1, .slice Ar87_2 (snQ ((rk)) ((rq)) (f0) (t0)).length cr87_2] 25), .blk b75 (.cells #[.slice Ar70_1 (rkK (rk) (rq) (f0)).length cr70_1, .slice Ar70_2 (rkS (rk) (rq) (f0)).length cr70_2] 25), .blk b58 (.cells #[.slice Ar53_1 (kyK ((rk)) ((rq)) (f0)).length cr53_1, .slice Ar53_2 (kyS ((rk)) ((rq)) (f0)).length cr53_2] 25), .blk b41 (.cells #[.slice Ar34_1 ((rk)).length cr34_1, .slice Ar34_2 ((rq)).length cr34_2] 25)] hM158 (and_held 0 rfl (and_held 1 rfl (and_held 2 rfl (and_held 3 rfl (and_held 4 rfl no_held))))) le157 ?_))
    refine h_seg 3 (by kernel_rfl) ?_
    have h160 : (decide ((snK ((rk)) ((rq)) (f0) (t0)) = (rsK (rk) (rq) (f0) (t0)) ∧ (snQ ((rk)) ((rq)) (f0) (t0)) = (rsS (rk) (rq) (f0) (t0)))) = true := by exact decide_eq_true ⟨hss.1, hss.2.1⟩
    have p161 : ((snK ((rk)) ((rq)) (f0) (t0)) = (rsK (rk) (rq) (f0) (t0)) ∧ (snQ ((rk)) ((rq)) (f0) (t0)) = (rsS (rk) (rq) (f0) (t0))) := of_decide_eq_true h160
    refine h_slot 72 (.bool (!(decide ((snK ((rk)) ((rq)) (f0) (t0)) = (rsK (rk) (rq) (f0) (t0)) ∧ (snQ ((rk)) ((rq)) (f0) (t0)) = (rsS (rk) (rq) (f0) (t0)))))) (.bool false) (by kernel_rfl) (by kernel_rfl) (by rw [(show (!(decide ((snK ((rk)) ((rq)) (f0) (t0)) = (rsK (rk) (rq) (f0) (t0)) ∧ (snQ ((rk)) ((rq)) (f0) (t0)) = (rsS (rk) (rq) (f0) (t0))))) = false from by rw [h160]; rfl)]) ?_
    refine h_seg 4 (by kernel_rfl) ?_
    refine h_n (fun w162 hM163 => ?_)
    refine  (then_n (hK116 _ _ ?_))
    have h164 : (decide ((snE ((rk)) ((rq)) (f0) (t0)) = (rsE (rk) (rq) (f0) (t0)))) = true := by exact decide_eq_true hss.2.2
    have p165 : ((snE ((rk)) ((rq)) (f0) (t0)) = (rsE (rk) (rq) (f0) (t0))) := of_decide_eq_true h164
    refine wp_slot 76 (.bool (!(decide ((snE ((rk)) ((rq)) (f0) (t0)) = (rsE (rk) (rq) (f0) (t0)))))) (.bool false) (by kernel_rfl) (by rw [(show (!(decide ((snE ((rk)) ((rq)) (f0) (t0)) = (rsE (rk) (rq) (f0) (t0))))) = false from by rw [h164]; rfl)]) ?_
    refine wp_cf (by kernel_rfl) ?_
    refine wp_skip (then_n (hK115 _ _ ?_))
    refine wp_seq_k (fun K166 hK166 => ?_)
    refine wp_base [(3, .pointer (some ⟨b2, 0, none⟩)), (6, .bool (false)), (7, .pointer (some ⟨b41, 0, none⟩))] (by kernel_rfl) (fun g167 => ?_)
    refine wp_drawN hM163 [(.blk b41 (.cells #[.slice Ar34_1 ((rk)).length cr34_1, .slice Ar34_2 ((rq)).length cr34_2] 25), 9999)] (and_held 4 rfl no_held) [] [0, 1, 2, 3, 4, 5, 6, 7, 8, 9, 10, 11, 12, 13, 14, 15] [] [.p 0, .p 1, .p 2, .p 3, .p 4, .p 5, .p 6, .p 7, .p 8, .p 9, .p 10, .p 11, .p 12, .p 13, .p 14, .p 15, .s] rfl (by kernel_rfl) (by kernel_rfl) ?_
    refine h_seg 1 (by kernel_rfl) ?_
    refine gH (.load 22 (.tmp 77)) (some 78) (by kernel_rfl) (Y_load 0 (by kernel_rfl : (FOf _ _ _)[0]? = some (.blk b41 (.cells #[.slice Ar34_1 ((rk)).length cr34_1, .slice Ar34_2 ((rq)).length cr34_2] 25))) (off := 0) (by kernel_rfl) (.slice Ar34_1 ((rk)).length cr34_1) (by kernel_rfl)) ?_
    refine h_seg 1 (by kernel_rfl) ?_
    refine gH (.load 22 (.tmp 79)) (some 80) (by kernel_rfl) (Y_load 0 (by kernel_rfl : (FOf _ _ _)[0]? = some (.blk b41 (.cells #[.slice Ar34_1 ((rk)).length cr34_1, .slice Ar34_2 ((rq)).length cr34_2] 25))) (off := 0) (by kernel_rfl) (.slice Ar34_1 ((rk)).length cr34_1) (by kernel_rfl)) ?_
    refine h_seg 1 (by kernel_rfl) ?_
    refine gH (.binOp .add 3 (.tmp 81) (.const (.int .i64 1)) 3) (some 82) (by kernel_rfl) (Y_add .i64 ((((rk)).length : Int)) (1) (((((rk)).length : Int)) + 1) (by kernel_rfl) (by kernel_rfl) (wrap64_ok _ (by omega))) ?_
    refine gH (.slice 22 (.tmp 78) none (some (.tmp 82)) none) (some 83) (by kernel_rfl) (Y_sliceP (xs := (rk ++ ([([63] : Str)] : List Str))) (n := ((rk)).length) (x37.up (((((((le51.trans le68).trans le85).trans le102).trans le124).trans le133).trans le144).trans le157)) (by simp) (by simp) (e := 9) (by kernel_rfl) (by kernel_rfl) (((rk ++ ([([63] : Str)] : List Str))).length) ⟨.i64, by rw [show ((((rk ++ ([([63] : Str)] : List Str))).length : Nat) : Int) = ((((rk)).length : Int)) + 1 from by simp]; kernel_rfl⟩ (by simp)) ?_
    have r168 : Rd strK _ Ar34_1 cr34_1 (rk ++ ([([63] : Str)] : List Str)) := Rd.pre (x37.up (((((((le51.trans le68).trans le85).trans le102).trans le124).trans le133).trans le144).trans le157)) (((rk ++ ([([63] : Str)] : List Str))).length) (by simp) (by exact List.take_length)
    refine h_seg 1 (by kernel_rfl) ?_
    refine gH (.load 23 (.tmp 84)) (some 85) (by kernel_rfl) (Y_load 0 (by kernel_rfl : (FOf _ _ _)[0]? = some (.blk b41 (.cells #[.slice Ar34_1 ((rk)).length cr34_1, .slice Ar34_2 ((rq)).length cr34_2] 25))) (off := 1) (by kernel_rfl) (.slice Ar34_2 ((rq)).length cr34_2) (by kernel_rfl)) ?_
    refine h_seg 1 (by kernel_rfl) ?_
    refine gH (.load 23 (.tmp 86)) (some 87) (by kernel_rfl) (Y_load 0 (by kernel_rfl : (FOf _ _ _)[0]? = some (.blk b41 (.cells #[.slice Ar34_1 ((rk)).length cr34_1, .slice Ar34_2 ((rq)).length cr34_2] 25))) (off := 1) (by kernel_rfl) (.slice Ar34_2 ((rq)).length cr34_2) (by kernel_rfl)) ?_
    refine h_seg 1 (by kernel_rfl) ?_
    refine gH (.binOp .add 3 (.tmp 88) (.const (.int .i64 1)) 3) (some 89) (by kernel_rfl) (Y_add .i64 ((((rq)).length : Int)) (1) (((((rq)).length : Int)) + 1) (by kernel_rfl) (by kernel_rfl) (wrap64_ok _ (by omega))) ?_
    refine gH (.slice 23 (.tmp 85) none (some (.tmp 89)) none) (some 90) (by kernel_rfl) (Y_sliceP (xs := (rq ++ ([([63], [])] : List (Str × Str)))) (n := ((rq)).length) (x38.up (((((((le51.trans le68).trans le85).trans le102).trans le124).trans le133).trans le144).trans le157)) (by simp) (by simp) (e := 40) (by kernel_rfl) (by kernel_rfl) (((rq ++ ([([63], [])] : List (Str × Str)))).length) ⟨.i64, by rw [show ((((rq ++ ([([63], [])] : List (Str × Str)))).length : Nat) : Int) = ((((rq)).length : Int)) + 1 from by simp]; kernel_rfl⟩ (by simp)) ?_
    have r169 : Rd (prK strK strK) _ Ar34_2 cr34_2 (rq ++ ([([63], [])] : List (Str × Str))) := Rd.pre (x38.up (((((((le51.trans le68).trans le85).trans le102).trans le124).trans le133).trans le144).trans le157)) (((rq ++ ([([63], [])] : List (Str × Str)))).length) (by simp) (by exact List.take_length)
    refine h_seg 2 (by kernel_rfl) ?_
    refine h_s no_fs ?_
    refine h_n (fun w170 hM171 => ?_)
    refine  (then_n (hK166 _ _ ?_))
    refine wp_seq_k (fun K172 hK172 => ?_)
    refine wp_reg ?_
    refine gF hM171 (.load 25 (.tmp 7)) (some 91) (by kernel_rfl) (Y_load 4 rfl (off := 0) (by kernel_rfl) (.agg #[.slice Ar34_1 ((rk)).length cr34_1, .slice Ar34_2 ((rq)).length cr34_2]) (by kernel_rfl)) ?_
    refine gF hM171 (.load 25 (.tmp 3)) (some 92) (by kernel_rfl) (Y_loadB #[.slice Ark (rk).length crk, .slice Arq (rq).length crq] (fun i v hi => (((((((((le15.trans le32).trans le51).trans le68).trans le85).trans le102).trans le124).trans le133).trans le144).trans le157) _ _ _ (hc8 i v hi)) (off := 0) (by kernel_rfl) (.agg #[.slice Ark (rk).length crk, .slice Arq (rq).length crq]) (by kernel_rfl)) ?_
    refine wpF_callP hM171 (f := 24) (caps := #[]) (h := (by kernel_rfl : opAt _ _ _ _ _ = some (.call (.mk (.value (.func 24)) #[(.tmp 91), (.tmp 92)] #[25, 25]), some 93))) (by kernel_rfl) (by kernel_rfl) (by kernel_rfl) (f24 _ _ hM171.inW Ar34_1 cr34_1 ((rk)) (r35.up (((((((le51.trans le68).trans le85).trans le102).trans le124).trans le133).trans le144).trans le157)) Ar34_2 cr34_2 ((rq)) (r36.up (((((((le51.trans le68).trans le85).trans le102).trans le124).trans le133).trans le144).trans le157)) Ark crk (rk) (hrk.up hM171.le) Arq crq (rq) (hrq.up hM171.le)) (fun v173 V174 w175 le176 hM177 hp178 => ?_)
    obtain rfl := hp178
    refine wpF_seg 1 (by kernel_rfl) ?_
    have h179 : (decide (((rk)) = (rk) ∧ ((rq)) = (rq))) = true := by exact decide_eq_true ⟨rfl, rfl⟩
    have p180 : (((rk)) = (rk) ∧ ((rq)) = (rq)) := of_decide_eq_true h179
    refine wpF_slot 94 (.bool (decide (((rk)) = (rk) ∧ ((rq)) = (rq)))) (.bool true) (by kernel_rfl) (by kernel_rfl) (by rw [h179]) ?_
    refine wpF_seg 3 (by kernel_rfl) ?_
    refine gF hM177 (.binOp .sub 3 (.tmp 97) (.const (.int .i64 1)) 3) (some 98) (by kernel_rfl) (Y_sub .i64 (((rk ++ ([([63] : Str)] : List Str)).length : Int)) (1) ((((rk ++ ([([63] : Str)] : List Str)).length : Int)) - 1) (by kernel_rfl) (by kernel_rfl) (wrap64_ok _ (by omega))) ?_
    refine wpF_slot 98 (.int .i64 ((((rk ++ ([([63] : Str)] : List Str)).length : Int)) - 1)) (.int .i64 (((rk.length : Nat) : Int))) (by kernel_rfl) (by kernel_rfl) (by exact congrArg (Value.int .i64) (by omega)) ?_
    refine gF_index (A := Ar34_1) (c := cr34_1) (r168.up le176) .i64 (((rk.length : Nat) : Int)) (h := (by kernel_rfl : opAt _ _ _ _ _ = some (.indexAddr 22 (.tmp 95) (.tmp 98), some 99))) (e := 9) (by kernel_rfl) (by kernel_rfl) (by kernel_rfl) ((rk.length)) (by omega) (by omega) (fun b181 o182 at_b181 => ?_)
    have c183 : V174 b181 o182 = some (bs ((rk ++ ([([63] : Str)] : List Str)).getD ((rk.length)) [])) := (At.str at_b181).1
    have l184 : ((rk ++ ([([63] : Str)] : List Str)).getD ((rk.length)) []).length ≤ 140737488355328 := (At.str at_b181).2
    refine gF hM177 (.load 9 (.tmp 99)) (some 100) (by kernel_rfl) (Y_loadV c183 (by kernel_rfl) (by kernel_rfl)) ?_
    refine wpF_seg 3 (by kernel_rfl) ?_
    have h185 : (decide ((((rk ++ ([([63] : Str)] : List Str)).getD ((rk.length)) [])) = (([63] : Str)))) = true := by exact decide_eq_true (by simp)
    have p186 : ((((rk ++ ([([63] : Str)] : List Str)).getD ((rk.length)) [])) = (([63] : Str))) := of_decide_eq_true h185
    refine wpF_slot 103 (.bool (decide ((((rk ++ ([([63] : Str)] : List Str)).getD ((rk.length)) [])) = (([63] : Str))))) (.bool true) (by kernel_rfl) (by kernel_rfl) (by rw [h185]) ?_
    refine wpF_seg 3 (by kernel_rfl) ?_
    refine gF hM177 (.binOp .sub 3 (.tmp 106) (.const (.int .i64 1)) 3) (some 107) (by kernel_rfl) (Y_sub .i64 (((rq ++ ([([63], [])] : List (Str × Str))).length : Int)) (1) ((((rq ++ ([([63], [])] : List (Str × Str))).length : Int)) - 1) (by kernel_rfl) (by kernel_rfl) (wrap64_ok _ (by omega))) ?_
    refine wpF_slot 107 (.int .i64 ((((rq ++ ([([63], [])] : List (Str × Str))).length : Int)) - 1)) (.int .i64 (((rq.length : Nat) : Int))) (by kernel_rfl) (by kernel_rfl) (by exact congrArg (Value.int .i64) (by omega)) ?_
    refine gF_index (A := Ar34_2) (c := cr34_2) (r169.up le176) .i64 (((rq.length : Nat) : Int)) (h := (by kernel_rfl : opAt _ _ _ _ _ = some (.indexAddr 23 (.tmp 104) (.tmp 107), some 108))) (e := 40) (by kernel_rfl) (by kernel_rfl) (by kernel_rfl) ((rq.length)) (by omega) (by omega) (fun b187 o188 at_b187 => ?_)
    have c189 : V174 b187 o188 = some (bs ((rq ++ ([([63], [])] : List (Str × Str))).getD ((rq.length)) ([], [])).1) := (At.str (At.pr at_b187).1).1
    have l190 : ((rq ++ ([([63], [])] : List (Str × Str))).getD ((rq.length)) ([], [])).1.length ≤ 140737488355328 := (At.str (At.pr at_b187).1).2
    have c191 : V174 b187 (o188 + 1) = some (bs ((rq ++ ([([63], [])] : List (Str × Str))).getD ((rq.length)) ([], [])).2) := (At.str (At.pr at_b187).2).1
    have l192 : ((rq ++ ([([63], [])] : List (Str × Str))).getD ((rq.length)) ([], [])).2.length ≤ 140737488355328 := (At.str (At.pr at_b187).2).2
    refine gF hM177 (.load 40 (.tmp 108)) (some 109) (by kernel_rfl) (Y_loadS (b := b187) (off := o188) [bs (((rq ++ ([([63], [])] : List (Str × Str))).getD ((rq.length)) ([], [])).1), bs (((rq ++ ([([63], [])] : List (Str × Str))).getD ((rq.length)) ([], [])).2)] (cells2 c189 c191) (by kernel_rfl) (by kernel_rfl) (by kernel_rfl)) ?_
    refine wpF_seg 1 (by kernel_rfl) ?_
    refine gF hM177 (.binOp .eql 40 (.tmp 109) (.tmp 110) 40) (some 111) (by kernel_rfl) (Y_eqlSpan (((rq ++ ([([63], [])] : List (Str × Str))).getD ((rq.length)) ([], [])).1) (((rq ++ ([([63], [])] : List (Str × Str))).getD ((rq.length)) ([], [])).2) (([63] : Str)) [] (by kernel_rfl) (by kernel_rfl) (by kernel_rfl)) ?_
    refine wpF_seg 2 (by kernel_rfl) ?_
    have h193 : (sameP (((rq ++ ([([63], [])] : List (Str × Str))).getD ((rq.length)) ([], [])).1) (((rq ++ ([([63], [])] : List (Str × Str))).getD ((rq.length)) ([], [])).2) (([63] : Str)) []) = true := by simp [sameP]
    refine wpF_slot 113 (.bool (sameP (((rq ++ ([([63], [])] : List (Str × Str))).getD ((rq.length)) ([], [])).1) (((rq ++ ([([63], [])] : List (Str × Str))).getD ((rq.length)) ([], [])).2) (([63] : Str)) [])) (.bool true) (by kernel_rfl) (by kernel_rfl) (by rw [h193]) ?_
    refine wpF_callP hM177 (f := 16) (caps := #[]) (h := (by kernel_rfl : opAt _ _ _ _ _ = some (.call (.mk (.value (.func 16)) #[] #[]), some 114))) (by kernel_rfl) (by kernel_rfl) (by kernel_rfl) (f16 _ _ hM177.inW ) (fun v194 V195 w196 le197 hM198 hp199 => ?_)
    obtain rfl := hp199
    refine wpF_seg 2 (by kernel_rfl) ?_
    refine wpF_end _ (by kernel_rfl) (then_n (hK172 _ _ ?_))
    refine wp_ret ?_
    refine retN [.bool (true)] (.bool (true)) Try.results3 (.tmp (by kernel_rfl) (by kernel_rfl) .nil) (by kernel_rfl) (hRet _ _ ⟨_, _, rfl, hM198.clear, ?_⟩)
    -- end f
    rfl

end Go.Vk
