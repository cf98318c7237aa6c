import Derived.Test.YtnibbocbefnnnaaRD
import Derived.Test.YtnibbocbefnnnaaRIt
import Derived.Test.YtnibbocbefnnnaaRJ
import Derived.Test.YtnibbocbefnnnaaRK
import Derived.Test.YtnibbocbefnnnaaRMathRd
import Derived.Test.YtnibbocbefnnnaaRMathSp
import Derived.Test.YtnibbocbefnnnaaRMathSq
import Derived.Test.YtnibbocbefnnnaaRMathSr
import Derived.Test.YtnibbocbefnnnaaRPlainSp
import Derived.Test.YtnibbocbefnnnaaRSj
import Derived.Test.YtnibbocbefnnnaaRSp
import Derived.Test.YtnibbocbefnnnaaRSq
import Derived.Test.YtnibbocbefnnnaaRUa
import Derived.Test.YtnibbocbefnnnaaRUd
set_option linter.unusedVariables false
set_option linter.unusedSimpArgs false
namespace Go.Vk
open Go.Proofs
variable {D : List Deferred}
set_option maxHeartbeats 4000000 in
set_option maxRecDepth 100000 in
theorem f6y (V : VT) (w : World) (hV : V.inW w) (Ark : Option Addr) (crk : Nat) (rk : List Str) (hrk : Rd strK V Ark crk rk) (Arq : Option Addr) (crq : Nat) (rq : List ((Str × Str))) (hrq : Rd (prK strK strK) V Arq crq rq) (y : Str) (hy : y.length ≤ maxL) (Ab : Option Addr) (cb : Nat) (b : List ((Str × Str × Bool))) (hb : Rd (prK strK (prK strK boolK)) V Ab cb b) (Al : Option Addr) (cl : Nat) (l : List ((Str × (List ((Int × Str × Bool)))))) (hl : Rd (prK strK (slK (prK (intK .i64) (prK strK boolK)))) V Al cl l) (t : Int) (hky : ∀ y, y ∈ rk → y.length ≤ 140737488351232) (hv : ∀ i, i < l.length → (l.getD i ([], [])).2.length ≤ 4398046511104) (hld : ldB l 1000 0 = true) :
    Calls Try.prog 6 #[.agg #[.slice Ark (rk).length crk, .slice Arq (rq).length crq], bs (y), .slice Ab (b).length cb, .slice Al (l).length cl, .int .i64 (t)] w (RetP V w fun rv V' => rv = .bool (true)) := by
  have mxrk : rk.length ≤ 140737488355328 := hrk.max
  have mxrq : rq.length ≤ 140737488355328 := hrq.max
  have mxy : y.length ≤ 140737488355328 := hy
  have mxb : b.length ≤ 140737488355328 := hb.max
  have mxl : l.length ≤ 140737488355328 := hl.max
  refine calls_env (n := 83) Try.func6 (c := _) rfl Try.ntmps6 (by kernel_rfl) (fun R hRet => ?_)
  have hM0 : Step V w [] V w [] := Step.refl (St.nilE hV)
  refine wp_seq_k (fun K1 hK1 => ?_)
  refine wp_reg ?_
  refine wpF_box hM0 #[.slice Ark (rk).length crk, .slice Arq (rq).length crq] (h := (by kernel_rfl : opAt _ _ _ _ _ = some (.box 25 (.tmp 0), some 5))) (by kernel_rfl) (fun b2 w3 hM4 => ?_)
  obtain ⟨V5, le6, hM7, hc8⟩ := hM4.settle 0 rfl
  have hM9 : Step V w [] V5 _ ([]) := hM7
  refine wpF_seg 1 (by kernel_rfl) ?_
  refine wpF_end _ (by kernel_rfl) (then_n (hK1 _ _ ?_))
  refine wp_seq_k (fun K10 hK10 => ?_)
  refine wp_seq_k (fun K11 hK11 => ?_)
  refine wp_reg ?_
  refine gF hM9 (.load 25 (.tmp 5)) (some 15) (by kernel_rfl) (Y_loadB #[.slice Ark (rk).length crk, .slice Arq (rq).length crq] hc8 (off := 0) (by kernel_rfl) (.agg #[.slice Ark (rk).length crk, .slice Arq (rq).length crq]) (by kernel_rfl)) ?_
  refine wpF_callP hM9 (f := 15) (caps := #[]) (h := (by kernel_rfl : opAt _ _ _ _ _ = some (.call (.mk (.value (.func 15)) #[(.tmp 15)] #[25]), some 16))) (by kernel_rfl) (by kernel_rfl) (by kernel_rfl) (f15 _ _ hM9.inW Ark crk (rk) (hrk.up hM9.le) Arq crq (rq) (hrq.up hM9.le)) (fun v12 V13 w14 le15 hM16 hp17 => ?_)
  obtain rfl := hp17
  refine wpF_seg 2 (by kernel_rfl) ?_
  refine wpF_caseB 18 (!(fewR (rk) (rq))) (by kernel_rfl) (by kernel_rfl) (fun h18 => ?_) (fun h18 => ?_)
  · -- t
    have h19 : (fewR (rk) (rq)) = false := by simpa using h18
    refine wpF_seg 9 (by kernel_rfl) ?_
    refine wpF_end _ (by kernel_rfl) (then_n (hK11 _ _ ?_))
    refine wp_ct (by kernel_rfl) ?_
    refine wp_seq_k (fun K20 hK20 => ?_)
    refine wp_reg ?_
    refine wpF_callP hM16 (f := 16) (caps := #[]) (h := (by kernel_rfl : opAt _ _ _ _ _ = some (.call (.mk (.value (.func 16)) #[] #[]), some 28))) (by kernel_rfl) (by kernel_rfl) (by kernel_rfl) (f16 _ _ hM16.inW ) (fun v21 V22 w23 le24 hM25 hp26 => ?_)
    obtain rfl := hp26
    refine wpF_seg 1 (by kernel_rfl) ?_
    refine wpF_end _ (by kernel_rfl) (then_n (hK20 _ _ ?_))
    refine wp_ret (then_r (?_))
    refine retN [.bool (true)] (.bool (true)) Try.results6 (.tmp (by kernel_rfl) (by kernel_rfl) .nil) (by kernel_rfl) (hRet _ _ ⟨_, _, rfl, hM25.clear, ?_⟩)
    -- end t
    rfl
  · -- f
    have h27 : (fewR (rk) (rq)) = true := by simpa using h18
    refine wpF_seg 5 (by kernel_rfl) ?_
    refine wpF_caseB 23 (decide ((100) < ((b.length : Int)))) (by kernel_rfl) (by kernel_rfl) (fun h28 => ?_) (fun h28 => ?_)
    · -- ft
      have p29 : ((100) < ((b.length : Int))) := of_decide_eq_true h28
      refine wpF_seg 4 (by kernel_rfl) ?_
      refine wpF_end _ (by kernel_rfl) (then_n (hK11 _ _ ?_))
      refine wp_ct (by kernel_rfl) ?_
      refine wp_seq_k (fun K30 hK30 => ?_)
      refine wp_reg ?_
      refine wpF_callP hM16 (f := 16) (caps := #[]) (h := (by kernel_rfl : opAt _ _ _ _ _ = some (.call (.mk (.value (.func 16)) #[] #[]), some 28))) (by kernel_rfl) (by kernel_rfl) (by kernel_rfl) (f16 _ _ hM16.inW ) (fun v31 V32 w33 le34 hM35 hp36 => ?_)
      obtain rfl := hp36
      refine wpF_seg 1 (by kernel_rfl) ?_
      refine wpF_end _ (by kernel_rfl) (then_n (hK30 _ _ ?_))
      refine wp_ret (then_r (?_))
      refine retN [.bool (true)] (.bool (true)) Try.results6 (.tmp (by kernel_rfl) (by kernel_rfl) .nil) (by kernel_rfl) (hRet _ _ ⟨_, _, rfl, hM35.clear, ?_⟩)
      -- end ft
      rfl
    · -- ff
      have p37 : ¬ ((100) < ((b.length : Int))) := of_decide_eq_false h28
      refine wpF_seg 4 (by kernel_rfl) ?_
      refine wpF_end _ (by kernel_rfl) (then_n (hK11 _ _ ?_))
      refine wp_if (decide ((100) < ((l.length : Int)))) (by kernel_rfl) (fun h38 => ?_) (fun h38 => ?_)
      · -- fft
        have p39 : ((100) < ((l.length : Int))) := of_decide_eq_true h38
        refine wp_seq_k (fun K40 hK40 => ?_)
        refine wp_reg ?_
        refine wpF_callP hM16 (f := 16) (caps := #[]) (h := (by kernel_rfl : opAt _ _ _ _ _ = some (.call (.mk (.value (.func 16)) #[] #[]), some 28))) (by kernel_rfl) (by kernel_rfl) (by kernel_rfl) (f16 _ _ hM16.inW ) (fun v41 V42 w43 le44 hM45 hp46 => ?_)
        obtain rfl := hp46
        refine wpF_seg 1 (by kernel_rfl) ?_
        refine wpF_end _ (by kernel_rfl) (then_n (hK40 _ _ ?_))
        refine wp_ret (then_r (?_))
        refine retN [.bool (true)] (.bool (true)) Try.results6 (.tmp (by kernel_rfl) (by kernel_rfl) .nil) (by kernel_rfl) (hRet _ _ ⟨_, _, rfl, hM45.clear, ?_⟩)
        -- end fft
        rfl
      · -- fff
        have p47 : ¬ ((100) < ((l.length : Int))) := of_decide_eq_false h38
        refine wp_skip (then_n (hK10 _ _ ?_))
        refine wp_seq_k (fun K48 hK48 => ?_)
        refine wp_seq_k (fun K49 hK49 => ?_)
        refine wp_base [(1, bs (y)), (2, .slice Ab (b).length cb), (3, .slice Al (l).length cl), (4, .int .i64 (t)), (5, .pointer (some ⟨b2, 0, none⟩)), (10, .bool (false))] (by kernel_rfl) (fun g50 => ?_)
        refine wp_drawN hM16 [] no_held [] [0, 1, 3, 4] [.a 2, .a 5, .p 6, .p 7, .p 8, .p 9, .p 11, .p 12, .a 10, .a 13, .p 14, .p 15, .p 16, .p 17, .p 18, .a 19, .p 20] [.p 0, .p 1, .p 3, .p 4, .s, .a 2, .a 5, .p 6, .p 7, .p 8, .p 9, .p 11, .p 12, .a 10, .a 13, .p 14, .p 15, .p 16, .p 17, .p 18, .a 19, .p 20] rfl (by kernel_rfl) (by kernel_rfl) ?_
        refine gH (.load 25 (.tmp 5)) (some 29) (by kernel_rfl) (Y_loadB #[.slice Ark (rk).length crk, .slice Arq (rq).length crq] (fun i v hi => le15 _ _ _ (hc8 i v hi)) (off := 0) (by kernel_rfl) (.agg #[.slice Ark (rk).length crk, .slice Arq (rq).length crq]) (by kernel_rfl)) ?_
        refine h_seg 1 (by kernel_rfl) ?_
        refine gH (.load 25 (.tmp 5)) (some 32) (by kernel_rfl) (Y_loadB #[.slice Ark (rk).length crk, .slice Arq (rq).length crq] (fun i v hi => le15 _ _ _ (hc8 i v hi)) (off := 0) (by kernel_rfl) (.agg #[.slice Ark (rk).length crk, .slice Arq (rq).length crq]) (by kernel_rfl)) ?_
        refine h_seg 1 (by kernel_rfl) ?_
        refine h_s no_fs ?_
        refine h_a (by kernel_rfl) (by kernel_rfl) (fun w51 X52 hM53 => ?_)
        refine wpF_callP hM53 (f := 25) (caps := #[]) (h := (by kernel_rfl : opAt _ _ _ _ _ = some (.call (.mk (.value (.func 25)) #[(.tmp 29), (.tmp 30)] #[25, 9]), some 31))) (by kernel_rfl) (by kernel_rfl) (by kernel_rfl) (f25 _ _ hM53.inW Ark crk (rk) (hrk.up hM53.le) Arq crq (rq) (hrq.up hM53.le) (y) (hy)) (fun v54 V55 w56 le57 hM58 hp59 => ?_)
        obtain rfl := hp59
        refine wpF_end _ (by kernel_rfl) (then_n (h_d [] (by kernel_rfl) [] hM58 no_held le57 ?_))
        refine h_a (by kernel_rfl) (by kernel_rfl) (fun w60 X61 hM62 => ?_)
        refine wpF_callP hM62 (f := 26) (caps := #[]) (h := (by kernel_rfl : opAt _ _ _ _ _ = some (.call (.mk (.value (.func 26)) #[(.tmp 32), (.tmp 33)] #[25, 9]), some 34))) (by kernel_rfl) (by kernel_rfl) (by kernel_rfl) (f26 _ _ hM62.inW Ark crk (rk) (hrk.up hM62.le) Arq crq (rq) (hrq.up hM62.le) (y) (hy)) (fun v63 V64 w65 le66 hM67 hp68 => ?_)
        obtain rfl := hp68
        refine wpF_end _ (by kernel_rfl) (then_n (h_d [] (by kernel_rfl) [] hM67 no_held le66 ?_))
        refine gH (.binOp .neq 4 (.tmp 31) (.tmp 34) 4) (some 35) (by kernel_rfl) (Y_neq (.bool (coB (rk) (rq) (y))) (.bool (coB (rk) (rq) (y))) ((coB (rk) (rq) (y)) == (coB (rk) (rq) (y))) (by kernel_rfl) (by kernel_rfl) (by kernel_rfl)) ?_
        refine h_seg 1 (by kernel_rfl) ?_
        refine h_slot 36 (.bool (!((coB (rk) (rq) (y)) == (coB (rk) (rq) (y))))) (.bool false) (by kernel_rfl) (by kernel_rfl) (by rw [(show (!((coB (rk) (rq) (y)) == (coB (rk) (rq) (y)))) = false from by rw [(beq_self_eq_true (coB (rk) (rq) (y)))]; rfl)]) ?_
        refine gH (.load 25 (.tmp 5)) (some 37) (by kernel_rfl) (Y_loadB #[.slice Ark (rk).length crk, .slice Arq (rq).length crq] (fun i v hi => ((le15.trans le57).trans le66) _ _ _ (hc8 i v hi)) (off := 0) (by kernel_rfl) (.agg #[.slice Ark (rk).length crk, .slice Arq (rq).length crq]) (by kernel_rfl)) ?_
        refine h_seg 1 (by kernel_rfl) ?_
        refine gH (.load 25 (.tmp 5)) (some 40) (by kernel_rfl) (Y_loadB #[.slice Ark (rk).length crk, .slice Arq (rq).length crq] (fun i v hi => ((le15.trans le57).trans le66) _ _ _ (hc8 i v hi)) (off := 0) (by kernel_rfl) (.agg #[.slice Ark (rk).length crk, .slice Arq (rq).length crq]) (by kernel_rfl)) ?_
        refine h_seg 1 (by kernel_rfl) ?_
        refine h_a (by kernel_rfl) (by kernel_rfl) (fun w69 X70 hM71 => ?_)
        refine wpF_callP hM71 (f := 27) (caps := #[]) (h := (by kernel_rfl : opAt _ _ _ _ _ = some (.call (.mk (.value (.func 27)) #[(.tmp 37), (.tmp 38)] #[25, 45]), some 39))) (by kernel_rfl) (by kernel_rfl) (by kernel_rfl) (f27 _ _ hM71.inW Ark crk (rk) (hrk.up hM71.le) Arq crq (rq) (hrq.up hM71.le) Ab cb (b) (hb.up hM71.le)) (fun v72 V73 w74 le75 hM76 hp77 => ?_)
        obtain rfl := hp77
        refine wpF_end _ (by kernel_rfl) (then_n (h_d [] (by kernel_rfl) [] hM76 no_held le75 ?_))
        refine h_a (by kernel_rfl) (by kernel_rfl) (fun w78 X79 hM80 => ?_)
        refine wpF_callP hM80 (f := 28) (caps := #[]) (h := (by kernel_rfl : opAt _ _ _ _ _ = some (.call (.mk (.value (.func 28)) #[(.tmp 40), (.tmp 41)] #[25, 45]), some 42))) (by kernel_rfl) (by kernel_rfl) (by kernel_rfl) (f28 _ _ hM80.inW Ark crk (rk) (hrk.up hM80.le) Arq crq (rq) (hrq.up hM80.le) Ab cb (b) (hb.up hM80.le)) (fun v81 V82 w83 le84 hM85 hp86 => ?_)
        obtain rfl := hp86
        refine wpF_end _ (by kernel_rfl) (then_n (h_d [] (by kernel_rfl) [] hM85 no_held le84 ?_))
        refine gH (.binOp .neq 4 (.tmp 39) (.tmp 42) 4) (some 43) (by kernel_rfl) (Y_neq (.bool (hitB (rk) (rq) (b))) (.bool (hitB (rk) (rq) (b))) ((hitB (rk) (rq) (b)) == (hitB (rk) (rq) (b))) (by kernel_rfl) (by kernel_rfl) (by kernel_rfl)) ?_
        refine h_seg 2 (by kernel_rfl) ?_
        refine h_slot 45 (.bool (!((hitB (rk) (rq) (b)) == (hitB (rk) (rq) (b))))) (.bool false) (by kernel_rfl) (by kernel_rfl) (by rw [(show (!((hitB (rk) (rq) (b)) == (hitB (rk) (rq) (b)))) = false from by rw [(beq_self_eq_true (hitB (rk) (rq) (b)))]; rfl)]) ?_
        refine gH (.load 25 (.tmp 5)) (some 46) (by kernel_rfl) (Y_loadB #[.slice Ark (rk).length crk, .slice Arq (rq).length crq] (fun i v hi => ((((le15.trans le57).trans le66).trans le75).trans le84) _ _ _ (hc8 i v hi)) (off := 0) (by kernel_rfl) (.agg #[.slice Ark (rk).length crk, .slice Arq (rq).length crq]) (by kernel_rfl)) ?_
        refine h_seg 1 (by kernel_rfl) ?_
        refine h_a (by kernel_rfl) (by kernel_rfl) (fun w87 X88 hM89 => ?_)
        refine wpF_callP hM89 (f := 29) (caps := #[]) (h := (by kernel_rfl : opAt _ _ _ _ _ = some (.call (.mk (.value (.func 29)) #[(.tmp 46), (.const (.pointer none)), (.tmp 47)] #[25, 53, 3]), some 48))) (by kernel_rfl) (by kernel_rfl) (by kernel_rfl) (f29n _ _ hM89.inW Ark crk (rk) (hrk.up hM89.le) Arq crq (rq) (hrq.up hM89.le) (t) (by assumption)) (fun v90 V91 w92 le93 hM94 hp95 => ?_)
        obtain rfl := hp95
        refine wpF_end _ (by kernel_rfl) (then_n (h_d [] (by kernel_rfl) [] hM94 no_held le93 ?_))
        refine h_seg 1 (by kernel_rfl) ?_
        refine h_n (fun w96 hM97 => ?_)
        refine  (then_n (hK49 _ _ ?_))
        refine wp_cf (by kernel_rfl) ?_
        refine wp_skip (then_n (hK48 _ _ ?_))
        refine wp_seq_k (fun K98 hK98 => ?_)
        refine wp_reg ?_
        refine wpF_seg 1 (by kernel_rfl) ?_
        refine wpF_callP hM97 (f := 30) (caps := #[]) (h := (by kernel_rfl : opAt _ _ _ _ _ = some (.call (.mk (.value (.func 30)) #[(.tmp 51), (.const (.int .i64 1000)), (.const (.int .i64 0))] #[46, 3, 3]), some 52))) (by kernel_rfl) (by kernel_rfl) (by kernel_rfl) (f30 _ _ hM97.inW Al cl (l) (hl.up hM97.le) (1000) (0)) (fun v99 V100 w101 le102 hM103 hp104 => ?_)
        obtain ⟨Ar104_1, cr104_1, rfl, r105⟩ := hp104
        have l106 : ((bif ldB (l) (1000) (0) then (l) else [])).length ≤ 140737488355328 := r105.max
        refine wpF_seg 3 (by kernel_rfl) ?_
        refine wpF_alloc hM103 #[.slice none 0 0, .int .i64 (0), .int .i64 (0)] (h := (by kernel_rfl : opAt _ _ _ _ _ = some (.alloc 50, some 11))) (by kernel_rfl) (fun b107 w108 hM109 => ?_)
        refine wpF_store hM109 0 rfl (h := (by kernel_rfl : opAt _ _ _ _ _ = some (.store 50 (.tmp 11) (.tmp 53), none))) (off := 0) (by kernel_rfl) #[.slice Ar104_1 ((bif ldB (l) (1000) (0) then (l) else [])).length cr104_1, .int .i64 ((bif ldB (l) (1000) (0) then (1000) else 0)), .int .i64 ((bif ldB (l) (1000) (0) then (0) else 0))] (by kernel_rfl) (by kernel_rfl) (by kernel_rfl) (by kernel_rfl) (fun w111 hM110 => ?_)
        have hM112 : Step V w [] V100 _ ([.blk b107 (.cells #[.slice Ar104_1 ((bif ldB (l) (1000) (0) then (l) else [])).length cr104_1, .int .i64 ((bif ldB (l) (1000) (0) then (1000) else 0)), .int .i64 ((bif ldB (l) (1000) (0) then (0) else 0))] 50)]) := hM110
        refine wpF_seg 1 (by kernel_rfl) ?_
        refine wpF_end _ (by kernel_rfl) (then_n (hK98 _ _ ?_))
        refine wp_seq_k (fun K113 hK113 => ?_)
        refine wp_reg ?_
        refine wpF_seg 1 (by kernel_rfl) ?_
        have hM121 : Step V w [] V100 _ ([.blk b107 (.cells #[.slice Ar104_1 ((bif ldB (l) (1000) (0) then (l) else [])).length cr104_1, .int .i64 ((bif ldB (l) (1000) (0) then (1000) else 0)), .int .i64 ((bif ldB (l) (1000) (0) then (0) else 0))] 50)]) := hM112
        refine wpF_callE [] ([.blk b107 (.cells #[.slice Ar104_1 ((bif ldB (l) (1000) (0) then (l) else [])).length cr104_1, .int .i64 ((bif ldB (l) (1000) (0) then (1000) else 0)), .int .i64 ((bif ldB (l) (1000) (0) then (0) else 0))] 50)]) hM121 (f := 31) (caps := #[]) (h := (by kernel_rfl : opAt _ _ _ _ _ = some (.call (.mk (.value (.func 31)) #[(.tmp 56), (.const (.int .i64 1000)), (.const (.int .i64 0))] #[46, 3, 3]), some 57))) (by kernel_rfl) (by kernel_rfl) (by kernel_rfl) (f31y _ _ hM121.inW Al cl (l) (hl.up hM112.le) (1000) (0) (by omega) (by assumption) (by assumption)) (fun v114 V115 w116 Eo117 le118 hM119 hp120 => ?_)
        obtain ⟨br121_1, Ar121_1, cr121_1, mr121_1, rfl, rfl⟩ := hp120
        have hM122 : Step V w [] V115 _ ([spE br121_1 Ar121_1 cr121_1 mr121_1 ((l)) ((1000)) ((0)), .blk b107 (.cells #[.slice Ar104_1 ((bif ldB (l) (1000) (0) then (l) else [])).length cr104_1, .int .i64 ((bif ldB (l) (1000) (0) then (1000) else 0)), .int .i64 ((bif ldB (l) (1000) (0) then (0) else 0))] 50)]) := hM119
        refine wpF_seg 5 (by kernel_rfl) ?_
        refine wpF_end _ (by kernel_rfl) (then_n (hK113 _ _ ?_))
        refine wp_seq_k (fun K123 hK123 => ?_)
        refine wp_seq_k (fun K124 hK124 => ?_)
        refine wp_reg ?_
        refine wpF_seg 2 (by kernel_rfl) ?_
        refine wpF_end _ (by kernel_rfl) (then_n (hK124 _ _ ?_))
        have h125 : (decide (((bif ldB (l) (1000) (0) then 0 else 4 : Int)) = (0))) = true := by rw [hld]; rfl
        have p126 : (((bif ldB (l) (1000) (0) then 0 else 4 : Int)) = (0)) := of_decide_eq_true h125
        refine wp_slot 61 (.bool (!(decide (((bif ldB (l) (1000) (0) then 0 else 4 : Int)) = (0))))) (.bool false) (by kernel_rfl) (by rw [(show (!(decide (((bif ldB (l) (1000) (0) then 0 else 4 : Int)) = (0)))) = false from by rw [h125]; rfl)]) ?_
        refine wp_cf (by kernel_rfl) ?_
        refine wp_skip (then_n (hK123 _ _ ?_))
        refine wp_seq_k (fun K127 hK127 => ?_)
        have hM128 := hM122.openSp 0 rfl
        have hs129 : SpI ((l)) := (hM122.spOk 0 rfl)
        have hM130 : Step V w [] V115 _ ([.blk br121_1 (.cells #[.slice Ar121_1 (keysOf ((l))).length cr121_1, .map (some mr121_1), .int .i64 ((1000)), .int .i64 ((0))] 71), .row strK 9 Ar121_1 cr121_1 (keysOf ((l))), mapE false (slK (prK (intK .i64) (prK strK boolK))) mr121_1 (fun k_ => lk k_ ((l))), .blk b107 (.cells #[.slice Ar104_1 ((bif ldB (l) (1000) (0) then (l) else [])).length cr104_1, .int .i64 ((bif ldB (l) (1000) (0) then (1000) else 0)), .int .i64 ((bif ldB (l) (1000) (0) then (0) else 0))] 50)]) := hM128
        refine wp_base [(4, .int .i64 (t)), (5, .pointer (some ⟨b2, 0, none⟩)), (10, .bool (false)), (11, .pointer (some ⟨b107, 0, none⟩)), (13, .pointer (some ⟨br121_1, 0, none⟩)), (14, .int .i64 (0))] (by kernel_rfl) (fun g131 => ?_)
        refine wp_drawN hM130 [(.blk b107 (.cells #[.slice Ar104_1 ((bif ldB (l) (1000) (0) then (l) else [])).length cr104_1, .int .i64 ((bif ldB (l) (1000) (0) then (1000) else 0)), .int .i64 ((bif ldB (l) (1000) (0) then (0) else 0))] 50), 9999)] (and_held 3 rfl no_held) [] [0, 1, 2, 3, 4, 5, 6, 7, 8, 9, 11, 12, 13] [.a 10, .a 14, .p 15, .p 16, .p 17, .a 18, .p 19, .p 20] [.p 0, .p 1, .p 2, .p 3, .p 4, .p 5, .p 6, .p 7, .p 8, .p 9, .p 11, .p 12, .p 13, .s, .a 10, .a 14, .p 15, .p 16, .p 17, .a 18, .p 19, .p 20] rfl (by kernel_rfl) (by kernel_rfl) ?_
        refine h_seg 4 (by kernel_rfl) ?_
        refine gH (.binOp .neq 53 (.tmp 66) (.const (.pointer none)) 53) (some 67) (by kernel_rfl) (Y_neq (.pointer (some ⟨br121_1, 0, none⟩)) (.pointer none) (false) (by kernel_rfl) (by kernel_rfl) (by kernel_rfl)) ?_
        refine h_seg 2 (by kernel_rfl) ?_
        refine gH (.load 25 (.tmp 5)) (some 70) (by kernel_rfl) (Y_loadB #[.slice Ark (rk).length crk, .slice Arq (rq).length crq] (fun i v hi => (((((((le15.trans le57).trans le66).trans le75).trans le84).trans le93).trans le102).trans le118) _ _ _ (hc8 i v hi)) (off := 0) (by kernel_rfl) (.agg #[.slice Ark (rk).length crk, .slice Arq (rq).length crq]) (by kernel_rfl)) ?_
        refine h_seg 2 (by kernel_rfl) ?_
        refine gH (.load 25 (.tmp 5)) (some 74) (by kernel_rfl) (Y_loadB #[.slice Ark (rk).length crk, .slice Arq (rq).length crq] (fun i v hi => (((((((le15.trans le57).trans le66).trans le75).trans le84).trans le93).trans le102).trans le118) _ _ _ (hc8 i v hi)) (off := 0) (by kernel_rfl) (.agg #[.slice Ark (rk).length crk, .slice Arq (rq).length crq]) (by kernel_rfl)) ?_
        refine gH (.load 50 (.tmp 11)) (some 75) (by kernel_rfl) (Y_load 0 (by kernel_rfl : (FOf _ _ _)[0]? = some (.blk b107 (.cells #[.slice Ar104_1 ((bif ldB (l) (1000) (0) then (l) else [])).length cr104_1, .int .i64 ((bif ldB (l) (1000) (0) then (1000) else 0)), .int .i64 ((bif ldB (l) (1000) (0) then (0) else 0))] 50))) (off := 0) (by kernel_rfl) (.agg #[.slice Ar104_1 ((bif ldB (l) (1000) (0) then (l) else [])).length cr104_1, .int .i64 ((bif ldB (l) (1000) (0) then (1000) else 0)), .int .i64 ((bif ldB (l) (1000) (0) then (0) else 0))]) (by kernel_rfl)) ?_
        refine h_seg 1 (by kernel_rfl) ?_
        refine h_s no_fs ?_
        refine h_a (by kernel_rfl) (by kernel_rfl) (fun w132 X133 hM134 => ?_)
        have hM135 := hM134.front 2 rfl
        have hM136 := hM135.front 2 rfl
        have hM137 := hM136.front 2 rfl
        have hM138 : Step V w [] V115 _ ([.blk br121_1 (.cells #[.slice Ar121_1 (keysOf ((l))).length cr121_1, .map (some mr121_1), .int .i64 ((1000)), .int .i64 ((0))] 71), .row strK 9 Ar121_1 cr121_1 (keysOf ((l))), mapE false (slK (prK (intK .i64) (prK strK boolK))) mr121_1 (fun k_ => lk k_ ((l))), .blk b107 (.cells #[.slice Ar104_1 ((bif ldB (l) (1000) (0) then (l) else [])).length cr104_1, .int .i64 ((bif ldB (l) (1000) (0) then (1000) else 0)), .int .i64 ((bif ldB (l) (1000) (0) then (0) else 0))] 50)] ++ X133) := hM137
        have hk139 : keysOf ((l)) = keysOf ((l)) := rfl
        have hf140 : (fun k_ => lk k_ ((l))) = (fun k_ => lk k_ ((l))) := rfl
        have ho141 : SpI ((l)) := hs129
        have hM142 : Step V w [] V115 _ (spE br121_1 Ar121_1 cr121_1 mr121_1 ((l)) ((1000)) ((0)) :: [.blk b107 (.cells #[.slice Ar104_1 ((bif ldB (l) (1000) (0) then (l) else [])).length cr104_1, .int .i64 ((bif ldB (l) (1000) (0) then (1000) else 0)), .int .i64 ((bif ldB (l) (1000) (0) then (0) else 0))] 50)] ++ X133) := Step.closeSp hk139 hf140 ho141 (by exact hM138)
        have hM143 : Step V w [] V115 _ ([spE br121_1 Ar121_1 cr121_1 mr121_1 ((l)) ((1000)) ((0)), .blk b107 (.cells #[.slice Ar104_1 ((bif ldB (l) (1000) (0) then (l) else [])).length cr104_1, .int .i64 ((bif ldB (l) (1000) (0) then (1000) else 0)), .int .i64 ((bif ldB (l) (1000) (0) then (0) else 0))] 50)] ++ X133) := hM142
        have hM144 := hM143.front 0 rfl
        have hM152 : Step V w [] V115 _ ([spE br121_1 Ar121_1 cr121_1 mr121_1 ((l)) ((1000)) ((0)), .blk b107 (.cells #[.slice Ar104_1 ((bif ldB (l) (1000) (0) then (l) else [])).length cr104_1, .int .i64 ((bif ldB (l) (1000) (0) then (1000) else 0)), .int .i64 ((bif ldB (l) (1000) (0) then (0) else 0))] 50)] ++ X133) := hM144
        refine wpF_callE [spE br121_1 Ar121_1 cr121_1 mr121_1 ((l)) ((1000)) ((0))] ([.blk b107 (.cells #[.slice Ar104_1 ((bif ldB (l) (1000) (0) then (l) else [])).length cr104_1, .int .i64 ((bif ldB (l) (1000) (0) then (1000) else 0)), .int .i64 ((bif ldB (l) (1000) (0) then (0) else 0))] 50)] ++ X133) hM152 (f := 29) (caps := #[]) (h := (by kernel_rfl : opAt _ _ _ _ _ = some (.call (.mk (.value (.func 29)) #[(.tmp 70), (.tmp 71), (.tmp 72)] #[25, 53, 3]), some 73))) (by kernel_rfl) (by kernel_rfl) (by kernel_rfl) (f29 _ _ Ark crk (rk) (hrk.up hM134.le) Arq crq (rq) (hrq.up hM134.le) br121_1 Ar121_1 cr121_1 mr121_1 ((l)) ((1000)) ((0)) (t) (St.part (E := [spE br121_1 Ar121_1 cr121_1 mr121_1 ((l)) ((1000)) ((0))]) (F := ([.blk b107 (.cells #[.slice Ar104_1 ((bif ldB (l) (1000) (0) then (l) else [])).length cr104_1, .int .i64 ((bif ldB (l) (1000) (0) then (1000) else 0)), .int .i64 ((bif ldB (l) (1000) (0) then (0) else 0))] 50)] ++ X133)) hM152.ok) (by omega) (by assumption)) (fun v145 V146 w147 Eo148 le149 hM150 hp151 => ?_)
        obtain ⟨rfl, rfl⟩ := hp151
        have hM153 : Step V w [] V146 _ ([spE br121_1 Ar121_1 cr121_1 mr121_1 (((l))) (((1000))) (((0))), .blk b107 (.cells #[.slice Ar104_1 ((bif ldB (l) (1000) (0) then (l) else [])).length cr104_1, .int .i64 ((bif ldB (l) (1000) (0) then (1000) else 0)), .int .i64 ((bif ldB (l) (1000) (0) then (0) else 0))] 50)] ++ X133) := hM150
        refine wpF_end _ (by kernel_rfl) (then_n (h_d [(.blk b107 (.cells #[.slice Ar104_1 ((bif ldB (l) (1000) (0) then (l) else [])).length cr104_1, .int .i64 ((bif ldB (l) (1000) (0) then (1000) else 0)), .int .i64 ((bif ldB (l) (1000) (0) then (0) else 0))] 50), 9999)] (by kernel_rfl) [spE br121_1 Ar121_1 cr121_1 mr121_1 (((l))) (((1000))) (((0))), .blk b107 (.cells #[.slice Ar104_1 ((bif ldB (l) (1000) (0) then (l) else [])).length cr104_1, .int .i64 ((bif ldB (l) (1000) (0) then (1000) else 0)), .int .i64 ((bif ldB (l) (1000) (0) then (0) else 0))] 50)] hM153 (and_held 1 rfl no_held) le149 ?_))
        refine h_a (by kernel_rfl) (by kernel_rfl) (fun w154 X155 hM156 => ?_)
        refine wpF_callP hM156 (f := 32) (caps := #[]) (h := (by kernel_rfl : opAt _ _ _ _ _ = some (.call (.mk (.value (.func 32)) #[(.tmp 74), (.tmp 75), (.tmp 76)] #[25, 50, 3]), some 77))) (by kernel_rfl) (by kernel_rfl) (by kernel_rfl) (f32 _ _ hM156.inW Ark crk (rk) (hrk.up hM156.le) Arq crq (rq) (hrq.up hM156.le) Ar104_1 cr104_1 ((bif ldB (l) (1000) (0) then (l) else [])) (r105.up (le118.trans le149)) ((bif ldB (l) (1000) (0) then (1000) else 0)) ((bif ldB (l) (1000) (0) then (0) else 0)) (t) (by rw [hld]; exact fun i hi => Nat.le_trans ((ldB_iff.1 hld).2.2 _ (getD_mem hi)).1 (by omega))) (fun v157 V158 w159 le160 hM161 hp162 => ?_)
        obtain rfl := hp162
        refine wpF_end _ (by kernel_rfl) (then_n (h_d [(.blk b107 (.cells #[.slice Ar104_1 ((bif ldB (l) (1000) (0) then (l) else [])).length cr104_1, .int .i64 ((bif ldB (l) (1000) (0) then (1000) else 0)), .int .i64 ((bif ldB (l) (1000) (0) then (0) else 0))] 50), 9999)] (by kernel_rfl) [spE br121_1 Ar121_1 cr121_1 mr121_1 (((l))) (((1000))) (((0))), .blk b107 (.cells #[.slice Ar104_1 ((bif ldB (l) (1000) (0) then (l) else [])).length cr104_1, .int .i64 ((bif ldB (l) (1000) (0) then (1000) else 0)), .int .i64 ((bif ldB (l) (1000) (0) then (0) else 0))] 50)] hM161 (and_held 1 rfl no_held) le160 ?_))
        refine gH (.binOp .eql 4 (.tmp 73) (.tmp 77) 4) (some 78) (by kernel_rfl) (Y_eql (.bool (stlB (rk) (rq) ((l)) (t))) (.bool (rstB (rk) (rq) ((bif ldB (l) (1000) (0) then (l) else [])) (t))) ((stlB (rk) (rq) ((l)) (t)) == (rstB (rk) (rq) ((bif ldB (l) (1000) (0) then (l) else [])) (t))) (by kernel_rfl) (by kernel_rfl) (by kernel_rfl)) ?_
        refine h_seg 2 (by kernel_rfl) ?_
        have h163 : ((stlB (rk) (rq) ((l)) (t)) == (rstB (rk) (rq) ((bif ldB (l) (1000) (0) then (l) else [])) (t))) = true := by exact beq_iff_eq.2 (by rw [hld]; exact stale_eq hld)
        have p164 : ((stlB (rk) (rq) ((l)) (t)) = (rstB (rk) (rq) ((bif ldB (l) (1000) (0) then (l) else [])) (t))) := by simpa using h163
        refine h_slot 80 (.bool ((stlB (rk) (rq) ((l)) (t)) == (rstB (rk) (rq) ((bif ldB (l) (1000) (0) then (l) else [])) (t)))) (.bool true) (by kernel_rfl) (by kernel_rfl) (by rw [h163]) ?_
        refine h_a (by kernel_rfl) (by kernel_rfl) (fun w165 X166 hM167 => ?_)
        refine wpF_callP hM167 (f := 16) (caps := #[]) (h := (by kernel_rfl : opAt _ _ _ _ _ = some (.call (.mk (.value (.func 16)) #[] #[]), some 81))) (by kernel_rfl) (by kernel_rfl) (by kernel_rfl) (f16 _ _ hM167.inW ) (fun v168 V169 w170 le171 hM172 hp173 => ?_)
        obtain rfl := hp173
        refine wpF_end _ (by kernel_rfl) (then_n (h_d [(.blk b107 (.cells #[.slice Ar104_1 ((bif ldB (l) (1000) (0) then (l) else [])).length cr104_1, .int .i64 ((bif ldB (l) (1000) (0) then (1000) else 0)), .int .i64 ((bif ldB (l) (1000) (0) then (0) else 0))] 50), 9999)] (by kernel_rfl) [spE br121_1 Ar121_1 cr121_1 mr121_1 (((l))) (((1000))) (((0))), .blk b107 (.cells #[.slice Ar104_1 ((bif ldB (l) (1000) (0) then (l) else [])).length cr104_1, .int .i64 ((bif ldB (l) (1000) (0) then (1000) else 0)), .int .i64 ((bif ldB (l) (1000) (0) then (0) else 0))] 50)] hM172 (and_held 1 rfl no_held) le171 ?_))
        refine h_seg 2 (by kernel_rfl) ?_
        refine h_n (fun w174 hM175 => ?_)
        refine  (then_n (hK127 _ _ ?_))
        refine wp_ret ?_
        refine retN [.bool (true)] (.bool (true)) Try.results6 (.tmp (by kernel_rfl) (by kernel_rfl) .nil) (by kernel_rfl) (hRet _ _ ⟨_, _, rfl, hM175.clear, ?_⟩)
        -- end fff
        rfl

set_option maxHeartbeats 4000000 in
set_option maxRecDepth 100000 in
theorem f6x (V : VT) (w : World) (hV : V.inW w) (Ark : Option Addr) (crk : Nat) (rk : List Str) (hrk : Rd strK V Ark crk rk) (Arq : Option Addr) (crq : Nat) (rq : List ((Str × Str))) (hrq : Rd (prK strK strK) V Arq crq rq) (y : Str) (hy : y.length ≤ maxL) (Ab : Option Addr) (cb : Nat) (b : List ((Str × Str × Bool))) (hb : Rd (prK strK (prK strK boolK)) V Ab cb b) (Al : Option Addr) (cl : Nat) (l : List ((Str × (List ((Int × Str × Bool)))))) (hl : Rd (prK strK (slK (prK (intK .i64) (prK strK boolK)))) V Al cl l) (t : Int) (hky : ∀ y, y ∈ rk → y.length ≤ 140737488351232) (hv : ∀ i, i < l.length → (l.getD i ([], [])).2.length ≤ 4398046511104) (hld : ldB l 1000 0 = false) :
    Calls Try.prog 6 #[.agg #[.slice Ark (rk).length crk, .slice Arq (rq).length crq], bs (y), .slice Ab (b).length cb, .slice Al (l).length cl, .int .i64 (t)] w (RetP V w fun rv V' => rv = .bool (true)) := by
  have mxrk : rk.length ≤ 140737488355328 := hrk.max
  have mxrq : rq.length ≤ 140737488355328 := hrq.max
  have mxy : y.length ≤ 140737488355328 := hy
  have mxb : b.length ≤ 140737488355328 := hb.max
  have mxl : l.length ≤ 140737488355328 := hl.max
  refine calls_env (n := 83) Try.func6 (c := _) rfl Try.ntmps6 (by kernel_rfl) (fun R hRet => ?_)
  have hM0 : Step V w [] V w [] := Step.refl (St.nilE hV)
  refine wp_seq_k (fun K1 hK1 => ?_)
  refine wp_reg ?_
  refine wpF_box hM0 #[.slice Ark (rk).length crk, .slice Arq (rq).length crq] (h := (by kernel_rfl : opAt _ _ _ _ _ = some (.box 25 (.tmp 0), some 5))) (by kernel_rfl) (fun b2 w3 hM4 => ?_)
  obtain ⟨V5, le6, hM7, hc8⟩ := hM4.settle 0 rfl
  have hM9 : Step V w [] V5 _ ([]) := hM7
  refine wpF_seg 1 (by kernel_rfl) ?_
  refine wpF_end _ (by kernel_rfl) (then_n (hK1 _ _ ?_))
  refine wp_seq_k (fun K10 hK10 => ?_)
  refine wp_seq_k (fun K11 hK11 => ?_)
  refine wp_reg ?_
  refine gF hM9 (.load 25 (.tmp 5)) (some 15) (by kernel_rfl) (Y_loadB #[.slice Ark (rk).length crk, .slice Arq (rq).length crq] hc8 (off := 0) (by kernel_rfl) (.agg #[.slice Ark (rk).length crk, .slice Arq (rq).length crq]) (by kernel_rfl)) ?_
  refine wpF_callP hM9 (f := 15) (caps := #[]) (h := (by kernel_rfl : opAt _ _ _ _ _ = some (.call (.mk (.value (.func 15)) #[(.tmp 15)] #[25]), some 16))) (by kernel_rfl) (by kernel_rfl) (by kernel_rfl) (f15 _ _ hM9.inW Ark crk (rk) (hrk.up hM9.le) Arq crq (rq) (hrq.up hM9.le)) (fun v12 V13 w14 le15 hM16 hp17 => ?_)
  obtain rfl := hp17
  refine wpF_seg 2 (by kernel_rfl) ?_
  refine wpF_caseB 18 (!(fewR (rk) (rq))) (by kernel_rfl) (by kernel_rfl) (fun h18 => ?_) (fun h18 => ?_)
  · -- t
    have h19 : (fewR (rk) (rq)) = false := by simpa using h18
    refine wpF_seg 9 (by kernel_rfl) ?_
    refine wpF_end _ (by kernel_rfl) (then_n (hK11 _ _ ?_))
    refine wp_ct (by kernel_rfl) ?_
    refine wp_seq_k (fun K20 hK20 => ?_)
    refine wp_reg ?_
    refine wpF_callP hM16 (f := 16) (caps := #[]) (h := (by kernel_rfl : opAt _ _ _ _ _ = some (.call (.mk (.value (.func 16)) #[] #[]), some 28))) (by kernel_rfl) (by kernel_rfl) (by kernel_rfl) (f16 _ _ hM16.inW ) (fun v21 V22 w23 le24 hM25 hp26 => ?_)
    obtain rfl := hp26
    refine wpF_seg 1 (by kernel_rfl) ?_
    refine wpF_end _ (by kernel_rfl) (then_n (hK20 _ _ ?_))
    refine wp_ret (then_r (?_))
    refine retN [.bool (true)] (.bool (true)) Try.results6 (.tmp (by kernel_rfl) (by kernel_rfl) .nil) (by kernel_rfl) (hRet _ _ ⟨_, _, rfl, hM25.clear, ?_⟩)
    -- end t
    rfl
  · -- f
    have h27 : (fewR (rk) (rq)) = true := by simpa using h18
    refine wpF_seg 5 (by kernel_rfl) ?_
    refine wpF_caseB 23 (decide ((100) < ((b.length : Int)))) (by kernel_rfl) (by kernel_rfl) (fun h28 => ?_) (fun h28 => ?_)
    · -- ft
      have p29 : ((100) < ((b.length : Int))) := of_decide_eq_true h28
      refine wpF_seg 4 (by kernel_rfl) ?_
      refine wpF_end _ (by kernel_rfl) (then_n (hK11 _ _ ?_))
      refine wp_ct (by kernel_rfl) ?_
      refine wp_seq_k (fun K30 hK30 => ?_)
      refine wp_reg ?_
      refine wpF_callP hM16 (f := 16) (caps := #[]) (h := (by kernel_rfl : opAt _ _ _ _ _ = some (.call (.mk (.value (.func 16)) #[] #[]), some 28))) (by kernel_rfl) (by kernel_rfl) (by kernel_rfl) (f16 _ _ hM16.inW ) (fun v31 V32 w33 le34 hM35 hp36 => ?_)
      obtain rfl := hp36
      refine wpF_seg 1 (by kernel_rfl) ?_
      refine wpF_end _ (by kernel_rfl) (then_n (hK30 _ _ ?_))
      refine wp_ret (then_r (?_))
      refine retN [.bool (true)] (.bool (true)) Try.results6 (.tmp (by kernel_rfl) (by kernel_rfl) .nil) (by kernel_rfl) (hRet _ _ ⟨_, _, rfl, hM35.clear, ?_⟩)
      -- end ft
      rfl
    · -- ff
      have p37 : ¬ ((100) < ((b.length : Int))) := of_decide_eq_false h28
      refine wpF_seg 4 (by kernel_rfl) ?_
      refine wpF_end _ (by kernel_rfl) (then_n (hK11 _ _ ?_))
      refine wp_if (decide ((100) < ((l.length : Int)))) (by kernel_rfl) (fun h38 => ?_) (fun h38 => ?_)
      · -- fft
        have p39 : ((100) < ((l.length : Int))) := of_decide_eq_true h38
        refine wp_seq_k (fun K40 hK40 => ?_)
        refine wp_reg ?_
        refine wpF_callP hM16 (f := 16) (caps := #[]) (h := (by kernel_rfl : opAt _ _ _ _ _ = some (.call (.mk (.value (.func 16)) #[] #[]), some 28))) (by kernel_rfl) (by kernel_rfl) (by kernel_rfl) (f16 _ _ hM16.inW ) (fun v41 V42 w43 le44 hM45 hp46 => ?_)
        obtain rfl := hp46
        refine wpF_seg 1 (by kernel_rfl) ?_
        refine wpF_end _ (by kernel_rfl) (then_n (hK40 _ _ ?_))
        refine wp_ret (then_r (?_))
        refine retN [.bool (true)] (.bool (true)) Try.results6 (.tmp (by kernel_rfl) (by kernel_rfl) .nil) (by kernel_rfl) (hRet _ _ ⟨_, _, rfl, hM45.clear, ?_⟩)
        -- end fft
        rfl
      · -- fff
        have p47 : ¬ ((100) < ((l.length : Int))) := of_decide_eq_false h38
        refine wp_skip (then_n (hK10 _ _ ?_))
        refine wp_seq_k (fun K48 hK48 => ?_)
        refine wp_seq_k (fun K49 hK49 => ?_)
        refine wp_base [(1, bs (y)), (2, .slice Ab (b).length cb), (3, .slice Al (l).length cl), (4, .int .i64 (t)), (5, .pointer (some ⟨b2, 0, none⟩)), (10, .bool (false))] (by kernel_rfl) (fun g50 => ?_)
        refine wp_drawN hM16 [] no_held [] [0, 1, 3, 4] [.a 2, .a 5, .p 6, .p 7, .p 8, .p 9, .p 11, .p 12, .a 10, .a 13, .p 14, .p 15, .p 16, .p 17, .p 18, .a 19, .p 20] [.p 0, .p 1, .p 3, .p 4, .s, .a 2, .a 5, .p 6, .p 7, .p 8, .p 9, .p 11, .p 12, .a 10, .a 13, .p 14, .p 15, .p 16, .p 17, .p 18, .a 19, .p 20] rfl (by kernel_rfl) (by kernel_rfl) ?_
        refine gH (.load 25 (.tmp 5)) (some 29) (by kernel_rfl) (Y_loadB #[.slice Ark (rk).length crk, .slice Arq (rq).length crq] (fun i v hi => le15 _ _ _ (hc8 i v hi)) (off := 0) (by kernel_rfl) (.agg #[.slice Ark (rk).length crk, .slice Arq (rq).length crq]) (by kernel_rfl)) ?_
        refine h_seg 1 (by kernel_rfl) ?_
        refine gH (.load 25 (.tmp 5)) (some 32) (by kernel_rfl) (Y_loadB #[.slice Ark (rk).length crk, .slice Arq (rq).length crq] (fun i v hi => le15 _ _ _ (hc8 i v hi)) (off := 0) (by kernel_rfl) (.agg #[.slice Ark (rk).length crk, .slice Arq (rq).length crq]) (by kernel_rfl)) ?_
        refine h_seg 1 (by kernel_rfl) ?_
        refine h_s no_fs ?_
        refine h_a (by kernel_rfl) (by kernel_rfl) (fun w51 X52 hM53 => ?_)
        refine wpF_callP hM53 (f := 25) (caps := #[]) (h := (by kernel_rfl : opAt _ _ _ _ _ = some (.call (.mk (.value (.func 25)) #[(.tmp 29), (.tmp 30)] #[25, 9]), some 31))) (by kernel_rfl) (by kernel_rfl) (by kernel_rfl) (f25 _ _ hM53.inW Ark crk (rk) (hrk.up hM53.le) Arq crq (rq) (hrq.up hM53.le) (y) (hy)) (fun v54 V55 w56 le57 hM58 hp59 => ?_)
        obtain rfl := hp59
        refine wpF_end _ (by kernel_rfl) (then_n (h_d [] (by kernel_rfl) [] hM58 no_held le57 ?_))
        refine h_a (by kernel_rfl) (by kernel_rfl) (fun w60 X61 hM62 => ?_)
        refine wpF_callP hM62 (f := 26) (caps := #[]) (h := (by kernel_rfl : opAt _ _ _ _ _ = some (.call (.mk (.value (.func 26)) #[(.tmp 32), (.tmp 33)] #[25, 9]), some 34))) (by kernel_rfl) (by kernel_rfl) (by kernel_rfl) (f26 _ _ hM62.inW Ark crk (rk) (hrk.up hM62.le) Arq crq (rq) (hrq.up hM62.le) (y) (hy)) (fun v63 V64 w65 le66 hM67 hp68 => ?_)
        obtain rfl := hp68
        refine wpF_end _ (by kernel_rfl) (then_n (h_d [] (by kernel_rfl) [] hM67 no_held le66 ?_))
        refine gH (.binOp .neq 4 (.tmp 31) (.tmp 34) 4) (some 35) (by kernel_rfl) (Y_neq (.bool (coB (rk) (rq) (y))) (.bool (coB (rk) (rq) (y))) ((coB (rk) (rq) (y)) == (coB (rk) (rq) (y))) (by kernel_rfl) (by kernel_rfl) (by kernel_rfl)) ?_
        refine h_seg 1 (by kernel_rfl) ?_
        refine h_slot 36 (.bool (!((coB (rk) (rq) (y)) == (coB (rk) (rq) (y))))) (.bool false) (by kernel_rfl) (by kernel_rfl) (by rw [(show (!((coB (rk) (rq) (y)) == (coB (rk) (rq) (y)))) = false from by rw [(beq_self_eq_true (coB (rk) (rq) (y)))]; rfl)]) ?_
        refine gH (.load 25 (.tmp 5)) (some 37) (by kernel_rfl) (Y_loadB #[.slice Ark (rk).length crk, .slice Arq (rq).length crq] (fun i v hi => ((le15.trans le57).trans le66) _ _ _ (hc8 i v hi)) (off := 0) (by kernel_rfl) (.agg #[.slice Ark (rk).length crk, .slice Arq (rq).length crq]) (by kernel_rfl)) ?_
        refine h_seg 1 (by kernel_rfl) ?_
        refine gH (.load 25 (.tmp 5)) (some 40) (by kernel_rfl) (Y_loadB #[.slice Ark (rk).length crk, .slice Arq (rq).length crq] (fun i v hi => ((le15.trans le57).trans le66) _ _ _ (hc8 i v hi)) (off := 0) (by kernel_rfl) (.agg #[.slice Ark (rk).length crk, .slice Arq (rq).length crq]) (by kernel_rfl)) ?_
        refine h_seg 1 (by kernel_rfl) ?_
        refine h_a (by kernel_rfl) (by kernel_rfl) (fun w69 X70 hM71 => ?_)
        refine wpF_callP hM71 (f := 27) (caps := #[]) (h := (by kernel_rfl : opAt _ _ _ _ _ = some (.call (.mk (.value (.func 27)) #[(.tmp 37), (.tmp 38)] #[25, 45]), some 39))) (by kernel_rfl) (by kernel_rfl) (by kernel_rfl) (f27 _ _ hM71.inW Ark crk (rk) (hrk.up hM71.le) Arq crq (rq) (hrq.up hM71.le) Ab cb (b) (hb.up hM71.le)) (fun v72 V73 w74 le75 hM76 hp77 => ?_)
        obtain rfl := hp77
        refine wpF_end _ (by kernel_rfl) (then_n (h_d [] (by kernel_rfl) [] hM76 no_held le75 ?_))
        refine h_a (by kernel_rfl) (by kernel_rfl) (fun w78 X79 hM80 => ?_)
        refine wpF_callP hM80 (f := 28) (caps := #[]) (h := (by kernel_rfl : opAt _ _ _ _ _ = some (.call (.mk (.value (.func 28)) #[(.tmp 40), (.tmp 41)] #[25, 45]), some 42))) (by kernel_rfl) (by kernel_rfl) (by kernel_rfl) (f28 _ _ hM80.inW Ark crk (rk) (hrk.up hM80.le) Arq crq (rq) (hrq.up hM80.le) Ab cb (b) (hb.up hM80.le)) (fun v81 V82 w83 le84 hM85 hp86 => ?_)
        obtain rfl := hp86
        refine wpF_end _ (by kernel_rfl) (then_n (h_d [] (by kernel_rfl) [] hM85 no_held le84 ?_))
        refine gH (.binOp .neq 4 (.tmp 39) (.tmp 42) 4) (some 43) (by kernel_rfl) (Y_neq (.bool (hitB (rk) (rq) (b))) (.bool (hitB (rk) (rq) (b))) ((hitB (rk) (rq) (b)) == (hitB (rk) (rq) (b))) (by kernel_rfl) (by kernel_rfl) (by kernel_rfl)) ?_
        refine h_seg 2 (by kernel_rfl) ?_
        refine h_slot 45 (.bool (!((hitB (rk) (rq) (b)) == (hitB (rk) (rq) (b))))) (.bool false) (by kernel_rfl) (by kernel_rfl) (by rw [(show (!((hitB (rk) (rq) (b)) == (hitB (rk) (rq) (b)))) = false from by rw [(beq_self_eq_true (hitB (rk) (rq) (b)))]; rfl)]) ?_
        refine gH (.load 25 (.tmp 5)) (some 46) (by kernel_rfl) (Y_loadB #[.slice Ark (rk).length crk, .slice Arq (rq).length crq] (fun i v hi => ((((le15.trans le57).trans le66).trans le75).trans le84) _ _ _ (hc8 i v hi)) (off := 0) (by kernel_rfl) (.agg #[.slice Ark (rk).length crk, .slice Arq (rq).length crq]) (by kernel_rfl)) ?_
        refine h_seg 1 (by kernel_rfl) ?_
        refine h_a (by kernel_rfl) (by kernel_rfl) (fun w87 X88 hM89 => ?_)
        refine wpF_callP hM89 (f := 29) (caps := #[]) (h := (by kernel_rfl : opAt _ _ _ _ _ = some (.call (.mk (.value (.func 29)) #[(.tmp 46), (.const (.pointer none)), (.tmp 47)] #[25, 53, 3]), some 48))) (by kernel_rfl) (by kernel_rfl) (by kernel_rfl) (f29n _ _ hM89.inW Ark crk (rk) (hrk.up hM89.le) Arq crq (rq) (hrq.up hM89.le) (t) (by assumption)) (fun v90 V91 w92 le93 hM94 hp95 => ?_)
        obtain rfl := hp95
        refine wpF_end _ (by kernel_rfl) (then_n (h_d [] (by kernel_rfl) [] hM94 no_held le93 ?_))
        refine h_seg 1 (by kernel_rfl) ?_
        refine h_n (fun w96 hM97 => ?_)
        refine  (then_n (hK49 _ _ ?_))
        refine wp_cf (by kernel_rfl) ?_
        refine wp_skip (then_n (hK48 _ _ ?_))
        refine wp_seq_k (fun K98 hK98 => ?_)
        refine wp_reg ?_
        refine wpF_seg 1 (by kernel_rfl) ?_
        refine wpF_callP hM97 (f := 30) (caps := #[]) (h := (by kernel_rfl : opAt _ _ _ _ _ = some (.call (.mk (.value (.func 30)) #[(.tmp 51), (.const (.int .i64 1000)), (.const (.int .i64 0))] #[46, 3, 3]), some 52))) (by kernel_rfl) (by kernel_rfl) (by kernel_rfl) (f30 _ _ hM97.inW Al cl (l) (hl.up hM97.le) (1000) (0)) (fun v99 V100 w101 le102 hM103 hp104 => ?_)
        obtain ⟨Ar104_1, cr104_1, rfl, r105⟩ := hp104
        have l106 : ((bif ldB (l) (1000) (0) then (l) else [])).length ≤ 140737488355328 := r105.max
        refine wpF_seg 3 (by kernel_rfl) ?_
        refine wpF_alloc hM103 #[.slice none 0 0, .int .i64 (0), .int .i64 (0)] (h := (by kernel_rfl : opAt _ _ _ _ _ = some (.alloc 50, some 11))) (by kernel_rfl) (fun b107 w108 hM109 => ?_)
        refine wpF_store hM109 0 rfl (h := (by kernel_rfl : opAt _ _ _ _ _ = some (.store 50 (.tmp 11) (.tmp 53), none))) (off := 0) (by kernel_rfl) #[.slice Ar104_1 ((bif ldB (l) (1000) (0) then (l) else [])).length cr104_1, .int .i64 ((bif ldB (l) (1000) (0) then (1000) else 0)), .int .i64 ((bif ldB (l) (1000) (0) then (0) else 0))] (by kernel_rfl) (by kernel_rfl) (by kernel_rfl) (by kernel_rfl) (fun w111 hM110 => ?_)
        have hM112 : Step V w [] V100 _ ([.blk b107 (.cells #[.slice Ar104_1 ((bif ldB (l) (1000) (0) then (l) else [])).length cr104_1, .int .i64 ((bif ldB (l) (1000) (0) then (1000) else 0)), .int .i64 ((bif ldB (l) (1000) (0) then (0) else 0))] 50)]) := hM110
        refine wpF_seg 1 (by kernel_rfl) ?_
        refine wpF_end _ (by kernel_rfl) (then_n (hK98 _ _ ?_))
        refine wp_seq_k (fun K113 hK113 => ?_)
        refine wp_reg ?_
        refine wpF_seg 1 (by kernel_rfl) ?_
        refine wpF_callP hM112 (f := 31) (caps := #[]) (h := (by kernel_rfl : opAt _ _ _ _ _ = some (.call (.mk (.value (.func 31)) #[(.tmp 56), (.const (.int .i64 1000)), (.const (.int .i64 0))] #[46, 3, 3]), some 57))) (by kernel_rfl) (by kernel_rfl) (by kernel_rfl) (f31x _ _ hM112.inW Al cl (l) (hl.up hM112.le) (1000) (0) (by omega) (by assumption) (by assumption)) (fun v114 V115 w116 le117 hM118 hp119 => ?_)
        obtain rfl := hp119
        refine wpF_seg 5 (by kernel_rfl) ?_
        refine wpF_end _ (by kernel_rfl) (then_n (hK113 _ _ ?_))
        refine wp_seq_k (fun K120 hK120 => ?_)
        refine wp_seq_k (fun K121 hK121 => ?_)
        refine wp_reg ?_
        refine wpF_seg 2 (by kernel_rfl) ?_
        refine wpF_end _ (by kernel_rfl) (then_n (hK121 _ _ ?_))
        have h122 : (decide (((bif ldB (l) (1000) (0) then 0 else 4 : Int)) = (0))) = false := by rw [hld]; rfl
        have p123 : ¬ (((bif ldB (l) (1000) (0) then 0 else 4 : Int)) = (0)) := of_decide_eq_false h122
        refine wp_slot 61 (.bool (!(decide (((bif ldB (l) (1000) (0) then 0 else 4 : Int)) = (0))))) (.bool true) (by kernel_rfl) (by rw [(show (!(decide (((bif ldB (l) (1000) (0) then 0 else 4 : Int)) = (0)))) = true from by rw [h122]; rfl)]) ?_
        refine wp_ct (by kernel_rfl) ?_
        refine wp_seq_k (fun K124 hK124 => ?_)
        refine wp_reg ?_
        refine wpF_callP hM118 (f := 16) (caps := #[]) (h := (by kernel_rfl : opAt _ _ _ _ _ = some (.call (.mk (.value (.func 16)) #[] #[]), some 62))) (by kernel_rfl) (by kernel_rfl) (by kernel_rfl) (f16 _ _ hM118.inW ) (fun v125 V126 w127 le128 hM129 hp130 => ?_)
        obtain rfl := hp130
        refine wpF_seg 1 (by kernel_rfl) ?_
        refine wpF_end _ (by kernel_rfl) (then_n (hK124 _ _ ?_))
        refine wp_ret (then_r (?_))
        refine retN [.bool (true)] (.bool (true)) Try.results6 (.tmp (by kernel_rfl) (by kernel_rfl) .nil) (by kernel_rfl) (hRet _ _ ⟨_, _, rfl, hM129.clear, ?_⟩)
        -- end fff
        rfl

theorem f6 (V : VT) (w : World) (hV : V.inW w) (Ark : Option Addr) (crk : Nat) (rk : List Str) (hrk : Rd strK V Ark crk rk) (Arq : Option Addr) (crq : Nat) (rq : List (Str × Str)) (hrq : Rd (prK strK strK) V Arq crq rq) (y : Str) (hy : y.length ≤ maxL) (Ab : Option Addr) (cb : Nat) (b : List Chg) (hb : Rd (prK strK (prK strK boolK)) V Ab cb b) (Al : Option Addr) (cl : Nat) (l : List Item) (hl : Rd (prK strK (slK (prK (intK .i64) (prK strK boolK)))) V Al cl l) (t : Int) (hky : ∀ y, y ∈ rk → y.length ≤ 140737488351232) (hv : ∀ i, i < l.length → (l.getD i ([], [])).2.length ≤ 4398046511104) :
    Calls Try.prog 6 #[.agg #[.slice Ark (rk).length crk, .slice Arq (rq).length crq], bs (y), .slice Ab (b).length cb, .slice Al (l).length cl, .int .i64 (t)] w (RetP V w fun rv V' => rv = .bool (true)) := by
  cases h : ldB l 1000 0 with
  | true => exact f6y V w hV Ark crk rk hrk Arq crq rq hrq y hy Ab cb b hb Al cl l hl t hky hv h
  | false => exact f6x V w hV Ark crk rk hrk Arq crq rq hrq y hy Ab cb b hb Al cl l hl t hky hv h

end Go.Vk
