import Derived.Test.YtnibbocbefnnnaaRC
import Derived.Test.YtnibbocbefnnnaaRD
import Derived.Test.YtnibbocbefnnnaaRIt
import Derived.Test.YtnibbocbefnnnaaRJ
import Derived.Test.YtnibbocbefnnnaaRK
import Derived.Test.YtnibbocbefnnnaaRMathRd
import Derived.Test.YtnibbocbefnnnaaRMathSp
import Derived.Test.YtnibbocbefnnnaaRMathSq
import Derived.Test.YtnibbocbefnnnaaRMathSr
import Derived.Test.YtnibbocbefnnnaaRMathSs
import Derived.Test.YtnibbocbefnnnaaRPlainSp
import Derived.Test.YtnibbocbefnnnaaRSh
import Derived.Test.YtnibbocbefnnnaaRSj
import Derived.Test.YtnibbocbefnnnaaRSp
import Derived.Test.YtnibbocbefnnnaaRSq
import Derived.Test.YtnibbocbefnnnaaRUd
set_option linter.unusedVariables false
set_option linter.unusedSimpArgs false
namespace Go.Vk
open Go.Proofs
variable {D : List Deferred}
set_option maxHeartbeats 4000000 in
set_option maxRecDepth 100000 in
theorem f13y (V : VT) (w : World) (hV : V.inW w) (Ark : Option Addr) (crk : Nat) (rk : List Str) (hrk : Rd strK V Ark crk rk) (Arq : Option Addr) (crq : Nat) (rq : List ((Str × Str))) (hrq : Rd (prK strK strK) V Arq crq rq) (Al : Option Addr) (cl : Nat) (l : List ((Str × (List ((Int × Str × Bool)))))) (hl : Rd (prK strK (slK (prK (intK .i64) (prK strK boolK)))) V Al cl l) (t : Int) (x : Int) (Ab : Option Addr) (cb : Nat) (b : List ((Str × Str × Bool))) (hb : Rd (prK strK (prK strK boolK)) V Ab cb b) (hky : ∀ y, y ∈ rk → y.length ≤ 140737488351232) (hv : ∀ i, i < l.length → (l.getD i ([], [])).2.length ≤ 4398046510976) (hld : ldB l t 0 = true) :
    Calls Try.prog 13 #[.agg #[.slice Ark (rk).length crk, .slice Arq (rq).length crq], .slice Al (l).length cl, .int .i64 (t), .int .i64 (x), .slice Ab (b).length cb] w (RetP V w fun rv V' => rv = .bool (true)) := by
  have mxrk : rk.length ≤ 140737488355328 := hrk.max
  have mxrq : rq.length ≤ 140737488355328 := hrq.max
  have mxl : l.length ≤ 140737488355328 := hl.max
  have mxb : b.length ≤ 140737488355328 := hb.max
  refine calls_env (n := 98) Try.func13 (c := _) rfl Try.ntmps13 (by kernel_rfl) (fun R hRet => ?_)
  have hM0 : Step V w [] V w [] := Step.refl (St.nilE hV)
  have hrg := ld_rng hld
  refine wp_seq_k (fun K1 hK1 => ?_)
  refine wp_reg ?_
  refine wpF_box hM0 #[.slice Ark (rk).length crk, .slice Arq (rq).length crq] (h := (by kernel_rfl : opAt _ _ _ _ _ = some (.box 25 (.tmp 0), some 5))) (by kernel_rfl) (fun b2 w3 hM4 => ?_)
  refine wpF_seg 1 (by kernel_rfl) ?_
  refine wpF_end _ (by kernel_rfl) (then_n (hK1 _ _ ?_))
  refine wp_seq_k (fun K5 hK5 => ?_)
  refine wp_seq_k (fun K6 hK6 => ?_)
  refine wp_reg ?_
  refine gF hM4 (.load 25 (.tmp 5)) (some 16) (by kernel_rfl) (Y_load 0 rfl (off := 0) (by kernel_rfl) (.agg #[.slice Ark (rk).length crk, .slice Arq (rq).length crq]) (by kernel_rfl)) ?_
  refine wpF_callP hM4 (f := 15) (caps := #[]) (h := (by kernel_rfl : opAt _ _ _ _ _ = some (.call (.mk (.value (.func 15)) #[(.tmp 16)] #[25]), some 17))) (by kernel_rfl) (by kernel_rfl) (by kernel_rfl) (f15 _ _ hM4.inW Ark crk (rk) hrk Arq crq (rq) hrq) (fun v7 V8 w9 le10 hM11 hp12 => ?_)
  obtain rfl := hp12
  refine wpF_seg 2 (by kernel_rfl) ?_
  refine wpF_caseB 19 (!(fewR (rk) (rq))) (by kernel_rfl) (by kernel_rfl) (fun h13 => ?_) (fun h13 => ?_)
  · -- t
    have h14 : (fewR (rk) (rq)) = false := by simpa using h13
    refine wpF_seg 18 (by kernel_rfl) ?_
    refine wpF_end _ (by kernel_rfl) (then_n (hK6 _ _ ?_))
    refine wp_ct (by kernel_rfl) ?_
    refine wp_seq_k (fun K15 hK15 => ?_)
    refine wp_reg ?_
    refine wpF_callP hM11 (f := 16) (caps := #[]) (h := (by kernel_rfl : opAt _ _ _ _ _ = some (.call (.mk (.value (.func 16)) #[] #[]), some 38))) (by kernel_rfl) (by kernel_rfl) (by kernel_rfl) (f16 _ _ hM11.inW ) (fun v16 V17 w18 le19 hM20 hp21 => ?_)
    obtain rfl := hp21
    refine wpF_seg 1 (by kernel_rfl) ?_
    refine wpF_end _ (by kernel_rfl) (then_n (hK15 _ _ ?_))
    refine wp_ret (then_r (?_))
    refine retN [.bool (true)] (.bool (true)) Try.results13 (.tmp (by kernel_rfl) (by kernel_rfl) .nil) (by kernel_rfl) (hRet _ _ ⟨_, _, rfl, hM20.clear, ?_⟩)
    -- end t
    rfl
  · -- f
    have h22 : (fewR (rk) (rq)) = true := by simpa using h13
    refine wpF_seg 5 (by kernel_rfl) ?_
    refine wpF_caseB 24 (decide ((100) < ((l.length : Int)))) (by kernel_rfl) (by kernel_rfl) (fun h23 => ?_) (fun h23 => ?_)
    · -- ft
      have p24 : ((100) < ((l.length : Int))) := of_decide_eq_true h23
      refine wpF_seg 13 (by kernel_rfl) ?_
      refine wpF_end _ (by kernel_rfl) (then_n (hK6 _ _ ?_))
      refine wp_ct (by kernel_rfl) ?_
      refine wp_seq_k (fun K25 hK25 => ?_)
      refine wp_reg ?_
      refine wpF_callP hM11 (f := 16) (caps := #[]) (h := (by kernel_rfl : opAt _ _ _ _ _ = some (.call (.mk (.value (.func 16)) #[] #[]), some 38))) (by kernel_rfl) (by kernel_rfl) (by kernel_rfl) (f16 _ _ hM11.inW ) (fun v26 V27 w28 le29 hM30 hp31 => ?_)
      obtain rfl := hp31
      refine wpF_seg 1 (by kernel_rfl) ?_
      refine wpF_end _ (by kernel_rfl) (then_n (hK25 _ _ ?_))
      refine wp_ret (then_r (?_))
      refine retN [.bool (true)] (.bool (true)) Try.results13 (.tmp (by kernel_rfl) (by kernel_rfl) .nil) (by kernel_rfl) (hRet _ _ ⟨_, _, rfl, hM30.clear, ?_⟩)
      -- end ft
      rfl
    · -- ff
      have p32 : ¬ ((100) < ((l.length : Int))) := of_decide_eq_false h23
      refine wpF_seg 5 (by kernel_rfl) ?_
      refine wpF_caseB 29 (decide ((100) < ((b.length : Int)))) (by kernel_rfl) (by kernel_rfl) (fun h33 => ?_) (fun h33 => ?_)
      · -- fft
        have p34 : ((100) < ((b.length : Int))) := of_decide_eq_true h33
        refine wpF_seg 8 (by kernel_rfl) ?_
        refine wpF_end _ (by kernel_rfl) (then_n (hK6 _ _ ?_))
        refine wp_ct (by kernel_rfl) ?_
        refine wp_seq_k (fun K35 hK35 => ?_)
        refine wp_reg ?_
        refine wpF_callP hM11 (f := 16) (caps := #[]) (h := (by kernel_rfl : opAt _ _ _ _ _ = some (.call (.mk (.value (.func 16)) #[] #[]), some 38))) (by kernel_rfl) (by kernel_rfl) (by kernel_rfl) (f16 _ _ hM11.inW ) (fun v36 V37 w38 le39 hM40 hp41 => ?_)
        obtain rfl := hp41
        refine wpF_seg 1 (by kernel_rfl) ?_
        refine wpF_end _ (by kernel_rfl) (then_n (hK35 _ _ ?_))
        refine wp_ret (then_r (?_))
        refine retN [.bool (true)] (.bool (true)) Try.results13 (.tmp (by kernel_rfl) (by kernel_rfl) .nil) (by kernel_rfl) (hRet _ _ ⟨_, _, rfl, hM40.clear, ?_⟩)
        -- end fft
        rfl
      · -- fff
        have p42 : ¬ ((100) < ((b.length : Int))) := of_decide_eq_false h33
        refine gF hM11 (.load 25 (.tmp 5)) (some 30) (by kernel_rfl) (Y_load 0 rfl (off := 0) (by kernel_rfl) (.agg #[.slice Ark (rk).length crk, .slice Arq (rq).length crq]) (by kernel_rfl)) ?_
        refine wpF_callP hM11 (f := 22) (caps := #[]) (h := (by kernel_rfl : opAt _ _ _ _ _ = some (.call (.mk (.value (.func 22)) #[(.tmp 30)] #[25]), some 31))) (by kernel_rfl) (by kernel_rfl) (by kernel_rfl) (f22 _ _ hM11.inW Ark crk (rk) (hrk.up hM11.le) Arq crq (rq) (hrq.up hM11.le)) (fun v43 V44 w45 le46 hM47 hp48 => ?_)
        obtain rfl := hp48
        refine wpF_seg 3 (by kernel_rfl) ?_
        refine wpF_caseB 34 (!(decide ((chkM (rk) (rq)) = (0)))) (by kernel_rfl) (by kernel_rfl) (fun h49 => ?_) (fun h49 => ?_)
        · -- ffft
          have h50 : decide ((chkM (rk) (rq)) = (0)) = false := by rw [← Bool.not_not (decide _), h49]; rfl
          have p51 : ¬ ((chkM (rk) (rq)) = (0)) := of_decide_eq_false h50
          refine wpF_seg 3 (by kernel_rfl) ?_
          refine wpF_end _ (by kernel_rfl) (then_n (hK6 _ _ ?_))
          refine wp_ct (by kernel_rfl) ?_
          refine wp_seq_k (fun K52 hK52 => ?_)
          refine wp_reg ?_
          refine wpF_callP hM47 (f := 16) (caps := #[]) (h := (by kernel_rfl : opAt _ _ _ _ _ = some (.call (.mk (.value (.func 16)) #[] #[]), some 38))) (by kernel_rfl) (by kernel_rfl) (by kernel_rfl) (f16 _ _ hM47.inW ) (fun v53 V54 w55 le56 hM57 hp58 => ?_)
          obtain rfl := hp58
          refine wpF_seg 1 (by kernel_rfl) ?_
          refine wpF_end _ (by kernel_rfl) (then_n (hK52 _ _ ?_))
          refine wp_ret (then_r (?_))
          refine retN [.bool (true)] (.bool (true)) Try.results13 (.tmp (by kernel_rfl) (by kernel_rfl) .nil) (by kernel_rfl) (hRet _ _ ⟨_, _, rfl, hM57.clear, ?_⟩)
          -- end ffft
          rfl
        · -- ffff
          have h59 : decide ((chkM (rk) (rq)) = (0)) = true := by rw [← Bool.not_not (decide _), h49]; rfl
          have p60 : ((chkM (rk) (rq)) = (0)) := of_decide_eq_true h59
          refine wpF_seg 3 (by kernel_rfl) ?_
          refine wpF_end _ (by kernel_rfl) (then_n (hK6 _ _ ?_))
          refine wp_if (decide ((1000000) < (t))) (by kernel_rfl) (fun h61 => ?_) (fun h61 => ?_)
          · -- fffft
            have p62 : ((1000000) < (t)) := of_decide_eq_true h61
            refine wp_seq_k (fun K63 hK63 => ?_)
            refine wp_reg ?_
            refine wpF_callP hM47 (f := 16) (caps := #[]) (h := (by kernel_rfl : opAt _ _ _ _ _ = some (.call (.mk (.value (.func 16)) #[] #[]), some 38))) (by kernel_rfl) (by kernel_rfl) (by kernel_rfl) (f16 _ _ hM47.inW ) (fun v64 V65 w66 le67 hM68 hp69 => ?_)
            obtain rfl := hp69
            refine wpF_seg 1 (by kernel_rfl) ?_
            refine wpF_end _ (by kernel_rfl) (then_n (hK63 _ _ ?_))
            refine wp_ret (then_r (?_))
            refine retN [.bool (true)] (.bool (true)) Try.results13 (.tmp (by kernel_rfl) (by kernel_rfl) .nil) (by kernel_rfl) (hRet _ _ ⟨_, _, rfl, hM68.clear, ?_⟩)
            -- end fffft
            rfl
          · -- fffff
            have p70 : ¬ ((1000000) < (t)) := of_decide_eq_false h61
            refine wp_skip (then_n (hK5 _ _ ?_))
            refine wp_seq_k (fun K71 hK71 => ?_)
            refine wp_seq_k (fun K72 hK72 => ?_)
            refine wp_reg ?_
            refine wpF_seg 2 (by kernel_rfl) ?_
            refine wpF_callP hM47 (f := 30) (caps := #[]) (h := (by kernel_rfl : opAt _ _ _ _ _ = some (.call (.mk (.value (.func 30)) #[(.tmp 40), (.tmp 41), (.const (.int .i64 0))] #[46, 3, 3]), some 42))) (by kernel_rfl) (by kernel_rfl) (by kernel_rfl) (f30 _ _ hM47.inW Al cl (l) (hl.up hM47.le) (t) (0)) (fun v73 V74 w75 le76 hM77 hp78 => ?_)
            obtain ⟨Ar78_1, cr78_1, rfl, r79⟩ := hp78
            have l80 : ((bif ldB (l) (t) (0) then (l) else [])).length ≤ 140737488355328 := r79.max
            refine wpF_seg 3 (by kernel_rfl) ?_
            refine wpF_alloc hM77 #[.slice none 0 0, .int .i64 (0), .int .i64 (0)] (h := (by kernel_rfl : opAt _ _ _ _ _ = some (.alloc 50, some 11))) (by kernel_rfl) (fun b81 w82 hM83 => ?_)
            refine wpF_store hM83 0 rfl (h := (by kernel_rfl : opAt _ _ _ _ _ = some (.store 50 (.tmp 11) (.tmp 43), none))) (off := 0) (by kernel_rfl) #[.slice Ar78_1 ((bif ldB (l) (t) (0) then (l) else [])).length cr78_1, .int .i64 ((bif ldB (l) (t) (0) then (t) else 0)), .int .i64 ((bif ldB (l) (t) (0) then (0) else 0))] (by kernel_rfl) (by kernel_rfl) (by kernel_rfl) (by kernel_rfl) (fun w85 hM84 => ?_)
            have hM86 : Step V w [] V74 _ ([.blk b81 (.cells #[.slice Ar78_1 ((bif ldB (l) (t) (0) then (l) else [])).length cr78_1, .int .i64 ((bif ldB (l) (t) (0) then (t) else 0)), .int .i64 ((bif ldB (l) (t) (0) then (0) else 0))] 50), .blk b2 (.cells #[.slice Ark (rk).length crk, .slice Arq (rq).length crq] 25)]) := hM84
            refine wpF_seg 1 (by kernel_rfl) ?_
            refine wpF_end _ (by kernel_rfl) (then_n (hK72 _ _ ?_))
            refine wp_seq_k (fun K87 hK87 => ?_)
            refine wp_reg ?_
            refine wpF_seg 3 (by kernel_rfl) ?_
            have h88 : (decide (((bif ldB (l) (t) (0) then 0 else 4 : Int)) = (0))) = true := by rw [hld]; rfl
            have p89 : (((bif ldB (l) (t) (0) then 0 else 4 : Int)) = (0)) := of_decide_eq_true h88
            refine wpF_slot 47 (.bool (!(decide (((bif ldB (l) (t) (0) then 0 else 4 : Int)) = (0))))) (.bool false) (by kernel_rfl) (by kernel_rfl) (by rw [(show (!(decide (((bif ldB (l) (t) (0) then 0 else 4 : Int)) = (0)))) = false from by rw [h88]; rfl)]) ?_
            refine wpF_seg 4 (by kernel_rfl) ?_
            refine wpF_end _ (by kernel_rfl) (then_n (hK87 _ _ ?_))
            refine wp_if (decide ((t) < (x))) (by kernel_rfl) (fun h90 => ?_) (fun h90 => ?_)
            · -- ffffft
              have p91 : ((t) < (x)) := of_decide_eq_true h90
              refine wp_seq_k (fun K92 hK92 => ?_)
              refine wp_reg ?_
              refine wpF_callP hM86 (f := 16) (caps := #[]) (h := (by kernel_rfl : opAt _ _ _ _ _ = some (.call (.mk (.value (.func 16)) #[] #[]), some 52))) (by kernel_rfl) (by kernel_rfl) (by kernel_rfl) (f16 _ _ hM86.inW ) (fun v93 V94 w95 le96 hM97 hp98 => ?_)
              obtain rfl := hp98
              refine wpF_seg 1 (by kernel_rfl) ?_
              refine wpF_end _ (by kernel_rfl) (then_n (hK92 _ _ ?_))
              refine wp_ret (then_r (?_))
              refine retN [.bool (true)] (.bool (true)) Try.results13 (.tmp (by kernel_rfl) (by kernel_rfl) .nil) (by kernel_rfl) (hRet _ _ ⟨_, _, rfl, hM97.clear, ?_⟩)
              -- end ffffft
              rfl
            · -- ffffff
              have p99 : ¬ ((t) < (x)) := of_decide_eq_false h90
              refine wp_skip (then_n (hK71 _ _ ?_))
              refine wp_seq_k (fun K100 hK100 => ?_)
              refine wp_reg ?_
              refine wpF_seg 2 (by kernel_rfl) ?_
              have hM108 : Step V w [] V74 _ ([.blk b81 (.cells #[.slice Ar78_1 ((bif ldB (l) (t) (0) then (l) else [])).length cr78_1, .int .i64 ((bif ldB (l) (t) (0) then (t) else 0)), .int .i64 ((bif ldB (l) (t) (0) then (0) else 0))] 50), .blk b2 (.cells #[.slice Ark (rk).length crk, .slice Arq (rq).length crq] 25)]) := hM86
              refine wpF_callE [] ([.blk b81 (.cells #[.slice Ar78_1 ((bif ldB (l) (t) (0) then (l) else [])).length cr78_1, .int .i64 ((bif ldB (l) (t) (0) then (t) else 0)), .int .i64 ((bif ldB (l) (t) (0) then (0) else 0))] 50), .blk b2 (.cells #[.slice Ark (rk).length crk, .slice Arq (rq).length crq] 25)]) hM108 (f := 31) (caps := #[]) (h := (by kernel_rfl : opAt _ _ _ _ _ = some (.call (.mk (.value (.func 31)) #[(.tmp 54), (.tmp 55), (.const (.int .i64 0))] #[46, 3, 3]), some 56))) (by kernel_rfl) (by kernel_rfl) (by kernel_rfl) (f31y _ _ hM108.inW Al cl (l) (hl.up hM86.le) (t) (0) (by omega) (by exact fun i hi => Nat.le_trans (hv i hi) (by omega)) (by assumption)) (fun v101 V102 w103 Eo104 le105 hM106 hp107 => ?_)
              obtain ⟨br108_1, Ar108_1, cr108_1, mr108_1, rfl, rfl⟩ := hp107
              have hM109 : Step V w [] V102 _ ([spE br108_1 Ar108_1 cr108_1 mr108_1 ((l)) ((t)) ((0)), .blk b81 (.cells #[.slice Ar78_1 ((bif ldB (l) (t) (0) then (l) else [])).length cr78_1, .int .i64 ((bif ldB (l) (t) (0) then (t) else 0)), .int .i64 ((bif ldB (l) (t) (0) then (0) else 0))] 50), .blk b2 (.cells #[.slice Ark (rk).length crk, .slice Arq (rq).length crq] 25)]) := hM106
              refine wpF_seg 5 (by kernel_rfl) ?_
              refine wpF_end _ (by kernel_rfl) (then_n (hK100 _ _ ?_))
              refine wp_seq_k (fun K110 hK110 => ?_)
              refine wp_seq_k (fun K111 hK111 => ?_)
              refine wp_reg ?_
              refine wpF_seg 1 (by kernel_rfl) ?_
              refine gF hM109 (.binOp .eql 53 (.tmp 59) (.const (.pointer none)) 53) (some 60) (by kernel_rfl) (Y_eql (.pointer (some ⟨br108_1, 0, none⟩)) (.pointer none) (false) (by kernel_rfl) (by kernel_rfl) (by kernel_rfl)) ?_
              refine wpF_seg 4 (by kernel_rfl) ?_
              refine wpF_end _ (by kernel_rfl) (then_n (hK111 _ _ ?_))
              refine wp_cf (by kernel_rfl) ?_
              refine wp_skip (then_n (hK110 _ _ ?_))
              refine wp_seq_k (fun K112 hK112 => ?_)
              refine wp_reg ?_
              refine gF hM109 (.load 25 (.tmp 5)) (some 65) (by kernel_rfl) (Y_load 2 rfl (off := 0) (by kernel_rfl) (.agg #[.slice Ark (rk).length crk, .slice Arq (rq).length crq]) (by kernel_rfl)) ?_
              refine wpF_seg 2 (by kernel_rfl) ?_
              have hM113 := hM109.front 0 rfl
              have hM121 : Step V w [] V102 _ ([spE br108_1 Ar108_1 cr108_1 mr108_1 ((l)) ((t)) ((0)), .blk b81 (.cells #[.slice Ar78_1 ((bif ldB (l) (t) (0) then (l) else [])).length cr78_1, .int .i64 ((bif ldB (l) (t) (0) then (t) else 0)), .int .i64 ((bif ldB (l) (t) (0) then (0) else 0))] 50), .blk b2 (.cells #[.slice Ark (rk).length crk, .slice Arq (rq).length crq] 25)]) := hM113
              refine wpF_callE [spE br108_1 Ar108_1 cr108_1 mr108_1 ((l)) ((t)) ((0))] ([.blk b81 (.cells #[.slice Ar78_1 ((bif ldB (l) (t) (0) then (l) else [])).length cr78_1, .int .i64 ((bif ldB (l) (t) (0) then (t) else 0)), .int .i64 ((bif ldB (l) (t) (0) then (0) else 0))] 50), .blk b2 (.cells #[.slice Ark (rk).length crk, .slice Arq (rq).length crq] 25)]) hM121 (f := 29) (caps := #[]) (h := (by kernel_rfl : opAt _ _ _ _ _ = some (.call (.mk (.value (.func 29)) #[(.tmp 65), (.tmp 66), (.tmp 67)] #[25, 53, 3]), some 68))) (by kernel_rfl) (by kernel_rfl) (by kernel_rfl) (f29 _ _ Ark crk (rk) (hrk.up hM109.le) Arq crq (rq) (hrq.up hM109.le) br108_1 Ar108_1 cr108_1 mr108_1 ((l)) ((t)) ((0)) (x) (St.part (E := [spE br108_1 Ar108_1 cr108_1 mr108_1 ((l)) ((t)) ((0))]) (F := ([.blk b81 (.cells #[.slice Ar78_1 ((bif ldB (l) (t) (0) then (l) else [])).length cr78_1, .int .i64 ((bif ldB (l) (t) (0) then (t) else 0)), .int .i64 ((bif ldB (l) (t) (0) then (0) else 0))] 50), .blk b2 (.cells #[.slice Ark (rk).length crk, .slice Arq (rq).length crq] 25)])) hM121.ok) (by first | omega | (have hq := len_appS (t + 1) l t b); omega) (by assumption)) (fun v114 V115 w116 Eo117 le118 hM119 hp120 => ?_)
              obtain ⟨rfl, rfl⟩ := hp120
              have hM122 : Step V w [] V115 _ ([spE br108_1 Ar108_1 cr108_1 mr108_1 (((l))) (((t))) (((0))), .blk b81 (.cells #[.slice Ar78_1 ((bif ldB (l) (t) (0) then (l) else [])).length cr78_1, .int .i64 ((bif ldB (l) (t) (0) then (t) else 0)), .int .i64 ((bif ldB (l) (t) (0) then (0) else 0))] 50), .blk b2 (.cells #[.slice Ark (rk).length crk, .slice Arq (rq).length crq] 25)]) := hM119
              refine wpF_seg 1 (by kernel_rfl) ?_
              refine wpF_end _ (by kernel_rfl) (then_n (hK112 _ _ ?_))
              refine wp_seq_k (fun K123 hK123 => ?_)
              refine wp_seq_k (fun K124 hK124 => ?_)
              refine wp_reg ?_
              refine wpF_seg 2 (by kernel_rfl) ?_
              refine gF hM122 (.binOp .add 3 (.tmp 70) (.const (.int .i64 1)) 3) (some 71) (by kernel_rfl) (Y_add .i64 (t) (1) (t + 1) (by kernel_rfl) (by kernel_rfl) (wrap64_ok _ (by omega))) ?_
              refine wpF_seg 1 (by kernel_rfl) ?_
              have hM125 := hM122.front 0 rfl
              have hM133 : Step V w [] V115 _ ([spE br108_1 Ar108_1 cr108_1 mr108_1 (((l))) (((t))) (((0))), .blk b81 (.cells #[.slice Ar78_1 ((bif ldB (l) (t) (0) then (l) else [])).length cr78_1, .int .i64 ((bif ldB (l) (t) (0) then (t) else 0)), .int .i64 ((bif ldB (l) (t) (0) then (0) else 0))] 50), .blk b2 (.cells #[.slice Ark (rk).length crk, .slice Arq (rq).length crq] 25)]) := hM125
              refine wpF_callE [spE br108_1 Ar108_1 cr108_1 mr108_1 (((l))) (((t))) (((0)))] ([.blk b81 (.cells #[.slice Ar78_1 ((bif ldB (l) (t) (0) then (l) else [])).length cr78_1, .int .i64 ((bif ldB (l) (t) (0) then (t) else 0)), .int .i64 ((bif ldB (l) (t) (0) then (0) else 0))] 50), .blk b2 (.cells #[.slice Ark (rk).length crk, .slice Arq (rq).length crq] 25)]) hM133 (f := 35) (caps := #[]) (h := (by kernel_rfl : opAt _ _ _ _ _ = some (.call (.mk (.value (.func 35)) #[(.tmp 69), (.tmp 71), (.tmp 72)] #[53, 3, 45]), some 73))) (by kernel_rfl) (by kernel_rfl) (by kernel_rfl) (f35 _ _ br108_1 Ar108_1 cr108_1 mr108_1 (((l))) (((t))) (((0))) (t + 1) Ab cb (b) (hb.up hM122.le) (St.part (E := [spE br108_1 Ar108_1 cr108_1 mr108_1 (((l))) (((t))) (((0)))]) (F := ([.blk b81 (.cells #[.slice Ar78_1 ((bif ldB (l) (t) (0) then (l) else [])).length cr78_1, .int .i64 ((bif ldB (l) (t) (0) then (t) else 0)), .int .i64 ((bif ldB (l) (t) (0) then (0) else 0))] 50), .blk b2 (.cells #[.slice Ark (rk).length crk, .slice Arq (rq).length crq] 25)])) hM133.ok) (by omega) (by intro y_; have hq := lkD_bnd hv y_; omega) (by exact i64_ok (by omega) (by omega))) (fun v126 V127 w128 Eo129 le130 hM131 hp132 => ?_)
              obtain ⟨Aor133_p, cor133_p, rfl, rfl⟩ := hp132
              have hM134 : Step V w [] V127 _ ([spE br108_1 Aor133_p cor133_p mr108_1 (appS (t + 1) (((l))) (((t))) (b)) (appT (t + 1) (((t))) (b)) ((((0)))), .blk b81 (.cells #[.slice Ar78_1 ((bif ldB (l) (t) (0) then (l) else [])).length cr78_1, .int .i64 ((bif ldB (l) (t) (0) then (t) else 0)), .int .i64 ((bif ldB (l) (t) (0) then (0) else 0))] 50), .blk b2 (.cells #[.slice Ark (rk).length crk, .slice Arq (rq).length crq] 25)]) := hM131
              refine wpF_seg 1 (by kernel_rfl) ?_
              refine wpF_end _ (by kernel_rfl) (then_n (hK124 _ _ ?_))
              refine wp_if (!(decide ((appE (t + 1) (((t))) (b)) = (0)))) (by kernel_rfl) (fun h135 => ?_) (fun h135 => ?_)
              · -- fffffft
                have h136 : decide ((appE (t + 1) (((t))) (b)) = (0)) = false := by rw [← Bool.not_not (decide _), h135]; rfl
                have p137 : ¬ ((appE (t + 1) (((t))) (b)) = (0)) := of_decide_eq_false h136
                refine wp_seq_k (fun K138 hK138 => ?_)
                refine wp_reg ?_
                refine gF hM134 (.load 25 (.tmp 5)) (some 75) (by kernel_rfl) (Y_load 2 rfl (off := 0) (by kernel_rfl) (.agg #[.slice Ark (rk).length crk, .slice Arq (rq).length crq]) (by kernel_rfl)) ?_
                refine wpF_seg 2 (by kernel_rfl) ?_
                have hM139 := hM134.front 0 rfl
                have hM147 : Step V w [] V127 _ ([spE br108_1 Aor133_p cor133_p mr108_1 (appS (t + 1) (((l))) (((t))) (b)) (appT (t + 1) (((t))) (b)) ((((0)))), .blk b81 (.cells #[.slice Ar78_1 ((bif ldB (l) (t) (0) then (l) else [])).length cr78_1, .int .i64 ((bif ldB (l) (t) (0) then (t) else 0)), .int .i64 ((bif ldB (l) (t) (0) then (0) else 0))] 50), .blk b2 (.cells #[.slice Ark (rk).length crk, .slice Arq (rq).length crq] 25)]) := hM139
                refine wpF_callE [spE br108_1 Aor133_p cor133_p mr108_1 (appS (t + 1) (((l))) (((t))) (b)) (appT (t + 1) (((t))) (b)) ((((0))))] ([.blk b81 (.cells #[.slice Ar78_1 ((bif ldB (l) (t) (0) then (l) else [])).length cr78_1, .int .i64 ((bif ldB (l) (t) (0) then (t) else 0)), .int .i64 ((bif ldB (l) (t) (0) then (0) else 0))] 50), .blk b2 (.cells #[.slice Ark (rk).length crk, .slice Arq (rq).length crq] 25)]) hM147 (f := 29) (caps := #[]) (h := (by kernel_rfl : opAt _ _ _ _ _ = some (.call (.mk (.value (.func 29)) #[(.tmp 75), (.tmp 76), (.tmp 77)] #[25, 53, 3]), some 78))) (by kernel_rfl) (by kernel_rfl) (by kernel_rfl) (f29 _ _ Ark crk (rk) (hrk.up hM134.le) Arq crq (rq) (hrq.up hM134.le) br108_1 Aor133_p cor133_p mr108_1 (appS (t + 1) (((l))) (((t))) (b)) (appT (t + 1) (((t))) (b)) ((((0)))) (x) (St.part (E := [spE br108_1 Aor133_p cor133_p mr108_1 (appS (t + 1) (((l))) (((t))) (b)) (appT (t + 1) (((t))) (b)) ((((0))))]) (F := ([.blk b81 (.cells #[.slice Ar78_1 ((bif ldB (l) (t) (0) then (l) else [])).length cr78_1, .int .i64 ((bif ldB (l) (t) (0) then (t) else 0)), .int .i64 ((bif ldB (l) (t) (0) then (0) else 0))] 50), .blk b2 (.cells #[.slice Ark (rk).length crk, .slice Arq (rq).length crq] 25)])) hM147.ok) (by first | omega | (have hq := len_appS (t + 1) l t b); omega) (by assumption)) (fun v140 V141 w142 Eo143 le144 hM145 hp146 => ?_)
                obtain ⟨rfl, rfl⟩ := hp146
                have hM148 : Step V w [] V141 _ ([spE br108_1 Aor133_p cor133_p mr108_1 ((appS (t + 1) (((l))) (((t))) (b))) ((appT (t + 1) (((t))) (b))) (((((0))))), .blk b81 (.cells #[.slice Ar78_1 ((bif ldB (l) (t) (0) then (l) else [])).length cr78_1, .int .i64 ((bif ldB (l) (t) (0) then (t) else 0)), .int .i64 ((bif ldB (l) (t) (0) then (0) else 0))] 50), .blk b2 (.cells #[.slice Ark (rk).length crk, .slice Arq (rq).length crq] 25)]) := hM145
                refine wpF_seg 1 (by kernel_rfl) ?_
                refine gF hM148 (.binOp .eql 4 (.tmp 78) (.tmp 79) 4) (some 80) (by kernel_rfl) (Y_eql (.bool (stlB (rk) (rq) (appS (t + 1) (((l))) (((t))) (b)) (x))) (.bool (stlB (rk) (rq) ((l)) (x))) ((stlB (rk) (rq) (appS (t + 1) (((l))) (((t))) (b)) (x)) == (stlB (rk) (rq) ((l)) (x))) (by kernel_rfl) (by kernel_rfl) (by kernel_rfl)) ?_
                refine wpF_seg 1 (by kernel_rfl) ?_
                have h149 : ((stlB (rk) (rq) (appS (t + 1) (((l))) (((t))) (b)) (x)) == (stlB (rk) (rq) ((l)) (x))) = true := by first | (rw [app_no (by assumption)]; exact beq_self_eq_true _) | (rw [stale_app hld (by assumption) (by omega), (by assumption : stlB rk rq l x = true)]; rfl) | (rw [stale_app hld (by assumption) (by omega), (by assumption : stlB rk rq l x = false), Bool.false_or]; exact beq_self_eq_true _)
                have p150 : ((stlB (rk) (rq) (appS (t + 1) (((l))) (((t))) (b)) (x)) = (stlB (rk) (rq) ((l)) (x))) := by simpa using h149
                refine wpF_slot 81 (.bool ((stlB (rk) (rq) (appS (t + 1) (((l))) (((t))) (b)) (x)) == (stlB (rk) (rq) ((l)) (x)))) (.bool true) (by kernel_rfl) (by kernel_rfl) (by rw [h149]) ?_
                refine wpF_callP hM148 (f := 16) (caps := #[]) (h := (by kernel_rfl : opAt _ _ _ _ _ = some (.call (.mk (.value (.func 16)) #[] #[]), some 82))) (by kernel_rfl) (by kernel_rfl) (by kernel_rfl) (f16 _ _ hM148.inW ) (fun v151 V152 w153 le154 hM155 hp156 => ?_)
                obtain rfl := hp156
                refine wpF_seg 2 (by kernel_rfl) ?_
                refine wpF_end _ (by kernel_rfl) (then_n (hK138 _ _ ?_))
                refine wp_ret (then_r (?_))
                refine retN [.bool (true)] (.bool (true)) Try.results13 (.tmp (by kernel_rfl) (by kernel_rfl) .nil) (by kernel_rfl) (hRet _ _ ⟨_, _, rfl, hM155.clear, ?_⟩)
                -- end fffffft
                rfl
              · -- fffffff
                have h157 : decide ((appE (t + 1) (((t))) (b)) = (0)) = true := by rw [← Bool.not_not (decide _), h135]; rfl
                have p158 : ((appE (t + 1) (((t))) (b)) = (0)) := of_decide_eq_true h157
                refine wp_skip (then_n (hK123 _ _ ?_))
                refine wp_seq_k (fun K159 hK159 => ?_)
                refine wp_reg ?_
                refine gF hM134 (.load 25 (.tmp 5)) (some 84) (by kernel_rfl) (Y_load 2 rfl (off := 0) (by kernel_rfl) (.agg #[.slice Ark (rk).length crk, .slice Arq (rq).length crq]) (by kernel_rfl)) ?_
                refine wpF_seg 2 (by kernel_rfl) ?_
                have hM160 := hM134.front 0 rfl
                have hM168 : Step V w [] V127 _ ([spE br108_1 Aor133_p cor133_p mr108_1 (appS (t + 1) (((l))) (((t))) (b)) (appT (t + 1) (((t))) (b)) ((((0)))), .blk b81 (.cells #[.slice Ar78_1 ((bif ldB (l) (t) (0) then (l) else [])).length cr78_1, .int .i64 ((bif ldB (l) (t) (0) then (t) else 0)), .int .i64 ((bif ldB (l) (t) (0) then (0) else 0))] 50), .blk b2 (.cells #[.slice Ark (rk).length crk, .slice Arq (rq).length crq] 25)]) := hM160
                refine wpF_callE [spE br108_1 Aor133_p cor133_p mr108_1 (appS (t + 1) (((l))) (((t))) (b)) (appT (t + 1) (((t))) (b)) ((((0))))] ([.blk b81 (.cells #[.slice Ar78_1 ((bif ldB (l) (t) (0) then (l) else [])).length cr78_1, .int .i64 ((bif ldB (l) (t) (0) then (t) else 0)), .int .i64 ((bif ldB (l) (t) (0) then (0) else 0))] 50), .blk b2 (.cells #[.slice Ark (rk).length crk, .slice Arq (rq).length crq] 25)]) hM168 (f := 29) (caps := #[]) (h := (by kernel_rfl : opAt _ _ _ _ _ = some (.call (.mk (.value (.func 29)) #[(.tmp 84), (.tmp 85), (.tmp 86)] #[25, 53, 3]), some 87))) (by kernel_rfl) (by kernel_rfl) (by kernel_rfl) (f29 _ _ Ark crk (rk) (hrk.up hM134.le) Arq crq (rq) (hrq.up hM134.le) br108_1 Aor133_p cor133_p mr108_1 (appS (t + 1) (((l))) (((t))) (b)) (appT (t + 1) (((t))) (b)) ((((0)))) (x) (St.part (E := [spE br108_1 Aor133_p cor133_p mr108_1 (appS (t + 1) (((l))) (((t))) (b)) (appT (t + 1) (((t))) (b)) ((((0))))]) (F := ([.blk b81 (.cells #[.slice Ar78_1 ((bif ldB (l) (t) (0) then (l) else [])).length cr78_1, .int .i64 ((bif ldB (l) (t) (0) then (t) else 0)), .int .i64 ((bif ldB (l) (t) (0) then (0) else 0))] 50), .blk b2 (.cells #[.slice Ark (rk).length crk, .slice Arq (rq).length crq] 25)])) hM168.ok) (by first | omega | (have hq := len_appS (t + 1) l t b); omega) (by assumption)) (fun v161 V162 w163 Eo164 le165 hM166 hp167 => ?_)
                obtain ⟨rfl, rfl⟩ := hp167
                have hM169 : Step V w [] V162 _ ([spE br108_1 Aor133_p cor133_p mr108_1 ((appS (t + 1) (((l))) (((t))) (b))) ((appT (t + 1) (((t))) (b))) (((((0))))), .blk b81 (.cells #[.slice Ar78_1 ((bif ldB (l) (t) (0) then (l) else [])).length cr78_1, .int .i64 ((bif ldB (l) (t) (0) then (t) else 0)), .int .i64 ((bif ldB (l) (t) (0) then (0) else 0))] 50), .blk b2 (.cells #[.slice Ark (rk).length crk, .slice Arq (rq).length crq] 25)]) := hM166
                refine wpF_seg 2 (by kernel_rfl) ?_
                refine wpF_caseB 89 (stlB (rk) (rq) ((l)) (x)) (by kernel_rfl) (by kernel_rfl) (fun h170 => ?_) (fun h170 => ?_)
                · -- ffffffft
                  refine wpF_seg 4 (by kernel_rfl) ?_
                  refine gF hM169 (.binOp .eql 4 (.tmp 87) (.tmp 93) 4) (some 94) (by kernel_rfl) (Y_eql (.bool (stlB (rk) (rq) (appS (t + 1) (((l))) (((t))) (b)) (x))) (.bool (true)) ((stlB (rk) (rq) (appS (t + 1) (((l))) (((t))) (b)) (x)) == (true)) (by kernel_rfl) (by kernel_rfl) (by kernel_rfl)) ?_
                  refine wpF_seg 1 (by kernel_rfl) ?_
                  have h171 : ((stlB (rk) (rq) (appS (t + 1) (((l))) (((t))) (b)) (x)) == (true)) = true := by first | (rw [app_no (by assumption)]; exact beq_self_eq_true _) | (rw [stale_app hld (by assumption) (by omega), (by assumption : stlB rk rq l x = true)]; rfl) | (rw [stale_app hld (by assumption) (by omega), (by assumption : stlB rk rq l x = false), Bool.false_or]; exact beq_self_eq_true _)
                  have p172 : ((stlB (rk) (rq) (appS (t + 1) (((l))) (((t))) (b)) (x)) = (true)) := by simpa using h171
                  refine wpF_slot 95 (.bool ((stlB (rk) (rq) (appS (t + 1) (((l))) (((t))) (b)) (x)) == (true))) (.bool true) (by kernel_rfl) (by kernel_rfl) (by rw [h171]) ?_
                  refine wpF_callP hM169 (f := 16) (caps := #[]) (h := (by kernel_rfl : opAt _ _ _ _ _ = some (.call (.mk (.value (.func 16)) #[] #[]), some 96))) (by kernel_rfl) (by kernel_rfl) (by kernel_rfl) (f16 _ _ hM169.inW ) (fun v173 V174 w175 le176 hM177 hp178 => ?_)
                  obtain rfl := hp178
                  refine wpF_seg 2 (by kernel_rfl) ?_
                  refine wpF_end _ (by kernel_rfl) (then_n (hK159 _ _ ?_))
                  refine wp_ret ?_
                  refine retN [.bool (true)] (.bool (true)) Try.results13 (.tmp (by kernel_rfl) (by kernel_rfl) .nil) (by kernel_rfl) (hRet _ _ ⟨_, _, rfl, hM177.clear, ?_⟩)
                  -- end ffffffft
                  rfl
                · -- ffffffff
                  refine gF hM169 (.load 25 (.tmp 5)) (some 90) (by kernel_rfl) (Y_load 2 rfl (off := 0) (by kernel_rfl) (.agg #[.slice Ark (rk).length crk, .slice Arq (rq).length crq]) (by kernel_rfl)) ?_
                  refine wpF_seg 1 (by kernel_rfl) ?_
                  refine wpF_callP hM169 (f := 27) (caps := #[]) (h := (by kernel_rfl : opAt _ _ _ _ _ = some (.call (.mk (.value (.func 27)) #[(.tmp 90), (.tmp 91)] #[25, 45]), some 92))) (by kernel_rfl) (by kernel_rfl) (by kernel_rfl) (f27 _ _ hM169.inW Ark crk (rk) (hrk.up hM169.le) Arq crq (rq) (hrq.up hM169.le) Ab cb (b) (hb.up hM169.le)) (fun v179 V180 w181 le182 hM183 hp184 => ?_)
                  obtain rfl := hp184
                  refine wpF_seg 1 (by kernel_rfl) ?_
                  refine gF hM183 (.binOp .eql 4 (.tmp 87) (.tmp 93) 4) (some 94) (by kernel_rfl) (Y_eql (.bool (stlB (rk) (rq) (appS (t + 1) (((l))) (((t))) (b)) (x))) (.bool (hitB (rk) (rq) (b))) ((stlB (rk) (rq) (appS (t + 1) (((l))) (((t))) (b)) (x)) == (hitB (rk) (rq) (b))) (by kernel_rfl) (by kernel_rfl) (by kernel_rfl)) ?_
                  refine wpF_seg 1 (by kernel_rfl) ?_
                  have h185 : ((stlB (rk) (rq) (appS (t + 1) (((l))) (((t))) (b)) (x)) == (hitB (rk) (rq) (b))) = true := by first | (rw [app_no (by assumption)]; exact beq_self_eq_true _) | (rw [stale_app hld (by assumption) (by omega), (by assumption : stlB rk rq l x = true)]; rfl) | (rw [stale_app hld (by assumption) (by omega), (by assumption : stlB rk rq l x = false), Bool.false_or]; exact beq_self_eq_true _)
                  have p186 : ((stlB (rk) (rq) (appS (t + 1) (((l))) (((t))) (b)) (x)) = (hitB (rk) (rq) (b))) := by simpa using h185
                  refine wpF_slot 95 (.bool ((stlB (rk) (rq) (appS (t + 1) (((l))) (((t))) (b)) (x)) == (hitB (rk) (rq) (b)))) (.bool true) (by kernel_rfl) (by kernel_rfl) (by rw [h185]) ?_
                  refine wpF_callP hM183 (f := 16) (caps := #[]) (h := (by kernel_rfl : opAt _ _ _ _ _ = some (.call (.mk (.value (.func 16)) #[] #[]), some 96))) (by kernel_rfl) (by kernel_rfl) (by kernel_rfl) (f16 _ _ hM183.inW ) (fun v187 V188 w189 le190 hM191 hp192 => ?_)
                  obtain rfl := hp192
                  refine wpF_seg 2 (by kernel_rfl) ?_
                  refine wpF_end _ (by kernel_rfl) (then_n (hK159 _ _ ?_))
                  refine wp_ret ?_
                  refine retN [.bool (true)] (.bool (true)) Try.results13 (.tmp (by kernel_rfl) (by kernel_rfl) .nil) (by kernel_rfl) (hRet _ _ ⟨_, _, rfl, hM191.clear, ?_⟩)
                  -- end ffffffff
                  rfl

set_option maxHeartbeats 4000000 in
set_option maxRecDepth 100000 in
theorem f13x (V : VT) (w : World) (hV : V.inW w) (Ark : Option Addr) (crk : Nat) (rk : List Str) (hrk : Rd strK V Ark crk rk) (Arq : Option Addr) (crq : Nat) (rq : List ((Str × Str))) (hrq : Rd (prK strK strK) V Arq crq rq) (Al : Option Addr) (cl : Nat) (l : List ((Str × (List ((Int × Str × Bool)))))) (hl : Rd (prK strK (slK (prK (intK .i64) (prK strK boolK)))) V Al cl l) (t : Int) (x : Int) (Ab : Option Addr) (cb : Nat) (b : List ((Str × Str × Bool))) (hb : Rd (prK strK (prK strK boolK)) V Ab cb b) (hky : ∀ y, y ∈ rk → y.length ≤ 140737488351232) (hv : ∀ i, i < l.length → (l.getD i ([], [])).2.length ≤ 4398046510976) (hld : ldB l t 0 = false) :
    Calls Try.prog 13 #[.agg #[.slice Ark (rk).length crk, .slice Arq (rq).length crq], .slice Al (l).length cl, .int .i64 (t), .int .i64 (x), .slice Ab (b).length cb] w (RetP V w fun rv V' => rv = .bool (true)) := by
  have mxrk : rk.length ≤ 140737488355328 := hrk.max
  have mxrq : rq.length ≤ 140737488355328 := hrq.max
  have mxl : l.length ≤ 140737488355328 := hl.max
  have mxb : b.length ≤ 140737488355328 := hb.max
  refine calls_env (n := 98) Try.func13 (c := _) rfl Try.ntmps13 (by kernel_rfl) (fun R hRet => ?_)
  have hM0 : Step V w [] V w [] := Step.refl (St.nilE hV)
  refine wp_seq_k (fun K1 hK1 => ?_)
  refine wp_reg ?_
  refine wpF_box hM0 #[.slice Ark (rk).length crk, .slice Arq (rq).length crq] (h := (by kernel_rfl : opAt _ _ _ _ _ = some (.box 25 (.tmp 0), some 5))) (by kernel_rfl) (fun b2 w3 hM4 => ?_)
  refine wpF_seg 1 (by kernel_rfl) ?_
  refine wpF_end _ (by kernel_rfl) (then_n (hK1 _ _ ?_))
  refine wp_seq_k (fun K5 hK5 => ?_)
  refine wp_seq_k (fun K6 hK6 => ?_)
  refine wp_reg ?_
  refine gF hM4 (.load 25 (.tmp 5)) (some 16) (by kernel_rfl) (Y_load 0 rfl (off := 0) (by kernel_rfl) (.agg #[.slice Ark (rk).length crk, .slice Arq (rq).length crq]) (by kernel_rfl)) ?_
  refine wpF_callP hM4 (f := 15) (caps := #[]) (h := (by kernel_rfl : opAt _ _ _ _ _ = some (.call (.mk (.value (.func 15)) #[(.tmp 16)] #[25]), some 17))) (by kernel_rfl) (by kernel_rfl) (by kernel_rfl) (f15 _ _ hM4.inW Ark crk (rk) hrk Arq crq (rq) hrq) (fun v7 V8 w9 le10 hM11 hp12 => ?_)
  obtain rfl := hp12
  refine wpF_seg 2 (by kernel_rfl) ?_
  refine wpF_caseB 19 (!(fewR (rk) (rq))) (by kernel_rfl) (by kernel_rfl) (fun h13 => ?_) (fun h13 => ?_)
  · -- t
    have h14 : (fewR (rk) (rq)) = false := by simpa using h13
    refine wpF_seg 18 (by kernel_rfl) ?_
    refine wpF_end _ (by kernel_rfl) (then_n (hK6 _ _ ?_))
    refine wp_ct (by kernel_rfl) ?_
    refine wp_seq_k (fun K15 hK15 => ?_)
    refine wp_reg ?_
    refine wpF_callP hM11 (f := 16) (caps := #[]) (h := (by kernel_rfl : opAt _ _ _ _ _ = some (.call (.mk (.value (.func 16)) #[] #[]), some 38))) (by kernel_rfl) (by kernel_rfl) (by kernel_rfl) (f16 _ _ hM11.inW ) (fun v16 V17 w18 le19 hM20 hp21 => ?_)
    obtain rfl := hp21
    refine wpF_seg 1 (by kernel_rfl) ?_
    refine wpF_end _ (by kernel_rfl) (then_n (hK15 _ _ ?_))
    refine wp_ret (then_r (?_))
    refine retN [.bool (true)] (.bool (true)) Try.results13 (.tmp (by kernel_rfl) (by kernel_rfl) .nil) (by kernel_rfl) (hRet _ _ ⟨_, _, rfl, hM20.clear, ?_⟩)
    -- end t
    rfl
  · -- f
    have h22 : (fewR (rk) (rq)) = true := by simpa using h13
    refine wpF_seg 5 (by kernel_rfl) ?_
    refine wpF_caseB 24 (decide ((100) < ((l.length : Int)))) (by kernel_rfl) (by kernel_rfl) (fun h23 => ?_) (fun h23 => ?_)
    · -- ft
      have p24 : ((100) < ((l.length : Int))) := of_decide_eq_true h23
      refine wpF_seg 13 (by kernel_rfl) ?_
      refine wpF_end _ (by kernel_rfl) (then_n (hK6 _ _ ?_))
      refine wp_ct (by kernel_rfl) ?_
      refine wp_seq_k (fun K25 hK25 => ?_)
      refine wp_reg ?_
      refine wpF_callP hM11 (f := 16) (caps := #[]) (h := (by kernel_rfl : opAt _ _ _ _ _ = some (.call (.mk (.value (.func 16)) #[] #[]), some 38))) (by kernel_rfl) (by kernel_rfl) (by kernel_rfl) (f16 _ _ hM11.inW ) (fun v26 V27 w28 le29 hM30 hp31 => ?_)
      obtain rfl := hp31
      refine wpF_seg 1 (by kernel_rfl) ?_
      refine wpF_end _ (by kernel_rfl) (then_n (hK25 _ _ ?_))
      refine wp_ret (then_r (?_))
      refine retN [.bool (true)] (.bool (true)) Try.results13 (.tmp (by kernel_rfl) (by kernel_rfl) .nil) (by kernel_rfl) (hRet _ _ ⟨_, _, rfl, hM30.clear, ?_⟩)
      -- end ft
      rfl
    · -- ff
      have p32 : ¬ ((100) < ((l.length : Int))) := of_decide_eq_false h23
      refine wpF_seg 5 (by kernel_rfl) ?_
      refine wpF_caseB 29 (decide ((100) < ((b.length : Int)))) (by kernel_rfl) (by kernel_rfl) (fun h33 => ?_) (fun h33 => ?_)
      · -- fft
        have p34 : ((100) < ((b.length : Int))) := of_decide_eq_true h33
        refine wpF_seg 8 (by kernel_rfl) ?_
        refine wpF_end _ (by kernel_rfl) (then_n (hK6 _ _ ?_))
        refine wp_ct (by kernel_rfl) ?_
        refine wp_seq_k (fun K35 hK35 => ?_)
        refine wp_reg ?_
        refine wpF_callP hM11 (f := 16) (caps := #[]) (h := (by kernel_rfl : opAt _ _ _ _ _ = some (.call (.mk (.value (.func 16)) #[] #[]), some 38))) (by kernel_rfl) (by kernel_rfl) (by kernel_rfl) (f16 _ _ hM11.inW ) (fun v36 V37 w38 le39 hM40 hp41 => ?_)
        obtain rfl := hp41
        refine wpF_seg 1 (by kernel_rfl) ?_
        refine wpF_end _ (by kernel_rfl) (then_n (hK35 _ _ ?_))
        refine wp_ret (then_r (?_))
        refine retN [.bool (true)] (.bool (true)) Try.results13 (.tmp (by kernel_rfl) (by kernel_rfl) .nil) (by kernel_rfl) (hRet _ _ ⟨_, _, rfl, hM40.clear, ?_⟩)
        -- end fft
        rfl
      · -- fff
        have p42 : ¬ ((100) < ((b.length : Int))) := of_decide_eq_false h33
        refine gF hM11 (.load 25 (.tmp 5)) (some 30) (by kernel_rfl) (Y_load 0 rfl (off := 0) (by kernel_rfl) (.agg #[.slice Ark (rk).length crk, .slice Arq (rq).length crq]) (by kernel_rfl)) ?_
        refine wpF_callP hM11 (f := 22) (caps := #[]) (h := (by kernel_rfl : opAt _ _ _ _ _ = some (.call (.mk (.value (.func 22)) #[(.tmp 30)] #[25]), some 31))) (by kernel_rfl) (by kernel_rfl) (by kernel_rfl) (f22 _ _ hM11.inW Ark crk (rk) (hrk.up hM11.le) Arq crq (rq) (hrq.up hM11.le)) (fun v43 V44 w45 le46 hM47 hp48 => ?_)
        obtain rfl := hp48
        refine wpF_seg 3 (by kernel_rfl) ?_
        refine wpF_caseB 34 (!(decide ((chkM (rk) (rq)) = (0)))) (by kernel_rfl) (by kernel_rfl) (fun h49 => ?_) (fun h49 => ?_)
        · -- ffft
          have h50 : decide ((chkM (rk) (rq)) = (0)) = false := by rw [← Bool.not_not (decide _), h49]; rfl
          have p51 : ¬ ((chkM (rk) (rq)) = (0)) := of_decide_eq_false h50
          refine wpF_seg 3 (by kernel_rfl) ?_
          refine wpF_end _ (by kernel_rfl) (then_n (hK6 _ _ ?_))
          refine wp_ct (by kernel_rfl) ?_
          refine wp_seq_k (fun K52 hK52 => ?_)
          refine wp_reg ?_
          refine wpF_callP hM47 (f := 16) (caps := #[]) (h := (by kernel_rfl : opAt _ _ _ _ _ = some (.call (.mk (.value (.func 16)) #[] #[]), some 38))) (by kernel_rfl) (by kernel_rfl) (by kernel_rfl) (f16 _ _ hM47.inW ) (fun v53 V54 w55 le56 hM57 hp58 => ?_)
          obtain rfl := hp58
          refine wpF_seg 1 (by kernel_rfl) ?_
          refine wpF_end _ (by kernel_rfl) (then_n (hK52 _ _ ?_))
          refine wp_ret (then_r (?_))
          refine retN [.bool (true)] (.bool (true)) Try.results13 (.tmp (by kernel_rfl) (by kernel_rfl) .nil) (by kernel_rfl) (hRet _ _ ⟨_, _, rfl, hM57.clear, ?_⟩)
          -- end ffft
          rfl
        · -- ffff
          have h59 : decide ((chkM (rk) (rq)) = (0)) = true := by rw [← Bool.not_not (decide _), h49]; rfl
          have p60 : ((chkM (rk) (rq)) = (0)) := of_decide_eq_true h59
          refine wpF_seg 3 (by kernel_rfl) ?_
          refine wpF_end _ (by kernel_rfl) (then_n (hK6 _ _ ?_))
          refine wp_if (decide ((1000000) < (t))) (by kernel_rfl) (fun h61 => ?_) (fun h61 => ?_)
          · -- fffft
            have p62 : ((1000000) < (t)) := of_decide_eq_true h61
            refine wp_seq_k (fun K63 hK63 => ?_)
            refine wp_reg ?_
            refine wpF_callP hM47 (f := 16) (caps := #[]) (h := (by kernel_rfl : opAt _ _ _ _ _ = some (.call (.mk (.value (.func 16)) #[] #[]), some 38))) (by kernel_rfl) (by kernel_rfl) (by kernel_rfl) (f16 _ _ hM47.inW ) (fun v64 V65 w66 le67 hM68 hp69 => ?_)
            obtain rfl := hp69
            refine wpF_seg 1 (by kernel_rfl) ?_
            refine wpF_end _ (by kernel_rfl) (then_n (hK63 _ _ ?_))
            refine wp_ret (then_r (?_))
            refine retN [.bool (true)] (.bool (true)) Try.results13 (.tmp (by kernel_rfl) (by kernel_rfl) .nil) (by kernel_rfl) (hRet _ _ ⟨_, _, rfl, hM68.clear, ?_⟩)
            -- end fffft
            rfl
          · -- fffff
            have p70 : ¬ ((1000000) < (t)) := of_decide_eq_false h61
            refine wp_skip (then_n (hK5 _ _ ?_))
            refine wp_seq_k (fun K71 hK71 => ?_)
            refine wp_seq_k (fun K72 hK72 => ?_)
            refine wp_reg ?_
            refine wpF_seg 2 (by kernel_rfl) ?_
            refine wpF_callP hM47 (f := 30) (caps := #[]) (h := (by kernel_rfl : opAt _ _ _ _ _ = some (.call (.mk (.value (.func 30)) #[(.tmp 40), (.tmp 41), (.const (.int .i64 0))] #[46, 3, 3]), some 42))) (by kernel_rfl) (by kernel_rfl) (by kernel_rfl) (f30 _ _ hM47.inW Al cl (l) (hl.up hM47.le) (t) (0)) (fun v73 V74 w75 le76 hM77 hp78 => ?_)
            obtain ⟨Ar78_1, cr78_1, rfl, r79⟩ := hp78
            have l80 : ((bif ldB (l) (t) (0) then (l) else [])).length ≤ 140737488355328 := r79.max
            refine wpF_seg 3 (by kernel_rfl) ?_
            refine wpF_alloc hM77 #[.slice none 0 0, .int .i64 (0), .int .i64 (0)] (h := (by kernel_rfl : opAt _ _ _ _ _ = some (.alloc 50, some 11))) (by kernel_rfl) (fun b81 w82 hM83 => ?_)
            refine wpF_store hM83 0 rfl (h := (by kernel_rfl : opAt _ _ _ _ _ = some (.store 50 (.tmp 11) (.tmp 43), none))) (off := 0) (by kernel_rfl) #[.slice Ar78_1 ((bif ldB (l) (t) (0) then (l) else [])).length cr78_1, .int .i64 ((bif ldB (l) (t) (0) then (t) else 0)), .int .i64 ((bif ldB (l) (t) (0) then (0) else 0))] (by kernel_rfl) (by kernel_rfl) (by kernel_rfl) (by kernel_rfl) (fun w85 hM84 => ?_)
            have hM86 : Step V w [] V74 _ ([.blk b81 (.cells #[.slice Ar78_1 ((bif ldB (l) (t) (0) then (l) else [])).length cr78_1, .int .i64 ((bif ldB (l) (t) (0) then (t) else 0)), .int .i64 ((bif ldB (l) (t) (0) then (0) else 0))] 50), .blk b2 (.cells #[.slice Ark (rk).length crk, .slice Arq (rq).length crq] 25)]) := hM84
            refine wpF_seg 1 (by kernel_rfl) ?_
            refine wpF_end _ (by kernel_rfl) (then_n (hK72 _ _ ?_))
            refine wp_seq_k (fun K87 hK87 => ?_)
            refine wp_reg ?_
            refine wpF_seg 3 (by kernel_rfl) ?_
            have h88 : (decide (((bif ldB (l) (t) (0) then 0 else 4 : Int)) = (0))) = false := by rw [hld]; rfl
            have p89 : ¬ (((bif ldB (l) (t) (0) then 0 else 4 : Int)) = (0)) := of_decide_eq_false h88
            refine wpF_slot 47 (.bool (!(decide (((bif ldB (l) (t) (0) then 0 else 4 : Int)) = (0))))) (.bool true) (by kernel_rfl) (by kernel_rfl) (by rw [(show (!(decide (((bif ldB (l) (t) (0) then 0 else 4 : Int)) = (0)))) = true from by rw [h88]; rfl)]) ?_
            refine wpF_seg 4 (by kernel_rfl) ?_
            refine wpF_end _ (by kernel_rfl) (then_n (hK87 _ _ ?_))
            refine wp_ct (by kernel_rfl) ?_
            refine wp_seq_k (fun K90 hK90 => ?_)
            refine wp_reg ?_
            refine wpF_callP hM86 (f := 16) (caps := #[]) (h := (by kernel_rfl : opAt _ _ _ _ _ = some (.call (.mk (.value (.func 16)) #[] #[]), some 52))) (by kernel_rfl) (by kernel_rfl) (by kernel_rfl) (f16 _ _ hM86.inW ) (fun v91 V92 w93 le94 hM95 hp96 => ?_)
            obtain rfl := hp96
            refine wpF_seg 1 (by kernel_rfl) ?_
            refine wpF_end _ (by kernel_rfl) (then_n (hK90 _ _ ?_))
            refine wp_ret (then_r (?_))
            refine retN [.bool (true)] (.bool (true)) Try.results13 (.tmp (by kernel_rfl) (by kernel_rfl) .nil) (by kernel_rfl) (hRet _ _ ⟨_, _, rfl, hM95.clear, ?_⟩)
            -- end fffff
            rfl

theorem f13 (V : VT) (w : World) (hV : V.inW w) (Ark : Option Addr) (crk : Nat) (rk : List Str) (hrk : Rd strK V Ark crk rk) (Arq : Option Addr) (crq : Nat) (rq : List (Str × Str)) (hrq : Rd (prK strK strK) V Arq crq rq) (Al : Option Addr) (cl : Nat) (l : List Item) (hl : Rd (prK strK (slK (prK (intK .i64) (prK strK boolK)))) V Al cl l) (t x : Int) (Ab : Option Addr) (cb : Nat) (b : List Chg) (hb : Rd (prK strK (prK strK boolK)) V Ab cb b) (hky : ∀ y, y ∈ rk → y.length ≤ 140737488351232) (hv : ∀ i, i < l.length → (l.getD i ([], [])).2.length ≤ 4398046510976) :
    Calls Try.prog 13 #[.agg #[.slice Ark (rk).length crk, .slice Arq (rq).length crq], .slice Al (l).length cl, .int .i64 (t), .int .i64 (x), .slice Ab (b).length cb] w (RetP V w fun rv V' => rv = .bool (true)) := by
  cases h : ldB l t 0 with
  | true => exact f13y V w hV Ark crk rk hrk Arq crq rq hrq Al cl l hl t x Ab cb b hb hky hv h
  | false => exact f13x V w hV Ark crk rk hrk Arq crq rq hrq Al cl l hl t x Ab cb b hb hky hv h

end Go.Vk
