/- Contracts of the page's functions, part AA: printed by wip/tools/p8.py. -/
import Derived.Test.YtpaljghjoajhfaaRC
import Derived.Test.YtpaljghjoajhfaaRD
import Derived.Test.YtpaljghjoajhfaaRH
import Derived.Test.YtpaljghjoajhfaaRI
import Derived.Test.YtpaljghjoajhfaaRN
import Derived.Test.YtpaljghjoajhfaaRW
set_option linter.unusedVariables false
set_option linter.unusedSimpArgs false
namespace Go.Vk
open Go.Proofs
set_option maxHeartbeats 4000000 in
set_option maxRecDepth 100000 in
theorem f8 (V : VT) (w : World) (hV : V.inW w) (nl : Bool) (Ank : Option Addr) (cnk : Nat) (nk : List Str) (hnk : Rd strK V Ank cnk nk) (Anv : Option Addr) (cnv : Nat) (nv : List Str) (hnv : Rd strK V Anv cnv nv) (Anc : Option Addr) (cnc : Nat) (nc : List Int) (hnc : Rd (intK .i64) V Anc cnc nc) (y : Str) (hy : y.length ≤ maxL) (u : Str) (hu : u.length ≤ maxL) :
    Calls Try.prog 8 #[.agg #[.bool (nl), .slice Ank (nk).length cnk, .slice Anv (nv).length cnv, .slice Anc (nc).length cnc], bs (y), bs (u)] w (RetP V w fun rv V' => rv = .bool (true)) := by
  have mxnk : nk.length ≤ 140737488355328 := hnk.max
  have mxnv : nv.length ≤ 140737488355328 := hnv.max
  have mxnc : nc.length ≤ 140737488355328 := hnc.max
  have mxy : y.length ≤ 140737488355328 := hy
  have mxu : u.length ≤ 140737488355328 := hu
  refine calls_env (n := 92) Try.func8 (c := _) rfl Try.ntmps8 (by kernel_rfl) (fun R hRet => ?_)
  have hM0 : Step V w [] V w [] := Step.refl (St.nilE hV)
  refine wp_seq_k (fun K1 hK1 => ?_)
  refine wp_reg ?_
  refine wpF_box hM0 #[.bool (nl), .slice Ank (nk).length cnk, .slice Anv (nv).length cnv, .slice Anc (nc).length cnc] (h := (by kernel_rfl : opAt _ _ _ _ _ = some (.box 25 (.tmp 0), some 3))) (by kernel_rfl) (fun b2 w3 hM4 => ?_)
  refine wpF_seg 1 (by kernel_rfl) ?_
  refine wpF_end _ (by kernel_rfl) (then_n (hK1 _ _ ?_))
  refine wp_seq_k (fun K5 hK5 => ?_)
  refine wp_seq_k (fun K6 hK6 => ?_)
  refine wp_reg ?_
  refine gF hM4 (.load 25 (.tmp 3)) (some 19) (by kernel_rfl) (Y_load 0 rfl (off := 0) (by kernel_rfl) (.agg #[.bool (nl), .slice Ank (nk).length cnk, .slice Anv (nv).length cnv, .slice Anc (nc).length cnc]) (by kernel_rfl)) ?_
  refine wpF_callP hM4 (f := 11) (caps := #[]) (h := (by kernel_rfl : opAt _ _ _ _ _ = some (.call (.mk (.value (.func 11)) #[(.tmp 19)] #[25]), some 20))) (by kernel_rfl) (by kernel_rfl) (by kernel_rfl) (f11 _ _ hM4.inW (nl) Ank cnk (nk) hnk Anv cnv (nv) hnv Anc cnc (nc) hnc) (fun v7 V8 w9 le10 hM11 hp12 => ?_)
  obtain rfl := hp12
  refine wpF_seg 1 (by kernel_rfl) ?_
  refine wpF_end _ (by kernel_rfl) (then_n (hK6 _ _ ?_))
  refine wp_if (!(fewM (nk) (nv) (nc))) (by kernel_rfl) (fun h13 => ?_) (fun h13 => ?_)
  · -- t
    have h14 : (fewM (nk) (nv) (nc)) = false := by simpa using h13
    skip
    refine wp_seq_k (fun K15 hK15 => ?_)
    refine wp_reg ?_
    refine wpF_callP hM11 (f := 12) (caps := #[]) (h := (by kernel_rfl : opAt _ _ _ _ _ = some (.call (.mk (.value (.func 12)) #[] #[]), some 22))) (by kernel_rfl) (by kernel_rfl) (by kernel_rfl) (f12 _ _ hM11.inW ) (fun v16 V17 w18 le19 hM20 hp21 => ?_)
    obtain rfl := hp21
    refine wpF_seg 1 (by kernel_rfl) ?_
    refine wpF_end _ (by kernel_rfl) (then_n (hK15 _ _ ?_))
    refine wp_ret (then_r (?_))
    refine retN [.bool (true)] (.bool (true)) Try.results8 (.tmp (by kernel_rfl) (by kernel_rfl) .nil) (by kernel_rfl) (hRet _ _ ⟨_, _, rfl, hM20.clear, ?_⟩)
    -- end t
    rfl
  · -- f
    have h22 : (fewM (nk) (nv) (nc)) = true := by simpa using h13
    have hf := few_le (by assumption : fewM nk nv nc = true)
    refine wp_skip (then_n (hK5 _ _ ?_))
    refine wp_seq_k (fun K23 hK23 => ?_)
    refine wp_reg ?_
    refine gF hM11 (.load 25 (.tmp 3)) (some 24) (by kernel_rfl) (Y_load 0 rfl (off := 0) (by kernel_rfl) (.agg #[.bool (nl), .slice Ank (nk).length cnk, .slice Anv (nv).length cnv, .slice Anc (nc).length cnc]) (by kernel_rfl)) ?_
    refine wpF_seg 1 (by kernel_rfl) ?_
    refine wpF_callP hM11 (f := 22) (caps := #[]) (h := (by kernel_rfl : opAt _ _ _ _ _ = some (.call (.mk (.value (.func 22)) #[(.tmp 24), (.tmp 25)] #[25, 9]), some 26))) (by kernel_rfl) (by kernel_rfl) (by kernel_rfl) (f22 _ _ hM11.inW (nl) Ank cnk (nk) (hnk.up hM11.le) Anv cnv (nv) (hnv.up hM11.le) Anc cnc (nc) (hnc.up hM11.le) (y) (hy)) (fun v24 V25 w26 le27 hM28 hp29 => ?_)
    obtain rfl := hp29
    refine wpF_seg 5 (by kernel_rfl) ?_
    refine wpF_end _ (by kernel_rfl) (then_n (hK23 _ _ ?_))
    refine wp_seq_k (fun K30 hK30 => ?_)
    refine wp_reg ?_
    refine gF hM28 (.load 25 (.tmp 3)) (some 30) (by kernel_rfl) (Y_load 0 rfl (off := 0) (by kernel_rfl) (.agg #[.bool (nl), .slice Ank (nk).length cnk, .slice Anv (nv).length cnv, .slice Anc (nc).length cnc]) (by kernel_rfl)) ?_
    refine wpF_seg 1 (by kernel_rfl) ?_
    refine wpF_callP hM28 (f := 25) (caps := #[]) (h := (by kernel_rfl : opAt _ _ _ _ _ = some (.call (.mk (.value (.func 25)) #[(.tmp 30), (.tmp 31)] #[25, 9]), some 32))) (by kernel_rfl) (by kernel_rfl) (by kernel_rfl) (f25 _ _ hM28.inW (nl) Ank cnk (nk) (hnk.up hM28.le) Anv cnv (nv) (hnv.up hM28.le) Anc cnc (nc) (hnc.up hM28.le) (y) (hy)) (fun v31 V32 w33 le34 hM35 hp36 => ?_)
    obtain rfl := hp36
    refine wpF_seg 5 (by kernel_rfl) ?_
    refine wpF_end _ (by kernel_rfl) (then_n (hK30 _ _ ?_))
    refine wp_seq_k (fun K37 hK37 => ?_)
    refine wp_reg ?_
    refine gF hM35 (.load 25 (.tmp 3)) (some 36) (by kernel_rfl) (Y_load 0 rfl (off := 0) (by kernel_rfl) (.agg #[.bool (nl), .slice Ank (nk).length cnk, .slice Anv (nv).length cnv, .slice Anc (nc).length cnc]) (by kernel_rfl)) ?_
    refine wpF_seg 2 (by kernel_rfl) ?_
    refine wpF_callP hM35 (f := 26) (caps := #[]) (h := (by kernel_rfl : opAt _ _ _ _ _ = some (.call (.mk (.value (.func 26)) #[(.tmp 36), (.tmp 37), (.tmp 38)] #[25, 9, 9]), some 39))) (by kernel_rfl) (by kernel_rfl) (by kernel_rfl) (f26 _ _ hM35.inW (nl) Ank cnk (nk) (hnk.up hM35.le) Anv cnv (nv) (hnv.up hM35.le) Anc cnc (nc) (hnc.up hM35.le) (y) (hy) (u) (hu) (by omega) (by omega)) (fun v38 V39 w40 le41 hM42 hp43 => ?_)
    obtain ⟨Ar43_1, cr43_1, Ar43_2, cr43_2, Ar43_3, cr43_3, rfl, r44, r45, r46⟩ := hp43
    have l47 : (putK (nl) (nk) (nv) (nc) (y) (u)).length ≤ 140737488355328 := r44.max
    have l48 : (putV (nl) (nk) (nv) (nc) (y) (u)).length ≤ 140737488355328 := r45.max
    have l49 : (([] : List Int)).length ≤ 140737488355328 := r46.max
    refine wpF_seg 3 (by kernel_rfl) ?_
    refine wpF_alloc hM42 #[.bool (false), .slice none 0 0, .slice none 0 0, .slice none 0 0] (h := (by kernel_rfl : opAt _ _ _ _ _ = some (.alloc 25, some 11))) (by kernel_rfl) (fun b50 w51 hM52 => ?_)
    refine wpF_store hM52 0 rfl (h := (by kernel_rfl : opAt _ _ _ _ _ = some (.store 25 (.tmp 11) (.tmp 40), none))) (off := 0) (by kernel_rfl) #[.bool (putOk (nl) (nk) (nv) (nc) (y) (u)), .slice Ar43_1 (putK (nl) (nk) (nv) (nc) (y) (u)).length cr43_1, .slice Ar43_2 (putV (nl) (nk) (nv) (nc) (y) (u)).length cr43_2, .slice Ar43_3 (([] : List Int)).length cr43_3] (by kernel_rfl) (by kernel_rfl) (by kernel_rfl) (by kernel_rfl) (fun w54 hM53 => ?_)
    have hM55 : Step V w [] V39 _ ([.blk b50 (.cells #[.bool (putOk (nl) (nk) (nv) (nc) (y) (u)), .slice Ar43_1 (putK (nl) (nk) (nv) (nc) (y) (u)).length cr43_1, .slice Ar43_2 (putV (nl) (nk) (nv) (nc) (y) (u)).length cr43_2, .slice Ar43_3 (([] : List Int)).length cr43_3] 25), .blk b2 (.cells #[.bool (nl), .slice Ank (nk).length cnk, .slice Anv (nv).length cnv, .slice Anc (nc).length cnc] 25)]) := hM53
    refine wpF_seg 1 (by kernel_rfl) ?_
    refine wpF_end _ (by kernel_rfl) (then_n (hK37 _ _ ?_))
    refine wp_seq_k (fun K56 hK56 => ?_)
    refine wp_reg ?_
    refine gF hM55 (.load 25 (.tmp 3)) (some 43) (by kernel_rfl) (Y_load 1 rfl (off := 0) (by kernel_rfl) (.agg #[.bool (nl), .slice Ank (nk).length cnk, .slice Anv (nv).length cnv, .slice Anc (nc).length cnc]) (by kernel_rfl)) ?_
    refine wpF_seg 2 (by kernel_rfl) ?_
    refine wpF_callP hM55 (f := 27) (caps := #[]) (h := (by kernel_rfl : opAt _ _ _ _ _ = some (.call (.mk (.value (.func 27)) #[(.tmp 43), (.tmp 44), (.tmp 45)] #[25, 9, 9]), some 46))) (by kernel_rfl) (by kernel_rfl) (by kernel_rfl) (f27 _ _ hM55.inW (nl) Ank cnk (nk) (hnk.up hM55.le) Anv cnv (nv) (hnv.up hM55.le) Anc cnc (nc) (hnc.up hM55.le) (y) (hy) (u) (hu) (by omega) (by omega)) (fun v57 V58 w59 le60 hM61 hp62 => ?_)
    obtain ⟨Ar62_1, cr62_1, Ar62_2, cr62_2, Ar62_3, cr62_3, rfl, r63, r64, r65⟩ := hp62
    have l66 : (putK (nl) (nk) (nv) (nc) (y) (u)).length ≤ 140737488355328 := r63.max
    have l67 : (putV (nl) (nk) (nv) (nc) (y) (u)).length ≤ 140737488355328 := r64.max
    have l68 : (([] : List Int)).length ≤ 140737488355328 := r65.max
    refine wpF_seg 3 (by kernel_rfl) ?_
    refine wpF_alloc hM61 #[.bool (false), .slice none 0 0, .slice none 0 0, .slice none 0 0] (h := (by kernel_rfl : opAt _ _ _ _ _ = some (.alloc 25, some 13))) (by kernel_rfl) (fun b69 w70 hM71 => ?_)
    refine wpF_store hM71 0 rfl (h := (by kernel_rfl : opAt _ _ _ _ _ = some (.store 25 (.tmp 13) (.tmp 47), none))) (off := 0) (by kernel_rfl) #[.bool (putOk (nl) (nk) (nv) (nc) (y) (u)), .slice Ar62_1 (putK (nl) (nk) (nv) (nc) (y) (u)).length cr62_1, .slice Ar62_2 (putV (nl) (nk) (nv) (nc) (y) (u)).length cr62_2, .slice Ar62_3 (([] : List Int)).length cr62_3] (by kernel_rfl) (by kernel_rfl) (by kernel_rfl) (by kernel_rfl) (fun w73 hM72 => ?_)
    have hM74 : Step V w [] V58 _ ([.blk b69 (.cells #[.bool (putOk (nl) (nk) (nv) (nc) (y) (u)), .slice Ar62_1 (putK (nl) (nk) (nv) (nc) (y) (u)).length cr62_1, .slice Ar62_2 (putV (nl) (nk) (nv) (nc) (y) (u)).length cr62_2, .slice Ar62_3 (([] : List Int)).length cr62_3] 25), .blk b50 (.cells #[.bool (putOk (nl) (nk) (nv) (nc) (y) (u)), .slice Ar43_1 (putK (nl) (nk) (nv) (nc) (y) (u)).length cr43_1, .slice Ar43_2 (putV (nl) (nk) (nv) (nc) (y) (u)).length cr43_2, .slice Ar43_3 (([] : List Int)).length cr43_3] 25), .blk b2 (.cells #[.bool (nl), .slice Ank (nk).length cnk, .slice Anv (nv).length cnv, .slice Anc (nc).length cnc] 25)]) := hM72
    refine wpF_seg 1 (by kernel_rfl) ?_
    refine wpF_end _ (by kernel_rfl) (then_n (hK56 _ _ ?_))
    refine wp_seq_k (fun K75 hK75 => ?_)
    refine wp_reg ?_
    refine gF hM74 (.load 25 (.tmp 3)) (some 50) (by kernel_rfl) (Y_load 2 rfl (off := 0) (by kernel_rfl) (.agg #[.bool (nl), .slice Ank (nk).length cnk, .slice Anv (nv).length cnv, .slice Anc (nc).length cnc]) (by kernel_rfl)) ?_
    refine wpF_seg 1 (by kernel_rfl) ?_
    refine wpF_callP hM74 (f := 28) (caps := #[]) (h := (by kernel_rfl : opAt _ _ _ _ _ = some (.call (.mk (.value (.func 28)) #[(.tmp 50), (.tmp 51)] #[25, 9]), some 52))) (by kernel_rfl) (by kernel_rfl) (by kernel_rfl) (f28 _ _ hM74.inW (nl) Ank cnk (nk) (hnk.up hM74.le) Anv cnv (nv) (hnv.up hM74.le) Anc cnc (nc) (hnc.up hM74.le) (y) (hy) (by omega) (by omega)) (fun v76 V77 w78 le79 hM80 hp81 => ?_)
    obtain ⟨Ar81_1, cr81_1, Ar81_2, cr81_2, Ar81_3, cr81_3, rfl, r82, r83, r84⟩ := hp81
    have l85 : (drK (nl) (nk) (nv) (nc) (y)).length ≤ 140737488355328 := r82.max
    have l86 : (drV (nl) (nk) (nv) (nc) (y)).length ≤ 140737488355328 := r83.max
    have l87 : (([] : List Int)).length ≤ 140737488355328 := r84.max
    refine wpF_seg 3 (by kernel_rfl) ?_
    refine wpF_alloc hM80 #[.bool (false), .slice none 0 0, .slice none 0 0, .slice none 0 0] (h := (by kernel_rfl : opAt _ _ _ _ _ = some (.alloc 25, some 15))) (by kernel_rfl) (fun b88 w89 hM90 => ?_)
    refine wpF_store hM90 0 rfl (h := (by kernel_rfl : opAt _ _ _ _ _ = some (.store 25 (.tmp 15) (.tmp 53), none))) (off := 0) (by kernel_rfl) #[.bool (findB (nl) (nk) (nv) (nc) (y)), .slice Ar81_1 (drK (nl) (nk) (nv) (nc) (y)).length cr81_1, .slice Ar81_2 (drV (nl) (nk) (nv) (nc) (y)).length cr81_2, .slice Ar81_3 (([] : List Int)).length cr81_3] (by kernel_rfl) (by kernel_rfl) (by kernel_rfl) (by kernel_rfl) (fun w92 hM91 => ?_)
    have hM93 : Step V w [] V77 _ ([.blk b88 (.cells #[.bool (findB (nl) (nk) (nv) (nc) (y)), .slice Ar81_1 (drK (nl) (nk) (nv) (nc) (y)).length cr81_1, .slice Ar81_2 (drV (nl) (nk) (nv) (nc) (y)).length cr81_2, .slice Ar81_3 (([] : List Int)).length cr81_3] 25), .blk b69 (.cells #[.bool (putOk (nl) (nk) (nv) (nc) (y) (u)), .slice Ar62_1 (putK (nl) (nk) (nv) (nc) (y) (u)).length cr62_1, .slice Ar62_2 (putV (nl) (nk) (nv) (nc) (y) (u)).length cr62_2, .slice Ar62_3 (([] : List Int)).length cr62_3] 25), .blk b50 (.cells #[.bool (putOk (nl) (nk) (nv) (nc) (y) (u)), .slice Ar43_1 (putK (nl) (nk) (nv) (nc) (y) (u)).length cr43_1, .slice Ar43_2 (putV (nl) (nk) (nv) (nc) (y) (u)).length cr43_2, .slice Ar43_3 (([] : List Int)).length cr43_3] 25), .blk b2 (.cells #[.bool (nl), .slice Ank (nk).length cnk, .slice Anv (nv).length cnv, .slice Anc (nc).length cnc] 25)]) := hM91
    refine wpF_seg 1 (by kernel_rfl) ?_
    refine wpF_end _ (by kernel_rfl) (then_n (hK75 _ _ ?_))
    refine wp_seq_k (fun K94 hK94 => ?_)
    refine wp_reg ?_
    refine gF hM93 (.load 25 (.tmp 3)) (some 56) (by kernel_rfl) (Y_load 3 rfl (off := 0) (by kernel_rfl) (.agg #[.bool (nl), .slice Ank (nk).length cnk, .slice Anv (nv).length cnv, .slice Anc (nc).length cnc]) (by kernel_rfl)) ?_
    refine wpF_seg 1 (by kernel_rfl) ?_
    refine wpF_callP hM93 (f := 29) (caps := #[]) (h := (by kernel_rfl : opAt _ _ _ _ _ = some (.call (.mk (.value (.func 29)) #[(.tmp 56), (.tmp 57)] #[25, 9]), some 58))) (by kernel_rfl) (by kernel_rfl) (by kernel_rfl) (f29 _ _ hM93.inW (nl) Ank cnk (nk) (hnk.up hM93.le) Anv cnv (nv) (hnv.up hM93.le) Anc cnc (nc) (hnc.up hM93.le) (y) (hy) (by omega) (by omega)) (fun v95 V96 w97 le98 hM99 hp100 => ?_)
    obtain ⟨Ar100_1, cr100_1, Ar100_2, cr100_2, Ar100_3, cr100_3, rfl, r101, r102, r103⟩ := hp100
    have l104 : (drK (nl) (nk) (nv) (nc) (y)).length ≤ 140737488355328 := r101.max
    have l105 : (drV (nl) (nk) (nv) (nc) (y)).length ≤ 140737488355328 := r102.max
    have l106 : (([] : List Int)).length ≤ 140737488355328 := r103.max
    refine wpF_seg 3 (by kernel_rfl) ?_
    refine wpF_alloc hM99 #[.bool (false), .slice none 0 0, .slice none 0 0, .slice none 0 0] (h := (by kernel_rfl : opAt _ _ _ _ _ = some (.alloc 25, some 17))) (by kernel_rfl) (fun b107 w108 hM109 => ?_)
    refine wpF_store hM109 0 rfl (h := (by kernel_rfl : opAt _ _ _ _ _ = some (.store 25 (.tmp 17) (.tmp 59), none))) (off := 0) (by kernel_rfl) #[.bool (findB (nl) (nk) (nv) (nc) (y)), .slice Ar100_1 (drK (nl) (nk) (nv) (nc) (y)).length cr100_1, .slice Ar100_2 (drV (nl) (nk) (nv) (nc) (y)).length cr100_2, .slice Ar100_3 (([] : List Int)).length cr100_3] (by kernel_rfl) (by kernel_rfl) (by kernel_rfl) (by kernel_rfl) (fun w111 hM110 => ?_)
    have hM112 : Step V w [] V96 _ ([.blk b107 (.cells #[.bool (findB (nl) (nk) (nv) (nc) (y)), .slice Ar100_1 (drK (nl) (nk) (nv) (nc) (y)).length cr100_1, .slice Ar100_2 (drV (nl) (nk) (nv) (nc) (y)).length cr100_2, .slice Ar100_3 (([] : List Int)).length cr100_3] 25), .blk b88 (.cells #[.bool (findB (nl) (nk) (nv) (nc) (y)), .slice Ar81_1 (drK (nl) (nk) (nv) (nc) (y)).length cr81_1, .slice Ar81_2 (drV (nl) (nk) (nv) (nc) (y)).length cr81_2, .slice Ar81_3 (([] : List Int)).length cr81_3] 25), .blk b69 (.cells #[.bool (putOk (nl) (nk) (nv) (nc) (y) (u)), .slice Ar62_1 (putK (nl) (nk) (nv) (nc) (y) (u)).length cr62_1, .slice Ar62_2 (putV (nl) (nk) (nv) (nc) (y) (u)).length cr62_2, .slice Ar62_3 (([] : List Int)).length cr62_3] 25), .blk b50 (.cells #[.bool (putOk (nl) (nk) (nv) (nc) (y) (u)), .slice Ar43_1 (putK (nl) (nk) (nv) (nc) (y) (u)).length cr43_1, .slice Ar43_2 (putV (nl) (nk) (nv) (nc) (y) (u)).length cr43_2, .slice Ar43_3 (([] : List Int)).length cr43_3] 25), .blk b2 (.cells #[.bool (nl), .slice Ank (nk).length cnk, .slice Anv (nv).length cnv, .slice Anc (nc).length cnc] 25)]) := hM110
    refine wpF_seg 1 (by kernel_rfl) ?_
    refine wpF_end _ (by kernel_rfl) (then_n (hK94 _ _ ?_))
    refine wp_seq_k (fun K113 hK113 => ?_)
    refine wp_reg ?_
    refine wpF_seg 4 (by kernel_rfl) ?_
    refine wpF_slot 64 (.bool (decide ((findI (nl) (nk) (nv) (nc) (y)) = (findI (nl) (nk) (nv) (nc) (y))))) (.bool true) (by kernel_rfl) (by kernel_rfl) (by rw [(decide_eq_true rfl : (decide ((findI (nl) (nk) (nv) (nc) (y)) = (findI (nl) (nk) (nv) (nc) (y)))) = true)]) ?_
    refine wpF_seg 2 (by kernel_rfl) ?_
    refine gF hM112 (.binOp .eql 4 (.tmp 65) (.tmp 66) 4) (some 67) (by kernel_rfl) (Y_eql (.bool (findB (nl) (nk) (nv) (nc) (y))) (.bool (findB (nl) (nk) (nv) (nc) (y))) ((findB (nl) (nk) (nv) (nc) (y)) == (findB (nl) (nk) (nv) (nc) (y))) (by kernel_rfl) (by kernel_rfl) (by kernel_rfl)) ?_
    refine wpF_seg 2 (by kernel_rfl) ?_
    refine wpF_slot 69 (.bool ((findB (nl) (nk) (nv) (nc) (y)) == (findB (nl) (nk) (nv) (nc) (y)))) (.bool true) (by kernel_rfl) (by kernel_rfl) (by rw [(beq_self_eq_true (findB (nl) (nk) (nv) (nc) (y)))]) ?_
    refine gF hM112 (.load 25 (.tmp 11)) (some 70) (by kernel_rfl) (Y_load 3 rfl (off := 0) (by kernel_rfl) (.agg #[.bool (putOk (nl) (nk) (nv) (nc) (y) (u)), .slice Ar43_1 (putK (nl) (nk) (nv) (nc) (y) (u)).length cr43_1, .slice Ar43_2 (putV (nl) (nk) (nv) (nc) (y) (u)).length cr43_2, .slice Ar43_3 (([] : List Int)).length cr43_3]) (by kernel_rfl)) ?_
    refine gF hM112 (.load 25 (.tmp 13)) (some 71) (by kernel_rfl) (Y_load 2 rfl (off := 0) (by kernel_rfl) (.agg #[.bool (putOk (nl) (nk) (nv) (nc) (y) (u)), .slice Ar62_1 (putK (nl) (nk) (nv) (nc) (y) (u)).length cr62_1, .slice Ar62_2 (putV (nl) (nk) (nv) (nc) (y) (u)).length cr62_2, .slice Ar62_3 (([] : List Int)).length cr62_3]) (by kernel_rfl)) ?_
    refine wpF_callP hM112 (f := 21) (caps := #[]) (h := (by kernel_rfl : opAt _ _ _ _ _ = some (.call (.mk (.value (.func 21)) #[(.tmp 70), (.tmp 71)] #[25, 25]), some 72))) (by kernel_rfl) (by kernel_rfl) (by kernel_rfl) (f21 _ _ hM112.inW (putOk (nl) (nk) (nv) (nc) (y) (u)) Ar43_1 cr43_1 (putK (nl) (nk) (nv) (nc) (y) (u)) (r44.up ((le60.trans le79).trans le98)) Ar43_2 cr43_2 (putV (nl) (nk) (nv) (nc) (y) (u)) (r45.up ((le60.trans le79).trans le98)) Ar43_3 cr43_3 (([] : List Int)) (r46.up ((le60.trans le79).trans le98)) (putOk (nl) (nk) (nv) (nc) (y) (u)) Ar62_1 cr62_1 (putK (nl) (nk) (nv) (nc) (y) (u)) (r63.up (le79.trans le98)) Ar62_2 cr62_2 (putV (nl) (nk) (nv) (nc) (y) (u)) (r64.up (le79.trans le98)) Ar62_3 cr62_3 (([] : List Int)) (r65.up (le79.trans le98))) (fun v114 V115 w116 le117 hM118 hp119 => ?_)
    obtain rfl := hp119
    refine wpF_seg 2 (by kernel_rfl) ?_
    refine wpF_slot 74 (.bool (decide ((putOk (nl) (nk) (nv) (nc) (y) (u)) = (putOk (nl) (nk) (nv) (nc) (y) (u)) ∧ (putK (nl) (nk) (nv) (nc) (y) (u)) = (putK (nl) (nk) (nv) (nc) (y) (u)) ∧ (putV (nl) (nk) (nv) (nc) (y) (u)) = (putV (nl) (nk) (nv) (nc) (y) (u)) ∧ (([] : List Int)) = (([] : List Int))))) (.bool true) (by kernel_rfl) (by kernel_rfl) (by rw [(decide_eq_true ⟨rfl, rfl, rfl, rfl⟩ : (decide ((putOk (nl) (nk) (nv) (nc) (y) (u)) = (putOk (nl) (nk) (nv) (nc) (y) (u)) ∧ (putK (nl) (nk) (nv) (nc) (y) (u)) = (putK (nl) (nk) (nv) (nc) (y) (u)) ∧ (putV (nl) (nk) (nv) (nc) (y) (u)) = (putV (nl) (nk) (nv) (nc) (y) (u)) ∧ (([] : List Int)) = (([] : List Int)))) = true)]) ?_
    refine wpF_seg 5 (by kernel_rfl) ?_
    refine wpF_slot 79 (.bool (decide ((putE (nl) (nk) (nv) (nc) (y) (u)) = (putE (nl) (nk) (nv) (nc) (y) (u))))) (.bool true) (by kernel_rfl) (by kernel_rfl) (by rw [(decide_eq_true rfl : (decide ((putE (nl) (nk) (nv) (nc) (y) (u)) = (putE (nl) (nk) (nv) (nc) (y) (u)))) = true)]) ?_
    refine gF hM118 (.load 25 (.tmp 15)) (some 80) (by kernel_rfl) (Y_load 1 rfl (off := 0) (by kernel_rfl) (.agg #[.bool (findB (nl) (nk) (nv) (nc) (y)), .slice Ar81_1 (drK (nl) (nk) (nv) (nc) (y)).length cr81_1, .slice Ar81_2 (drV (nl) (nk) (nv) (nc) (y)).length cr81_2, .slice Ar81_3 (([] : List Int)).length cr81_3]) (by kernel_rfl)) ?_
    refine gF hM118 (.load 25 (.tmp 17)) (some 81) (by kernel_rfl) (Y_load 0 rfl (off := 0) (by kernel_rfl) (.agg #[.bool (findB (nl) (nk) (nv) (nc) (y)), .slice Ar100_1 (drK (nl) (nk) (nv) (nc) (y)).length cr100_1, .slice Ar100_2 (drV (nl) (nk) (nv) (nc) (y)).length cr100_2, .slice Ar100_3 (([] : List Int)).length cr100_3]) (by kernel_rfl)) ?_
    refine wpF_callP hM118 (f := 21) (caps := #[]) (h := (by kernel_rfl : opAt _ _ _ _ _ = some (.call (.mk (.value (.func 21)) #[(.tmp 80), (.tmp 81)] #[25, 25]), some 82))) (by kernel_rfl) (by kernel_rfl) (by kernel_rfl) (f21 _ _ hM118.inW (findB (nl) (nk) (nv) (nc) (y)) Ar81_1 cr81_1 (drK (nl) (nk) (nv) (nc) (y)) (r82.up (le98.trans le117)) Ar81_2 cr81_2 (drV (nl) (nk) (nv) (nc) (y)) (r83.up (le98.trans le117)) Ar81_3 cr81_3 (([] : List Int)) (r84.up (le98.trans le117)) (findB (nl) (nk) (nv) (nc) (y)) Ar100_1 cr100_1 (drK (nl) (nk) (nv) (nc) (y)) (r101.up le117) Ar100_2 cr100_2 (drV (nl) (nk) (nv) (nc) (y)) (r102.up le117) Ar100_3 cr100_3 (([] : List Int)) (r103.up le117)) (fun v120 V121 w122 le123 hM124 hp125 => ?_)
    obtain rfl := hp125
    refine wpF_seg 2 (by kernel_rfl) ?_
    refine wpF_slot 84 (.bool (decide ((findB (nl) (nk) (nv) (nc) (y)) = (findB (nl) (nk) (nv) (nc) (y)) ∧ (drK (nl) (nk) (nv) (nc) (y)) = (drK (nl) (nk) (nv) (nc) (y)) ∧ (drV (nl) (nk) (nv) (nc) (y)) = (drV (nl) (nk) (nv) (nc) (y)) ∧ (([] : List Int)) = (([] : List Int))))) (.bool true) (by kernel_rfl) (by kernel_rfl) (by rw [(decide_eq_true ⟨rfl, rfl, rfl, rfl⟩ : (decide ((findB (nl) (nk) (nv) (nc) (y)) = (findB (nl) (nk) (nv) (nc) (y)) ∧ (drK (nl) (nk) (nv) (nc) (y)) = (drK (nl) (nk) (nv) (nc) (y)) ∧ (drV (nl) (nk) (nv) (nc) (y)) = (drV (nl) (nk) (nv) (nc) (y)) ∧ (([] : List Int)) = (([] : List Int)))) = true)]) ?_
    refine wpF_seg 2 (by kernel_rfl) ?_
    refine gF hM124 (.binOp .eql 4 (.tmp 85) (.tmp 86) 4) (some 87) (by kernel_rfl) (Y_eql (.bool (findB (nl) (nk) (nv) (nc) (y))) (.bool (findB (nl) (nk) (nv) (nc) (y))) ((findB (nl) (nk) (nv) (nc) (y)) == (findB (nl) (nk) (nv) (nc) (y))) (by kernel_rfl) (by kernel_rfl) (by kernel_rfl)) ?_
    refine wpF_seg 2 (by kernel_rfl) ?_
    refine wpF_slot 89 (.bool ((findB (nl) (nk) (nv) (nc) (y)) == (findB (nl) (nk) (nv) (nc) (y)))) (.bool true) (by kernel_rfl) (by kernel_rfl) (by rw [(beq_self_eq_true (findB (nl) (nk) (nv) (nc) (y)))]) ?_
    refine wpF_callP hM124 (f := 12) (caps := #[]) (h := (by kernel_rfl : opAt _ _ _ _ _ = some (.call (.mk (.value (.func 12)) #[] #[]), some 90))) (by kernel_rfl) (by kernel_rfl) (by kernel_rfl) (f12 _ _ hM124.inW ) (fun v126 V127 w128 le129 hM130 hp131 => ?_)
    obtain rfl := hp131
    refine wpF_seg 2 (by kernel_rfl) ?_
    refine wpF_end _ (by kernel_rfl) (then_n (hK113 _ _ ?_))
    refine wp_ret ?_
    refine retN [.bool (true)] (.bool (true)) Try.results8 (.tmp (by kernel_rfl) (by kernel_rfl) .nil) (by kernel_rfl) (hRet _ _ ⟨_, _, rfl, hM130.clear, ?_⟩)
    -- end f
    rfl

end Go.Vk
