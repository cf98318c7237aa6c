/- Contracts of the page's functions, part S: printed by wip/tools/p8.py. -/
import Derived.Test.YtpaljghjoajhfaaRC
import Derived.Test.YtpaljghjoajhfaaRH
import Derived.Test.YtpaljghjoajhfaaRN
import Derived.Test.YtpaljghjoajhfaaRQ
set_option linter.unusedVariables false
set_option linter.unusedSimpArgs false
namespace Go.Vk
open Go.Proofs
set_option maxHeartbeats 4000000 in
set_option maxRecDepth 100000 in
theorem f4 (V : VT) (w : World) (hV : V.inW w) (nl : Bool) (Ank : Option Addr) (cnk : Nat) (nk : List Str) (hnk : Rd strK V Ank cnk nk) (Anv : Option Addr) (cnv : Nat) (nv : List Str) (hnv : Rd strK V Anv cnv nv) (Anc : Option Addr) (cnc : Nat) (nc : List Int) (hnc : Rd (intK .i64) V Anc cnc nc) :
    Calls Try.prog 4 #[.agg #[.bool (nl), .slice Ank (nk).length cnk, .slice Anv (nv).length cnv, .slice Anc (nc).length cnc]] w (RetP V w fun rv V' => rv = .bool (true)) := by
  have mxnk : nk.length ≤ 140737488355328 := hnk.max
  have mxnv : nv.length ≤ 140737488355328 := hnv.max
  have mxnc : nc.length ≤ 140737488355328 := hnc.max
  refine calls_env (n := 50) Try.func4 (c := _) rfl Try.ntmps4 (by kernel_rfl) (fun R hRet => ?_)
  have hM0 : Step V w [] V w [] := Step.refl (St.nilE hV)
  refine wp_seq_k (fun K1 hK1 => ?_)
  refine wp_reg ?_
  refine wpF_box hM0 #[.bool (nl), .slice Ank (nk).length cnk, .slice Anv (nv).length cnv, .slice Anc (nc).length cnc] (h := (by kernel_rfl : opAt _ _ _ _ _ = some (.box 25 (.tmp 0), some 1))) (by kernel_rfl) (fun b2 w3 hM4 => ?_)
  refine wpF_seg 1 (by kernel_rfl) ?_
  refine wpF_end _ (by kernel_rfl) (then_n (hK1 _ _ ?_))
  refine wp_seq_k (fun K5 hK5 => ?_)
  refine wp_seq_k (fun K6 hK6 => ?_)
  refine wp_reg ?_
  refine gF hM4 (.load 25 (.tmp 1)) (some 11) (by kernel_rfl) (Y_load 0 rfl (off := 0) (by kernel_rfl) (.agg #[.bool (nl), .slice Ank (nk).length cnk, .slice Anv (nv).length cnv, .slice Anc (nc).length cnc]) (by kernel_rfl)) ?_
  refine wpF_callP hM4 (f := 11) (caps := #[]) (h := (by kernel_rfl : opAt _ _ _ _ _ = some (.call (.mk (.value (.func 11)) #[(.tmp 11)] #[25]), some 12))) (by kernel_rfl) (by kernel_rfl) (by kernel_rfl) (f11 _ _ hM4.inW (nl) Ank cnk (nk) hnk Anv cnv (nv) hnv Anc cnc (nc) hnc) (fun v7 V8 w9 le10 hM11 hp12 => ?_)
  obtain rfl := hp12
  refine wpF_seg 1 (by kernel_rfl) ?_
  refine wpF_end _ (by kernel_rfl) (then_n (hK6 _ _ ?_))
  refine wp_if (!(fewM (nk) (nv) (nc))) (by kernel_rfl) (fun h13 => ?_) (fun h13 => ?_)
  · -- t
    have h14 : (fewM (nk) (nv) (nc)) = false := by simpa using h13
    skip
    refine wp_seq_k (fun K15 hK15 => ?_)
    refine wp_reg ?_
    refine wpF_callP hM11 (f := 12) (caps := #[]) (h := (by kernel_rfl : opAt _ _ _ _ _ = some (.call (.mk (.value (.func 12)) #[] #[]), some 14))) (by kernel_rfl) (by kernel_rfl) (by kernel_rfl) (f12 _ _ hM11.inW ) (fun v16 V17 w18 le19 hM20 hp21 => ?_)
    obtain rfl := hp21
    refine wpF_seg 1 (by kernel_rfl) ?_
    refine wpF_end _ (by kernel_rfl) (then_n (hK15 _ _ ?_))
    refine wp_ret (then_r (?_))
    refine retN [.bool (true)] (.bool (true)) Try.results4 (.tmp (by kernel_rfl) (by kernel_rfl) .nil) (by kernel_rfl) (hRet _ _ ⟨_, _, rfl, hM20.clear, ?_⟩)
    -- end t
    rfl
  · -- f
    have h22 : (fewM (nk) (nv) (nc)) = true := by simpa using h13
    have hf := few_le (by assumption : fewM nk nv nc = true)
    refine wp_skip (then_n (hK5 _ _ ?_))
    refine wp_seq_k (fun K23 hK23 => ?_)
    refine wp_reg ?_
    refine gF hM11 (.load 25 (.tmp 1)) (some 16) (by kernel_rfl) (Y_load 0 rfl (off := 0) (by kernel_rfl) (.agg #[.bool (nl), .slice Ank (nk).length cnk, .slice Anv (nv).length cnv, .slice Anc (nc).length cnc]) (by kernel_rfl)) ?_
    refine wpF_callP hM11 (f := 19) (caps := #[]) (h := (by kernel_rfl : opAt _ _ _ _ _ = some (.call (.mk (.value (.func 19)) #[(.tmp 16)] #[25]), some 17))) (by kernel_rfl) (by kernel_rfl) (by kernel_rfl) (f19 _ _ hM11.inW (nl) Ank cnk (nk) (hnk.up hM11.le) Anv cnv (nv) (hnv.up hM11.le) Anc cnc (nc) (hnc.up hM11.le) (by omega) (by omega) (by omega)) (fun v24 V25 w26 le27 hM28 hp29 => ?_)
    obtain ⟨Ar29_1, cr29_1, Ar29_2, cr29_2, Ar29_3, cr29_3, Ar29_4, cr29_4, Ar29_5, cr29_5, Ar29_6, cr29_6, rfl, r30, r31, r32, r33, r34, r35⟩ := hp29
    have l36 : (spAk (nl) (nk) (nv) (nc)).length ≤ 140737488355328 := r30.max
    have l37 : (spAv (nl) (nk) (nv) (nc)).length ≤ 140737488355328 := r31.max
    have l38 : (spAc (nl) (nk) (nv) (nc)).length ≤ 140737488355328 := r32.max
    have l39 : (spBk (nl) (nk) (nv) (nc)).length ≤ 140737488355328 := r33.max
    have l40 : (spBv (nl) (nk) (nv) (nc)).length ≤ 140737488355328 := r34.max
    have l41 : (spBc (nl) (nk) (nv) (nc)).length ≤ 140737488355328 := r35.max
    refine wpF_seg 5 (by kernel_rfl) ?_
    refine wpF_alloc hM28 #[.bool (false), .slice none 0 0, .slice none 0 0, .slice none 0 0] (h := (by kernel_rfl : opAt _ _ _ _ _ = some (.alloc 25, some 3))) (by kernel_rfl) (fun b42 w43 hM44 => ?_)
    refine wpF_alloc hM44 #[.bool (false), .slice none 0 0, .slice none 0 0, .slice none 0 0] (h := (by kernel_rfl : opAt _ _ _ _ _ = some (.alloc 25, some 5))) (by kernel_rfl) (fun b45 w46 hM47 => ?_)
    refine wpF_store hM47 1 rfl (h := (by kernel_rfl : opAt _ _ _ _ _ = some (.store 25 (.tmp 3) (.tmp 18), none))) (off := 0) (by kernel_rfl) #[.bool (spL (nl) (nk) (nv) (nc)), .slice Ar29_1 (spAk (nl) (nk) (nv) (nc)).length cr29_1, .slice Ar29_2 (spAv (nl) (nk) (nv) (nc)).length cr29_2, .slice Ar29_3 (spAc (nl) (nk) (nv) (nc)).length cr29_3] (by kernel_rfl) (by kernel_rfl) (by kernel_rfl) (by kernel_rfl) (fun w49 hM48 => ?_)
    have hM50 : Step V w [] V25 _ ([.blk b45 (.cells #[.bool (false), .slice none 0 0, .slice none 0 0, .slice none 0 0] 25), .blk b42 (.cells #[.bool (spL (nl) (nk) (nv) (nc)), .slice Ar29_1 (spAk (nl) (nk) (nv) (nc)).length cr29_1, .slice Ar29_2 (spAv (nl) (nk) (nv) (nc)).length cr29_2, .slice Ar29_3 (spAc (nl) (nk) (nv) (nc)).length cr29_3] 25), .blk b2 (.cells #[.bool (nl), .slice Ank (nk).length cnk, .slice Anv (nv).length cnv, .slice Anc (nc).length cnc] 25)]) := hM48
    refine wpF_seg 1 (by kernel_rfl) ?_
    refine wpF_store hM50 0 rfl (h := (by kernel_rfl : opAt _ _ _ _ _ = some (.store 25 (.tmp 5) (.tmp 20), none))) (off := 0) (by kernel_rfl) #[.bool (spL (nl) (nk) (nv) (nc)), .slice Ar29_4 (spBk (nl) (nk) (nv) (nc)).length cr29_4, .slice Ar29_5 (spBv (nl) (nk) (nv) (nc)).length cr29_5, .slice Ar29_6 (spBc (nl) (nk) (nv) (nc)).length cr29_6] (by kernel_rfl) (by kernel_rfl) (by kernel_rfl) (by kernel_rfl) (fun w52 hM51 => ?_)
    have hM53 : Step V w [] V25 _ ([.blk b45 (.cells #[.bool (spL (nl) (nk) (nv) (nc)), .slice Ar29_4 (spBk (nl) (nk) (nv) (nc)).length cr29_4, .slice Ar29_5 (spBv (nl) (nk) (nv) (nc)).length cr29_5, .slice Ar29_6 (spBc (nl) (nk) (nv) (nc)).length cr29_6] 25), .blk b42 (.cells #[.bool (spL (nl) (nk) (nv) (nc)), .slice Ar29_1 (spAk (nl) (nk) (nv) (nc)).length cr29_1, .slice Ar29_2 (spAv (nl) (nk) (nv) (nc)).length cr29_2, .slice Ar29_3 (spAc (nl) (nk) (nv) (nc)).length cr29_3] 25), .blk b2 (.cells #[.bool (nl), .slice Ank (nk).length cnk, .slice Anv (nv).length cnv, .slice Anc (nc).length cnc] 25)]) := hM51
    refine wpF_seg 1 (by kernel_rfl) ?_
    refine wpF_end _ (by kernel_rfl) (then_n (hK23 _ _ ?_))
    refine wp_seq_k (fun K54 hK54 => ?_)
    refine wp_reg ?_
    refine gF hM53 (.load 25 (.tmp 1)) (some 23) (by kernel_rfl) (Y_load 2 rfl (off := 0) (by kernel_rfl) (.agg #[.bool (nl), .slice Ank (nk).length cnk, .slice Anv (nv).length cnv, .slice Anc (nc).length cnc]) (by kernel_rfl)) ?_
    refine wpF_callP hM53 (f := 20) (caps := #[]) (h := (by kernel_rfl : opAt _ _ _ _ _ = some (.call (.mk (.value (.func 20)) #[(.tmp 23)] #[25]), some 24))) (by kernel_rfl) (by kernel_rfl) (by kernel_rfl) (f20 _ _ hM53.inW (nl) Ank cnk (nk) (hnk.up hM53.le) Anv cnv (nv) (hnv.up hM53.le) Anc cnc (nc) (hnc.up hM53.le) (by omega) (by omega) (by omega)) (fun v55 V56 w57 le58 hM59 hp60 => ?_)
    obtain ⟨Ar60_1, cr60_1, Ar60_2, cr60_2, Ar60_3, cr60_3, Ar60_4, cr60_4, Ar60_5, cr60_5, Ar60_6, cr60_6, rfl, r61, r62, r63, r64, r65, r66⟩ := hp60
    have l67 : (spAk (nl) (nk) (nv) (nc)).length ≤ 140737488355328 := r61.max
    have l68 : (spAv (nl) (nk) (nv) (nc)).length ≤ 140737488355328 := r62.max
    have l69 : (spAc (nl) (nk) (nv) (nc)).length ≤ 140737488355328 := r63.max
    have l70 : (spBk (nl) (nk) (nv) (nc)).length ≤ 140737488355328 := r64.max
    have l71 : (spBv (nl) (nk) (nv) (nc)).length ≤ 140737488355328 := r65.max
    have l72 : (spBc (nl) (nk) (nv) (nc)).length ≤ 140737488355328 := r66.max
    refine wpF_seg 5 (by kernel_rfl) ?_
    refine wpF_alloc hM59 #[.bool (false), .slice none 0 0, .slice none 0 0, .slice none 0 0] (h := (by kernel_rfl : opAt _ _ _ _ _ = some (.alloc 25, some 7))) (by kernel_rfl) (fun b73 w74 hM75 => ?_)
    refine wpF_alloc hM75 #[.bool (false), .slice none 0 0, .slice none 0 0, .slice none 0 0] (h := (by kernel_rfl : opAt _ _ _ _ _ = some (.alloc 25, some 9))) (by kernel_rfl) (fun b76 w77 hM78 => ?_)
    refine wpF_store hM78 1 rfl (h := (by kernel_rfl : opAt _ _ _ _ _ = some (.store 25 (.tmp 7) (.tmp 25), none))) (off := 0) (by kernel_rfl) #[.bool (spL (nl) (nk) (nv) (nc)), .slice Ar60_1 (spAk (nl) (nk) (nv) (nc)).length cr60_1, .slice Ar60_2 (spAv (nl) (nk) (nv) (nc)).length cr60_2, .slice Ar60_3 (spAc (nl) (nk) (nv) (nc)).length cr60_3] (by kernel_rfl) (by kernel_rfl) (by kernel_rfl) (by kernel_rfl) (fun w80 hM79 => ?_)
    have hM81 : Step V w [] V56 _ ([.blk b76 (.cells #[.bool (false), .slice none 0 0, .slice none 0 0, .slice none 0 0] 25), .blk b73 (.cells #[.bool (spL (nl) (nk) (nv) (nc)), .slice Ar60_1 (spAk (nl) (nk) (nv) (nc)).length cr60_1, .slice Ar60_2 (spAv (nl) (nk) (nv) (nc)).length cr60_2, .slice Ar60_3 (spAc (nl) (nk) (nv) (nc)).length cr60_3] 25), .blk b45 (.cells #[.bool (spL (nl) (nk) (nv) (nc)), .slice Ar29_4 (spBk (nl) (nk) (nv) (nc)).length cr29_4, .slice Ar29_5 (spBv (nl) (nk) (nv) (nc)).length cr29_5, .slice Ar29_6 (spBc (nl) (nk) (nv) (nc)).length cr29_6] 25), .blk b42 (.cells #[.bool (spL (nl) (nk) (nv) (nc)), .slice Ar29_1 (spAk (nl) (nk) (nv) (nc)).length cr29_1, .slice Ar29_2 (spAv (nl) (nk) (nv) (nc)).length cr29_2, .slice Ar29_3 (spAc (nl) (nk) (nv) (nc)).length cr29_3] 25), .blk b2 (.cells #[.bool (nl), .slice Ank (nk).length cnk, .slice Anv (nv).length cnv, .slice Anc (nc).length cnc] 25)]) := hM79
    refine wpF_seg 1 (by kernel_rfl) ?_
    refine wpF_store hM81 0 rfl (h := (by kernel_rfl : opAt _ _ _ _ _ = some (.store 25 (.tmp 9) (.tmp 27), none))) (off := 0) (by kernel_rfl) #[.bool (spL (nl) (nk) (nv) (nc)), .slice Ar60_4 (spBk (nl) (nk) (nv) (nc)).length cr60_4, .slice Ar60_5 (spBv (nl) (nk) (nv) (nc)).length cr60_5, .slice Ar60_6 (spBc (nl) (nk) (nv) (nc)).length cr60_6] (by kernel_rfl) (by kernel_rfl) (by kernel_rfl) (by kernel_rfl) (fun w83 hM82 => ?_)
    have hM84 : Step V w [] V56 _ ([.blk b76 (.cells #[.bool (spL (nl) (nk) (nv) (nc)), .slice Ar60_4 (spBk (nl) (nk) (nv) (nc)).length cr60_4, .slice Ar60_5 (spBv (nl) (nk) (nv) (nc)).length cr60_5, .slice Ar60_6 (spBc (nl) (nk) (nv) (nc)).length cr60_6] 25), .blk b73 (.cells #[.bool (spL (nl) (nk) (nv) (nc)), .slice Ar60_1 (spAk (nl) (nk) (nv) (nc)).length cr60_1, .slice Ar60_2 (spAv (nl) (nk) (nv) (nc)).length cr60_2, .slice Ar60_3 (spAc (nl) (nk) (nv) (nc)).length cr60_3] 25), .blk b45 (.cells #[.bool (spL (nl) (nk) (nv) (nc)), .slice Ar29_4 (spBk (nl) (nk) (nv) (nc)).length cr29_4, .slice Ar29_5 (spBv (nl) (nk) (nv) (nc)).length cr29_5, .slice Ar29_6 (spBc (nl) (nk) (nv) (nc)).length cr29_6] 25), .blk b42 (.cells #[.bool (spL (nl) (nk) (nv) (nc)), .slice Ar29_1 (spAk (nl) (nk) (nv) (nc)).length cr29_1, .slice Ar29_2 (spAv (nl) (nk) (nv) (nc)).length cr29_2, .slice Ar29_3 (spAc (nl) (nk) (nv) (nc)).length cr29_3] 25), .blk b2 (.cells #[.bool (nl), .slice Ank (nk).length cnk, .slice Anv (nv).length cnv, .slice Anc (nc).length cnc] 25)]) := hM82
    refine wpF_seg 1 (by kernel_rfl) ?_
    refine wpF_end _ (by kernel_rfl) (then_n (hK54 _ _ ?_))
    refine wp_seq_k (fun K85 hK85 => ?_)
    refine wp_reg ?_
    refine gF hM84 (.load 25 (.tmp 3)) (some 29) (by kernel_rfl) (Y_load 3 rfl (off := 0) (by kernel_rfl) (.agg #[.bool (spL (nl) (nk) (nv) (nc)), .slice Ar29_1 (spAk (nl) (nk) (nv) (nc)).length cr29_1, .slice Ar29_2 (spAv (nl) (nk) (nv) (nc)).length cr29_2, .slice Ar29_3 (spAc (nl) (nk) (nv) (nc)).length cr29_3]) (by kernel_rfl)) ?_
    refine gF hM84 (.load 25 (.tmp 7)) (some 30) (by kernel_rfl) (Y_load 1 rfl (off := 0) (by kernel_rfl) (.agg #[.bool (spL (nl) (nk) (nv) (nc)), .slice Ar60_1 (spAk (nl) (nk) (nv) (nc)).length cr60_1, .slice Ar60_2 (spAv (nl) (nk) (nv) (nc)).length cr60_2, .slice Ar60_3 (spAc (nl) (nk) (nv) (nc)).length cr60_3]) (by kernel_rfl)) ?_
    refine wpF_callP hM84 (f := 21) (caps := #[]) (h := (by kernel_rfl : opAt _ _ _ _ _ = some (.call (.mk (.value (.func 21)) #[(.tmp 29), (.tmp 30)] #[25, 25]), some 31))) (by kernel_rfl) (by kernel_rfl) (by kernel_rfl) (f21 _ _ hM84.inW (spL (nl) (nk) (nv) (nc)) Ar29_1 cr29_1 (spAk (nl) (nk) (nv) (nc)) (r30.up le58) Ar29_2 cr29_2 (spAv (nl) (nk) (nv) (nc)) (r31.up le58) Ar29_3 cr29_3 (spAc (nl) (nk) (nv) (nc)) (r32.up le58) (spL (nl) (nk) (nv) (nc)) Ar60_1 cr60_1 (spAk (nl) (nk) (nv) (nc)) r61 Ar60_2 cr60_2 (spAv (nl) (nk) (nv) (nc)) r62 Ar60_3 cr60_3 (spAc (nl) (nk) (nv) (nc)) r63) (fun v86 V87 w88 le89 hM90 hp91 => ?_)
    obtain rfl := hp91
    refine wpF_seg 1 (by kernel_rfl) ?_
    refine wpF_slot 32 (.bool (decide ((spL (nl) (nk) (nv) (nc)) = (spL (nl) (nk) (nv) (nc)) ∧ (spAk (nl) (nk) (nv) (nc)) = (spAk (nl) (nk) (nv) (nc)) ∧ (spAv (nl) (nk) (nv) (nc)) = (spAv (nl) (nk) (nv) (nc)) ∧ (spAc (nl) (nk) (nv) (nc)) = (spAc (nl) (nk) (nv) (nc))))) (.bool true) (by kernel_rfl) (by kernel_rfl) (by rw [(decide_eq_true ⟨rfl, rfl, rfl, rfl⟩ : (decide ((spL (nl) (nk) (nv) (nc)) = (spL (nl) (nk) (nv) (nc)) ∧ (spAk (nl) (nk) (nv) (nc)) = (spAk (nl) (nk) (nv) (nc)) ∧ (spAv (nl) (nk) (nv) (nc)) = (spAv (nl) (nk) (nv) (nc)) ∧ (spAc (nl) (nk) (nv) (nc)) = (spAc (nl) (nk) (nv) (nc)))) = true)]) ?_
    refine wpF_seg 5 (by kernel_rfl) ?_
    refine wpF_slot 37 (.bool (decide ((spKey (nl) (nk) (nv) (nc)) = (spKey (nl) (nk) (nv) (nc))))) (.bool true) (by kernel_rfl) (by kernel_rfl) (by rw [(decide_eq_true rfl : (decide ((spKey (nl) (nk) (nv) (nc)) = (spKey (nl) (nk) (nv) (nc)))) = true)]) ?_
    refine gF hM90 (.load 25 (.tmp 5)) (some 38) (by kernel_rfl) (Y_load 2 rfl (off := 0) (by kernel_rfl) (.agg #[.bool (spL (nl) (nk) (nv) (nc)), .slice Ar29_4 (spBk (nl) (nk) (nv) (nc)).length cr29_4, .slice Ar29_5 (spBv (nl) (nk) (nv) (nc)).length cr29_5, .slice Ar29_6 (spBc (nl) (nk) (nv) (nc)).length cr29_6]) (by kernel_rfl)) ?_
    refine gF hM90 (.load 25 (.tmp 9)) (some 39) (by kernel_rfl) (Y_load 0 rfl (off := 0) (by kernel_rfl) (.agg #[.bool (spL (nl) (nk) (nv) (nc)), .slice Ar60_4 (spBk (nl) (nk) (nv) (nc)).length cr60_4, .slice Ar60_5 (spBv (nl) (nk) (nv) (nc)).length cr60_5, .slice Ar60_6 (spBc (nl) (nk) (nv) (nc)).length cr60_6]) (by kernel_rfl)) ?_
    refine wpF_callP hM90 (f := 21) (caps := #[]) (h := (by kernel_rfl : opAt _ _ _ _ _ = some (.call (.mk (.value (.func 21)) #[(.tmp 38), (.tmp 39)] #[25, 25]), some 40))) (by kernel_rfl) (by kernel_rfl) (by kernel_rfl) (f21 _ _ hM90.inW (spL (nl) (nk) (nv) (nc)) Ar29_4 cr29_4 (spBk (nl) (nk) (nv) (nc)) (r33.up (le58.trans le89)) Ar29_5 cr29_5 (spBv (nl) (nk) (nv) (nc)) (r34.up (le58.trans le89)) Ar29_6 cr29_6 (spBc (nl) (nk) (nv) (nc)) (r35.up (le58.trans le89)) (spL (nl) (nk) (nv) (nc)) Ar60_4 cr60_4 (spBk (nl) (nk) (nv) (nc)) (r64.up le89) Ar60_5 cr60_5 (spBv (nl) (nk) (nv) (nc)) (r65.up le89) Ar60_6 cr60_6 (spBc (nl) (nk) (nv) (nc)) (r66.up le89)) (fun v92 V93 w94 le95 hM96 hp97 => ?_)
    obtain rfl := hp97
    refine wpF_seg 2 (by kernel_rfl) ?_
    refine wpF_slot 42 (.bool (decide ((spL (nl) (nk) (nv) (nc)) = (spL (nl) (nk) (nv) (nc)) ∧ (spBk (nl) (nk) (nv) (nc)) = (spBk (nl) (nk) (nv) (nc)) ∧ (spBv (nl) (nk) (nv) (nc)) = (spBv (nl) (nk) (nv) (nc)) ∧ (spBc (nl) (nk) (nv) (nc)) = (spBc (nl) (nk) (nv) (nc))))) (.bool true) (by kernel_rfl) (by kernel_rfl) (by rw [(decide_eq_true ⟨rfl, rfl, rfl, rfl⟩ : (decide ((spL (nl) (nk) (nv) (nc)) = (spL (nl) (nk) (nv) (nc)) ∧ (spBk (nl) (nk) (nv) (nc)) = (spBk (nl) (nk) (nv) (nc)) ∧ (spBv (nl) (nk) (nv) (nc)) = (spBv (nl) (nk) (nv) (nc)) ∧ (spBc (nl) (nk) (nv) (nc)) = (spBc (nl) (nk) (nv) (nc)))) = true)]) ?_
    refine wpF_seg 2 (by kernel_rfl) ?_
    refine gF hM96 (.binOp .eql 4 (.tmp 43) (.tmp 44) 4) (some 45) (by kernel_rfl) (Y_eql (.bool (splitOk (nl) (nk) (nv) (nc))) (.bool (splitOk (nl) (nk) (nv) (nc))) ((splitOk (nl) (nk) (nv) (nc)) == (splitOk (nl) (nk) (nv) (nc))) (by kernel_rfl) (by kernel_rfl) (by kernel_rfl)) ?_
    refine wpF_seg 2 (by kernel_rfl) ?_
    refine wpF_slot 47 (.bool ((splitOk (nl) (nk) (nv) (nc)) == (splitOk (nl) (nk) (nv) (nc)))) (.bool true) (by kernel_rfl) (by kernel_rfl) (by rw [(beq_self_eq_true (splitOk (nl) (nk) (nv) (nc)))]) ?_
    refine wpF_callP hM96 (f := 12) (caps := #[]) (h := (by kernel_rfl : opAt _ _ _ _ _ = some (.call (.mk (.value (.func 12)) #[] #[]), some 48))) (by kernel_rfl) (by kernel_rfl) (by kernel_rfl) (f12 _ _ hM96.inW ) (fun v98 V99 w100 le101 hM102 hp103 => ?_)
    obtain rfl := hp103
    refine wpF_seg 2 (by kernel_rfl) ?_
    refine wpF_end _ (by kernel_rfl) (then_n (hK85 _ _ ?_))
    refine wp_ret ?_
    refine retN [.bool (true)] (.bool (true)) Try.results4 (.tmp (by kernel_rfl) (by kernel_rfl) .nil) (by kernel_rfl) (hRet _ _ ⟨_, _, rfl, hM102.clear, ?_⟩)
    -- end f
    rfl

end Go.Vk
