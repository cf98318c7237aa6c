/- Contracts of the page's functions, part H: printed by wip/tools/p8.py. -/
import Derived.Test.YtpaljghjoajhfaaRB
import Derived.Test.YtpaljghjoajhfaaRE
import Derived.Test.YtpaljghjoajhfaaRG
set_option linter.unusedVariables false
set_option linter.unusedSimpArgs false
namespace Go.Vk
open Go.Proofs
set_option maxHeartbeats 4000000 in
set_option maxRecDepth 100000 in
theorem f17 (V : VT) (w : World) (hV : V.inW w) (nl : Bool) (Ank : Option Addr) (cnk : Nat) (nk : List Str) (hnk : Rd strK V Ank cnk nk) (Anv : Option Addr) (cnv : Nat) (nv : List Str) (hnv : Rd strK V Anv cnv nv) (Anc : Option Addr) (cnc : Nat) (nc : List Int) (hnc : Rd (intK .i64) V Anc cnc nc) (hk : nk.length ≤ 4096) (hv : nv.length ≤ 4096) :
    Calls Try.prog 17 #[.agg #[.bool (nl), .slice Ank (nk).length cnk, .slice Anv (nv).length cnv, .slice Anc (nc).length cnc]] w (RetP V w fun rv V' => rv = .int .i64 (checkM nl nk nv nc)) := by
  have mxnk : nk.length ≤ 140737488355328 := hnk.max
  have mxnv : nv.length ≤ 140737488355328 := hnv.max
  have mxnc : nc.length ≤ 140737488355328 := hnc.max
  refine calls_env (n := 11) Try.func17 (c := _) rfl Try.ntmps17 (by kernel_rfl) (fun R hRet => ?_)
  have hM0 : Step V w [] V w [] := Step.refl (St.nilE hV)
  refine wp_seq_k (fun K1 hK1 => ?_)
  refine wp_reg ?_
  refine wpF_box hM0 #[.bool (nl), .slice Ank (nk).length cnk, .slice Anv (nv).length cnv, .slice Anc (nc).length cnc] (h := (by kernel_rfl : opAt _ _ _ _ _ = some (.box 25 (.tmp 0), some 1))) (by kernel_rfl) (fun b2 w3 hM4 => ?_)
  refine wpF_seg 1 (by kernel_rfl) ?_
  refine wpF_end _ (by kernel_rfl) (then_n (hK1 _ _ ?_))
  refine wp_seq_k (fun K5 hK5 => ?_)
  refine wp_block ?_
  refine wp_seq_k (fun K6 hK6 => ?_)
  refine wp_reg ?_
  refine gF hM4 (.load 25 (.tmp 1)) (some 4) (by kernel_rfl) (Y_load 0 rfl (off := 0) (by kernel_rfl) (.agg #[.bool (nl), .slice Ank (nk).length cnk, .slice Anv (nv).length cnv, .slice Anc (nc).length cnc]) (by kernel_rfl)) ?_
  refine wpF_callP hM4 (f := 34) (caps := #[]) (h := (by kernel_rfl : opAt _ _ _ _ _ = some (.call (.mk (.value (.func 34)) #[(.tmp 4)] #[25]), some 5))) (by kernel_rfl) (by kernel_rfl) (by kernel_rfl) (f34 _ _ hM4.inW (nl) Ank cnk (nk) hnk Anv cnv (nv) hnv Anc cnc (nc) hnc) (fun v7 V8 w9 le10 hM11 hp12 => ?_)
  obtain rfl := hp12
  refine wpF_seg 2 (by kernel_rfl) ?_
  refine wpF_end _ (by kernel_rfl) (then_n (hK6 _ _ ?_))
  refine wp_if (!(stands (nl) (nk) (nv) (nc))) (by kernel_rfl) (fun h13 => ?_) (fun h13 => ?_)
  · -- t
    have h14 : (stands (nl) (nk) (nv) (nc)) = false := by simpa using h13
    refine wp_seq_k (fun K15 hK15 => ?_)
    refine wp_reg ?_
    refine wpF_seg 1 (by kernel_rfl) ?_
    refine wpF_end _ (by kernel_rfl) (then_n (hK15 _ _ ?_))
    refine wp_ret (blk_r (then_r (?_)))
    refine retN [.int .i64 (2)] (.int .i64 (2)) Try.results17 (.tmp (by kernel_rfl) (by kernel_rfl) .nil) (by kernel_rfl) (hRet _ _ ⟨_, _, rfl, hM11.clear, ?_⟩)
    -- end t
    simp only [checkM, h13, h14, cond_true, cond_false]
  · -- f
    have h16 : (stands (nl) (nk) (nv) (nc)) = true := by simpa using h13
    refine wp_seq_k (fun K17 hK17 => ?_)
    refine wp_reg ?_
    refine gF hM11 (.load 25 (.tmp 1)) (some 8) (by kernel_rfl) (Y_load 0 rfl (off := 0) (by kernel_rfl) (.agg #[.bool (nl), .slice Ank (nk).length cnk, .slice Anv (nv).length cnv, .slice Anc (nc).length cnc]) (by kernel_rfl)) ?_
    refine wpF_callP hM11 (f := 15) (caps := #[]) (h := (by kernel_rfl : opAt _ _ _ _ _ = some (.call (.mk (.value (.func 15)) #[(.tmp 8)] #[25]), some 9))) (by kernel_rfl) (by kernel_rfl) (by kernel_rfl) (f15 _ _ hM11.inW (nl) Ank cnk (nk) (hnk.up hM11.le) Anv cnv (nv) (hnv.up hM11.le) Anc cnc (nc) (hnc.up hM11.le) (by omega) (by omega)) (fun v18 V19 w20 le21 hM22 hp23 => ?_)
    obtain rfl := hp23
    refine wpF_seg 2 (by kernel_rfl) ?_
    refine wpF_end _ (by kernel_rfl) (then_n (hK17 _ _ ?_))
    refine wp_if (decide ((1024) < (sizeM (nl) (nk) (nv)))) (by kernel_rfl) (fun h24 => ?_) (fun h24 => ?_)
    · -- ft
      have p25 : ((1024) < (sizeM (nl) (nk) (nv))) := of_decide_eq_true h24
      refine wp_seq_k (fun K26 hK26 => ?_)
      refine wp_reg ?_
      refine wpF_seg 1 (by kernel_rfl) ?_
      refine wpF_end _ (by kernel_rfl) (then_n (hK26 _ _ ?_))
      refine wp_ret (blk_r (then_r (?_)))
      refine retN [.int .i64 (5)] (.int .i64 (5)) Try.results17 (.tmp (by kernel_rfl) (by kernel_rfl) .nil) (by kernel_rfl) (hRet _ _ ⟨_, _, rfl, hM22.clear, ?_⟩)
      -- end ft
      simp only [checkM, h13, h16, h24, cond_true, cond_false]
    · -- ff
      have p27 : ¬ ((1024) < (sizeM (nl) (nk) (nv))) := of_decide_eq_false h24
      refine wp_skip (blk_n (then_n (hK5 _ _ ?_)))
      refine wp_seq_k (fun K28 hK28 => ?_)
      refine wp_reg ?_
      refine wpF_seg 1 (by kernel_rfl) ?_
      refine wpF_end _ (by kernel_rfl) (then_n (hK28 _ _ ?_))
      refine wp_ret ?_
      refine retN [.int .i64 (0)] (.int .i64 (0)) Try.results17 (.tmp (by kernel_rfl) (by kernel_rfl) .nil) (by kernel_rfl) (hRet _ _ ⟨_, _, rfl, hM22.clear, ?_⟩)
      -- end ff
      simp only [checkM, h13, h16, h24, cond_true, cond_false]

set_option maxHeartbeats 4000000 in
set_option maxRecDepth 100000 in
theorem f18 (V : VT) (w : World) (hV : V.inW w) (nl : Bool) (Ank : Option Addr) (cnk : Nat) (nk : List Str) (hnk : Rd strK V Ank cnk nk) (Anv : Option Addr) (cnv : Nat) (nv : List Str) (hnv : Rd strK V Anv cnv nv) (Anc : Option Addr) (cnc : Nat) (nc : List Int) (hnc : Rd (intK .i64) V Anc cnc nc) (hk : nk.length ≤ 4096) (hv : nv.length ≤ 4096) :
    Calls Try.prog 18 #[.agg #[.bool (nl), .slice Ank (nk).length cnk, .slice Anv (nv).length cnv, .slice Anc (nc).length cnc]] w (RetP V w fun rv V' => rv = .int .i64 (checkM nl nk nv nc)) := by
  have mxnk : nk.length ≤ 140737488355328 := hnk.max
  have mxnv : nv.length ≤ 140737488355328 := hnv.max
  have mxnc : nc.length ≤ 140737488355328 := hnc.max
  refine calls_env (n := 9) Try.func18 (c := _) rfl Try.ntmps18 (by kernel_rfl) (fun R hRet => ?_)
  have hM0 : Step V w [] V w [] := Step.refl (St.nilE hV)
  refine wp_seq_k (fun K1 hK1 => ?_)
  refine wp_reg ?_
  refine wpF_box hM0 #[.bool (nl), .slice Ank (nk).length cnk, .slice Anv (nv).length cnv, .slice Anc (nc).length cnc] (h := (by kernel_rfl : opAt _ _ _ _ _ = some (.box 25 (.tmp 0), some 1))) (by kernel_rfl) (fun b2 w3 hM4 => ?_)
  refine wpF_seg 1 (by kernel_rfl) ?_
  refine wpF_end _ (by kernel_rfl) (then_n (hK1 _ _ ?_))
  refine wp_seq_k (fun K5 hK5 => ?_)
  refine wp_seq_k (fun K6 hK6 => ?_)
  refine wp_reg ?_
  refine gF hM4 (.load 25 (.tmp 1)) (some 3) (by kernel_rfl) (Y_load 0 rfl (off := 0) (by kernel_rfl) (.agg #[.bool (nl), .slice Ank (nk).length cnk, .slice Anv (nv).length cnv, .slice Anc (nc).length cnc]) (by kernel_rfl)) ?_
  refine wpF_callP hM4 (f := 35) (caps := #[]) (h := (by kernel_rfl : opAt _ _ _ _ _ = some (.call (.mk (.value (.func 35)) #[(.tmp 3)] #[25]), some 4))) (by kernel_rfl) (by kernel_rfl) (by kernel_rfl) (f35 _ _ hM4.inW (nl) Ank cnk (nk) hnk Anv cnv (nv) hnv Anc cnc (nc) hnc) (fun v7 V8 w9 le10 hM11 hp12 => ?_)
  obtain rfl := hp12
  refine wpF_seg 1 (by kernel_rfl) ?_
  refine wpF_end _ (by kernel_rfl) (then_n (hK6 _ _ ?_))
  refine wp_if (!(stands (nl) (nk) (nv) (nc))) (by kernel_rfl) (fun h13 => ?_) (fun h13 => ?_)
  · -- t
    have h14 : (stands (nl) (nk) (nv) (nc)) = false := by simpa using h13
    refine wp_seq_k (fun K15 hK15 => ?_)
    refine wp_reg ?_
    refine wpF_seg 1 (by kernel_rfl) ?_
    refine wpF_end _ (by kernel_rfl) (then_n (hK15 _ _ ?_))
    refine wp_ret (then_r (?_))
    refine retN [.int .i64 (2)] (.int .i64 (2)) Try.results18 (.tmp (by kernel_rfl) (by kernel_rfl) .nil) (by kernel_rfl) (hRet _ _ ⟨_, _, rfl, hM11.clear, ?_⟩)
    -- end t
    simp only [checkM, h13, h14, cond_true, cond_false]
  · -- f
    have h16 : (stands (nl) (nk) (nv) (nc)) = true := by simpa using h13
    refine wp_skip (then_n (hK5 _ _ ?_))
    refine wp_seq_k (fun K17 hK17 => ?_)
    refine wp_seq_k (fun K18 hK18 => ?_)
    refine wp_reg ?_
    refine gF hM11 (.load 25 (.tmp 1)) (some 6) (by kernel_rfl) (Y_load 0 rfl (off := 0) (by kernel_rfl) (.agg #[.bool (nl), .slice Ank (nk).length cnk, .slice Anv (nv).length cnv, .slice Anc (nc).length cnc]) (by kernel_rfl)) ?_
    refine wpF_callP hM11 (f := 16) (caps := #[]) (h := (by kernel_rfl : opAt _ _ _ _ _ = some (.call (.mk (.value (.func 16)) #[(.tmp 6)] #[25]), some 7))) (by kernel_rfl) (by kernel_rfl) (by kernel_rfl) (f16 _ _ hM11.inW (nl) Ank cnk (nk) (hnk.up hM11.le) Anv cnv (nv) (hnv.up hM11.le) Anc cnc (nc) (hnc.up hM11.le) (by omega) (by omega)) (fun v19 V20 w21 le22 hM23 hp24 => ?_)
    obtain rfl := hp24
    refine wpF_seg 1 (by kernel_rfl) ?_
    refine wpF_end _ (by kernel_rfl) (then_n (hK18 _ _ ?_))
    refine wp_if (decide ((1024) < (sizeM (nl) (nk) (nv)))) (by kernel_rfl) (fun h25 => ?_) (fun h25 => ?_)
    · -- ft
      have p26 : ((1024) < (sizeM (nl) (nk) (nv))) := of_decide_eq_true h25
      refine wp_seq_k (fun K27 hK27 => ?_)
      refine wp_reg ?_
      refine wpF_seg 1 (by kernel_rfl) ?_
      refine wpF_end _ (by kernel_rfl) (then_n (hK27 _ _ ?_))
      refine wp_ret (then_r (?_))
      refine retN [.int .i64 (5)] (.int .i64 (5)) Try.results18 (.tmp (by kernel_rfl) (by kernel_rfl) .nil) (by kernel_rfl) (hRet _ _ ⟨_, _, rfl, hM23.clear, ?_⟩)
      -- end ft
      simp only [checkM, h13, h16, h25, cond_true, cond_false]
    · -- ff
      have p28 : ¬ ((1024) < (sizeM (nl) (nk) (nv))) := of_decide_eq_false h25
      refine wp_skip (then_n (hK17 _ _ ?_))
      refine wp_seq_k (fun K29 hK29 => ?_)
      refine wp_reg ?_
      refine wpF_seg 1 (by kernel_rfl) ?_
      refine wpF_end _ (by kernel_rfl) (then_n (hK29 _ _ ?_))
      refine wp_ret ?_
      refine retN [.int .i64 (0)] (.int .i64 (0)) Try.results18 (.tmp (by kernel_rfl) (by kernel_rfl) .nil) (by kernel_rfl) (hRet _ _ ⟨_, _, rfl, hM23.clear, ?_⟩)
      -- end ff
      simp only [checkM, h13, h16, h25, cond_true, cond_false]

set_option maxHeartbeats 4000000 in
set_option maxRecDepth 100000 in
theorem f11 (V : VT) (w : World) (hV : V.inW w) (nl : Bool) (Ank : Option Addr) (cnk : Nat) (nk : List Str) (hnk : Rd strK V Ank cnk nk) (Anv : Option Addr) (cnv : Nat) (nv : List Str) (hnv : Rd strK V Anv cnv nv) (Anc : Option Addr) (cnc : Nat) (nc : List Int) (hnc : Rd (intK .i64) V Anc cnc nc) :
    Calls Try.prog 11 #[.agg #[.bool (nl), .slice Ank (nk).length cnk, .slice Anv (nv).length cnv, .slice Anc (nc).length cnc]] w (RetP V w fun rv V' => rv = .bool (fewM nk nv nc)) := by
  have mxnk : nk.length ≤ 140737488355328 := hnk.max
  have mxnv : nv.length ≤ 140737488355328 := hnv.max
  have mxnc : nc.length ≤ 140737488355328 := hnc.max
  refine calls_env (n := 19) Try.func11 (c := _) rfl Try.ntmps11 (by kernel_rfl) (fun R hRet => ?_)
  have hM0 : Step V w [] V w [] := Step.refl (St.nilE hV)
  refine wp_seq_k (fun K1 hK1 => ?_)
  refine wp_reg ?_
  refine wpF_box hM0 #[.bool (nl), .slice Ank (nk).length cnk, .slice Anv (nv).length cnv, .slice Anc (nc).length cnc] (h := (by kernel_rfl : opAt _ _ _ _ _ = some (.box 25 (.tmp 0), some 1))) (by kernel_rfl) (fun b2 w3 hM4 => ?_)
  refine wpF_seg 1 (by kernel_rfl) ?_
  refine wpF_end _ (by kernel_rfl) (then_n (hK1 _ _ ?_))
  refine wp_seq_k (fun K5 hK5 => ?_)
  refine wp_reg ?_
  refine wpF_seg 1 (by kernel_rfl) ?_
  refine gF hM4 (.load 22 (.tmp 3)) (some 4) (by kernel_rfl) (Y_load 0 rfl (off := 1) (by kernel_rfl) (.slice Ank (nk).length cnk) (by kernel_rfl)) ?_
  refine wpF_seg 3 (by kernel_rfl) ?_
  refine wpF_caseB 7 (decide (((nk.length : Int)) ≤ (500))) (by kernel_rfl) (by kernel_rfl) (fun h6 => ?_) (fun h6 => ?_)
  · -- t
    have p7 : (((nk.length : Int)) ≤ (500)) := of_decide_eq_true h6
    refine wpF_seg 1 (by kernel_rfl) ?_
    refine gF hM4 (.load 22 (.tmp 8)) (some 9) (by kernel_rfl) (Y_load 0 rfl (off := 2) (by kernel_rfl) (.slice Anv (nv).length cnv) (by kernel_rfl)) ?_
    refine wpF_seg 4 (by kernel_rfl) ?_
    refine wpF_caseB 13 (decide (((nv.length : Int)) ≤ (500))) (by kernel_rfl) (by kernel_rfl) (fun h8 => ?_) (fun h8 => ?_)
    · -- tt
      have p9 : (((nv.length : Int)) ≤ (500)) := of_decide_eq_true h8
      refine wpF_seg 1 (by kernel_rfl) ?_
      refine gF hM4 (.load 23 (.tmp 14)) (some 15) (by kernel_rfl) (Y_load 0 rfl (off := 3) (by kernel_rfl) (.slice Anc (nc).length cnc) (by kernel_rfl)) ?_
      refine wpF_seg 4 (by kernel_rfl) ?_
      refine wpF_end _ (by kernel_rfl) (then_n (hK5 _ _ ?_))
      refine wp_ret ?_
      refine retN [.bool (decide (((nc.length : Int)) ≤ (500)))] (.bool (decide (((nc.length : Int)) ≤ (500)))) Try.results11 (.tmp (by kernel_rfl) (by kernel_rfl) .nil) (by kernel_rfl) (hRet _ _ ⟨_, _, rfl, hM4.clear, ?_⟩)
      -- end tt
      simp only [fewM, h6, h8, Bool.true_and, Bool.and_true, Bool.false_and, Bool.and_false]
    · -- tf
      have p10 : ¬ (((nv.length : Int)) ≤ (500)) := of_decide_eq_false h8
      refine wpF_seg 6 (by kernel_rfl) ?_
      refine wpF_end _ (by kernel_rfl) (then_n (hK5 _ _ ?_))
      refine wp_ret ?_
      refine retN [.bool (false)] (.bool (false)) Try.results11 (.tmp (by kernel_rfl) (by kernel_rfl) .nil) (by kernel_rfl) (hRet _ _ ⟨_, _, rfl, hM4.clear, ?_⟩)
      -- end tf
      simp only [fewM, h6, h8, Bool.true_and, Bool.and_true, Bool.false_and, Bool.and_false]
  · -- f
    have p11 : ¬ (((nk.length : Int)) ≤ (500)) := of_decide_eq_false h6
    refine wpF_seg 12 (by kernel_rfl) ?_
    refine wpF_end _ (by kernel_rfl) (then_n (hK5 _ _ ?_))
    refine wp_ret ?_
    refine retN [.bool (false)] (.bool (false)) Try.results11 (.tmp (by kernel_rfl) (by kernel_rfl) .nil) (by kernel_rfl) (hRet _ _ ⟨_, _, rfl, hM4.clear, ?_⟩)
    -- end f
    simp only [fewM, h6, Bool.true_and, Bool.and_true, Bool.false_and, Bool.and_false]

end Go.Vk
