/- Contracts of the page's functions, part E: printed by wip/tools/p8.py. -/
import Derived.Test.YtpaljghjoajhfaaRPlain
set_option linter.unusedVariables false
set_option linter.unusedSimpArgs false
namespace Go.Vk
open Go.Proofs
set_option maxHeartbeats 4000000 in
set_option maxRecDepth 100000 in
theorem f16 (V : VT) (w : World) (hV : V.inW w) (nl : Bool) (Ank : Option Addr) (cnk : Nat) (nk : List Str) (hnk : Rd strK V Ank cnk nk) (Anv : Option Addr) (cnv : Nat) (nv : List Str) (hnv : Rd strK V Anv cnv nv) (Anc : Option Addr) (cnc : Nat) (nc : List Int) (hnc : Rd (intK .i64) V Anc cnc nc) (hk : nk.length ≤ 4096) (hv : nv.length ≤ 4096) :
    Calls Try.prog 16 #[.agg #[.bool (nl), .slice Ank (nk).length cnk, .slice Anv (nv).length cnv, .slice Anc (nc).length cnc]] w (RetP V w fun rv V' => rv = .int .i64 (sizeM nl nk nv)) := by
  have mxnk : nk.length ≤ 140737488355328 := hnk.max
  have mxnv : nv.length ≤ 140737488355328 := hnv.max
  have mxnc : nc.length ≤ 140737488355328 := hnc.max
  refine calls_env (n := 48) Try.func16 (c := _) rfl Try.ntmps16 (by kernel_rfl) (fun R hRet => ?_)
  have hM0 : Step V w [] V w [] := Step.refl (St.nilE hV)
  cases nl with
  | false =>
    refine wp_seq_k (fun K1 hK1 => ?_)
    refine wp_reg ?_
    refine wpF_box hM0 #[.bool (false), .slice Ank (nk).length cnk, .slice Anv (nv).length cnv, .slice Anc (nc).length cnc] (h := (by kernel_rfl : opAt _ _ _ _ _ = some (.box 25 (.tmp 0), some 1))) (by kernel_rfl) (fun b2 w3 hM4 => ?_)
    refine wpF_seg 1 (by kernel_rfl) ?_
    refine wpF_end _ (by kernel_rfl) (then_n (hK1 _ _ ?_))
    refine wp_seq_k (fun K5 hK5 => ?_)
    refine wp_reg ?_
    refine wpF_seg 1 (by kernel_rfl) ?_
    refine wpF_end _ (by kernel_rfl) (then_n (hK5 _ _ ?_))
    refine wp_seq_k (fun K6 hK6 => ?_)
    refine wp_seq_k (fun K7 hK7 => ?_)
    refine wp_reg ?_
    refine wpF_seg 1 (by kernel_rfl) ?_
    refine wpF_end _ (by kernel_rfl) (then_n (hK7 _ _ ?_))
    refine wp_block ?_
    refine wp_base [(1, .pointer (some ⟨b2, 0, none⟩)), (2, .int .i64 (0)), (3, .int .i64 (refK false nk (0))), (4, .int .i64 ((0 : Int)))] (by kernel_rfl) (fun g9 => ?_)
    refine wp_loopX (fun (x_ : Nat) a_ w_ => ∃ (g : Nat → Value) (V_ : VT), a_ = env 48 [(1, .pointer (some ⟨b2, 0, none⟩)), (2, .int .i64 (0)), (3, .int .i64 (refK false nk (x_))), (4, .int .i64 ((x_ : Int)))] g ∧ Step V w [] V_ w_ [.blk b2 (.cells #[.bool (false), .slice Ank (nk).length cnk, .slice Anv (nv).length cnv, .slice Anc (nc).length cnc] 25)] ∧ VT.le V V_ ∧ (x_ ≤ nk.length) ∧ (0 ≤ refK false nk (x_) ∧ refK false nk (x_) ≤ 3 + 140737488355333 * (x_ : Int))) (fun (x_ : Nat) => nk.length - x_) (0) ⟨g9, V, rfl, hM4, VT.le.refl _, by omega, by simp [refK]⟩ ?_
    rintro k a_ w11 ⟨g10, Vl8, rfl, hM12, le13, hi14_0, hi14_1⟩ K14 hK14
    refine wp_seq_k (fun K15 hK15 => ?_)
    refine wp_seq_k (fun K16 hK16 => ?_)
    refine wp_reg ?_
    refine wpF_seg 2 (by kernel_rfl) ?_
    refine gF hM12 (.load 22 (.tmp 7)) (some 8) (by kernel_rfl) (Y_load 0 rfl (off := 1) (by kernel_rfl) (.slice Ank (nk).length cnk) (by kernel_rfl)) ?_
    refine wpF_seg 2 (by kernel_rfl) ?_
    refine wpF_end _ (by kernel_rfl) (then_n (hK16 _ _ ?_))
    refine wp_if (decide (((k : Int)) < ((nk.length : Int)))) (by kernel_rfl) (fun h17 => ?_) (fun h17 => ?_)
    · -- FLt
      have p18 : (((k : Int)) < ((nk.length : Int))) := of_decide_eq_true h17
      refine wp_skip (then_n (hK15 _ _ ?_))
      refine wp_seq_k (fun K19 hK19 => ?_)
      refine wp_block ?_
      refine wp_seq_k (fun K20 hK20 => ?_)
      refine wp_reg ?_
      refine wpF_seg 2 (by kernel_rfl) ?_
      refine gF hM12 (.load 22 (.tmp 14)) (some 15) (by kernel_rfl) (Y_load 0 rfl (off := 1) (by kernel_rfl) (.slice Ank (nk).length cnk) (by kernel_rfl)) ?_
      refine wpF_seg 1 (by kernel_rfl) ?_
      refine gF_index (A := Ank) (c := cnk) (hnk.up hM12.le) .i64 ((k : Int)) (h := (by kernel_rfl : opAt _ _ _ _ _ = some (.indexAddr 22 (.tmp 15) (.tmp 16), some 17))) (e := 9) (by kernel_rfl) (by kernel_rfl) (by kernel_rfl) (k) rfl (by omega) (fun b21 o22 at_b21 => ?_)
      have c23 : Vl8 b21 o22 = some (bs (nk.getD (k) [])) := (At.str at_b21).1
      have l24 : (nk.getD (k) []).length ≤ 140737488355328 := (At.str at_b21).2
      refine gF hM12 (.load 9 (.tmp 17)) (some 18) (by kernel_rfl) (Y_loadV c23 (by kernel_rfl) (by kernel_rfl)) ?_
      refine wpF_seg 1 (by kernel_rfl) ?_
      refine gF hM12 (.binOp .add 3 (.tmp 13) (.tmp 19) 3) (some 20) (by kernel_rfl) (Y_add .i64 (refK false nk (k)) ((((nk.getD (k) [])).length : Int)) ((refK false nk (k)) + ((((nk.getD (k) [])).length : Int))) (by kernel_rfl) (by kernel_rfl) (wrap64_ok _ (by omega))) ?_
      refine wpF_seg 1 (by kernel_rfl) ?_
      refine wpF_end _ (by kernel_rfl) (then_n (hK20 _ _ ?_))
      refine wp_seq_k (fun K25 hK25 => ?_)
      refine wp_reg ?_
      refine wpF_seg 1 (by kernel_rfl) ?_
      refine gF hM12 (.load 4 (.tmp 21)) (some 22) (by kernel_rfl) (Y_load 0 rfl (off := 0) (by kernel_rfl) (.bool (false)) (by kernel_rfl)) ?_
      refine wpF_end _ (by kernel_rfl) (then_n (hK25 _ _ ?_))
      refine wp_cf (by kernel_rfl) ?_
      refine wp_reg ?_
      refine wpF_seg 1 (by kernel_rfl) ?_
      refine gF hM12 (.binOp .add 3 (.tmp 25) (.const (.int .i64 5)) 3) (some 26) (by kernel_rfl) (Y_add .i64 ((refK false nk (k)) + ((((nk.getD (k) [])).length : Int))) (5) (((refK false nk (k)) + ((((nk.getD (k) [])).length : Int))) + 5) (by kernel_rfl) (by kernel_rfl) (wrap64_ok _ (by omega))) ?_
      refine wpF_seg 1 (by kernel_rfl) ?_
      refine wpF_end _ (by kernel_rfl) (blk_n (then_n (hK19 _ _ ?_)))
      refine wp_reg ?_
      refine wpF_seg 1 (by kernel_rfl) ?_
      refine gF hM12 (.binOp .add 3 (.tmp 11) (.const (.int .i64 1)) 3) (some 12) (by kernel_rfl) (Y_add .i64 ((k : Int)) (1) ((k : Int) + 1) (by kernel_rfl) (by kernel_rfl) (wrap64_ok _ (by omega))) ?_
      refine wpF_seg 1 (by kernel_rfl) ?_
      refine wpF_base [(1, .pointer (some ⟨b2, 0, none⟩)), (2, .int .i64 (0)), (3, .int .i64 (refK false nk (k + 1))), (4, .int .i64 ((k + 1 : Int)))] (by kernel_rfl) (fun g26 => ?_)
      refine wpF_end _ (by kernel_rfl) (then_n (hK14 _ _ (k + 1) (by omega) ?_))
      refine ⟨g26, Vl8, rfl, hM12, hM12.le, ?_, ?_⟩
      · -- FLt inv 0
        omega
      · -- FLt inv 1
        simp only [refK, cond_true, cond_false]; omega
    · -- FLf
      have p27 : ¬ (((k : Int)) < ((nk.length : Int))) := of_decide_eq_false h17
      refine wp_exit (then_x (then_x (blk_hit (then_n (hK6 _ _ ?_)))))
      obtain rfl : k = nk.length := by omega
      refine wp_seq_k (fun K28 hK28 => ?_)
      refine wp_seq_k (fun K29 hK29 => ?_)
      refine wp_reg ?_
      refine wpF_seg 1 (by kernel_rfl) ?_
      refine gF hM12 (.load 4 (.tmp 27)) (some 28) (by kernel_rfl) (Y_load 0 rfl (off := 0) (by kernel_rfl) (.bool (false)) (by kernel_rfl)) ?_
      refine wpF_seg 1 (by kernel_rfl) ?_
      refine wpF_end _ (by kernel_rfl) (then_n (hK29 _ _ ?_))
      refine wp_ct (by kernel_rfl) ?_
      refine wp_seq_k (fun K30 hK30 => ?_)
      refine wp_reg ?_
      refine wpF_seg 1 (by kernel_rfl) ?_
      refine gF hM12 (.binOp .add 3 (.tmp 30) (.const (.int .i64 4)) 3) (some 31) (by kernel_rfl) (Y_add .i64 (refK false nk ((nk.length))) (4) ((refK false nk ((nk.length))) + 4) (by kernel_rfl) (by kernel_rfl) (wrap64_ok _ (by omega))) ?_
      refine wpF_seg 1 (by kernel_rfl) ?_
      refine wpF_end _ (by kernel_rfl) (then_n (hK30 _ _ ?_))
      refine wp_ret (then_r (?_))
      refine retN [.int .i64 ((refK false nk ((nk.length))) + 4)] (.int .i64 ((refK false nk ((nk.length))) + 4)) Try.results16 (.tmp (by kernel_rfl) (by kernel_rfl) .nil) (by kernel_rfl) (hRet _ _ ⟨_, _, rfl, hM12.clear, ?_⟩)
      -- end FLf
      simp only [sizeM, cond_false, cond_true, refK_eq, refV_eq]
  | true =>
    refine wp_seq_k (fun K31 hK31 => ?_)
    refine wp_reg ?_
    refine wpF_box hM0 #[.bool (true), .slice Ank (nk).length cnk, .slice Anv (nv).length cnv, .slice Anc (nc).length cnc] (h := (by kernel_rfl : opAt _ _ _ _ _ = some (.box 25 (.tmp 0), some 1))) (by kernel_rfl) (fun b32 w33 hM34 => ?_)
    refine wpF_seg 1 (by kernel_rfl) ?_
    refine wpF_end _ (by kernel_rfl) (then_n (hK31 _ _ ?_))
    refine wp_seq_k (fun K35 hK35 => ?_)
    refine wp_reg ?_
    refine wpF_seg 1 (by kernel_rfl) ?_
    refine wpF_end _ (by kernel_rfl) (then_n (hK35 _ _ ?_))
    refine wp_seq_k (fun K36 hK36 => ?_)
    refine wp_seq_k (fun K37 hK37 => ?_)
    refine wp_reg ?_
    refine wpF_seg 1 (by kernel_rfl) ?_
    refine wpF_end _ (by kernel_rfl) (then_n (hK37 _ _ ?_))
    refine wp_block ?_
    refine wp_base [(1, .pointer (some ⟨b32, 0, none⟩)), (2, .int .i64 (0)), (3, .int .i64 (refK true nk (0))), (4, .int .i64 ((0 : Int)))] (by kernel_rfl) (fun g39 => ?_)
    refine wp_loopX (fun (x_ : Nat) a_ w_ => ∃ (g : Nat → Value) (V_ : VT), a_ = env 48 [(1, .pointer (some ⟨b32, 0, none⟩)), (2, .int .i64 (0)), (3, .int .i64 (refK true nk (x_))), (4, .int .i64 ((x_ : Int)))] g ∧ Step V w [] V_ w_ [.blk b32 (.cells #[.bool (true), .slice Ank (nk).length cnk, .slice Anv (nv).length cnv, .slice Anc (nc).length cnc] 25)] ∧ VT.le V V_ ∧ (x_ ≤ nk.length) ∧ (0 ≤ refK true nk (x_) ∧ refK true nk (x_) ≤ 3 + 140737488355333 * (x_ : Int))) (fun (x_ : Nat) => nk.length - x_) (0) ⟨g39, V, rfl, hM34, VT.le.refl _, by omega, by simp [refK]⟩ ?_
    rintro k a_ w41 ⟨g40, Vl38, rfl, hM42, le43, hi44_0, hi44_1⟩ K44 hK44
    refine wp_seq_k (fun K45 hK45 => ?_)
    refine wp_seq_k (fun K46 hK46 => ?_)
    refine wp_reg ?_
    refine wpF_seg 2 (by kernel_rfl) ?_
    refine gF hM42 (.load 22 (.tmp 7)) (some 8) (by kernel_rfl) (Y_load 0 rfl (off := 1) (by kernel_rfl) (.slice Ank (nk).length cnk) (by kernel_rfl)) ?_
    refine wpF_seg 2 (by kernel_rfl) ?_
    refine wpF_end _ (by kernel_rfl) (then_n (hK46 _ _ ?_))
    refine wp_if (decide (((k : Int)) < ((nk.length : Int)))) (by kernel_rfl) (fun h47 => ?_) (fun h47 => ?_)
    · -- TLt
      have p48 : (((k : Int)) < ((nk.length : Int))) := of_decide_eq_true h47
      refine wp_skip (then_n (hK45 _ _ ?_))
      refine wp_seq_k (fun K49 hK49 => ?_)
      refine wp_block ?_
      refine wp_seq_k (fun K50 hK50 => ?_)
      refine wp_reg ?_
      refine wpF_seg 2 (by kernel_rfl) ?_
      refine gF hM42 (.load 22 (.tmp 14)) (some 15) (by kernel_rfl) (Y_load 0 rfl (off := 1) (by kernel_rfl) (.slice Ank (nk).length cnk) (by kernel_rfl)) ?_
      refine wpF_seg 1 (by kernel_rfl) ?_
      refine gF_index (A := Ank) (c := cnk) (hnk.up hM42.le) .i64 ((k : Int)) (h := (by kernel_rfl : opAt _ _ _ _ _ = some (.indexAddr 22 (.tmp 15) (.tmp 16), some 17))) (e := 9) (by kernel_rfl) (by kernel_rfl) (by kernel_rfl) (k) rfl (by omega) (fun b51 o52 at_b51 => ?_)
      have c53 : Vl38 b51 o52 = some (bs (nk.getD (k) [])) := (At.str at_b51).1
      have l54 : (nk.getD (k) []).length ≤ 140737488355328 := (At.str at_b51).2
      refine gF hM42 (.load 9 (.tmp 17)) (some 18) (by kernel_rfl) (Y_loadV c53 (by kernel_rfl) (by kernel_rfl)) ?_
      refine wpF_seg 1 (by kernel_rfl) ?_
      refine gF hM42 (.binOp .add 3 (.tmp 13) (.tmp 19) 3) (some 20) (by kernel_rfl) (Y_add .i64 (refK true nk (k)) ((((nk.getD (k) [])).length : Int)) ((refK true nk (k)) + ((((nk.getD (k) [])).length : Int))) (by kernel_rfl) (by kernel_rfl) (wrap64_ok _ (by omega))) ?_
      refine wpF_seg 1 (by kernel_rfl) ?_
      refine wpF_end _ (by kernel_rfl) (then_n (hK50 _ _ ?_))
      refine wp_seq_k (fun K55 hK55 => ?_)
      refine wp_reg ?_
      refine wpF_seg 1 (by kernel_rfl) ?_
      refine gF hM42 (.load 4 (.tmp 21)) (some 22) (by kernel_rfl) (Y_load 0 rfl (off := 0) (by kernel_rfl) (.bool (true)) (by kernel_rfl)) ?_
      refine wpF_end _ (by kernel_rfl) (then_n (hK55 _ _ ?_))
      refine wp_ct (by kernel_rfl) ?_
      refine wp_reg ?_
      refine wpF_seg 1 (by kernel_rfl) ?_
      refine gF hM42 (.binOp .add 3 (.tmp 23) (.const (.int .i64 3)) 3) (some 24) (by kernel_rfl) (Y_add .i64 ((refK true nk (k)) + ((((nk.getD (k) [])).length : Int))) (3) (((refK true nk (k)) + ((((nk.getD (k) [])).length : Int))) + 3) (by kernel_rfl) (by kernel_rfl) (wrap64_ok _ (by omega))) ?_
      refine wpF_seg 1 (by kernel_rfl) ?_
      refine wpF_end _ (by kernel_rfl) (blk_n (then_n (hK49 _ _ ?_)))
      refine wp_reg ?_
      refine wpF_seg 1 (by kernel_rfl) ?_
      refine gF hM42 (.binOp .add 3 (.tmp 11) (.const (.int .i64 1)) 3) (some 12) (by kernel_rfl) (Y_add .i64 ((k : Int)) (1) ((k : Int) + 1) (by kernel_rfl) (by kernel_rfl) (wrap64_ok _ (by omega))) ?_
      refine wpF_seg 1 (by kernel_rfl) ?_
      refine wpF_base [(1, .pointer (some ⟨b32, 0, none⟩)), (2, .int .i64 (0)), (3, .int .i64 (refK true nk (k + 1))), (4, .int .i64 ((k + 1 : Int)))] (by kernel_rfl) (fun g56 => ?_)
      refine wpF_end _ (by kernel_rfl) (then_n (hK44 _ _ (k + 1) (by omega) ?_))
      refine ⟨g56, Vl38, rfl, hM42, hM42.le, ?_, ?_⟩
      · -- TLt inv 0
        omega
      · -- TLt inv 1
        simp only [refK, cond_true, cond_false]; omega
    · -- TLf
      have p57 : ¬ (((k : Int)) < ((nk.length : Int))) := of_decide_eq_false h47
      refine wp_exit (then_x (then_x (blk_hit (then_n (hK36 _ _ ?_)))))
      obtain rfl : k = nk.length := by omega
      refine wp_seq_k (fun K58 hK58 => ?_)
      refine wp_seq_k (fun K59 hK59 => ?_)
      refine wp_reg ?_
      refine wpF_seg 1 (by kernel_rfl) ?_
      refine gF hM42 (.load 4 (.tmp 27)) (some 28) (by kernel_rfl) (Y_load 0 rfl (off := 0) (by kernel_rfl) (.bool (true)) (by kernel_rfl)) ?_
      refine wpF_seg 1 (by kernel_rfl) ?_
      refine wpF_end _ (by kernel_rfl) (then_n (hK59 _ _ ?_))
      refine wp_cf (by kernel_rfl) ?_
      refine wp_skip (then_n (hK58 _ _ ?_))
      refine wp_seq_k (fun K60 hK60 => ?_)
      refine wp_seq_k (fun K61 hK61 => ?_)
      refine wp_reg ?_
      refine wpF_seg 1 (by kernel_rfl) ?_
      refine wpF_end _ (by kernel_rfl) (then_n (hK61 _ _ ?_))
      refine wp_block ?_
      refine wp_base [(1, .pointer (some ⟨b32, 0, none⟩)), (2, .int .i64 (0)), (3, .int .i64 (refV true nk nv (0))), (5, .int .i64 ((0 : Int)))] (by kernel_rfl) (fun g63 => ?_)
      refine wp_loopX (fun (x_ : Nat) a_ w_ => ∃ (g : Nat → Value) (V_ : VT), a_ = env 48 [(1, .pointer (some ⟨b32, 0, none⟩)), (2, .int .i64 (0)), (3, .int .i64 (refV true nk nv (x_))), (5, .int .i64 ((x_ : Int)))] g ∧ Step V w [] V_ w_ [.blk b32 (.cells #[.bool (true), .slice Ank (nk).length cnk, .slice Anv (nv).length cnv, .slice Anc (nc).length cnc] 25)] ∧ VT.le Vl38 V_ ∧ (x_ ≤ nv.length) ∧ (0 ≤ refV true nk nv (x_) ∧ refV true nk nv (x_) ≤ 3 + 140737488355333 * 4096 + 140737488355333 * (x_ : Int))) (fun (x_ : Nat) => nv.length - x_) (0) ⟨g63, Vl38, rfl, hM42, VT.le.refl _, by omega, by simp only [refV]; omega⟩ ?_
      rintro j a_ w65 ⟨g64, Vl62, rfl, hM66, le67, hi68_0, hi68_1⟩ K68 hK68
      refine wp_seq_k (fun K69 hK69 => ?_)
      refine wp_seq_k (fun K70 hK70 => ?_)
      refine wp_reg ?_
      refine wpF_seg 2 (by kernel_rfl) ?_
      refine gF hM66 (.load 22 (.tmp 33)) (some 34) (by kernel_rfl) (Y_load 0 rfl (off := 2) (by kernel_rfl) (.slice Anv (nv).length cnv) (by kernel_rfl)) ?_
      refine wpF_seg 2 (by kernel_rfl) ?_
      refine wpF_end _ (by kernel_rfl) (then_n (hK70 _ _ ?_))
      refine wp_if (decide (((j : Int)) < ((nv.length : Int)))) (by kernel_rfl) (fun h71 => ?_) (fun h71 => ?_)
      · -- TLfLt
        have p72 : (((j : Int)) < ((nv.length : Int))) := of_decide_eq_true h71
        refine wp_skip (then_n (hK69 _ _ ?_))
        refine wp_seq_k (fun K73 hK73 => ?_)
        refine wp_block ?_
        refine wp_reg ?_
        refine wpF_seg 2 (by kernel_rfl) ?_
        refine gF hM66 (.load 22 (.tmp 40)) (some 41) (by kernel_rfl) (Y_load 0 rfl (off := 2) (by kernel_rfl) (.slice Anv (nv).length cnv) (by kernel_rfl)) ?_
        refine wpF_seg 1 (by kernel_rfl) ?_
        refine gF_index (A := Anv) (c := cnv) (hnv.up hM66.le) .i64 ((j : Int)) (h := (by kernel_rfl : opAt _ _ _ _ _ = some (.indexAddr 22 (.tmp 41) (.tmp 42), some 43))) (e := 9) (by kernel_rfl) (by kernel_rfl) (by kernel_rfl) (j) rfl (by omega) (fun b74 o75 at_b74 => ?_)
        have c76 : Vl62 b74 o75 = some (bs (nv.getD (j) [])) := (At.str at_b74).1
        have l77 : (nv.getD (j) []).length ≤ 140737488355328 := (At.str at_b74).2
        refine gF hM66 (.load 9 (.tmp 43)) (some 44) (by kernel_rfl) (Y_loadV c76 (by kernel_rfl) (by kernel_rfl)) ?_
        refine wpF_seg 1 (by kernel_rfl) ?_
        refine gF hM66 (.binOp .add 3 (.tmp 39) (.tmp 45) 3) (some 46) (by kernel_rfl) (Y_add .i64 (refV true nk nv (j)) ((((nv.getD (j) [])).length : Int)) ((refV true nk nv (j)) + ((((nv.getD (j) [])).length : Int))) (by kernel_rfl) (by kernel_rfl) (wrap64_ok _ (by omega))) ?_
        refine wpF_seg 1 (by kernel_rfl) ?_
        refine wpF_end _ (by kernel_rfl) (blk_n (then_n (hK73 _ _ ?_)))
        refine wp_reg ?_
        refine wpF_seg 1 (by kernel_rfl) ?_
        refine gF hM66 (.binOp .add 3 (.tmp 37) (.const (.int .i64 1)) 3) (some 38) (by kernel_rfl) (Y_add .i64 ((j : Int)) (1) ((j : Int) + 1) (by kernel_rfl) (by kernel_rfl) (wrap64_ok _ (by omega))) ?_
        refine wpF_seg 1 (by kernel_rfl) ?_
        refine wpF_base [(1, .pointer (some ⟨b32, 0, none⟩)), (2, .int .i64 (0)), (3, .int .i64 (refV true nk nv (j + 1))), (5, .int .i64 ((j + 1 : Int)))] (by kernel_rfl) (fun g78 => ?_)
        refine wpF_end _ (by kernel_rfl) (then_n (hK68 _ _ (j + 1) (by omega) ?_))
        refine ⟨g78, Vl62, rfl, hM66, le67, ?_, ?_⟩
        · -- TLfLt inv 0
          omega
        · -- TLfLt inv 1
          simp only [refV]; omega
      · -- TLfLf
        have p79 : ¬ (((j : Int)) < ((nv.length : Int))) := of_decide_eq_false h71
        refine wp_exit (then_x (then_x (blk_hit (then_n (hK60 _ _ ?_)))))
        obtain rfl : j = nv.length := by omega
        refine wp_seq_k (fun K80 hK80 => ?_)
        refine wp_reg ?_
        refine wpF_seg 2 (by kernel_rfl) ?_
        refine wpF_end _ (by kernel_rfl) (then_n (hK80 _ _ ?_))
        refine wp_ret ?_
        refine retN [.int .i64 (refV true nk nv ((nv.length)))] (.int .i64 (refV true nk nv ((nv.length)))) Try.results16 (.tmp (by kernel_rfl) (by kernel_rfl) .nil) (by kernel_rfl) (hRet _ _ ⟨_, _, rfl, hM66.clear, ?_⟩)
        -- end TLfLf
        simp only [sizeM, cond_false, cond_true, refK_eq, refV_eq]

end Go.Vk
