/- Contracts of the page's functions, part B: printed by wip/tools/p8.py. -/
import Derived.Test.YtpaljghjoajhfaaRA
set_option linter.unusedVariables false
set_option linter.unusedSimpArgs false
namespace Go.Vk
open Go.Proofs
set_option maxHeartbeats 4000000 in
set_option maxRecDepth 100000 in
theorem f34 (V : VT) (w : World) (hV : V.inW w) (nl : Bool) (Ank : Option Addr) (cnk : Nat) (nk : List Str) (hnk : Rd strK V Ank cnk nk) (Anv : Option Addr) (cnv : Nat) (nv : List Str) (hnv : Rd strK V Anv cnv nv) (Anc : Option Addr) (cnc : Nat) (nc : List Int) (hnc : Rd (intK .i64) V Anc cnc nc) :
    Calls Try.prog 34 #[.agg #[.bool (nl), .slice Ank (nk).length cnk, .slice Anv (nv).length cnv, .slice Anc (nc).length cnc]] w (RetP V w fun rv V' => rv = .bool (stands nl nk nv nc)) := by
  have mxnk : nk.length ≤ 140737488355328 := hnk.max
  have mxnv : nv.length ≤ 140737488355328 := hnv.max
  have mxnc : nc.length ≤ 140737488355328 := hnc.max
  refine calls_env (n := 76) Try.func34 (c := _) rfl Try.ntmps34 (by kernel_rfl) (fun R hRet => ?_)
  have hM0 : Step V w [] V w [] := Step.refl (St.nilE hV)
  cases nl with
  | false =>
    refine wp_seq_k (fun K1 hK1 => ?_)
    refine wp_reg ?_
    refine wpF_box hM0 #[.bool (false), .slice Ank (nk).length cnk, .slice Anv (nv).length cnv, .slice Anc (nc).length cnc] (h := (by kernel_rfl : opAt _ _ _ _ _ = some (.box 25 (.tmp 0), some 1))) (by kernel_rfl) (fun b2 w3 hM4 => ?_)
    refine wpF_seg 1 (by kernel_rfl) ?_
    refine wpF_end _ (by kernel_rfl) (then_n (hK1 _ _ ?_))
    refine wp_seq_k (fun K5 hK5 => ?_)
    refine wp_seq_k (fun K6 hK6 => ?_)
    refine wp_reg ?_
    refine wpF_seg 1 (by kernel_rfl) ?_
    refine gF hM4 (.load 22 (.tmp 7)) (some 8) (by kernel_rfl) (Y_load 0 rfl (off := 1) (by kernel_rfl) (.slice Ank (nk).length cnk) (by kernel_rfl)) ?_
    refine wpF_seg 2 (by kernel_rfl) ?_
    refine wpF_end _ (by kernel_rfl) (then_n (hK6 _ _ ?_))
    refine wp_block ?_
    refine wp_base [(1, .pointer (some ⟨b2, 0, none⟩)), (8, .slice Ank (nk).length cnk), (9, .int .i64 ((nk.length : Int))), (10, .int .i64 ((0 : Int)))] (by kernel_rfl) (fun g8 => ?_)
    refine wp_loopX (fun (x_ : Nat) a_ w_ => ∃ (g : Nat → Value) (V_ : VT), a_ = env 76 [(1, .pointer (some ⟨b2, 0, none⟩)), (8, .slice Ank (nk).length cnk), (9, .int .i64 ((nk.length : Int))), (10, .int .i64 ((x_ : Int)))] g ∧ Step V w [] V_ w_ [.blk b2 (.cells #[.bool (false), .slice Ank (nk).length cnk, .slice Anv (nv).length cnv, .slice Anc (nc).length cnc] 25)] ∧ VT.le V V_ ∧ (x_ ≤ nk.length) ∧ (upTo nk (x_) = true)) (fun (x_ : Nat) => nk.length - x_) (0) ⟨g8, V, rfl, hM4, VT.le.refl _, by omega, by rfl⟩ ?_
    rintro k a_ w10 ⟨g9, Vl7, rfl, hM11, le12, hi13_0, hi13_1⟩ K13 hK13
    refine wp_seq_k (fun K14 hK14 => ?_)
    refine wp_reg ?_
    refine wpF_seg 1 (by kernel_rfl) ?_
    refine wpF_end _ (by kernel_rfl) (then_n (hK14 _ _ ?_))
    refine wp_seq_k (fun K15 hK15 => ?_)
    refine wp_if (decide (((k : Int)) < ((nk.length : Int)))) (by kernel_rfl) (fun h16 => ?_) (fun h16 => ?_)
    · -- FLt
      have p17 : (((k : Int)) < ((nk.length : Int))) := of_decide_eq_true h16
      refine wp_skip (then_n (hK15 _ _ ?_))
      refine wp_seq_k (fun K18 hK18 => ?_)
      refine wp_block ?_
      refine wp_seq_k (fun K19 hK19 => ?_)
      refine wp_reg ?_
      refine wpF_seg 1 (by kernel_rfl) ?_
      refine gF_index (A := Ank) (c := cnk) (hnk.up hM11.le) .i64 ((k : Int)) (h := (by kernel_rfl : opAt _ _ _ _ _ = some (.indexAddr 22 (.tmp 8) (.tmp 10), some 13))) (e := 9) (by kernel_rfl) (by kernel_rfl) (by kernel_rfl) (k) rfl (by omega) (fun b20 o21 at_b20 => ?_)
      have c22 : Vl7 b20 o21 = some (bs (nk.getD (k) [])) := (At.str at_b20).1
      have l23 : (nk.getD (k) []).length ≤ 140737488355328 := (At.str at_b20).2
      refine gF hM11 (.load 9 (.tmp 13)) (some 14) (by kernel_rfl) (Y_loadV c22 (by kernel_rfl) (by kernel_rfl)) ?_
      refine wpF_seg 2 (by kernel_rfl) ?_
      refine wpF_end _ (by kernel_rfl) (then_n (hK19 _ _ ?_))
      refine wp_seq_k (fun K24 hK24 => ?_)
      refine wp_reg ?_
      refine wpF_seg 4 (by kernel_rfl) ?_
      refine wpF_caseB 18 (decide ((128) < ((((nk.getD (k) [])).length : Int)))) (by kernel_rfl) (by kernel_rfl) (fun h25 => ?_) (fun h25 => ?_)
      · -- FLtt
        have p26 : ((128) < ((((nk.getD (k) [])).length : Int))) := of_decide_eq_true h25
        refine wpF_seg 13 (by kernel_rfl) ?_
        refine wpF_end _ (by kernel_rfl) (then_n (hK24 _ _ ?_))
        refine wp_ct (by kernel_rfl) ?_
        refine wp_seq_k (fun K27 hK27 => ?_)
        refine wp_reg ?_
        refine wpF_seg 1 (by kernel_rfl) ?_
        refine wpF_end _ (by kernel_rfl) (then_n (hK27 _ _ ?_))
        refine wp_ret (blk_r (then_r (then_r (blk_r (then_r (?_))))))
        refine retN [.bool (false)] (.bool (false)) Try.results34 (.tmp (by kernel_rfl) (by kernel_rfl) .nil) (by kernel_rfl) (hRet _ _ ⟨_, _, rfl, hM11.clear, ?_⟩)
        -- end FLtt
        first | exact congrArg Value.bool (stands_long (k := k) (by omega) (by assumption)).symm | exact congrArg Value.bool (stands_rise (k := k) (by omega) (by omega) (by assumption)).symm | (rw [stands_all (by assumption)]; simp only [h16, h25, cond_true, cond_false, Bool.true_and, Bool.false_and, Bool.and_false, Bool.not_true, Bool.not_false])
      · -- FLtf
        have p28 : ¬ ((128) < ((((nk.getD (k) [])).length : Int))) := of_decide_eq_false h25
        refine wpF_seg 3 (by kernel_rfl) ?_
        refine wpF_caseB 21 (decide ((0) < ((k : Int)))) (by kernel_rfl) (by kernel_rfl) (fun h29 => ?_) (fun h29 => ?_)
        · -- FLtft
          have p30 : ((0) < ((k : Int))) := of_decide_eq_true h29
          refine wpF_seg 1 (by kernel_rfl) ?_
          refine gF hM11 (.load 22 (.tmp 22)) (some 23) (by kernel_rfl) (Y_load 0 rfl (off := 1) (by kernel_rfl) (.slice Ank (nk).length cnk) (by kernel_rfl)) ?_
          refine wpF_seg 1 (by kernel_rfl) ?_
          refine gF hM11 (.binOp .sub 3 (.tmp 24) (.const (.int .i64 1)) 3) (some 25) (by kernel_rfl) (Y_sub .i64 ((k : Int)) (1) ((k : Int) - 1) (by kernel_rfl) (by kernel_rfl) (wrap64_ok _ (by omega))) ?_
          refine gF_index (A := Ank) (c := cnk) (hnk.up hM11.le) .i64 ((k : Int) - 1) (h := (by kernel_rfl : opAt _ _ _ _ _ = some (.indexAddr 22 (.tmp 23) (.tmp 25), some 26))) (e := 9) (by kernel_rfl) (by kernel_rfl) (by kernel_rfl) (k - 1) (by omega) (by omega) (fun b31 o32 at_b31 => ?_)
          have c33 : Vl7 b31 o32 = some (bs (nk.getD (k - 1) [])) := (At.str at_b31).1
          have l34 : (nk.getD (k - 1) []).length ≤ 140737488355328 := (At.str at_b31).2
          refine gF hM11 (.load 9 (.tmp 26)) (some 27) (by kernel_rfl) (Y_loadV c33 (by kernel_rfl) (by kernel_rfl)) ?_
          refine wpF_seg 4 (by kernel_rfl) ?_
          refine wpF_end _ (by kernel_rfl) (then_n (hK24 _ _ ?_))
          refine wp_if (!(decide (((nk.getD (k - 1) [])) < ((nk.getD (k) []))))) (by kernel_rfl) (fun h35 => ?_) (fun h35 => ?_)
          · -- FLtftt
            have h36 : decide (((nk.getD (k - 1) [])) < ((nk.getD (k) []))) = false := by rw [← Bool.not_not (decide _), h35]; rfl
            have p37 : ¬ (((nk.getD (k - 1) [])) < ((nk.getD (k) []))) := of_decide_eq_false h36
            refine wp_seq_k (fun K38 hK38 => ?_)
            refine wp_reg ?_
            refine wpF_seg 1 (by kernel_rfl) ?_
            refine wpF_end _ (by kernel_rfl) (then_n (hK38 _ _ ?_))
            refine wp_ret (blk_r (then_r (then_r (blk_r (then_r (?_))))))
            refine retN [.bool (false)] (.bool (false)) Try.results34 (.tmp (by kernel_rfl) (by kernel_rfl) .nil) (by kernel_rfl) (hRet _ _ ⟨_, _, rfl, hM11.clear, ?_⟩)
            -- end FLtftt
            first | exact congrArg Value.bool (stands_long (k := k) (by omega) (by assumption)).symm | exact congrArg Value.bool (stands_rise (k := k) (by omega) (by omega) (by assumption)).symm | (rw [stands_all (by assumption)]; simp only [h16, h25, h29, h35, h36, cond_true, cond_false, Bool.true_and, Bool.false_and, Bool.and_false, Bool.not_true, Bool.not_false])
          · -- FLtftf
            have h39 : decide (((nk.getD (k - 1) [])) < ((nk.getD (k) []))) = true := by rw [← Bool.not_not (decide _), h35]; rfl
            have p40 : (((nk.getD (k - 1) [])) < ((nk.getD (k) []))) := of_decide_eq_true h39
            refine wp_skip (blk_n (then_n (hK18 _ _ ?_)))
            refine wp_reg ?_
            refine gF hM11 (.binOp .add 3 (.tmp 10) (.const (.int .i64 1)) 3) (some 32) (by kernel_rfl) (Y_add .i64 ((k : Int)) (1) ((k : Int) + 1) (by kernel_rfl) (by kernel_rfl) (wrap64_ok _ (by omega))) ?_
            refine wpF_seg 1 (by kernel_rfl) ?_
            refine wpF_base [(1, .pointer (some ⟨b2, 0, none⟩)), (8, .slice Ank (nk).length cnk), (9, .int .i64 ((nk.length : Int))), (10, .int .i64 ((k + 1 : Int)))] (by kernel_rfl) (fun g41 => ?_)
            refine wpF_end _ (by kernel_rfl) (then_n (hK13 _ _ (k + 1) (by omega) ?_))
            refine ⟨g41, Vl7, rfl, hM11, hM11.le, ?_, ?_⟩
            · -- FLtftf inv 0
              omega
            · -- FLtftf inv 1
              exact upTo_step (by assumption) (by assumption) (by first | exact .inl (by omega) | exact .inr (by assumption))
        · -- FLtff
          have p42 : ¬ ((0) < ((k : Int))) := of_decide_eq_false h29
          refine wpF_seg 10 (by kernel_rfl) ?_
          refine wpF_end _ (by kernel_rfl) (then_n (hK24 _ _ ?_))
          refine wp_cf (by kernel_rfl) ?_
          refine wp_skip (blk_n (then_n (hK18 _ _ ?_)))
          refine wp_reg ?_
          refine gF hM11 (.binOp .add 3 (.tmp 10) (.const (.int .i64 1)) 3) (some 32) (by kernel_rfl) (Y_add .i64 ((k : Int)) (1) ((k : Int) + 1) (by kernel_rfl) (by kernel_rfl) (wrap64_ok _ (by omega))) ?_
          refine wpF_seg 1 (by kernel_rfl) ?_
          refine wpF_base [(1, .pointer (some ⟨b2, 0, none⟩)), (8, .slice Ank (nk).length cnk), (9, .int .i64 ((nk.length : Int))), (10, .int .i64 ((k + 1 : Int)))] (by kernel_rfl) (fun g43 => ?_)
          refine wpF_end _ (by kernel_rfl) (then_n (hK13 _ _ (k + 1) (by omega) ?_))
          refine ⟨g43, Vl7, rfl, hM11, hM11.le, ?_, ?_⟩
          · -- FLtff inv 0
            omega
          · -- FLtff inv 1
            exact upTo_step (by assumption) (by assumption) (by first | exact .inl (by omega) | exact .inr (by assumption))
    · -- FLf
      have p44 : ¬ (((k : Int)) < ((nk.length : Int))) := of_decide_eq_false h16
      refine wp_exit (then_x (then_x (blk_hit (then_n (hK5 _ _ ?_)))))
      obtain rfl : k = nk.length := by omega
      refine wp_seq_k (fun K45 hK45 => ?_)
      refine wp_seq_k (fun K46 hK46 => ?_)
      refine wp_reg ?_
      refine wpF_seg 1 (by kernel_rfl) ?_
      refine gF hM11 (.load 4 (.tmp 33)) (some 34) (by kernel_rfl) (Y_load 0 rfl (off := 0) (by kernel_rfl) (.bool (false)) (by kernel_rfl)) ?_
      refine wpF_end _ (by kernel_rfl) (then_n (hK46 _ _ ?_))
      refine wp_cf (by kernel_rfl) ?_
      refine wp_skip (then_n (hK45 _ _ ?_))
      refine wp_seq_k (fun K47 hK47 => ?_)
      refine wp_reg ?_
      refine wpF_seg 1 (by kernel_rfl) ?_
      refine wpF_end _ (by kernel_rfl) (then_n (hK47 _ _ ?_))
      refine wp_seq_k (fun K48 hK48 => ?_)
      refine wp_reg ?_
      refine wpF_seg 1 (by kernel_rfl) ?_
      refine gF hM11 (.load 22 (.tmp 55)) (some 56) (by kernel_rfl) (Y_load 0 rfl (off := 2) (by kernel_rfl) (.slice Anv (nv).length cnv) (by kernel_rfl)) ?_
      refine wpF_seg 3 (by kernel_rfl) ?_
      refine wpF_caseB 59 (decide (((nv.length : Int)) = (0))) (by kernel_rfl) (by kernel_rfl) (fun h49 => ?_) (fun h49 => ?_)
      · -- FLft
        have p50 : (((nv.length : Int)) = (0)) := of_decide_eq_true h49
        refine wpF_seg 1 (by kernel_rfl) ?_
        refine gF hM11 (.load 23 (.tmp 60)) (some 61) (by kernel_rfl) (Y_load 0 rfl (off := 3) (by kernel_rfl) (.slice Anc (nc).length cnc) (by kernel_rfl)) ?_
        refine wpF_seg 2 (by kernel_rfl) ?_
        refine gF hM11 (.load 22 (.tmp 63)) (some 64) (by kernel_rfl) (Y_load 0 rfl (off := 1) (by kernel_rfl) (.slice Ank (nk).length cnk) (by kernel_rfl)) ?_
        refine wpF_seg 1 (by kernel_rfl) ?_
        refine gF hM11 (.binOp .add 3 (.tmp 65) (.const (.int .i64 1)) 3) (some 66) (by kernel_rfl) (Y_add .i64 ((nk.length : Int)) (1) ((nk.length : Int) + 1) (by kernel_rfl) (by kernel_rfl) (wrap64_ok _ (by omega))) ?_
        refine wpF_seg 3 (by kernel_rfl) ?_
        refine wpF_caseB 69 (decide (((nc.length : Int)) = ((nk.length : Int) + 1))) (by kernel_rfl) (by kernel_rfl) (fun h51 => ?_) (fun h51 => ?_)
        · -- FLftt
          have p52 : (((nc.length : Int)) = ((nk.length : Int) + 1)) := of_decide_eq_true h51
          refine wpF_seg 1 (by kernel_rfl) ?_
          refine gF hM11 (.load 23 (.tmp 70)) (some 71) (by kernel_rfl) (Y_load 0 rfl (off := 3) (by kernel_rfl) (.slice Anc (nc).length cnc) (by kernel_rfl)) ?_
          refine wpF_seg 1 (by kernel_rfl) ?_
          refine wpF_callP hM11 (f := 61) (caps := #[]) (h := (by kernel_rfl : opAt _ _ _ _ _ = some (.call (.mk (.value (.func 61)) #[(.tmp 71), (.tmp 72)] #[23, 58]), some 73))) (by kernel_rfl) (by kernel_rfl) (by kernel_rfl) (f61 _ _ hM11.inW 60 #[] (by kernel_rfl) (fun (y_ : Int) => (decide (y_ < (0 : Int)) || decide ((16384 : Int) ≤ y_))) Anc cnc (nc) (hnc.up hM11.le) (fun V_ w_ l_ i_ j_ hj_ h_ => f60 V_ w_ i_ ((nc).getD j_ 0))) (fun v53 V54 w55 le56 hM57 hp58 => ?_)
          obtain rfl := hp58
          refine wpF_seg 3 (by kernel_rfl) ?_
          refine wpF_end _ (by kernel_rfl) (then_n (hK48 _ _ ?_))
          refine wp_ret ?_
          refine retN [.bool (!((nc).any (fun (y_ : Int) => (decide (y_ < (0 : Int)) || decide ((16384 : Int) ≤ y_)))))] (.bool (!((nc).any (fun (y_ : Int) => (decide (y_ < (0 : Int)) || decide ((16384 : Int) ≤ y_)))))) Try.results34 (.tmp (by kernel_rfl) (by kernel_rfl) .nil) (by kernel_rfl) (hRet _ _ ⟨_, _, rfl, hM57.clear, ?_⟩)
          -- end FLftt
          first | exact congrArg Value.bool (stands_long (k := k) (by omega) (by assumption)).symm | exact congrArg Value.bool (stands_rise (k := k) (by omega) (by omega) (by assumption)).symm | (rw [stands_all (by assumption)]; simp only [h16, h49, h51, cond_true, cond_false, Bool.true_and, Bool.false_and, Bool.and_false, Bool.not_true, Bool.not_false])
        · -- FLftf
          have p59 : ¬ (((nc.length : Int)) = ((nk.length : Int) + 1)) := of_decide_eq_false h51
          refine wpF_seg 7 (by kernel_rfl) ?_
          refine wpF_end _ (by kernel_rfl) (then_n (hK48 _ _ ?_))
          refine wp_ret ?_
          refine retN [.bool (false)] (.bool (false)) Try.results34 (.tmp (by kernel_rfl) (by kernel_rfl) .nil) (by kernel_rfl) (hRet _ _ ⟨_, _, rfl, hM11.clear, ?_⟩)
          -- end FLftf
          first | exact congrArg Value.bool (stands_long (k := k) (by omega) (by assumption)).symm | exact congrArg Value.bool (stands_rise (k := k) (by omega) (by omega) (by assumption)).symm | (rw [stands_all (by assumption)]; simp only [h16, h49, h51, cond_true, cond_false, Bool.true_and, Bool.false_and, Bool.and_false, Bool.not_true, Bool.not_false])
      · -- FLff
        have p60 : ¬ (((nv.length : Int)) = (0)) := of_decide_eq_false h49
        refine wpF_seg 17 (by kernel_rfl) ?_
        refine wpF_end _ (by kernel_rfl) (then_n (hK48 _ _ ?_))
        refine wp_ret ?_
        refine retN [.bool (false)] (.bool (false)) Try.results34 (.tmp (by kernel_rfl) (by kernel_rfl) .nil) (by kernel_rfl) (hRet _ _ ⟨_, _, rfl, hM11.clear, ?_⟩)
        -- end FLff
        first | exact congrArg Value.bool (stands_long (k := k) (by omega) (by assumption)).symm | exact congrArg Value.bool (stands_rise (k := k) (by omega) (by omega) (by assumption)).symm | (rw [stands_all (by assumption)]; simp only [h16, h49, cond_true, cond_false, Bool.true_and, Bool.false_and, Bool.and_false, Bool.not_true, Bool.not_false])
  | true =>
    refine wp_seq_k (fun K61 hK61 => ?_)
    refine wp_reg ?_
    refine wpF_box hM0 #[.bool (true), .slice Ank (nk).length cnk, .slice Anv (nv).length cnv, .slice Anc (nc).length cnc] (h := (by kernel_rfl : opAt _ _ _ _ _ = some (.box 25 (.tmp 0), some 1))) (by kernel_rfl) (fun b62 w63 hM64 => ?_)
    refine wpF_seg 1 (by kernel_rfl) ?_
    refine wpF_end _ (by kernel_rfl) (then_n (hK61 _ _ ?_))
    refine wp_seq_k (fun K65 hK65 => ?_)
    refine wp_seq_k (fun K66 hK66 => ?_)
    refine wp_reg ?_
    refine wpF_seg 1 (by kernel_rfl) ?_
    refine gF hM64 (.load 22 (.tmp 7)) (some 8) (by kernel_rfl) (Y_load 0 rfl (off := 1) (by kernel_rfl) (.slice Ank (nk).length cnk) (by kernel_rfl)) ?_
    refine wpF_seg 2 (by kernel_rfl) ?_
    refine wpF_end _ (by kernel_rfl) (then_n (hK66 _ _ ?_))
    refine wp_block ?_
    refine wp_base [(1, .pointer (some ⟨b62, 0, none⟩)), (8, .slice Ank (nk).length cnk), (9, .int .i64 ((nk.length : Int))), (10, .int .i64 ((0 : Int)))] (by kernel_rfl) (fun g68 => ?_)
    refine wp_loopX (fun (x_ : Nat) a_ w_ => ∃ (g : Nat → Value) (V_ : VT), a_ = env 76 [(1, .pointer (some ⟨b62, 0, none⟩)), (8, .slice Ank (nk).length cnk), (9, .int .i64 ((nk.length : Int))), (10, .int .i64 ((x_ : Int)))] g ∧ Step V w [] V_ w_ [.blk b62 (.cells #[.bool (true), .slice Ank (nk).length cnk, .slice Anv (nv).length cnv, .slice Anc (nc).length cnc] 25)] ∧ VT.le V V_ ∧ (x_ ≤ nk.length) ∧ (upTo nk (x_) = true)) (fun (x_ : Nat) => nk.length - x_) (0) ⟨g68, V, rfl, hM64, VT.le.refl _, by omega, by rfl⟩ ?_
    rintro k a_ w70 ⟨g69, Vl67, rfl, hM71, le72, hi73_0, hi73_1⟩ K73 hK73
    refine wp_seq_k (fun K74 hK74 => ?_)
    refine wp_reg ?_
    refine wpF_seg 1 (by kernel_rfl) ?_
    refine wpF_end _ (by kernel_rfl) (then_n (hK74 _ _ ?_))
    refine wp_seq_k (fun K75 hK75 => ?_)
    refine wp_if (decide (((k : Int)) < ((nk.length : Int)))) (by kernel_rfl) (fun h76 => ?_) (fun h76 => ?_)
    · -- TLt
      have p77 : (((k : Int)) < ((nk.length : Int))) := of_decide_eq_true h76
      refine wp_skip (then_n (hK75 _ _ ?_))
      refine wp_seq_k (fun K78 hK78 => ?_)
      refine wp_block ?_
      refine wp_seq_k (fun K79 hK79 => ?_)
      refine wp_reg ?_
      refine wpF_seg 1 (by kernel_rfl) ?_
      refine gF_index (A := Ank) (c := cnk) (hnk.up hM71.le) .i64 ((k : Int)) (h := (by kernel_rfl : opAt _ _ _ _ _ = some (.indexAddr 22 (.tmp 8) (.tmp 10), some 13))) (e := 9) (by kernel_rfl) (by kernel_rfl) (by kernel_rfl) (k) rfl (by omega) (fun b80 o81 at_b80 => ?_)
      have c82 : Vl67 b80 o81 = some (bs (nk.getD (k) [])) := (At.str at_b80).1
      have l83 : (nk.getD (k) []).length ≤ 140737488355328 := (At.str at_b80).2
      refine gF hM71 (.load 9 (.tmp 13)) (some 14) (by kernel_rfl) (Y_loadV c82 (by kernel_rfl) (by kernel_rfl)) ?_
      refine wpF_seg 2 (by kernel_rfl) ?_
      refine wpF_end _ (by kernel_rfl) (then_n (hK79 _ _ ?_))
      refine wp_seq_k (fun K84 hK84 => ?_)
      refine wp_reg ?_
      refine wpF_seg 4 (by kernel_rfl) ?_
      refine wpF_caseB 18 (decide ((128) < ((((nk.getD (k) [])).length : Int)))) (by kernel_rfl) (by kernel_rfl) (fun h85 => ?_) (fun h85 => ?_)
      · -- TLtt
        have p86 : ((128) < ((((nk.getD (k) [])).length : Int))) := of_decide_eq_true h85
        refine wpF_seg 13 (by kernel_rfl) ?_
        refine wpF_end _ (by kernel_rfl) (then_n (hK84 _ _ ?_))
        refine wp_ct (by kernel_rfl) ?_
        refine wp_seq_k (fun K87 hK87 => ?_)
        refine wp_reg ?_
        refine wpF_seg 1 (by kernel_rfl) ?_
        refine wpF_end _ (by kernel_rfl) (then_n (hK87 _ _ ?_))
        refine wp_ret (blk_r (then_r (then_r (blk_r (then_r (?_))))))
        refine retN [.bool (false)] (.bool (false)) Try.results34 (.tmp (by kernel_rfl) (by kernel_rfl) .nil) (by kernel_rfl) (hRet _ _ ⟨_, _, rfl, hM71.clear, ?_⟩)
        -- end TLtt
        first | exact congrArg Value.bool (stands_long (k := k) (by omega) (by assumption)).symm | exact congrArg Value.bool (stands_rise (k := k) (by omega) (by omega) (by assumption)).symm | (rw [stands_all (by assumption)]; simp only [h76, h85, cond_true, cond_false, Bool.true_and, Bool.false_and, Bool.and_false, Bool.not_true, Bool.not_false])
      · -- TLtf
        have p88 : ¬ ((128) < ((((nk.getD (k) [])).length : Int))) := of_decide_eq_false h85
        refine wpF_seg 3 (by kernel_rfl) ?_
        refine wpF_caseB 21 (decide ((0) < ((k : Int)))) (by kernel_rfl) (by kernel_rfl) (fun h89 => ?_) (fun h89 => ?_)
        · -- TLtft
          have p90 : ((0) < ((k : Int))) := of_decide_eq_true h89
          refine wpF_seg 1 (by kernel_rfl) ?_
          refine gF hM71 (.load 22 (.tmp 22)) (some 23) (by kernel_rfl) (Y_load 0 rfl (off := 1) (by kernel_rfl) (.slice Ank (nk).length cnk) (by kernel_rfl)) ?_
          refine wpF_seg 1 (by kernel_rfl) ?_
          refine gF hM71 (.binOp .sub 3 (.tmp 24) (.const (.int .i64 1)) 3) (some 25) (by kernel_rfl) (Y_sub .i64 ((k : Int)) (1) ((k : Int) - 1) (by kernel_rfl) (by kernel_rfl) (wrap64_ok _ (by omega))) ?_
          refine gF_index (A := Ank) (c := cnk) (hnk.up hM71.le) .i64 ((k : Int) - 1) (h := (by kernel_rfl : opAt _ _ _ _ _ = some (.indexAddr 22 (.tmp 23) (.tmp 25), some 26))) (e := 9) (by kernel_rfl) (by kernel_rfl) (by kernel_rfl) (k - 1) (by omega) (by omega) (fun b91 o92 at_b91 => ?_)
          have c93 : Vl67 b91 o92 = some (bs (nk.getD (k - 1) [])) := (At.str at_b91).1
          have l94 : (nk.getD (k - 1) []).length ≤ 140737488355328 := (At.str at_b91).2
          refine gF hM71 (.load 9 (.tmp 26)) (some 27) (by kernel_rfl) (Y_loadV c93 (by kernel_rfl) (by kernel_rfl)) ?_
          refine wpF_seg 4 (by kernel_rfl) ?_
          refine wpF_end _ (by kernel_rfl) (then_n (hK84 _ _ ?_))
          refine wp_if (!(decide (((nk.getD (k - 1) [])) < ((nk.getD (k) []))))) (by kernel_rfl) (fun h95 => ?_) (fun h95 => ?_)
          · -- TLtftt
            have h96 : decide (((nk.getD (k - 1) [])) < ((nk.getD (k) []))) = false := by rw [← Bool.not_not (decide _), h95]; rfl
            have p97 : ¬ (((nk.getD (k - 1) [])) < ((nk.getD (k) []))) := of_decide_eq_false h96
            refine wp_seq_k (fun K98 hK98 => ?_)
            refine wp_reg ?_
            refine wpF_seg 1 (by kernel_rfl) ?_
            refine wpF_end _ (by kernel_rfl) (then_n (hK98 _ _ ?_))
            refine wp_ret (blk_r (then_r (then_r (blk_r (then_r (?_))))))
            refine retN [.bool (false)] (.bool (false)) Try.results34 (.tmp (by kernel_rfl) (by kernel_rfl) .nil) (by kernel_rfl) (hRet _ _ ⟨_, _, rfl, hM71.clear, ?_⟩)
            -- end TLtftt
            first | exact congrArg Value.bool (stands_long (k := k) (by omega) (by assumption)).symm | exact congrArg Value.bool (stands_rise (k := k) (by omega) (by omega) (by assumption)).symm | (rw [stands_all (by assumption)]; simp only [h76, h85, h89, h95, h96, cond_true, cond_false, Bool.true_and, Bool.false_and, Bool.and_false, Bool.not_true, Bool.not_false])
          · -- TLtftf
            have h99 : decide (((nk.getD (k - 1) [])) < ((nk.getD (k) []))) = true := by rw [← Bool.not_not (decide _), h95]; rfl
            have p100 : (((nk.getD (k - 1) [])) < ((nk.getD (k) []))) := of_decide_eq_true h99
            refine wp_skip (blk_n (then_n (hK78 _ _ ?_)))
            refine wp_reg ?_
            refine gF hM71 (.binOp .add 3 (.tmp 10) (.const (.int .i64 1)) 3) (some 32) (by kernel_rfl) (Y_add .i64 ((k : Int)) (1) ((k : Int) + 1) (by kernel_rfl) (by kernel_rfl) (wrap64_ok _ (by omega))) ?_
            refine wpF_seg 1 (by kernel_rfl) ?_
            refine wpF_base [(1, .pointer (some ⟨b62, 0, none⟩)), (8, .slice Ank (nk).length cnk), (9, .int .i64 ((nk.length : Int))), (10, .int .i64 ((k + 1 : Int)))] (by kernel_rfl) (fun g101 => ?_)
            refine wpF_end _ (by kernel_rfl) (then_n (hK73 _ _ (k + 1) (by omega) ?_))
            refine ⟨g101, Vl67, rfl, hM71, hM71.le, ?_, ?_⟩
            · -- TLtftf inv 0
              omega
            · -- TLtftf inv 1
              exact upTo_step (by assumption) (by assumption) (by first | exact .inl (by omega) | exact .inr (by assumption))
        · -- TLtff
          have p102 : ¬ ((0) < ((k : Int))) := of_decide_eq_false h89
          refine wpF_seg 10 (by kernel_rfl) ?_
          refine wpF_end _ (by kernel_rfl) (then_n (hK84 _ _ ?_))
          refine wp_cf (by kernel_rfl) ?_
          refine wp_skip (blk_n (then_n (hK78 _ _ ?_)))
          refine wp_reg ?_
          refine gF hM71 (.binOp .add 3 (.tmp 10) (.const (.int .i64 1)) 3) (some 32) (by kernel_rfl) (Y_add .i64 ((k : Int)) (1) ((k : Int) + 1) (by kernel_rfl) (by kernel_rfl) (wrap64_ok _ (by omega))) ?_
          refine wpF_seg 1 (by kernel_rfl) ?_
          refine wpF_base [(1, .pointer (some ⟨b62, 0, none⟩)), (8, .slice Ank (nk).length cnk), (9, .int .i64 ((nk.length : Int))), (10, .int .i64 ((k + 1 : Int)))] (by kernel_rfl) (fun g103 => ?_)
          refine wpF_end _ (by kernel_rfl) (then_n (hK73 _ _ (k + 1) (by omega) ?_))
          refine ⟨g103, Vl67, rfl, hM71, hM71.le, ?_, ?_⟩
          · -- TLtff inv 0
            omega
          · -- TLtff inv 1
            exact upTo_step (by assumption) (by assumption) (by first | exact .inl (by omega) | exact .inr (by assumption))
    · -- TLf
      have p104 : ¬ (((k : Int)) < ((nk.length : Int))) := of_decide_eq_false h76
      refine wp_exit (then_x (then_x (blk_hit (then_n (hK65 _ _ ?_)))))
      obtain rfl : k = nk.length := by omega
      refine wp_seq_k (fun K105 hK105 => ?_)
      refine wp_seq_k (fun K106 hK106 => ?_)
      refine wp_reg ?_
      refine wpF_seg 1 (by kernel_rfl) ?_
      refine gF hM71 (.load 4 (.tmp 33)) (some 34) (by kernel_rfl) (Y_load 0 rfl (off := 0) (by kernel_rfl) (.bool (true)) (by kernel_rfl)) ?_
      refine wpF_end _ (by kernel_rfl) (then_n (hK106 _ _ ?_))
      refine wp_ct (by kernel_rfl) ?_
      refine wp_seq_k (fun K107 hK107 => ?_)
      refine wp_reg ?_
      refine wpF_seg 1 (by kernel_rfl) ?_
      refine wpF_end _ (by kernel_rfl) (then_n (hK107 _ _ ?_))
      refine wp_seq_k (fun K108 hK108 => ?_)
      refine wp_reg ?_
      refine wpF_seg 1 (by kernel_rfl) ?_
      refine gF hM71 (.load 22 (.tmp 35)) (some 36) (by kernel_rfl) (Y_load 0 rfl (off := 2) (by kernel_rfl) (.slice Anv (nv).length cnv) (by kernel_rfl)) ?_
      refine wpF_seg 2 (by kernel_rfl) ?_
      refine gF hM71 (.load 22 (.tmp 38)) (some 39) (by kernel_rfl) (Y_load 0 rfl (off := 1) (by kernel_rfl) (.slice Ank (nk).length cnk) (by kernel_rfl)) ?_
      refine wpF_seg 3 (by kernel_rfl) ?_
      refine wpF_caseB 42 (decide (((nv.length : Int)) = ((nk.length : Int)))) (by kernel_rfl) (by kernel_rfl) (fun h109 => ?_) (fun h109 => ?_)
      · -- TLft
        have p110 : (((nv.length : Int)) = ((nk.length : Int))) := of_decide_eq_true h109
        refine wpF_seg 1 (by kernel_rfl) ?_
        refine gF hM71 (.load 23 (.tmp 43)) (some 44) (by kernel_rfl) (Y_load 0 rfl (off := 3) (by kernel_rfl) (.slice Anc (nc).length cnc) (by kernel_rfl)) ?_
        refine wpF_seg 4 (by kernel_rfl) ?_
        refine wpF_caseB 48 (decide (((nc.length : Int)) = (0))) (by kernel_rfl) (by kernel_rfl) (fun h111 => ?_) (fun h111 => ?_)
        · -- TLftt
          have p112 : (((nc.length : Int)) = (0)) := of_decide_eq_true h111
          refine wpF_seg 1 (by kernel_rfl) ?_
          refine gF hM71 (.load 22 (.tmp 49)) (some 50) (by kernel_rfl) (Y_load 0 rfl (off := 2) (by kernel_rfl) (.slice Anv (nv).length cnv) (by kernel_rfl)) ?_
          refine wpF_seg 1 (by kernel_rfl) ?_
          refine wpF_callP hM71 (f := 59) (caps := #[]) (h := (by kernel_rfl : opAt _ _ _ _ _ = some (.call (.mk (.value (.func 59)) #[(.tmp 50), (.tmp 51)] #[22, 80]), some 52))) (by kernel_rfl) (by kernel_rfl) (by kernel_rfl) (f59 _ _ hM71.inW 58 #[] (by kernel_rfl) (fun (y_ : Str) => decide ((200 : Int) < (y_.length : Int))) Anv cnv (nv) (hnv.up hM71.le) (fun V_ w_ l_ i_ j_ hj_ h_ => f58 V_ w_ i_ ((nv).getD j_ []) h_)) (fun v113 V114 w115 le116 hM117 hp118 => ?_)
          obtain rfl := hp118
          refine wpF_seg 3 (by kernel_rfl) ?_
          refine wpF_end _ (by kernel_rfl) (then_n (hK108 _ _ ?_))
          refine wp_ret (then_r (?_))
          refine retN [.bool (!((nv).any (fun (y_ : Str) => decide ((200 : Int) < (y_.length : Int)))))] (.bool (!((nv).any (fun (y_ : Str) => decide ((200 : Int) < (y_.length : Int)))))) Try.results34 (.tmp (by kernel_rfl) (by kernel_rfl) .nil) (by kernel_rfl) (hRet _ _ ⟨_, _, rfl, hM117.clear, ?_⟩)
          -- end TLftt
          first | exact congrArg Value.bool (stands_long (k := k) (by omega) (by assumption)).symm | exact congrArg Value.bool (stands_rise (k := k) (by omega) (by omega) (by assumption)).symm | (rw [stands_all (by assumption)]; simp only [h109, h111, h76, cond_true, cond_false, Bool.true_and, Bool.false_and, Bool.and_false, Bool.not_true, Bool.not_false])
        · -- TLftf
          have p119 : ¬ (((nc.length : Int)) = (0)) := of_decide_eq_false h111
          refine wpF_seg 7 (by kernel_rfl) ?_
          refine wpF_end _ (by kernel_rfl) (then_n (hK108 _ _ ?_))
          refine wp_ret (then_r (?_))
          refine retN [.bool (false)] (.bool (false)) Try.results34 (.tmp (by kernel_rfl) (by kernel_rfl) .nil) (by kernel_rfl) (hRet _ _ ⟨_, _, rfl, hM71.clear, ?_⟩)
          -- end TLftf
          first | exact congrArg Value.bool (stands_long (k := k) (by omega) (by assumption)).symm | exact congrArg Value.bool (stands_rise (k := k) (by omega) (by omega) (by assumption)).symm | (rw [stands_all (by assumption)]; simp only [h109, h111, h76, cond_true, cond_false, Bool.true_and, Bool.false_and, Bool.and_false, Bool.not_true, Bool.not_false])
      · -- TLff
        have p120 : ¬ (((nv.length : Int)) = ((nk.length : Int))) := of_decide_eq_false h109
        refine wpF_seg 13 (by kernel_rfl) ?_
        refine wpF_end _ (by kernel_rfl) (then_n (hK108 _ _ ?_))
        refine wp_ret (then_r (?_))
        refine retN [.bool (false)] (.bool (false)) Try.results34 (.tmp (by kernel_rfl) (by kernel_rfl) .nil) (by kernel_rfl) (hRet _ _ ⟨_, _, rfl, hM71.clear, ?_⟩)
        -- end TLff
        first | exact congrArg Value.bool (stands_long (k := k) (by omega) (by assumption)).symm | exact congrArg Value.bool (stands_rise (k := k) (by omega) (by omega) (by assumption)).symm | (rw [stands_all (by assumption)]; simp only [h109, h76, cond_true, cond_false, Bool.true_and, Bool.false_and, Bool.and_false, Bool.not_true, Bool.not_false])

set_option maxHeartbeats 4000000 in
set_option maxRecDepth 100000 in
theorem f15 (V : VT) (w : World) (hV : V.inW w) (nl : Bool) (Ank : Option Addr) (cnk : Nat) (nk : List Str) (hnk : Rd strK V Ank cnk nk) (Anv : Option Addr) (cnv : Nat) (nv : List Str) (hnv : Rd strK V Anv cnv nv) (Anc : Option Addr) (cnc : Nat) (nc : List Int) (hnc : Rd (intK .i64) V Anc cnc nc) (hk : nk.length ≤ 4096) (hv : nv.length ≤ 4096) :
    Calls Try.prog 15 #[.agg #[.bool (nl), .slice Ank (nk).length cnk, .slice Anv (nv).length cnv, .slice Anc (nc).length cnc]] w (RetP V w fun rv V' => rv = .int .i64 (sizeM nl nk nv)) := by
  have mxnk : nk.length ≤ 140737488355328 := hnk.max
  have mxnv : nv.length ≤ 140737488355328 := hnv.max
  have mxnc : nc.length ≤ 140737488355328 := hnc.max
  refine calls_env (n := 41) Try.func15 (c := _) rfl Try.ntmps15 (by kernel_rfl) (fun R hRet => ?_)
  have hM0 : Step V w [] V w [] := Step.refl (St.nilE hV)
  cases nl with
  | false =>
    refine wp_seq_k (fun K1 hK1 => ?_)
    refine wp_reg ?_
    refine wpF_box hM0 #[.bool (false), .slice Ank (nk).length cnk, .slice Anv (nv).length cnv, .slice Anc (nc).length cnc] (h := (by kernel_rfl : opAt _ _ _ _ _ = some (.box 25 (.tmp 0), some 1))) (by kernel_rfl) (fun b2 w3 hM4 => ?_)
    refine wpF_seg 1 (by kernel_rfl) ?_
    refine wpF_end _ (by kernel_rfl) (then_n (hK1 _ _ ?_))
    refine wp_seq_k (fun K5 hK5 => ?_)
    refine wp_reg ?_
    refine wpF_seg 2 (by kernel_rfl) ?_
    refine wpF_end _ (by kernel_rfl) (then_n (hK5 _ _ ?_))
    refine wp_seq_k (fun K6 hK6 => ?_)
    refine wp_seq_k (fun K7 hK7 => ?_)
    refine wp_reg ?_
    refine wpF_seg 1 (by kernel_rfl) ?_
    refine gF hM4 (.load 4 (.tmp 9)) (some 10) (by kernel_rfl) (Y_load 0 rfl (off := 0) (by kernel_rfl) (.bool (false)) (by kernel_rfl)) ?_
    refine wpF_seg 1 (by kernel_rfl) ?_
    refine wpF_end _ (by kernel_rfl) (then_n (hK7 _ _ ?_))
    refine wp_ct (by kernel_rfl) ?_
    refine wp_reg ?_
    refine wpF_seg 2 (by kernel_rfl) ?_
    refine wpF_end _ (by kernel_rfl) (then_n (hK6 _ _ ?_))
    refine wp_seq_k (fun K8 hK8 => ?_)
    refine wp_seq_k (fun K9 hK9 => ?_)
    refine wp_reg ?_
    refine wpF_seg 1 (by kernel_rfl) ?_
    refine gF hM4 (.load 22 (.tmp 12)) (some 13) (by kernel_rfl) (Y_load 0 rfl (off := 1) (by kernel_rfl) (.slice Ank (nk).length cnk) (by kernel_rfl)) ?_
    refine wpF_seg 2 (by kernel_rfl) ?_
    refine wpF_end _ (by kernel_rfl) (then_n (hK9 _ _ ?_))
    refine wp_block ?_
    refine wp_base [(1, .pointer (some ⟨b2, 0, none⟩)), (2, .int .i64 (0)), (3, .int .i64 (preK false nk (0))), (4, .int .i64 (5)), (13, .slice Ank (nk).length cnk), (14, .int .i64 ((nk.length : Int))), (15, .int .i64 ((0 : Int)))] (by kernel_rfl) (fun g11 => ?_)
    refine wp_loopX (fun (x_ : Nat) a_ w_ => ∃ (g : Nat → Value) (V_ : VT), a_ = env 41 [(1, .pointer (some ⟨b2, 0, none⟩)), (2, .int .i64 (0)), (3, .int .i64 (preK false nk (x_))), (4, .int .i64 (5)), (13, .slice Ank (nk).length cnk), (14, .int .i64 ((nk.length : Int))), (15, .int .i64 ((x_ : Int)))] g ∧ Step V w [] V_ w_ [.blk b2 (.cells #[.bool (false), .slice Ank (nk).length cnk, .slice Anv (nv).length cnv, .slice Anc (nc).length cnc] 25)] ∧ VT.le V V_ ∧ (x_ ≤ nk.length) ∧ (0 ≤ preK false nk (x_) ∧ preK false nk (x_) ≤ 7 + 140737488355333 * (x_ : Int))) (fun (x_ : Nat) => nk.length - x_) (0) ⟨g11, V, rfl, hM4, VT.le.refl _, by omega, by simp [preK]⟩ ?_
    rintro k a_ w13 ⟨g12, Vl10, rfl, hM14, le15, hi16_0, hi16_1⟩ K16 hK16
    refine wp_seq_k (fun K17 hK17 => ?_)
    refine wp_reg ?_
    refine wpF_seg 1 (by kernel_rfl) ?_
    refine wpF_end _ (by kernel_rfl) (then_n (hK17 _ _ ?_))
    refine wp_seq_k (fun K18 hK18 => ?_)
    refine wp_if (decide (((k : Int)) < ((nk.length : Int)))) (by kernel_rfl) (fun h19 => ?_) (fun h19 => ?_)
    · -- FLt
      have p20 : (((k : Int)) < ((nk.length : Int))) := of_decide_eq_true h19
      refine wp_skip (then_n (hK18 _ _ ?_))
      refine wp_seq_k (fun K21 hK21 => ?_)
      refine wp_block ?_
      refine wp_seq_k (fun K22 hK22 => ?_)
      refine wp_reg ?_
      refine gF_index (A := Ank) (c := cnk) (hnk.up hM14.le) .i64 ((k : Int)) (h := (by kernel_rfl : opAt _ _ _ _ _ = some (.indexAddr 22 (.tmp 13) (.tmp 15), some 17))) (e := 9) (by kernel_rfl) (by kernel_rfl) (by kernel_rfl) (k) rfl (by omega) (fun b23 o24 at_b23 => ?_)
      have c25 : Vl10 b23 o24 = some (bs (nk.getD (k) [])) := (At.str at_b23).1
      have l26 : (nk.getD (k) []).length ≤ 140737488355328 := (At.str at_b23).2
      refine gF hM14 (.load 9 (.tmp 17)) (some 18) (by kernel_rfl) (Y_loadV c25 (by kernel_rfl) (by kernel_rfl)) ?_
      refine wpF_seg 1 (by kernel_rfl) ?_
      refine wpF_end _ (by kernel_rfl) (then_n (hK22 _ _ ?_))
      refine wp_reg ?_
      refine wpF_seg 4 (by kernel_rfl) ?_
      refine gF hM14 (.binOp .add 3 (.tmp 20) (.tmp 22) 3) (some 23) (by kernel_rfl) (Y_add .i64 (5) ((((nk.getD (k) [])).length : Int)) (5 + ((((nk.getD (k) [])).length : Int))) (by kernel_rfl) (by kernel_rfl) (wrap64_ok _ (by omega))) ?_
      refine gF hM14 (.binOp .add 3 (.tmp 19) (.tmp 23) 3) (some 24) (by kernel_rfl) (Y_add .i64 (preK false nk (k)) (5 + ((((nk.getD (k) [])).length : Int))) ((preK false nk (k)) + (5 + ((((nk.getD (k) [])).length : Int)))) (by kernel_rfl) (by kernel_rfl) (wrap64_ok _ (by omega))) ?_
      refine wpF_seg 1 (by kernel_rfl) ?_
      refine wpF_end _ (by kernel_rfl) (blk_n (then_n (hK21 _ _ ?_)))
      refine wp_reg ?_
      refine gF hM14 (.binOp .add 3 (.tmp 15) (.const (.int .i64 1)) 3) (some 25) (by kernel_rfl) (Y_add .i64 ((k : Int)) (1) ((k : Int) + 1) (by kernel_rfl) (by kernel_rfl) (wrap64_ok _ (by omega))) ?_
      refine wpF_seg 1 (by kernel_rfl) ?_
      refine wpF_base [(1, .pointer (some ⟨b2, 0, none⟩)), (2, .int .i64 (0)), (3, .int .i64 (preK false nk (k + 1))), (4, .int .i64 (5)), (13, .slice Ank (nk).length cnk), (14, .int .i64 ((nk.length : Int))), (15, .int .i64 ((k + 1 : Int)))] (by kernel_rfl) (fun g27 => ?_)
      refine wpF_end _ (by kernel_rfl) (then_n (hK16 _ _ (k + 1) (by omega) ?_))
      refine ⟨g27, Vl10, rfl, hM14, hM14.le, ?_, ?_⟩
      · -- FLt inv 0
        omega
      · -- FLt inv 1
        simp only [preK, cond_true, cond_false]; omega
    · -- FLf
      have p28 : ¬ (((k : Int)) < ((nk.length : Int))) := of_decide_eq_false h19
      refine wp_exit (then_x (then_x (blk_hit (then_n (hK8 _ _ ?_)))))
      obtain rfl : k = nk.length := by omega
      refine wp_seq_k (fun K29 hK29 => ?_)
      refine wp_seq_k (fun K30 hK30 => ?_)
      refine wp_reg ?_
      refine wpF_seg 1 (by kernel_rfl) ?_
      refine gF hM14 (.load 4 (.tmp 26)) (some 27) (by kernel_rfl) (Y_load 0 rfl (off := 0) (by kernel_rfl) (.bool (false)) (by kernel_rfl)) ?_
      refine wpF_end _ (by kernel_rfl) (then_n (hK30 _ _ ?_))
      refine wp_cf (by kernel_rfl) ?_
      refine wp_skip (then_n (hK29 _ _ ?_))
      refine wp_seq_k (fun K31 hK31 => ?_)
      refine wp_reg ?_
      refine wpF_seg 2 (by kernel_rfl) ?_
      refine wpF_end _ (by kernel_rfl) (then_n (hK31 _ _ ?_))
      refine wp_ret ?_
      refine retN [.int .i64 (preK false nk ((nk.length)))] (.int .i64 (preK false nk ((nk.length)))) Try.results15 (.tmp (by kernel_rfl) (by kernel_rfl) .nil) (by kernel_rfl) (hRet _ _ ⟨_, _, rfl, hM14.clear, ?_⟩)
      -- end FLf
      rfl
  | true =>
    refine wp_seq_k (fun K32 hK32 => ?_)
    refine wp_reg ?_
    refine wpF_box hM0 #[.bool (true), .slice Ank (nk).length cnk, .slice Anv (nv).length cnv, .slice Anc (nc).length cnc] (h := (by kernel_rfl : opAt _ _ _ _ _ = some (.box 25 (.tmp 0), some 1))) (by kernel_rfl) (fun b33 w34 hM35 => ?_)
    refine wpF_seg 1 (by kernel_rfl) ?_
    refine wpF_end _ (by kernel_rfl) (then_n (hK32 _ _ ?_))
    refine wp_seq_k (fun K36 hK36 => ?_)
    refine wp_reg ?_
    refine wpF_seg 2 (by kernel_rfl) ?_
    refine wpF_end _ (by kernel_rfl) (then_n (hK36 _ _ ?_))
    refine wp_seq_k (fun K37 hK37 => ?_)
    refine wp_seq_k (fun K38 hK38 => ?_)
    refine wp_reg ?_
    refine wpF_seg 1 (by kernel_rfl) ?_
    refine gF hM35 (.load 4 (.tmp 9)) (some 10) (by kernel_rfl) (Y_load 0 rfl (off := 0) (by kernel_rfl) (.bool (true)) (by kernel_rfl)) ?_
    refine wpF_seg 1 (by kernel_rfl) ?_
    refine wpF_end _ (by kernel_rfl) (then_n (hK38 _ _ ?_))
    refine wp_cf (by kernel_rfl) ?_
    refine wp_skip (then_n (hK37 _ _ ?_))
    refine wp_seq_k (fun K39 hK39 => ?_)
    refine wp_seq_k (fun K40 hK40 => ?_)
    refine wp_reg ?_
    refine wpF_seg 1 (by kernel_rfl) ?_
    refine gF hM35 (.load 22 (.tmp 12)) (some 13) (by kernel_rfl) (Y_load 0 rfl (off := 1) (by kernel_rfl) (.slice Ank (nk).length cnk) (by kernel_rfl)) ?_
    refine wpF_seg 2 (by kernel_rfl) ?_
    refine wpF_end _ (by kernel_rfl) (then_n (hK40 _ _ ?_))
    refine wp_block ?_
    refine wp_base [(1, .pointer (some ⟨b33, 0, none⟩)), (2, .int .i64 (0)), (3, .int .i64 (preK true nk (0))), (4, .int .i64 (3)), (13, .slice Ank (nk).length cnk), (14, .int .i64 ((nk.length : Int))), (15, .int .i64 ((0 : Int)))] (by kernel_rfl) (fun g42 => ?_)
    refine wp_loopX (fun (x_ : Nat) a_ w_ => ∃ (g : Nat → Value) (V_ : VT), a_ = env 41 [(1, .pointer (some ⟨b33, 0, none⟩)), (2, .int .i64 (0)), (3, .int .i64 (preK true nk (x_))), (4, .int .i64 (3)), (13, .slice Ank (nk).length cnk), (14, .int .i64 ((nk.length : Int))), (15, .int .i64 ((x_ : Int)))] g ∧ Step V w [] V_ w_ [.blk b33 (.cells #[.bool (true), .slice Ank (nk).length cnk, .slice Anv (nv).length cnv, .slice Anc (nc).length cnc] 25)] ∧ VT.le V V_ ∧ (x_ ≤ nk.length) ∧ (0 ≤ preK true nk (x_) ∧ preK true nk (x_) ≤ 7 + 140737488355333 * (x_ : Int))) (fun (x_ : Nat) => nk.length - x_) (0) ⟨g42, V, rfl, hM35, VT.le.refl _, by omega, by simp [preK]⟩ ?_
    rintro k a_ w44 ⟨g43, Vl41, rfl, hM45, le46, hi47_0, hi47_1⟩ K47 hK47
    refine wp_seq_k (fun K48 hK48 => ?_)
    refine wp_reg ?_
    refine wpF_seg 1 (by kernel_rfl) ?_
    refine wpF_end _ (by kernel_rfl) (then_n (hK48 _ _ ?_))
    refine wp_seq_k (fun K49 hK49 => ?_)
    refine wp_if (decide (((k : Int)) < ((nk.length : Int)))) (by kernel_rfl) (fun h50 => ?_) (fun h50 => ?_)
    · -- TLt
      have p51 : (((k : Int)) < ((nk.length : Int))) := of_decide_eq_true h50
      refine wp_skip (then_n (hK49 _ _ ?_))
      refine wp_seq_k (fun K52 hK52 => ?_)
      refine wp_block ?_
      refine wp_seq_k (fun K53 hK53 => ?_)
      refine wp_reg ?_
      refine gF_index (A := Ank) (c := cnk) (hnk.up hM45.le) .i64 ((k : Int)) (h := (by kernel_rfl : opAt _ _ _ _ _ = some (.indexAddr 22 (.tmp 13) (.tmp 15), some 17))) (e := 9) (by kernel_rfl) (by kernel_rfl) (by kernel_rfl) (k) rfl (by omega) (fun b54 o55 at_b54 => ?_)
      have c56 : Vl41 b54 o55 = some (bs (nk.getD (k) [])) := (At.str at_b54).1
      have l57 : (nk.getD (k) []).length ≤ 140737488355328 := (At.str at_b54).2
      refine gF hM45 (.load 9 (.tmp 17)) (some 18) (by kernel_rfl) (Y_loadV c56 (by kernel_rfl) (by kernel_rfl)) ?_
      refine wpF_seg 1 (by kernel_rfl) ?_
      refine wpF_end _ (by kernel_rfl) (then_n (hK53 _ _ ?_))
      refine wp_reg ?_
      refine wpF_seg 4 (by kernel_rfl) ?_
      refine gF hM45 (.binOp .add 3 (.tmp 20) (.tmp 22) 3) (some 23) (by kernel_rfl) (Y_add .i64 (3) ((((nk.getD (k) [])).length : Int)) (3 + ((((nk.getD (k) [])).length : Int))) (by kernel_rfl) (by kernel_rfl) (wrap64_ok _ (by omega))) ?_
      refine gF hM45 (.binOp .add 3 (.tmp 19) (.tmp 23) 3) (some 24) (by kernel_rfl) (Y_add .i64 (preK true nk (k)) (3 + ((((nk.getD (k) [])).length : Int))) ((preK true nk (k)) + (3 + ((((nk.getD (k) [])).length : Int)))) (by kernel_rfl) (by kernel_rfl) (wrap64_ok _ (by omega))) ?_
      refine wpF_seg 1 (by kernel_rfl) ?_
      refine wpF_end _ (by kernel_rfl) (blk_n (then_n (hK52 _ _ ?_)))
      refine wp_reg ?_
      refine gF hM45 (.binOp .add 3 (.tmp 15) (.const (.int .i64 1)) 3) (some 25) (by kernel_rfl) (Y_add .i64 ((k : Int)) (1) ((k : Int) + 1) (by kernel_rfl) (by kernel_rfl) (wrap64_ok _ (by omega))) ?_
      refine wpF_seg 1 (by kernel_rfl) ?_
      refine wpF_base [(1, .pointer (some ⟨b33, 0, none⟩)), (2, .int .i64 (0)), (3, .int .i64 (preK true nk (k + 1))), (4, .int .i64 (3)), (13, .slice Ank (nk).length cnk), (14, .int .i64 ((nk.length : Int))), (15, .int .i64 ((k + 1 : Int)))] (by kernel_rfl) (fun g58 => ?_)
      refine wpF_end _ (by kernel_rfl) (then_n (hK47 _ _ (k + 1) (by omega) ?_))
      refine ⟨g58, Vl41, rfl, hM45, hM45.le, ?_, ?_⟩
      · -- TLt inv 0
        omega
      · -- TLt inv 1
        simp only [preK, cond_true, cond_false]; omega
    · -- TLf
      have p59 : ¬ (((k : Int)) < ((nk.length : Int))) := of_decide_eq_false h50
      refine wp_exit (then_x (then_x (blk_hit (then_n (hK39 _ _ ?_)))))
      obtain rfl : k = nk.length := by omega
      refine wp_seq_k (fun K60 hK60 => ?_)
      refine wp_seq_k (fun K61 hK61 => ?_)
      refine wp_reg ?_
      refine wpF_seg 1 (by kernel_rfl) ?_
      refine gF hM45 (.load 4 (.tmp 26)) (some 27) (by kernel_rfl) (Y_load 0 rfl (off := 0) (by kernel_rfl) (.bool (true)) (by kernel_rfl)) ?_
      refine wpF_end _ (by kernel_rfl) (then_n (hK61 _ _ ?_))
      refine wp_ct (by kernel_rfl) ?_
      refine wp_seq_k (fun K62 hK62 => ?_)
      refine wp_reg ?_
      refine wpF_seg 1 (by kernel_rfl) ?_
      refine gF hM45 (.load 22 (.tmp 28)) (some 29) (by kernel_rfl) (Y_load 0 rfl (off := 2) (by kernel_rfl) (.slice Anv (nv).length cnv) (by kernel_rfl)) ?_
      refine wpF_seg 2 (by kernel_rfl) ?_
      refine wpF_end _ (by kernel_rfl) (then_n (hK62 _ _ ?_))
      refine wp_block ?_
      refine wp_base [(2, .int .i64 (0)), (3, .int .i64 (preV true nk nv (0))), (29, .slice Anv (nv).length cnv), (30, .int .i64 ((nv.length : Int))), (31, .int .i64 ((0 : Int)))] (by kernel_rfl) (fun g64 => ?_)
      refine wp_loopX (fun (x_ : Nat) a_ w_ => ∃ (g : Nat → Value) (V_ : VT), a_ = env 41 [(2, .int .i64 (0)), (3, .int .i64 (preV true nk nv (x_))), (29, .slice Anv (nv).length cnv), (30, .int .i64 ((nv.length : Int))), (31, .int .i64 ((x_ : Int)))] g ∧ Step V w [] V_ w_ [.blk b33 (.cells #[.bool (true), .slice Ank (nk).length cnk, .slice Anv (nv).length cnv, .slice Anc (nc).length cnc] 25)] ∧ VT.le Vl41 V_ ∧ (x_ ≤ nv.length) ∧ (0 ≤ preV true nk nv (x_) ∧ preV true nk nv (x_) ≤ 7 + 140737488355333 * 4096 + 140737488355333 * (x_ : Int))) (fun (x_ : Nat) => nv.length - x_) (0) ⟨g64, Vl41, rfl, hM45, VT.le.refl _, by omega, by simp only [preV]; omega⟩ ?_
      rintro j a_ w66 ⟨g65, Vl63, rfl, hM67, le68, hi69_0, hi69_1⟩ K69 hK69
      refine wp_seq_k (fun K70 hK70 => ?_)
      refine wp_reg ?_
      refine wpF_seg 1 (by kernel_rfl) ?_
      refine wpF_end _ (by kernel_rfl) (then_n (hK70 _ _ ?_))
      refine wp_seq_k (fun K71 hK71 => ?_)
      refine wp_if (decide (((j : Int)) < ((nv.length : Int)))) (by kernel_rfl) (fun h72 => ?_) (fun h72 => ?_)
      · -- TLfLt
        have p73 : (((j : Int)) < ((nv.length : Int))) := of_decide_eq_true h72
        refine wp_skip (then_n (hK71 _ _ ?_))
        refine wp_seq_k (fun K74 hK74 => ?_)
        refine wp_block ?_
        refine wp_seq_k (fun K75 hK75 => ?_)
        refine wp_reg ?_
        refine gF_index (A := Anv) (c := cnv) (hnv.up hM67.le) .i64 ((j : Int)) (h := (by kernel_rfl : opAt _ _ _ _ _ = some (.indexAddr 22 (.tmp 29) (.tmp 31), some 33))) (e := 9) (by kernel_rfl) (by kernel_rfl) (by kernel_rfl) (j) rfl (by omega) (fun b76 o77 at_b76 => ?_)
        have c78 : Vl63 b76 o77 = some (bs (nv.getD (j) [])) := (At.str at_b76).1
        have l79 : (nv.getD (j) []).length ≤ 140737488355328 := (At.str at_b76).2
        refine gF hM67 (.load 9 (.tmp 33)) (some 34) (by kernel_rfl) (Y_loadV c78 (by kernel_rfl) (by kernel_rfl)) ?_
        refine wpF_seg 1 (by kernel_rfl) ?_
        refine wpF_end _ (by kernel_rfl) (then_n (hK75 _ _ ?_))
        refine wp_reg ?_
        refine wpF_seg 3 (by kernel_rfl) ?_
        refine gF hM67 (.binOp .add 3 (.tmp 35) (.tmp 37) 3) (some 38) (by kernel_rfl) (Y_add .i64 (preV true nk nv (j)) ((((nv.getD (j) [])).length : Int)) ((preV true nk nv (j)) + ((((nv.getD (j) [])).length : Int))) (by kernel_rfl) (by kernel_rfl) (wrap64_ok _ (by omega))) ?_
        refine wpF_seg 1 (by kernel_rfl) ?_
        refine wpF_end _ (by kernel_rfl) (blk_n (then_n (hK74 _ _ ?_)))
        refine wp_reg ?_
        refine gF hM67 (.binOp .add 3 (.tmp 31) (.const (.int .i64 1)) 3) (some 39) (by kernel_rfl) (Y_add .i64 ((j : Int)) (1) ((j : Int) + 1) (by kernel_rfl) (by kernel_rfl) (wrap64_ok _ (by omega))) ?_
        refine wpF_seg 1 (by kernel_rfl) ?_
        refine wpF_base [(2, .int .i64 (0)), (3, .int .i64 (preV true nk nv (j + 1))), (29, .slice Anv (nv).length cnv), (30, .int .i64 ((nv.length : Int))), (31, .int .i64 ((j + 1 : Int)))] (by kernel_rfl) (fun g80 => ?_)
        refine wpF_end _ (by kernel_rfl) (then_n (hK69 _ _ (j + 1) (by omega) ?_))
        refine ⟨g80, Vl63, rfl, hM67, le68, ?_, ?_⟩
        · -- TLfLt inv 0
          omega
        · -- TLfLt inv 1
          simp only [preV]; omega
      · -- TLfLf
        have p81 : ¬ (((j : Int)) < ((nv.length : Int))) := of_decide_eq_false h72
        refine wp_exit (then_x (then_x (blk_hit (then_n (hK60 _ _ ?_)))))
        obtain rfl : j = nv.length := by omega
        refine wp_seq_k (fun K82 hK82 => ?_)
        refine wp_reg ?_
        refine wpF_seg 2 (by kernel_rfl) ?_
        refine wpF_end _ (by kernel_rfl) (then_n (hK82 _ _ ?_))
        refine wp_ret ?_
        refine retN [.int .i64 (preV true nk nv ((nv.length)))] (.int .i64 (preV true nk nv ((nv.length)))) Try.results15 (.tmp (by kernel_rfl) (by kernel_rfl) .nil) (by kernel_rfl) (hRet _ _ ⟨_, _, rfl, hM67.clear, ?_⟩)
        -- end TLfLf
        rfl

end Go.Vk
