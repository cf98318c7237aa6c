/- Contracts of the page's functions, part G: printed by wip/tools/p8.py. -/
import Derived.Test.YtpaljghjoajhfaaRF
set_option linter.unusedVariables false
set_option linter.unusedSimpArgs false
namespace Go.Vk
open Go.Proofs
set_option maxHeartbeats 4000000 in
set_option maxRecDepth 100000 in
theorem f35 (V : VT) (w : World) (hV : V.inW w) (nl : Bool) (Ank : Option Addr) (cnk : Nat) (nk : List Str) (hnk : Rd strK V Ank cnk nk) (Anv : Option Addr) (cnv : Nat) (nv : List Str) (hnv : Rd strK V Anv cnv nv) (Anc : Option Addr) (cnc : Nat) (nc : List Int) (hnc : Rd (intK .i64) V Anc cnc nc) :
    Calls Try.prog 35 #[.agg #[.bool (nl), .slice Ank (nk).length cnk, .slice Anv (nv).length cnv, .slice Anc (nc).length cnc]] w (RetP V w fun rv V' => rv = .bool (stands nl nk nv nc)) := by
  have mxnk : nk.length ≤ 140737488355328 := hnk.max
  have mxnv : nv.length ≤ 140737488355328 := hnv.max
  have mxnc : nc.length ≤ 140737488355328 := hnc.max
  refine calls_env (n := 104) Try.func35 (c := _) rfl Try.ntmps35 (by kernel_rfl) (fun R hRet => ?_)
  have hM0 : Step V w [] V w [] := Step.refl (St.nilE hV)
  cases nl with
  | false =>
    refine wp_seq_k (fun K1 hK1 => ?_)
    refine wp_reg ?_
    refine wpF_box hM0 #[.bool (false), .slice Ank (nk).length cnk, .slice Anv (nv).length cnv, .slice Anc (nc).length cnc] (h := (by kernel_rfl : opAt _ _ _ _ _ = some (.box 25 (.tmp 0), some 1))) (by kernel_rfl) (fun b2 w3 hM4 => ?_)
    obtain ⟨V5, le6, hM7, hc8⟩ := hM4.settle 0 rfl
    have hM9 : Step V w [] V5 _ ([]) := hM7
    refine wpF_seg 1 (by kernel_rfl) ?_
    refine wpF_end _ (by kernel_rfl) (then_n (hK1 _ _ ?_))
    refine wp_seq_k (fun K10 hK10 => ?_)
    refine wp_seq_k (fun K11 hK11 => ?_)
    refine wp_reg ?_
    refine wpF_seg 1 (by kernel_rfl) ?_
    refine wpF_end _ (by kernel_rfl) (then_n (hK11 _ _ ?_))
    refine wp_block ?_
    refine wp_base [(1, .pointer (some ⟨b2, 0, none⟩)), (3, .int .i64 ((0 : Int)))] (by kernel_rfl) (fun g13 => ?_)
    refine wp_loopX (fun (x_ : Nat) a_ w_ => ∃ (g : Nat → Value) (V_ : VT), a_ = env 104 [(1, .pointer (some ⟨b2, 0, none⟩)), (3, .int .i64 ((x_ : Int)))] g ∧ Step V w [] V_ w_ [] ∧ VT.le V5 V_ ∧ (x_ ≤ nk.length) ∧ (upTo nk (x_) = true)) (fun (x_ : Nat) => nk.length - x_) (0) ⟨g13, V5, rfl, hM9, VT.le.refl _, by omega, by rfl⟩ ?_
    rintro k a_ w15 ⟨g14, Vl12, rfl, hM16, le17, hi18_0, hi18_1⟩ K18 hK18
    refine wp_seq_k (fun K19 hK19 => ?_)
    refine wp_seq_k (fun K20 hK20 => ?_)
    refine wp_reg ?_
    refine wpF_seg 2 (by kernel_rfl) ?_
    refine gF hM16 (.load 22 (.tmp 7)) (some 8) (by kernel_rfl) (Y_loadB #[.bool (false), .slice Ank (nk).length cnk, .slice Anv (nv).length cnv, .slice Anc (nc).length cnc] (fun i v hi => le17 _ _ _ (hc8 i v hi)) (off := 1) (by kernel_rfl) (.slice Ank (nk).length cnk) (by kernel_rfl)) ?_
    refine wpF_seg 2 (by kernel_rfl) ?_
    refine wpF_end _ (by kernel_rfl) (then_n (hK20 _ _ ?_))
    refine wp_if (decide (((k : Int)) < ((nk.length : Int)))) (by kernel_rfl) (fun h21 => ?_) (fun h21 => ?_)
    · -- FLt
      have p22 : (((k : Int)) < ((nk.length : Int))) := of_decide_eq_true h21
      refine wp_skip (then_n (hK19 _ _ ?_))
      refine wp_seq_k (fun K23 hK23 => ?_)
      refine wp_block ?_
      refine wp_seq_k (fun K24 hK24 => ?_)
      refine wp_base [(1, .pointer (some ⟨b2, 0, none⟩)), (3, .int .i64 ((k : Int))), (6, .int .i64 ((k : Int))), (7, .pointer (some ⟨b2, 1, none⟩)), (8, .slice Ank (nk).length cnk), (9, .int .i64 ((nk.length : Int))), (10, .bool (decide (((k : Int)) < ((nk.length : Int)))))] (by kernel_rfl) (fun g25 => ?_)
      refine wp_drawN hM16 [] no_held [] [0, 1, 2, 3, 4, 5, 6, 7, 8, 9, 10, 11, 12, 13, 14, 15, 16, 17, 18, 19, 20, 21] [.a 22, .p 23, .p 24, .p 25] [.p 0, .p 1, .p 2, .p 3, .p 4, .p 5, .p 6, .p 7, .p 8, .p 9, .p 10, .p 11, .p 12, .p 13, .p 14, .p 15, .p 16, .p 17, .p 18, .p 19, .p 20, .p 21, .s, .a 22, .p 23, .p 24, .p 25] rfl (by kernel_rfl) (by kernel_rfl) ?_
      refine h_seg 1 (by kernel_rfl) ?_
      refine gH (.load 22 (.tmp 13)) (some 14) (by kernel_rfl) (Y_loadB #[.bool (false), .slice Ank (nk).length cnk, .slice Anv (nv).length cnv, .slice Anc (nc).length cnc] (fun i v hi => le17 _ _ _ (hc8 i v hi)) (off := 1) (by kernel_rfl) (.slice Ank (nk).length cnk) (by kernel_rfl)) ?_
      refine h_seg 1 (by kernel_rfl) ?_
      refine gH_index (A := Ank) (c := cnk) (hnk.up hM16.le) .i64 ((k : Int)) (h := (by kernel_rfl : opAt _ _ _ _ _ = some (.indexAddr 22 (.tmp 14) (.tmp 15), some 16))) (e := 9) (by kernel_rfl) (by kernel_rfl) (by kernel_rfl) (k) rfl (by omega) (fun b26 o27 at_b26 => ?_)
      have c28 : Vl12 b26 o27 = some (bs (nk.getD (k) [])) := (At.str at_b26).1
      have l29 : (nk.getD (k) []).length ≤ 140737488355328 := (At.str at_b26).2
      refine gH (.load 9 (.tmp 16)) (some 17) (by kernel_rfl) (Y_loadV c28 (by kernel_rfl) (by kernel_rfl)) ?_
      refine h_seg 3 (by kernel_rfl) ?_
      refine h_caseB 20 (decide ((128) < ((((nk.getD (k) [])).length : Int)))) (by kernel_rfl) (by kernel_rfl) (fun h30 => ?_) (fun h30 => ?_)
      · -- FLtt
        have p31 : ((128) < ((((nk.getD (k) [])).length : Int))) := of_decide_eq_true h30
        refine h_seg 14 (by kernel_rfl) ?_
        refine h_s no_fs ?_
        refine h_a (by kernel_rfl) (by kernel_rfl) (fun w32 X33 hM34 => ?_)
        refine wpF_seg 1 (by kernel_rfl) ?_
        refine wpF_end _ (by kernel_rfl) (then_n (h_d [] (by kernel_rfl) [] hM34 no_held (VT.le.refl _) ?_))
        refine h_seg 3 (by kernel_rfl) ?_
        refine h_n (fun w35 hM36 => ?_)
        refine  (then_n (hK24 _ _ ?_))
        refine wp_ct (by kernel_rfl) ?_
        refine wp_seq_k (fun K37 hK37 => ?_)
        refine wp_reg ?_
        refine wpF_seg 1 (by kernel_rfl) ?_
        refine wpF_end _ (by kernel_rfl) (then_n (hK37 _ _ ?_))
        refine wp_ret (blk_r (then_r (then_r (blk_r (then_r (?_))))))
        refine retN [.bool (false)] (.bool (false)) Try.results35 (.tmp (by kernel_rfl) (by kernel_rfl) .nil) (by kernel_rfl) (hRet _ _ ⟨_, _, rfl, hM36.clear, ?_⟩)
        -- end FLtt
        first | exact congrArg Value.bool (stands_long (k := k) (by omega) (by assumption)).symm | exact congrArg Value.bool (stands_rise (k := k) (by omega) (by omega) (by assumption)).symm | exact congrArg Value.bool (stands_val (k := q) (by omega) (by assumption)).symm | exact congrArg Value.bool (stands_kid (k := m) (by omega) (by omega)).symm | (rw [stands_all (by assumption)]; (first | rw [vals_none (by assumption)] | rw [kids_none (by assumption)]); simp only [h21, h30, cond_true, cond_false, Bool.true_and, Bool.and_true, Bool.false_and, Bool.and_false, Bool.not_true, Bool.not_false])
      · -- FLtf
        have p38 : ¬ ((128) < ((((nk.getD (k) [])).length : Int))) := of_decide_eq_false h30
        refine h_seg 3 (by kernel_rfl) ?_
        refine h_caseB 23 (decide ((0) < ((k : Int)))) (by kernel_rfl) (by kernel_rfl) (fun h39 => ?_) (fun h39 => ?_)
        · -- FLtft
          have p40 : ((0) < ((k : Int))) := of_decide_eq_true h39
          refine h_seg 1 (by kernel_rfl) ?_
          refine gH (.load 22 (.tmp 24)) (some 25) (by kernel_rfl) (Y_loadB #[.bool (false), .slice Ank (nk).length cnk, .slice Anv (nv).length cnv, .slice Anc (nc).length cnc] (fun i v hi => le17 _ _ _ (hc8 i v hi)) (off := 1) (by kernel_rfl) (.slice Ank (nk).length cnk) (by kernel_rfl)) ?_
          refine h_seg 1 (by kernel_rfl) ?_
          refine gH (.binOp .sub 3 (.tmp 26) (.const (.int .i64 1)) 3) (some 27) (by kernel_rfl) (Y_sub .i64 ((k : Int)) (1) ((k : Int) - 1) (by kernel_rfl) (by kernel_rfl) (wrap64_ok _ (by omega))) ?_
          refine gH_index (A := Ank) (c := cnk) (hnk.up hM16.le) .i64 ((k : Int) - 1) (h := (by kernel_rfl : opAt _ _ _ _ _ = some (.indexAddr 22 (.tmp 25) (.tmp 27), some 28))) (e := 9) (by kernel_rfl) (by kernel_rfl) (by kernel_rfl) (k - 1) (by omega) (by omega) (fun b41 o42 at_b41 => ?_)
          have c43 : Vl12 b41 o42 = some (bs (nk.getD (k - 1) [])) := (At.str at_b41).1
          have l44 : (nk.getD (k - 1) []).length ≤ 140737488355328 := (At.str at_b41).2
          refine gH (.load 9 (.tmp 28)) (some 29) (by kernel_rfl) (Y_loadV c43 (by kernel_rfl) (by kernel_rfl)) ?_
          refine h_seg 1 (by kernel_rfl) ?_
          refine gH (.load 22 (.tmp 30)) (some 31) (by kernel_rfl) (Y_loadB #[.bool (false), .slice Ank (nk).length cnk, .slice Anv (nv).length cnv, .slice Anc (nc).length cnc] (fun i v hi => le17 _ _ _ (hc8 i v hi)) (off := 1) (by kernel_rfl) (.slice Ank (nk).length cnk) (by kernel_rfl)) ?_
          refine h_seg 1 (by kernel_rfl) ?_
          refine gH_index (A := Ank) (c := cnk) (hnk.up hM16.le) .i64 ((k : Int)) (h := (by kernel_rfl : opAt _ _ _ _ _ = some (.indexAddr 22 (.tmp 31) (.tmp 32), some 33))) (e := 9) (by kernel_rfl) (by kernel_rfl) (by kernel_rfl) (k) rfl (by omega) (fun b45 o46 at_b45 => ?_)
          have c47 : Vl12 b45 o46 = some (bs (nk.getD (k) [])) := (At.str at_b45).1
          have l48 : (nk.getD (k) []).length ≤ 140737488355328 := (At.str at_b45).2
          refine gH (.load 9 (.tmp 33)) (some 34) (by kernel_rfl) (Y_loadV c47 (by kernel_rfl) (by kernel_rfl)) ?_
          refine h_s no_fs ?_
          refine h_a (by kernel_rfl) (by kernel_rfl) (fun w49 X50 hM51 => ?_)
          refine wpF_callP hM51 (f := 49) (caps := #[]) (h := (by kernel_rfl : opAt _ _ _ _ _ = some (.call (.mk (.value (.func 49)) #[(.tmp 29), (.tmp 34)] #[9, 9]), some 35))) (by kernel_rfl) (by kernel_rfl) (by kernel_rfl) (f49 _ _ hM51.inW ((nk.getD (k - 1) [])) (l44) ((nk.getD (k) [])) (l48)) (fun v52 V53 w54 le55 hM56 hp57 => ?_)
          obtain rfl := hp57
          refine wpF_end _ (by kernel_rfl) (then_n (h_d [] (by kernel_rfl) [] hM56 no_held le55 ?_))
          refine h_seg 3 (by kernel_rfl) ?_
          refine h_n (fun w58 hM59 => ?_)
          refine  (then_n (hK24 _ _ ?_))
          refine wp_if (!(decide (((nk.getD (k - 1) [])) < ((nk.getD (k) []))))) (by kernel_rfl) (fun h60 => ?_) (fun h60 => ?_)
          · -- FLtftt
            have h61 : decide (((nk.getD (k - 1) [])) < ((nk.getD (k) []))) = false := by rw [← Bool.not_not (decide _), h60]; rfl
            have p62 : ¬ (((nk.getD (k - 1) [])) < ((nk.getD (k) []))) := of_decide_eq_false h61
            refine wp_seq_k (fun K63 hK63 => ?_)
            refine wp_reg ?_
            refine wpF_seg 1 (by kernel_rfl) ?_
            refine wpF_end _ (by kernel_rfl) (then_n (hK63 _ _ ?_))
            refine wp_ret (blk_r (then_r (then_r (blk_r (then_r (?_))))))
            refine retN [.bool (false)] (.bool (false)) Try.results35 (.tmp (by kernel_rfl) (by kernel_rfl) .nil) (by kernel_rfl) (hRet _ _ ⟨_, _, rfl, hM59.clear, ?_⟩)
            -- end FLtftt
            first | exact congrArg Value.bool (stands_long (k := k) (by omega) (by assumption)).symm | exact congrArg Value.bool (stands_rise (k := k) (by omega) (by omega) (by assumption)).symm | exact congrArg Value.bool (stands_val (k := q) (by omega) (by assumption)).symm | exact congrArg Value.bool (stands_kid (k := m) (by omega) (by omega)).symm | (rw [stands_all (by assumption)]; (first | rw [vals_none (by assumption)] | rw [kids_none (by assumption)]); simp only [h21, h30, h39, h60, h61, cond_true, cond_false, Bool.true_and, Bool.and_true, Bool.false_and, Bool.and_false, Bool.not_true, Bool.not_false])
          · -- FLtftf
            have h64 : decide (((nk.getD (k - 1) [])) < ((nk.getD (k) []))) = true := by rw [← Bool.not_not (decide _), h60]; rfl
            have p65 : (((nk.getD (k - 1) [])) < ((nk.getD (k) []))) := of_decide_eq_true h64
            refine wp_skip (blk_n (then_n (hK23 _ _ ?_)))
            refine wp_reg ?_
            refine wpF_seg 1 (by kernel_rfl) ?_
            refine gF hM59 (.binOp .add 3 (.tmp 11) (.const (.int .i64 1)) 3) (some 12) (by kernel_rfl) (Y_add .i64 ((k : Int)) (1) ((k : Int) + 1) (by kernel_rfl) (by kernel_rfl) (wrap64_ok _ (by omega))) ?_
            refine wpF_seg 1 (by kernel_rfl) ?_
            refine wpF_base [(1, .pointer (some ⟨b2, 0, none⟩)), (3, .int .i64 ((k + 1 : Int)))] (by kernel_rfl) (fun g66 => ?_)
            refine wpF_end _ (by kernel_rfl) (then_n (hK18 _ _ (k + 1) (by omega) ?_))
            refine ⟨g66, V53, rfl, hM59, (le17.trans le55), ?_, ?_⟩
            · -- FLtftf inv 0
              omega
            · -- FLtftf inv 1
              exact upTo_step (by assumption) (by assumption) (by first | exact .inl (by omega) | exact .inr (by assumption))
        · -- FLtff
          have p67 : ¬ ((0) < ((k : Int))) := of_decide_eq_false h39
          refine h_seg 11 (by kernel_rfl) ?_
          refine h_s no_fs ?_
          refine h_a (by kernel_rfl) (by kernel_rfl) (fun w68 X69 hM70 => ?_)
          refine wpF_seg 1 (by kernel_rfl) ?_
          refine wpF_end _ (by kernel_rfl) (then_n (h_d [] (by kernel_rfl) [] hM70 no_held (VT.le.refl _) ?_))
          refine h_seg 3 (by kernel_rfl) ?_
          refine h_n (fun w71 hM72 => ?_)
          refine  (then_n (hK24 _ _ ?_))
          refine wp_cf (by kernel_rfl) ?_
          refine wp_skip (blk_n (then_n (hK23 _ _ ?_)))
          refine wp_reg ?_
          refine wpF_seg 1 (by kernel_rfl) ?_
          refine gF hM72 (.binOp .add 3 (.tmp 11) (.const (.int .i64 1)) 3) (some 12) (by kernel_rfl) (Y_add .i64 ((k : Int)) (1) ((k : Int) + 1) (by kernel_rfl) (by kernel_rfl) (wrap64_ok _ (by omega))) ?_
          refine wpF_seg 1 (by kernel_rfl) ?_
          refine wpF_base [(1, .pointer (some ⟨b2, 0, none⟩)), (3, .int .i64 ((k + 1 : Int)))] (by kernel_rfl) (fun g73 => ?_)
          refine wpF_end _ (by kernel_rfl) (then_n (hK18 _ _ (k + 1) (by omega) ?_))
          refine ⟨g73, Vl12, rfl, hM72, le17, ?_, ?_⟩
          · -- FLtff inv 0
            omega
          · -- FLtff inv 1
            exact upTo_step (by assumption) (by assumption) (by first | exact .inl (by omega) | exact .inr (by assumption))
    · -- FLf
      have p74 : ¬ (((k : Int)) < ((nk.length : Int))) := of_decide_eq_false h21
      refine wp_exit (then_x (then_x (blk_hit (then_n (hK10 _ _ ?_)))))
      obtain rfl : k = nk.length := by omega
      refine wp_seq_k (fun K75 hK75 => ?_)
      refine wp_seq_k (fun K76 hK76 => ?_)
      refine wp_reg ?_
      refine wpF_seg 1 (by kernel_rfl) ?_
      refine gF hM16 (.load 4 (.tmp 39)) (some 40) (by kernel_rfl) (Y_loadB #[.bool (false), .slice Ank (nk).length cnk, .slice Anv (nv).length cnv, .slice Anc (nc).length cnc] (fun i v hi => le17 _ _ _ (hc8 i v hi)) (off := 0) (by kernel_rfl) (.bool (false)) (by kernel_rfl)) ?_
      refine wpF_seg 1 (by kernel_rfl) ?_
      refine wpF_end _ (by kernel_rfl) (then_n (hK76 _ _ ?_))
      refine wp_ct (by kernel_rfl) ?_
      refine wp_seq_k (fun K77 hK77 => ?_)
      refine wp_seq_k (fun K78 hK78 => ?_)
      refine wp_reg ?_
      refine wpF_seg 1 (by kernel_rfl) ?_
      refine wpF_end _ (by kernel_rfl) (then_n (hK78 _ _ ?_))
      refine wp_block ?_
      refine wp_base [(1, .pointer (some ⟨b2, 0, none⟩)), (4, .int .i64 ((0 : Int)))] (by kernel_rfl) (fun g80 => ?_)
      refine wp_loopX (fun (x_ : Nat) a_ w_ => ∃ (g : Nat → Value) (V_ : VT), a_ = env 104 [(1, .pointer (some ⟨b2, 0, none⟩)), (4, .int .i64 ((x_ : Int)))] g ∧ Step V w [] V_ w_ [] ∧ VT.le Vl12 V_ ∧ (x_ ≤ nc.length) ∧ (∀ i, i < x_ → ¬ nc.getD i 0 < 0 ∧ ¬ 16384 ≤ nc.getD i 0)) (fun (x_ : Nat) => nc.length - x_) (0) ⟨g80, Vl12, rfl, hM16, VT.le.refl _, by omega, by (intro i hi; omega)⟩ ?_
      rintro m a_ w82 ⟨g81, Vl79, rfl, hM83, le84, hi85_0, hi85_1⟩ K85 hK85
      refine wp_seq_k (fun K86 hK86 => ?_)
      refine wp_seq_k (fun K87 hK87 => ?_)
      refine wp_reg ?_
      refine wpF_seg 2 (by kernel_rfl) ?_
      refine gF hM83 (.load 23 (.tmp 43)) (some 44) (by kernel_rfl) (Y_loadB #[.bool (false), .slice Ank (nk).length cnk, .slice Anv (nv).length cnv, .slice Anc (nc).length cnc] (fun i v hi => (le17.trans le84) _ _ _ (hc8 i v hi)) (off := 3) (by kernel_rfl) (.slice Anc (nc).length cnc) (by kernel_rfl)) ?_
      refine wpF_seg 2 (by kernel_rfl) ?_
      refine wpF_end _ (by kernel_rfl) (then_n (hK87 _ _ ?_))
      refine wp_if (decide (((m : Int)) < ((nc.length : Int)))) (by kernel_rfl) (fun h88 => ?_) (fun h88 => ?_)
      · -- FLfLt
        have p89 : (((m : Int)) < ((nc.length : Int))) := of_decide_eq_true h88
        refine wp_skip (then_n (hK86 _ _ ?_))
        refine wp_seq_k (fun K90 hK90 => ?_)
        refine wp_block ?_
        refine wp_seq_k (fun K91 hK91 => ?_)
        refine wp_reg ?_
        refine wpF_seg 1 (by kernel_rfl) ?_
        refine gF hM83 (.load 23 (.tmp 49)) (some 50) (by kernel_rfl) (Y_loadB #[.bool (false), .slice Ank (nk).length cnk, .slice Anv (nv).length cnv, .slice Anc (nc).length cnc] (fun i v hi => (le17.trans le84) _ _ _ (hc8 i v hi)) (off := 3) (by kernel_rfl) (.slice Anc (nc).length cnc) (by kernel_rfl)) ?_
        refine wpF_seg 1 (by kernel_rfl) ?_
        refine gF_index (A := Anc) (c := cnc) (hnc.up hM83.le) .i64 ((m : Int)) (h := (by kernel_rfl : opAt _ _ _ _ _ = some (.indexAddr 23 (.tmp 50) (.tmp 51), some 52))) (e := 3) (by kernel_rfl) (by kernel_rfl) (by kernel_rfl) (m) rfl (by omega) (fun b92 o93 at_b92 => ?_)
        have c94 : Vl79 b92 o93 = some (.int .i64 (nc.getD (m) 0)) := (At.int at_b92).1
        have l95 : IntKind.i64.min ≤ (nc.getD (m) 0) ∧ (nc.getD (m) 0) ≤ IntKind.i64.max := (At.int at_b92).2
        refine gF hM83 (.load 3 (.tmp 52)) (some 53) (by kernel_rfl) (Y_loadV c94 (by kernel_rfl) (by kernel_rfl)) ?_
        refine wpF_seg 2 (by kernel_rfl) ?_
        refine wpF_caseB 55 (decide (((nc.getD (m) 0)) < (0))) (by kernel_rfl) (by kernel_rfl) (fun h96 => ?_) (fun h96 => ?_)
        · -- FLfLtt
          have p97 : (((nc.getD (m) 0)) < (0)) := of_decide_eq_true h96
          refine wpF_seg 7 (by kernel_rfl) ?_
          refine wpF_end _ (by kernel_rfl) (then_n (hK91 _ _ ?_))
          refine wp_ct (by kernel_rfl) ?_
          refine wp_seq_k (fun K98 hK98 => ?_)
          refine wp_reg ?_
          refine wpF_seg 1 (by kernel_rfl) ?_
          refine wpF_end _ (by kernel_rfl) (then_n (hK98 _ _ ?_))
          refine wp_ret (blk_r (then_r (then_r (blk_r (then_r (then_r (?_)))))))
          refine retN [.bool (false)] (.bool (false)) Try.results35 (.tmp (by kernel_rfl) (by kernel_rfl) .nil) (by kernel_rfl) (hRet _ _ ⟨_, _, rfl, hM83.clear, ?_⟩)
          -- end FLfLtt
          first | exact congrArg Value.bool (stands_long (k := k) (by omega) (by assumption)).symm | exact congrArg Value.bool (stands_rise (k := k) (by omega) (by omega) (by assumption)).symm | exact congrArg Value.bool (stands_val (k := q) (by omega) (by assumption)).symm | exact congrArg Value.bool (stands_kid (k := m) (by omega) (by omega)).symm | (rw [stands_all (by assumption)]; (first | rw [vals_none (by assumption)] | rw [kids_none (by assumption)]); simp only [h21, h88, h96, cond_true, cond_false, Bool.true_and, Bool.and_true, Bool.false_and, Bool.and_false, Bool.not_true, Bool.not_false])
        · -- FLfLtf
          have p99 : ¬ (((nc.getD (m) 0)) < (0)) := of_decide_eq_false h96
          refine wpF_seg 1 (by kernel_rfl) ?_
          refine gF hM83 (.load 23 (.tmp 56)) (some 57) (by kernel_rfl) (Y_loadB #[.bool (false), .slice Ank (nk).length cnk, .slice Anv (nv).length cnv, .slice Anc (nc).length cnc] (fun i v hi => (le17.trans le84) _ _ _ (hc8 i v hi)) (off := 3) (by kernel_rfl) (.slice Anc (nc).length cnc) (by kernel_rfl)) ?_
          refine wpF_seg 1 (by kernel_rfl) ?_
          refine gF_index (A := Anc) (c := cnc) (hnc.up hM83.le) .i64 ((m : Int)) (h := (by kernel_rfl : opAt _ _ _ _ _ = some (.indexAddr 23 (.tmp 57) (.tmp 58), some 59))) (e := 3) (by kernel_rfl) (by kernel_rfl) (by kernel_rfl) (m) rfl (by omega) (fun b100 o101 at_b100 => ?_)
          have c102 : Vl79 b100 o101 = some (.int .i64 (nc.getD (m) 0)) := (At.int at_b100).1
          have l103 : IntKind.i64.min ≤ (nc.getD (m) 0) ∧ (nc.getD (m) 0) ≤ IntKind.i64.max := (At.int at_b100).2
          refine gF hM83 (.load 3 (.tmp 59)) (some 60) (by kernel_rfl) (Y_loadV c102 (by kernel_rfl) (by kernel_rfl)) ?_
          refine wpF_seg 2 (by kernel_rfl) ?_
          refine wpF_end _ (by kernel_rfl) (then_n (hK91 _ _ ?_))
          refine wp_if (decide ((16384) ≤ ((nc.getD (m) 0)))) (by kernel_rfl) (fun h104 => ?_) (fun h104 => ?_)
          · -- FLfLtft
            have p105 : ((16384) ≤ ((nc.getD (m) 0))) := of_decide_eq_true h104
            refine wp_seq_k (fun K106 hK106 => ?_)
            refine wp_reg ?_
            refine wpF_seg 1 (by kernel_rfl) ?_
            refine wpF_end _ (by kernel_rfl) (then_n (hK106 _ _ ?_))
            refine wp_ret (blk_r (then_r (then_r (blk_r (then_r (then_r (?_)))))))
            refine retN [.bool (false)] (.bool (false)) Try.results35 (.tmp (by kernel_rfl) (by kernel_rfl) .nil) (by kernel_rfl) (hRet _ _ ⟨_, _, rfl, hM83.clear, ?_⟩)
            -- end FLfLtft
            first | exact congrArg Value.bool (stands_long (k := k) (by omega) (by assumption)).symm | exact congrArg Value.bool (stands_rise (k := k) (by omega) (by omega) (by assumption)).symm | exact congrArg Value.bool (stands_val (k := q) (by omega) (by assumption)).symm | exact congrArg Value.bool (stands_kid (k := m) (by omega) (by omega)).symm | (rw [stands_all (by assumption)]; (first | rw [vals_none (by assumption)] | rw [kids_none (by assumption)]); simp only [h104, h21, h88, h96, cond_true, cond_false, Bool.true_and, Bool.and_true, Bool.false_and, Bool.and_false, Bool.not_true, Bool.not_false])
          · -- FLfLtff
            have p107 : ¬ ((16384) ≤ ((nc.getD (m) 0))) := of_decide_eq_false h104
            refine wp_skip (blk_n (then_n (hK90 _ _ ?_)))
            refine wp_reg ?_
            refine wpF_seg 1 (by kernel_rfl) ?_
            refine gF hM83 (.binOp .add 3 (.tmp 47) (.const (.int .i64 1)) 3) (some 48) (by kernel_rfl) (Y_add .i64 ((m : Int)) (1) ((m : Int) + 1) (by kernel_rfl) (by kernel_rfl) (wrap64_ok _ (by omega))) ?_
            refine wpF_seg 1 (by kernel_rfl) ?_
            refine wpF_base [(1, .pointer (some ⟨b2, 0, none⟩)), (4, .int .i64 ((m + 1 : Int)))] (by kernel_rfl) (fun g108 => ?_)
            refine wpF_end _ (by kernel_rfl) (then_n (hK85 _ _ (m + 1) (by omega) ?_))
            refine ⟨g108, Vl79, rfl, hM83, le84, ?_, ?_⟩
            · -- FLfLtff inv 0
              omega
            · -- FLfLtff inv 1
              exact all_step (by assumption) (by omega)
      · -- FLfLf
        have p109 : ¬ (((m : Int)) < ((nc.length : Int))) := of_decide_eq_false h88
        refine wp_exit (then_x (then_x (blk_hit (then_n (hK77 _ _ ?_)))))
        obtain rfl : m = nc.length := by omega
        refine wp_seq_k (fun K110 hK110 => ?_)
        refine wp_reg ?_
        refine wpF_seg 1 (by kernel_rfl) ?_
        refine gF hM83 (.load 22 (.tmp 63)) (some 64) (by kernel_rfl) (Y_loadB #[.bool (false), .slice Ank (nk).length cnk, .slice Anv (nv).length cnv, .slice Anc (nc).length cnc] (fun i v hi => (le17.trans le84) _ _ _ (hc8 i v hi)) (off := 2) (by kernel_rfl) (.slice Anv (nv).length cnv) (by kernel_rfl)) ?_
        refine wpF_seg 3 (by kernel_rfl) ?_
        refine wpF_caseB 67 (decide (((nv.length : Int)) = (0))) (by kernel_rfl) (by kernel_rfl) (fun h111 => ?_) (fun h111 => ?_)
        · -- FLfLft
          have p112 : (((nv.length : Int)) = (0)) := of_decide_eq_true h111
          refine wpF_seg 1 (by kernel_rfl) ?_
          refine gF hM83 (.load 23 (.tmp 68)) (some 69) (by kernel_rfl) (Y_loadB #[.bool (false), .slice Ank (nk).length cnk, .slice Anv (nv).length cnv, .slice Anc (nc).length cnc] (fun i v hi => (le17.trans le84) _ _ _ (hc8 i v hi)) (off := 3) (by kernel_rfl) (.slice Anc (nc).length cnc) (by kernel_rfl)) ?_
          refine wpF_seg 2 (by kernel_rfl) ?_
          refine gF hM83 (.load 22 (.tmp 71)) (some 72) (by kernel_rfl) (Y_loadB #[.bool (false), .slice Ank (nk).length cnk, .slice Anv (nv).length cnv, .slice Anc (nc).length cnc] (fun i v hi => (le17.trans le84) _ _ _ (hc8 i v hi)) (off := 1) (by kernel_rfl) (.slice Ank (nk).length cnk) (by kernel_rfl)) ?_
          refine wpF_seg 1 (by kernel_rfl) ?_
          refine gF hM83 (.binOp .add 3 (.tmp 73) (.const (.int .i64 1)) 3) (some 74) (by kernel_rfl) (Y_add .i64 ((nk.length : Int)) (1) ((nk.length : Int) + 1) (by kernel_rfl) (by kernel_rfl) (wrap64_ok _ (by omega))) ?_
          refine wpF_seg 3 (by kernel_rfl) ?_
          refine wpF_end _ (by kernel_rfl) (then_n (hK110 _ _ ?_))
          refine wp_ret (then_r (?_))
          refine retN [.bool (decide (((nc.length : Int)) = ((nk.length : Int) + 1)))] (.bool (decide (((nc.length : Int)) = ((nk.length : Int) + 1)))) Try.results35 (.tmp (by kernel_rfl) (by kernel_rfl) .nil) (by kernel_rfl) (hRet _ _ ⟨_, _, rfl, hM83.clear, ?_⟩)
          -- end FLfLft
          first | exact congrArg Value.bool (stands_long (k := k) (by omega) (by assumption)).symm | exact congrArg Value.bool (stands_rise (k := k) (by omega) (by omega) (by assumption)).symm | exact congrArg Value.bool (stands_val (k := q) (by omega) (by assumption)).symm | exact congrArg Value.bool (stands_kid (k := m) (by omega) (by omega)).symm | (rw [stands_all (by assumption)]; (first | rw [vals_none (by assumption)] | rw [kids_none (by assumption)]); simp only [h111, h21, h88, cond_true, cond_false, Bool.true_and, Bool.and_true, Bool.false_and, Bool.and_false, Bool.not_true, Bool.not_false])
        · -- FLfLff
          have p113 : ¬ (((nv.length : Int)) = (0)) := of_decide_eq_false h111
          refine wpF_seg 10 (by kernel_rfl) ?_
          refine wpF_end _ (by kernel_rfl) (then_n (hK110 _ _ ?_))
          refine wp_ret (then_r (?_))
          refine retN [.bool (false)] (.bool (false)) Try.results35 (.tmp (by kernel_rfl) (by kernel_rfl) .nil) (by kernel_rfl) (hRet _ _ ⟨_, _, rfl, hM83.clear, ?_⟩)
          -- end FLfLff
          first | exact congrArg Value.bool (stands_long (k := k) (by omega) (by assumption)).symm | exact congrArg Value.bool (stands_rise (k := k) (by omega) (by omega) (by assumption)).symm | exact congrArg Value.bool (stands_val (k := q) (by omega) (by assumption)).symm | exact congrArg Value.bool (stands_kid (k := m) (by omega) (by omega)).symm | (rw [stands_all (by assumption)]; (first | rw [vals_none (by assumption)] | rw [kids_none (by assumption)]); simp only [h111, h21, h88, cond_true, cond_false, Bool.true_and, Bool.and_true, Bool.false_and, Bool.and_false, Bool.not_true, Bool.not_false])
  | true =>
    refine wp_seq_k (fun K114 hK114 => ?_)
    refine wp_reg ?_
    refine wpF_box hM0 #[.bool (true), .slice Ank (nk).length cnk, .slice Anv (nv).length cnv, .slice Anc (nc).length cnc] (h := (by kernel_rfl : opAt _ _ _ _ _ = some (.box 25 (.tmp 0), some 1))) (by kernel_rfl) (fun b115 w116 hM117 => ?_)
    obtain ⟨V118, le119, hM120, hc121⟩ := hM117.settle 0 rfl
    have hM122 : Step V w [] V118 _ ([]) := hM120
    refine wpF_seg 1 (by kernel_rfl) ?_
    refine wpF_end _ (by kernel_rfl) (then_n (hK114 _ _ ?_))
    refine wp_seq_k (fun K123 hK123 => ?_)
    refine wp_seq_k (fun K124 hK124 => ?_)
    refine wp_reg ?_
    refine wpF_seg 1 (by kernel_rfl) ?_
    refine wpF_end _ (by kernel_rfl) (then_n (hK124 _ _ ?_))
    refine wp_block ?_
    refine wp_base [(1, .pointer (some ⟨b115, 0, none⟩)), (3, .int .i64 ((0 : Int)))] (by kernel_rfl) (fun g126 => ?_)
    refine wp_loopX (fun (x_ : Nat) a_ w_ => ∃ (g : Nat → Value) (V_ : VT), a_ = env 104 [(1, .pointer (some ⟨b115, 0, none⟩)), (3, .int .i64 ((x_ : Int)))] g ∧ Step V w [] V_ w_ [] ∧ VT.le V118 V_ ∧ (x_ ≤ nk.length) ∧ (upTo nk (x_) = true)) (fun (x_ : Nat) => nk.length - x_) (0) ⟨g126, V118, rfl, hM122, VT.le.refl _, by omega, by rfl⟩ ?_
    rintro k a_ w128 ⟨g127, Vl125, rfl, hM129, le130, hi131_0, hi131_1⟩ K131 hK131
    refine wp_seq_k (fun K132 hK132 => ?_)
    refine wp_seq_k (fun K133 hK133 => ?_)
    refine wp_reg ?_
    refine wpF_seg 2 (by kernel_rfl) ?_
    refine gF hM129 (.load 22 (.tmp 7)) (some 8) (by kernel_rfl) (Y_loadB #[.bool (true), .slice Ank (nk).length cnk, .slice Anv (nv).length cnv, .slice Anc (nc).length cnc] (fun i v hi => le130 _ _ _ (hc121 i v hi)) (off := 1) (by kernel_rfl) (.slice Ank (nk).length cnk) (by kernel_rfl)) ?_
    refine wpF_seg 2 (by kernel_rfl) ?_
    refine wpF_end _ (by kernel_rfl) (then_n (hK133 _ _ ?_))
    refine wp_if (decide (((k : Int)) < ((nk.length : Int)))) (by kernel_rfl) (fun h134 => ?_) (fun h134 => ?_)
    · -- TLt
      have p135 : (((k : Int)) < ((nk.length : Int))) := of_decide_eq_true h134
      refine wp_skip (then_n (hK132 _ _ ?_))
      refine wp_seq_k (fun K136 hK136 => ?_)
      refine wp_block ?_
      refine wp_seq_k (fun K137 hK137 => ?_)
      refine wp_base [(1, .pointer (some ⟨b115, 0, none⟩)), (3, .int .i64 ((k : Int))), (6, .int .i64 ((k : Int))), (7, .pointer (some ⟨b115, 1, none⟩)), (8, .slice Ank (nk).length cnk), (9, .int .i64 ((nk.length : Int))), (10, .bool (decide (((k : Int)) < ((nk.length : Int)))))] (by kernel_rfl) (fun g138 => ?_)
      refine wp_drawN hM129 [] no_held [] [0, 1, 2, 3, 4, 5, 6, 7, 8, 9, 10, 11, 12, 13, 14, 15, 16, 17, 18, 19, 20, 21] [.a 22, .p 23, .p 24, .p 25] [.p 0, .p 1, .p 2, .p 3, .p 4, .p 5, .p 6, .p 7, .p 8, .p 9, .p 10, .p 11, .p 12, .p 13, .p 14, .p 15, .p 16, .p 17, .p 18, .p 19, .p 20, .p 21, .s, .a 22, .p 23, .p 24, .p 25] rfl (by kernel_rfl) (by kernel_rfl) ?_
      refine h_seg 1 (by kernel_rfl) ?_
      refine gH (.load 22 (.tmp 13)) (some 14) (by kernel_rfl) (Y_loadB #[.bool (true), .slice Ank (nk).length cnk, .slice Anv (nv).length cnv, .slice Anc (nc).length cnc] (fun i v hi => le130 _ _ _ (hc121 i v hi)) (off := 1) (by kernel_rfl) (.slice Ank (nk).length cnk) (by kernel_rfl)) ?_
      refine h_seg 1 (by kernel_rfl) ?_
      refine gH_index (A := Ank) (c := cnk) (hnk.up hM129.le) .i64 ((k : Int)) (h := (by kernel_rfl : opAt _ _ _ _ _ = some (.indexAddr 22 (.tmp 14) (.tmp 15), some 16))) (e := 9) (by kernel_rfl) (by kernel_rfl) (by kernel_rfl) (k) rfl (by omega) (fun b139 o140 at_b139 => ?_)
      have c141 : Vl125 b139 o140 = some (bs (nk.getD (k) [])) := (At.str at_b139).1
      have l142 : (nk.getD (k) []).length ≤ 140737488355328 := (At.str at_b139).2
      refine gH (.load 9 (.tmp 16)) (some 17) (by kernel_rfl) (Y_loadV c141 (by kernel_rfl) (by kernel_rfl)) ?_
      refine h_seg 3 (by kernel_rfl) ?_
      refine h_caseB 20 (decide ((128) < ((((nk.getD (k) [])).length : Int)))) (by kernel_rfl) (by kernel_rfl) (fun h143 => ?_) (fun h143 => ?_)
      · -- TLtt
        have p144 : ((128) < ((((nk.getD (k) [])).length : Int))) := of_decide_eq_true h143
        refine h_seg 14 (by kernel_rfl) ?_
        refine h_s no_fs ?_
        refine h_a (by kernel_rfl) (by kernel_rfl) (fun w145 X146 hM147 => ?_)
        refine wpF_seg 1 (by kernel_rfl) ?_
        refine wpF_end _ (by kernel_rfl) (then_n (h_d [] (by kernel_rfl) [] hM147 no_held (VT.le.refl _) ?_))
        refine h_seg 3 (by kernel_rfl) ?_
        refine h_n (fun w148 hM149 => ?_)
        refine  (then_n (hK137 _ _ ?_))
        refine wp_ct (by kernel_rfl) ?_
        refine wp_seq_k (fun K150 hK150 => ?_)
        refine wp_reg ?_
        refine wpF_seg 1 (by kernel_rfl) ?_
        refine wpF_end _ (by kernel_rfl) (then_n (hK150 _ _ ?_))
        refine wp_ret (blk_r (then_r (then_r (blk_r (then_r (?_))))))
        refine retN [.bool (false)] (.bool (false)) Try.results35 (.tmp (by kernel_rfl) (by kernel_rfl) .nil) (by kernel_rfl) (hRet _ _ ⟨_, _, rfl, hM149.clear, ?_⟩)
        -- end TLtt
        first | exact congrArg Value.bool (stands_long (k := k) (by omega) (by assumption)).symm | exact congrArg Value.bool (stands_rise (k := k) (by omega) (by omega) (by assumption)).symm | exact congrArg Value.bool (stands_val (k := q) (by omega) (by assumption)).symm | exact congrArg Value.bool (stands_kid (k := m) (by omega) (by omega)).symm | (rw [stands_all (by assumption)]; (first | rw [vals_none (by assumption)] | rw [kids_none (by assumption)]); simp only [h134, h143, cond_true, cond_false, Bool.true_and, Bool.and_true, Bool.false_and, Bool.and_false, Bool.not_true, Bool.not_false])
      · -- TLtf
        have p151 : ¬ ((128) < ((((nk.getD (k) [])).length : Int))) := of_decide_eq_false h143
        refine h_seg 3 (by kernel_rfl) ?_
        refine h_caseB 23 (decide ((0) < ((k : Int)))) (by kernel_rfl) (by kernel_rfl) (fun h152 => ?_) (fun h152 => ?_)
        · -- TLtft
          have p153 : ((0) < ((k : Int))) := of_decide_eq_true h152
          refine h_seg 1 (by kernel_rfl) ?_
          refine gH (.load 22 (.tmp 24)) (some 25) (by kernel_rfl) (Y_loadB #[.bool (true), .slice Ank (nk).length cnk, .slice Anv (nv).length cnv, .slice Anc (nc).length cnc] (fun i v hi => le130 _ _ _ (hc121 i v hi)) (off := 1) (by kernel_rfl) (.slice Ank (nk).length cnk) (by kernel_rfl)) ?_
          refine h_seg 1 (by kernel_rfl) ?_
          refine gH (.binOp .sub 3 (.tmp 26) (.const (.int .i64 1)) 3) (some 27) (by kernel_rfl) (Y_sub .i64 ((k : Int)) (1) ((k : Int) - 1) (by kernel_rfl) (by kernel_rfl) (wrap64_ok _ (by omega))) ?_
          refine gH_index (A := Ank) (c := cnk) (hnk.up hM129.le) .i64 ((k : Int) - 1) (h := (by kernel_rfl : opAt _ _ _ _ _ = some (.indexAddr 22 (.tmp 25) (.tmp 27), some 28))) (e := 9) (by kernel_rfl) (by kernel_rfl) (by kernel_rfl) (k - 1) (by omega) (by omega) (fun b154 o155 at_b154 => ?_)
          have c156 : Vl125 b154 o155 = some (bs (nk.getD (k - 1) [])) := (At.str at_b154).1
          have l157 : (nk.getD (k - 1) []).length ≤ 140737488355328 := (At.str at_b154).2
          refine gH (.load 9 (.tmp 28)) (some 29) (by kernel_rfl) (Y_loadV c156 (by kernel_rfl) (by kernel_rfl)) ?_
          refine h_seg 1 (by kernel_rfl) ?_
          refine gH (.load 22 (.tmp 30)) (some 31) (by kernel_rfl) (Y_loadB #[.bool (true), .slice Ank (nk).length cnk, .slice Anv (nv).length cnv, .slice Anc (nc).length cnc] (fun i v hi => le130 _ _ _ (hc121 i v hi)) (off := 1) (by kernel_rfl) (.slice Ank (nk).length cnk) (by kernel_rfl)) ?_
          refine h_seg 1 (by kernel_rfl) ?_
          refine gH_index (A := Ank) (c := cnk) (hnk.up hM129.le) .i64 ((k : Int)) (h := (by kernel_rfl : opAt _ _ _ _ _ = some (.indexAddr 22 (.tmp 31) (.tmp 32), some 33))) (e := 9) (by kernel_rfl) (by kernel_rfl) (by kernel_rfl) (k) rfl (by omega) (fun b158 o159 at_b158 => ?_)
          have c160 : Vl125 b158 o159 = some (bs (nk.getD (k) [])) := (At.str at_b158).1
          have l161 : (nk.getD (k) []).length ≤ 140737488355328 := (At.str at_b158).2
          refine gH (.load 9 (.tmp 33)) (some 34) (by kernel_rfl) (Y_loadV c160 (by kernel_rfl) (by kernel_rfl)) ?_
          refine h_s no_fs ?_
          refine h_a (by kernel_rfl) (by kernel_rfl) (fun w162 X163 hM164 => ?_)
          refine wpF_callP hM164 (f := 49) (caps := #[]) (h := (by kernel_rfl : opAt _ _ _ _ _ = some (.call (.mk (.value (.func 49)) #[(.tmp 29), (.tmp 34)] #[9, 9]), some 35))) (by kernel_rfl) (by kernel_rfl) (by kernel_rfl) (f49 _ _ hM164.inW ((nk.getD (k - 1) [])) (l157) ((nk.getD (k) [])) (l161)) (fun v165 V166 w167 le168 hM169 hp170 => ?_)
          obtain rfl := hp170
          refine wpF_end _ (by kernel_rfl) (then_n (h_d [] (by kernel_rfl) [] hM169 no_held le168 ?_))
          refine h_seg 3 (by kernel_rfl) ?_
          refine h_n (fun w171 hM172 => ?_)
          refine  (then_n (hK137 _ _ ?_))
          refine wp_if (!(decide (((nk.getD (k - 1) [])) < ((nk.getD (k) []))))) (by kernel_rfl) (fun h173 => ?_) (fun h173 => ?_)
          · -- TLtftt
            have h174 : decide (((nk.getD (k - 1) [])) < ((nk.getD (k) []))) = false := by rw [← Bool.not_not (decide _), h173]; rfl
            have p175 : ¬ (((nk.getD (k - 1) [])) < ((nk.getD (k) []))) := of_decide_eq_false h174
            refine wp_seq_k (fun K176 hK176 => ?_)
            refine wp_reg ?_
            refine wpF_seg 1 (by kernel_rfl) ?_
            refine wpF_end _ (by kernel_rfl) (then_n (hK176 _ _ ?_))
            refine wp_ret (blk_r (then_r (then_r (blk_r (then_r (?_))))))
            refine retN [.bool (false)] (.bool (false)) Try.results35 (.tmp (by kernel_rfl) (by kernel_rfl) .nil) (by kernel_rfl) (hRet _ _ ⟨_, _, rfl, hM172.clear, ?_⟩)
            -- end TLtftt
            first | exact congrArg Value.bool (stands_long (k := k) (by omega) (by assumption)).symm | exact congrArg Value.bool (stands_rise (k := k) (by omega) (by omega) (by assumption)).symm | exact congrArg Value.bool (stands_val (k := q) (by omega) (by assumption)).symm | exact congrArg Value.bool (stands_kid (k := m) (by omega) (by omega)).symm | (rw [stands_all (by assumption)]; (first | rw [vals_none (by assumption)] | rw [kids_none (by assumption)]); simp only [h134, h143, h152, h173, h174, cond_true, cond_false, Bool.true_and, Bool.and_true, Bool.false_and, Bool.and_false, Bool.not_true, Bool.not_false])
          · -- TLtftf
            have h177 : decide (((nk.getD (k - 1) [])) < ((nk.getD (k) []))) = true := by rw [← Bool.not_not (decide _), h173]; rfl
            have p178 : (((nk.getD (k - 1) [])) < ((nk.getD (k) []))) := of_decide_eq_true h177
            refine wp_skip (blk_n (then_n (hK136 _ _ ?_)))
            refine wp_reg ?_
            refine wpF_seg 1 (by kernel_rfl) ?_
            refine gF hM172 (.binOp .add 3 (.tmp 11) (.const (.int .i64 1)) 3) (some 12) (by kernel_rfl) (Y_add .i64 ((k : Int)) (1) ((k : Int) + 1) (by kernel_rfl) (by kernel_rfl) (wrap64_ok _ (by omega))) ?_
            refine wpF_seg 1 (by kernel_rfl) ?_
            refine wpF_base [(1, .pointer (some ⟨b115, 0, none⟩)), (3, .int .i64 ((k + 1 : Int)))] (by kernel_rfl) (fun g179 => ?_)
            refine wpF_end _ (by kernel_rfl) (then_n (hK131 _ _ (k + 1) (by omega) ?_))
            refine ⟨g179, V166, rfl, hM172, (le130.trans le168), ?_, ?_⟩
            · -- TLtftf inv 0
              omega
            · -- TLtftf inv 1
              exact upTo_step (by assumption) (by assumption) (by first | exact .inl (by omega) | exact .inr (by assumption))
        · -- TLtff
          have p180 : ¬ ((0) < ((k : Int))) := of_decide_eq_false h152
          refine h_seg 11 (by kernel_rfl) ?_
          refine h_s no_fs ?_
          refine h_a (by kernel_rfl) (by kernel_rfl) (fun w181 X182 hM183 => ?_)
          refine wpF_seg 1 (by kernel_rfl) ?_
          refine wpF_end _ (by kernel_rfl) (then_n (h_d [] (by kernel_rfl) [] hM183 no_held (VT.le.refl _) ?_))
          refine h_seg 3 (by kernel_rfl) ?_
          refine h_n (fun w184 hM185 => ?_)
          refine  (then_n (hK137 _ _ ?_))
          refine wp_cf (by kernel_rfl) ?_
          refine wp_skip (blk_n (then_n (hK136 _ _ ?_)))
          refine wp_reg ?_
          refine wpF_seg 1 (by kernel_rfl) ?_
          refine gF hM185 (.binOp .add 3 (.tmp 11) (.const (.int .i64 1)) 3) (some 12) (by kernel_rfl) (Y_add .i64 ((k : Int)) (1) ((k : Int) + 1) (by kernel_rfl) (by kernel_rfl) (wrap64_ok _ (by omega))) ?_
          refine wpF_seg 1 (by kernel_rfl) ?_
          refine wpF_base [(1, .pointer (some ⟨b115, 0, none⟩)), (3, .int .i64 ((k + 1 : Int)))] (by kernel_rfl) (fun g186 => ?_)
          refine wpF_end _ (by kernel_rfl) (then_n (hK131 _ _ (k + 1) (by omega) ?_))
          refine ⟨g186, Vl125, rfl, hM185, le130, ?_, ?_⟩
          · -- TLtff inv 0
            omega
          · -- TLtff inv 1
            exact upTo_step (by assumption) (by assumption) (by first | exact .inl (by omega) | exact .inr (by assumption))
    · -- TLf
      have p187 : ¬ (((k : Int)) < ((nk.length : Int))) := of_decide_eq_false h134
      refine wp_exit (then_x (then_x (blk_hit (then_n (hK123 _ _ ?_)))))
      obtain rfl : k = nk.length := by omega
      refine wp_seq_k (fun K188 hK188 => ?_)
      refine wp_seq_k (fun K189 hK189 => ?_)
      refine wp_reg ?_
      refine wpF_seg 1 (by kernel_rfl) ?_
      refine gF hM129 (.load 4 (.tmp 39)) (some 40) (by kernel_rfl) (Y_loadB #[.bool (true), .slice Ank (nk).length cnk, .slice Anv (nv).length cnv, .slice Anc (nc).length cnc] (fun i v hi => le130 _ _ _ (hc121 i v hi)) (off := 0) (by kernel_rfl) (.bool (true)) (by kernel_rfl)) ?_
      refine wpF_seg 1 (by kernel_rfl) ?_
      refine wpF_end _ (by kernel_rfl) (then_n (hK189 _ _ ?_))
      refine wp_cf (by kernel_rfl) ?_
      refine wp_skip (then_n (hK188 _ _ ?_))
      refine wp_seq_k (fun K190 hK190 => ?_)
      refine wp_seq_k (fun K191 hK191 => ?_)
      refine wp_reg ?_
      refine wpF_seg 1 (by kernel_rfl) ?_
      refine wpF_end _ (by kernel_rfl) (then_n (hK191 _ _ ?_))
      refine wp_block ?_
      refine wp_base [(1, .pointer (some ⟨b115, 0, none⟩)), (5, .int .i64 ((0 : Int)))] (by kernel_rfl) (fun g193 => ?_)
      refine wp_loopX (fun (x_ : Nat) a_ w_ => ∃ (g : Nat → Value) (V_ : VT), a_ = env 104 [(1, .pointer (some ⟨b115, 0, none⟩)), (5, .int .i64 ((x_ : Int)))] g ∧ Step V w [] V_ w_ [] ∧ VT.le Vl125 V_ ∧ (x_ ≤ nv.length) ∧ (∀ i, i < x_ → ¬ (200 : Int) < ((nv.getD i []).length : Int))) (fun (x_ : Nat) => nv.length - x_) (0) ⟨g193, Vl125, rfl, hM129, VT.le.refl _, by omega, by (intro i hi; omega)⟩ ?_
      rintro q a_ w195 ⟨g194, Vl192, rfl, hM196, le197, hi198_0, hi198_1⟩ K198 hK198
      refine wp_seq_k (fun K199 hK199 => ?_)
      refine wp_seq_k (fun K200 hK200 => ?_)
      refine wp_reg ?_
      refine wpF_seg 2 (by kernel_rfl) ?_
      refine gF hM196 (.load 22 (.tmp 78)) (some 79) (by kernel_rfl) (Y_loadB #[.bool (true), .slice Ank (nk).length cnk, .slice Anv (nv).length cnv, .slice Anc (nc).length cnc] (fun i v hi => (le130.trans le197) _ _ _ (hc121 i v hi)) (off := 2) (by kernel_rfl) (.slice Anv (nv).length cnv) (by kernel_rfl)) ?_
      refine wpF_seg 2 (by kernel_rfl) ?_
      refine wpF_end _ (by kernel_rfl) (then_n (hK200 _ _ ?_))
      refine wp_if (decide (((q : Int)) < ((nv.length : Int)))) (by kernel_rfl) (fun h201 => ?_) (fun h201 => ?_)
      · -- TLfLt
        have p202 : (((q : Int)) < ((nv.length : Int))) := of_decide_eq_true h201
        refine wp_skip (then_n (hK199 _ _ ?_))
        refine wp_seq_k (fun K203 hK203 => ?_)
        refine wp_block ?_
        refine wp_seq_k (fun K204 hK204 => ?_)
        refine wp_reg ?_
        refine wpF_seg 1 (by kernel_rfl) ?_
        refine gF hM196 (.load 22 (.tmp 84)) (some 85) (by kernel_rfl) (Y_loadB #[.bool (true), .slice Ank (nk).length cnk, .slice Anv (nv).length cnv, .slice Anc (nc).length cnc] (fun i v hi => (le130.trans le197) _ _ _ (hc121 i v hi)) (off := 2) (by kernel_rfl) (.slice Anv (nv).length cnv) (by kernel_rfl)) ?_
        refine wpF_seg 1 (by kernel_rfl) ?_
        refine gF_index (A := Anv) (c := cnv) (hnv.up hM196.le) .i64 ((q : Int)) (h := (by kernel_rfl : opAt _ _ _ _ _ = some (.indexAddr 22 (.tmp 85) (.tmp 86), some 87))) (e := 9) (by kernel_rfl) (by kernel_rfl) (by kernel_rfl) (q) rfl (by omega) (fun b205 o206 at_b205 => ?_)
        have c207 : Vl192 b205 o206 = some (bs (nv.getD (q) [])) := (At.str at_b205).1
        have l208 : (nv.getD (q) []).length ≤ 140737488355328 := (At.str at_b205).2
        refine gF hM196 (.load 9 (.tmp 87)) (some 88) (by kernel_rfl) (Y_loadV c207 (by kernel_rfl) (by kernel_rfl)) ?_
        refine wpF_seg 2 (by kernel_rfl) ?_
        refine wpF_end _ (by kernel_rfl) (then_n (hK204 _ _ ?_))
        refine wp_if (decide ((200) < ((((nv.getD (q) [])).length : Int)))) (by kernel_rfl) (fun h209 => ?_) (fun h209 => ?_)
        · -- TLfLtt
          have p210 : ((200) < ((((nv.getD (q) [])).length : Int))) := of_decide_eq_true h209
          refine wp_seq_k (fun K211 hK211 => ?_)
          refine wp_reg ?_
          refine wpF_seg 1 (by kernel_rfl) ?_
          refine wpF_end _ (by kernel_rfl) (then_n (hK211 _ _ ?_))
          refine wp_ret (blk_r (then_r (then_r (blk_r (then_r (?_))))))
          refine retN [.bool (false)] (.bool (false)) Try.results35 (.tmp (by kernel_rfl) (by kernel_rfl) .nil) (by kernel_rfl) (hRet _ _ ⟨_, _, rfl, hM196.clear, ?_⟩)
          -- end TLfLtt
          first | exact congrArg Value.bool (stands_long (k := k) (by omega) (by assumption)).symm | exact congrArg Value.bool (stands_rise (k := k) (by omega) (by omega) (by assumption)).symm | exact congrArg Value.bool (stands_val (k := q) (by omega) (by assumption)).symm | exact congrArg Value.bool (stands_kid (k := m) (by omega) (by omega)).symm | (rw [stands_all (by assumption)]; (first | rw [vals_none (by assumption)] | rw [kids_none (by assumption)]); simp only [h134, h201, h209, cond_true, cond_false, Bool.true_and, Bool.and_true, Bool.false_and, Bool.and_false, Bool.not_true, Bool.not_false])
        · -- TLfLtf
          have p212 : ¬ ((200) < ((((nv.getD (q) [])).length : Int))) := of_decide_eq_false h209
          refine wp_skip (blk_n (then_n (hK203 _ _ ?_)))
          refine wp_reg ?_
          refine wpF_seg 1 (by kernel_rfl) ?_
          refine gF hM196 (.binOp .add 3 (.tmp 82) (.const (.int .i64 1)) 3) (some 83) (by kernel_rfl) (Y_add .i64 ((q : Int)) (1) ((q : Int) + 1) (by kernel_rfl) (by kernel_rfl) (wrap64_ok _ (by omega))) ?_
          refine wpF_seg 1 (by kernel_rfl) ?_
          refine wpF_base [(1, .pointer (some ⟨b115, 0, none⟩)), (5, .int .i64 ((q + 1 : Int)))] (by kernel_rfl) (fun g213 => ?_)
          refine wpF_end _ (by kernel_rfl) (then_n (hK198 _ _ (q + 1) (by omega) ?_))
          refine ⟨g213, Vl192, rfl, hM196, le197, ?_, ?_⟩
          · -- TLfLtf inv 0
            omega
          · -- TLfLtf inv 1
            exact all_step (by assumption) (by omega)
      · -- TLfLf
        have p214 : ¬ (((q : Int)) < ((nv.length : Int))) := of_decide_eq_false h201
        refine wp_exit (then_x (then_x (blk_hit (then_n (hK190 _ _ ?_)))))
        obtain rfl : q = nv.length := by omega
        refine wp_seq_k (fun K215 hK215 => ?_)
        refine wp_reg ?_
        refine wpF_seg 1 (by kernel_rfl) ?_
        refine gF hM196 (.load 22 (.tmp 91)) (some 92) (by kernel_rfl) (Y_loadB #[.bool (true), .slice Ank (nk).length cnk, .slice Anv (nv).length cnv, .slice Anc (nc).length cnc] (fun i v hi => (le130.trans le197) _ _ _ (hc121 i v hi)) (off := 2) (by kernel_rfl) (.slice Anv (nv).length cnv) (by kernel_rfl)) ?_
        refine wpF_seg 2 (by kernel_rfl) ?_
        refine gF hM196 (.load 22 (.tmp 94)) (some 95) (by kernel_rfl) (Y_loadB #[.bool (true), .slice Ank (nk).length cnk, .slice Anv (nv).length cnv, .slice Anc (nc).length cnc] (fun i v hi => (le130.trans le197) _ _ _ (hc121 i v hi)) (off := 1) (by kernel_rfl) (.slice Ank (nk).length cnk) (by kernel_rfl)) ?_
        refine wpF_seg 3 (by kernel_rfl) ?_
        refine wpF_caseB 98 (decide (((nv.length : Int)) = ((nk.length : Int)))) (by kernel_rfl) (by kernel_rfl) (fun h216 => ?_) (fun h216 => ?_)
        · -- TLfLft
          have p217 : (((nv.length : Int)) = ((nk.length : Int))) := of_decide_eq_true h216
          refine wpF_seg 1 (by kernel_rfl) ?_
          refine gF hM196 (.load 23 (.tmp 99)) (some 100) (by kernel_rfl) (Y_loadB #[.bool (true), .slice Ank (nk).length cnk, .slice Anv (nv).length cnv, .slice Anc (nc).length cnc] (fun i v hi => (le130.trans le197) _ _ _ (hc121 i v hi)) (off := 3) (by kernel_rfl) (.slice Anc (nc).length cnc) (by kernel_rfl)) ?_
          refine wpF_seg 4 (by kernel_rfl) ?_
          refine wpF_end _ (by kernel_rfl) (then_n (hK215 _ _ ?_))
          refine wp_ret ?_
          refine retN [.bool (decide (((nc.length : Int)) = (0)))] (.bool (decide (((nc.length : Int)) = (0)))) Try.results35 (.tmp (by kernel_rfl) (by kernel_rfl) .nil) (by kernel_rfl) (hRet _ _ ⟨_, _, rfl, hM196.clear, ?_⟩)
          -- end TLfLft
          first | exact congrArg Value.bool (stands_long (k := k) (by omega) (by assumption)).symm | exact congrArg Value.bool (stands_rise (k := k) (by omega) (by omega) (by assumption)).symm | exact congrArg Value.bool (stands_val (k := q) (by omega) (by assumption)).symm | exact congrArg Value.bool (stands_kid (k := m) (by omega) (by omega)).symm | (rw [stands_all (by assumption)]; (first | rw [vals_none (by assumption)] | rw [kids_none (by assumption)]); simp only [h134, h201, h216, cond_true, cond_false, Bool.true_and, Bool.and_true, Bool.false_and, Bool.and_false, Bool.not_true, Bool.not_false])
        · -- TLfLff
          have p218 : ¬ (((nv.length : Int)) = ((nk.length : Int))) := of_decide_eq_false h216
          refine wpF_seg 6 (by kernel_rfl) ?_
          refine wpF_end _ (by kernel_rfl) (then_n (hK215 _ _ ?_))
          refine wp_ret ?_
          refine retN [.bool (false)] (.bool (false)) Try.results35 (.tmp (by kernel_rfl) (by kernel_rfl) .nil) (by kernel_rfl) (hRet _ _ ⟨_, _, rfl, hM196.clear, ?_⟩)
          -- end TLfLff
          first | exact congrArg Value.bool (stands_long (k := k) (by omega) (by assumption)).symm | exact congrArg Value.bool (stands_rise (k := k) (by omega) (by omega) (by assumption)).symm | exact congrArg Value.bool (stands_val (k := q) (by omega) (by assumption)).symm | exact congrArg Value.bool (stands_kid (k := m) (by omega) (by omega)).symm | (rw [stands_all (by assumption)]; (first | rw [vals_none (by assumption)] | rw [kids_none (by assumption)]); simp only [h134, h201, h216, cond_true, cond_false, Bool.true_and, Bool.and_true, Bool.false_and, Bool.and_false, Bool.not_true, Bool.not_false])

end Go.Vk
