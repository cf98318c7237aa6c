import Derived.Test.YtnibbocbefnnnaaRIt
import Derived.Test.YtnibbocbefnnnaaRMathSp
import Derived.Test.YtnibbocbefnnnaaRMathSq
import Derived.Test.YtnibbocbefnnnaaRPlainSp
import Derived.Test.YtnibbocbefnnnaaRSd
import Derived.Test.YtnibbocbefnnnaaRSp
import Derived.Test.YtnibbocbefnnnaaRSq
import Derived.Test.YtnibbocbefnnnaaRSt
set_option linter.unusedVariables false
set_option linter.unusedSimpArgs false
namespace Go.Vk
open Go.Proofs
variable {D : List Deferred}
set_option maxHeartbeats 4000000 in
set_option maxRecDepth 100000 in
theorem f95 (V : VT) (w : World) (hV : V.inW w) (AsL : Option Addr) (csL : Nat) (sL : List ((Str × (List ((Int × Str × Bool)))))) (hsL : Rd (prK strK (slK (prK (intK .i64) (prK strK boolK)))) V AsL csL sL) (sa : Int) (sb : Int) (t : Int) (Al : Option Addr) (cl : Nat) (l : List ((Str × Str × Bool))) (hl : Rd (prK strK (prK strK boolK)) V Al cl l) (hup : SpI sL) (h5 : sL.length + l.length ≤ 99000) (hb : ∀ y, (lkD y sL).length < 4398046511104) (h6 : IntKind.i64.min ≤ t ∧ t ≤ IntKind.i64.max) :
    Calls Try.prog 95 #[.agg #[.slice AsL (sL).length csL, .int .i64 (sa), .int .i64 (sb)], .int .i64 (t), .slice Al (l).length cl] w (RetP V w fun rv V' => ∃ (A1 : Option Addr), ∃ (c1 : Nat), rv = .tuple #[.agg #[.slice A1 (appS t sL sa l).length c1, .int .i64 (appT t sa l), .int .i64 (sb)], .int .i64 (appE t sa l)] ∧ Rd (prK strK (slK (prK (intK .i64) (prK strK boolK)))) V' A1 c1 (appS t sL sa l)) := by
  have mxsL : sL.length ≤ 140737488355328 := hsL.max
  have mxl : l.length ≤ 140737488355328 := hl.max
  refine calls_env (n := 69) Try.func95 (c := _) rfl Try.ntmps95 (by kernel_rfl) (fun R hRet => ?_)
  have hM0 : Step V w [] V w [] := Step.refl (St.nilE hV)
  refine wp_seq_k (fun K1 hK1 => ?_)
  refine wp_reg ?_
  refine wpF_box hM0 #[.slice AsL (sL).length csL, .int .i64 (sa), .int .i64 (sb)] (h := (by kernel_rfl : opAt _ _ _ _ _ = some (.box 50 (.tmp 0), some 3))) (by kernel_rfl) (fun b2 w3 hM4 => ?_)
  obtain ⟨V5, le6, hM7, hc8⟩ := hM4.settle 0 rfl
  have hM9 : Step V w [] V5 _ ([]) := hM7
  refine wpF_alloc hM9 #[.slice none 0 0, .int .i64 (0), .int .i64 (0)] (h := (by kernel_rfl : opAt _ _ _ _ _ = some (.alloc 50, some 6))) (by kernel_rfl) (fun b10 w11 hM12 => ?_)
  refine wpF_seg 1 (by kernel_rfl) ?_
  refine wpF_end _ (by kernel_rfl) (then_n (hK1 _ _ ?_))
  refine wp_seq_k (fun K13 hK13 => ?_)
  refine wp_seq_k (fun K14 hK14 => ?_)
  refine wp_reg ?_
  refine wpF_seg 2 (by kernel_rfl) ?_
  refine gF hM12 (.load 3 (.tmp 13)) (some 14) (by kernel_rfl) (Y_loadB #[.slice AsL (sL).length csL, .int .i64 (sa), .int .i64 (sb)] hc8 (off := 1) (by kernel_rfl) (.int .i64 (sa)) (by kernel_rfl)) ?_
  refine wpF_seg 2 (by kernel_rfl) ?_
  refine wpF_caseB 16 (decide ((t) ≤ (sa))) (by kernel_rfl) (by kernel_rfl) (fun h15 => ?_) (fun h15 => ?_)
  · -- t
    have p16 : ((t) ≤ (sa)) := of_decide_eq_true h15
    refine wpF_seg 3 (by kernel_rfl) ?_
    refine wpF_end _ (by kernel_rfl) (then_n (hK14 _ _ ?_))
    refine wp_ct (by kernel_rfl) ?_
    refine wp_seq_k (fun K17 hK17 => ?_)
    refine wp_reg ?_
    refine gF hM12 (.load 50 (.tmp 3)) (some 20) (by kernel_rfl) (Y_loadB #[.slice AsL (sL).length csL, .int .i64 (sa), .int .i64 (sb)] hc8 (off := 0) (by kernel_rfl) (.agg #[.slice AsL (sL).length csL, .int .i64 (sa), .int .i64 (sb)]) (by kernel_rfl)) ?_
    refine wpF_store hM12 0 rfl (h := (by kernel_rfl : opAt _ _ _ _ _ = some (.store 50 (.tmp 6) (.tmp 20), none))) (off := 0) (by kernel_rfl) #[.slice AsL (sL).length csL, .int .i64 (sa), .int .i64 (sb)] (by kernel_rfl) (by kernel_rfl) (by kernel_rfl) (by kernel_rfl) (fun w19 hM18 => ?_)
    have hM20 : Step V w [] V5 _ ([.blk b10 (.cells #[.slice AsL (sL).length csL, .int .i64 (sa), .int .i64 (sb)] 50)]) := hM18
    refine wpF_seg 1 (by kernel_rfl) ?_
    refine wpF_end _ (by kernel_rfl) (then_n (hK17 _ _ ?_))
    refine wp_ret (then_r (?_))
    refine retN [.agg #[.slice AsL (sL).length csL, .int .i64 (sa), .int .i64 (sb)], .int .i64 (18)] (.tuple #[.agg #[.slice AsL (sL).length csL, .int .i64 (sa), .int .i64 (sb)], .int .i64 (18)]) Try.results95 (.cell (by kernel_rfl) (by kernel_rfl) hM20 0 rfl (by kernel_rfl) (.tmp (by kernel_rfl) (by kernel_rfl) .nil)) (by kernel_rfl) (hRet _ _ ⟨_, _, rfl, hM20.clear, ?_⟩)
    -- end t
    refine ⟨AsL, csL, ?_, ?_⟩
    · first | (simp only [appOk, appE, appS, appT, h15, cond_true, cond_false, Bool.true_or, Bool.or_true, Bool.false_or, Bool.or_false, Bool.true_and, Bool.and_true, Bool.false_and, Bool.and_false, Bool.not_true, Bool.not_false]; done) | (rw [ho]; simp only [appOk, appE, appS, appT, h15, cond_true, cond_false, Bool.true_or, Bool.or_true, Bool.false_or, Bool.or_false, Bool.true_and, Bool.and_true, Bool.false_and, Bool.and_false, Bool.not_true, Bool.not_false]; done) | (rw [ho]; simp only [appOk, appE, appS, appT, h15, cond_true, cond_false, Bool.true_or, Bool.or_true, Bool.false_or, Bool.or_false, Bool.true_and, Bool.and_true, Bool.false_and, Bool.and_false, Bool.not_true, Bool.not_false] <;> rfl)
    · first | exact (hsL.up hM20.le) | (exact Rd.eq (hsL.up hM20.le) (by first | (simp only [appOk, appE, appS, appT, h15, cond_true, cond_false, Bool.true_or, Bool.or_true, Bool.false_or, Bool.or_false, Bool.true_and, Bool.and_true, Bool.false_and, Bool.and_false, Bool.not_true, Bool.not_false]; done) | (rw [ho]; simp only [appOk, appE, appS, appT, h15, cond_true, cond_false, Bool.true_or, Bool.or_true, Bool.false_or, Bool.or_false, Bool.true_and, Bool.and_true, Bool.false_and, Bool.and_false, Bool.not_true, Bool.not_false]; done)))
  · -- f
    have p21 : ¬ ((t) ≤ (sa)) := of_decide_eq_false h15
    refine wpF_seg 3 (by kernel_rfl) ?_
    refine wpF_end _ (by kernel_rfl) (then_n (hK14 _ _ ?_))
    refine wp_if (decide ((1152921504606846976) < (t))) (by kernel_rfl) (fun h22 => ?_) (fun h22 => ?_)
    · -- ft
      have p23 : ((1152921504606846976) < (t)) := of_decide_eq_true h22
      refine wp_seq_k (fun K24 hK24 => ?_)
      refine wp_reg ?_
      refine gF hM12 (.load 50 (.tmp 3)) (some 20) (by kernel_rfl) (Y_loadB #[.slice AsL (sL).length csL, .int .i64 (sa), .int .i64 (sb)] hc8 (off := 0) (by kernel_rfl) (.agg #[.slice AsL (sL).length csL, .int .i64 (sa), .int .i64 (sb)]) (by kernel_rfl)) ?_
      refine wpF_store hM12 0 rfl (h := (by kernel_rfl : opAt _ _ _ _ _ = some (.store 50 (.tmp 6) (.tmp 20), none))) (off := 0) (by kernel_rfl) #[.slice AsL (sL).length csL, .int .i64 (sa), .int .i64 (sb)] (by kernel_rfl) (by kernel_rfl) (by kernel_rfl) (by kernel_rfl) (fun w26 hM25 => ?_)
      have hM27 : Step V w [] V5 _ ([.blk b10 (.cells #[.slice AsL (sL).length csL, .int .i64 (sa), .int .i64 (sb)] 50)]) := hM25
      refine wpF_seg 1 (by kernel_rfl) ?_
      refine wpF_end _ (by kernel_rfl) (then_n (hK24 _ _ ?_))
      refine wp_ret (then_r (?_))
      refine retN [.agg #[.slice AsL (sL).length csL, .int .i64 (sa), .int .i64 (sb)], .int .i64 (18)] (.tuple #[.agg #[.slice AsL (sL).length csL, .int .i64 (sa), .int .i64 (sb)], .int .i64 (18)]) Try.results95 (.cell (by kernel_rfl) (by kernel_rfl) hM27 0 rfl (by kernel_rfl) (.tmp (by kernel_rfl) (by kernel_rfl) .nil)) (by kernel_rfl) (hRet _ _ ⟨_, _, rfl, hM27.clear, ?_⟩)
      -- end ft
      refine ⟨AsL, csL, ?_, ?_⟩
      · first | (simp only [appOk, appE, appS, appT, h15, h22, cond_true, cond_false, Bool.true_or, Bool.or_true, Bool.false_or, Bool.or_false, Bool.true_and, Bool.and_true, Bool.false_and, Bool.and_false, Bool.not_true, Bool.not_false]; done) | (rw [ho]; simp only [appOk, appE, appS, appT, h15, h22, cond_true, cond_false, Bool.true_or, Bool.or_true, Bool.false_or, Bool.or_false, Bool.true_and, Bool.and_true, Bool.false_and, Bool.and_false, Bool.not_true, Bool.not_false]; done) | (rw [ho]; simp only [appOk, appE, appS, appT, h15, h22, cond_true, cond_false, Bool.true_or, Bool.or_true, Bool.false_or, Bool.or_false, Bool.true_and, Bool.and_true, Bool.false_and, Bool.and_false, Bool.not_true, Bool.not_false] <;> rfl)
      · first | exact (hsL.up hM27.le) | (exact Rd.eq (hsL.up hM27.le) (by first | (simp only [appOk, appE, appS, appT, h15, h22, cond_true, cond_false, Bool.true_or, Bool.or_true, Bool.false_or, Bool.or_false, Bool.true_and, Bool.and_true, Bool.false_and, Bool.and_false, Bool.not_true, Bool.not_false]; done) | (rw [ho]; simp only [appOk, appE, appS, appT, h15, h22, cond_true, cond_false, Bool.true_or, Bool.or_true, Bool.false_or, Bool.or_false, Bool.true_and, Bool.and_true, Bool.false_and, Bool.and_false, Bool.not_true, Bool.not_false]; done)))
    · -- ff
      have p28 : ¬ ((1152921504606846976) < (t)) := of_decide_eq_false h22
      refine wp_skip (then_n (hK13 _ _ ?_))
      refine wp_seq_k (fun K29 hK29 => ?_)
      refine wp_seq_k (fun K30 hK30 => ?_)
      refine wp_reg ?_
      refine wpF_seg 1 (by kernel_rfl) ?_
      refine wpF_callP hM12 (f := 129) (caps := #[]) (h := (by kernel_rfl : opAt _ _ _ _ _ = some (.call (.mk (.value (.func 129)) #[(.tmp 21)] #[45]), some 22))) (by kernel_rfl) (by kernel_rfl) (by kernel_rfl) (f129 _ _ hM12.inW Al cl (l) (hl.up hM12.le)) (fun v31 V32 w33 le34 hM35 hp36 => ?_)
      obtain rfl := hp36
      refine wpF_seg 1 (by kernel_rfl) ?_
      refine wpF_end _ (by kernel_rfl) (then_n (hK30 _ _ ?_))
      refine wp_if (!(fitB (l))) (by kernel_rfl) (fun h37 => ?_) (fun h37 => ?_)
      · -- fft
        have h38 : (fitB (l)) = false := by simpa using h37
        refine wp_seq_k (fun K39 hK39 => ?_)
        refine wp_reg ?_
        refine gF hM35 (.load 50 (.tmp 3)) (some 24) (by kernel_rfl) (Y_loadB #[.slice AsL (sL).length csL, .int .i64 (sa), .int .i64 (sb)] (fun i v hi => le34 _ _ _ (hc8 i v hi)) (off := 0) (by kernel_rfl) (.agg #[.slice AsL (sL).length csL, .int .i64 (sa), .int .i64 (sb)]) (by kernel_rfl)) ?_
        refine wpF_store hM35 0 rfl (h := (by kernel_rfl : opAt _ _ _ _ _ = some (.store 50 (.tmp 6) (.tmp 24), none))) (off := 0) (by kernel_rfl) #[.slice AsL (sL).length csL, .int .i64 (sa), .int .i64 (sb)] (by kernel_rfl) (by kernel_rfl) (by kernel_rfl) (by kernel_rfl) (fun w41 hM40 => ?_)
        have hM42 : Step V w [] V32 _ ([.blk b10 (.cells #[.slice AsL (sL).length csL, .int .i64 (sa), .int .i64 (sb)] 50)]) := hM40
        refine wpF_seg 1 (by kernel_rfl) ?_
        refine wpF_end _ (by kernel_rfl) (then_n (hK39 _ _ ?_))
        refine wp_ret (then_r (?_))
        refine retN [.agg #[.slice AsL (sL).length csL, .int .i64 (sa), .int .i64 (sb)], .int .i64 (2)] (.tuple #[.agg #[.slice AsL (sL).length csL, .int .i64 (sa), .int .i64 (sb)], .int .i64 (2)]) Try.results95 (.cell (by kernel_rfl) (by kernel_rfl) hM42 0 rfl (by kernel_rfl) (.tmp (by kernel_rfl) (by kernel_rfl) .nil)) (by kernel_rfl) (hRet _ _ ⟨_, _, rfl, hM42.clear, ?_⟩)
        -- end fft
        refine ⟨AsL, csL, ?_, ?_⟩
        · first | (simp only [appOk, appE, appS, appT, h15, h22, h37, h38, cond_true, cond_false, Bool.true_or, Bool.or_true, Bool.false_or, Bool.or_false, Bool.true_and, Bool.and_true, Bool.false_and, Bool.and_false, Bool.not_true, Bool.not_false]; done) | (rw [ho]; simp only [appOk, appE, appS, appT, h15, h22, h37, h38, cond_true, cond_false, Bool.true_or, Bool.or_true, Bool.false_or, Bool.or_false, Bool.true_and, Bool.and_true, Bool.false_and, Bool.and_false, Bool.not_true, Bool.not_false]; done) | (rw [ho]; simp only [appOk, appE, appS, appT, h15, h22, h37, h38, cond_true, cond_false, Bool.true_or, Bool.or_true, Bool.false_or, Bool.or_false, Bool.true_and, Bool.and_true, Bool.false_and, Bool.and_false, Bool.not_true, Bool.not_false] <;> rfl)
        · first | exact (hsL.up hM42.le) | (exact Rd.eq (hsL.up hM42.le) (by first | (simp only [appOk, appE, appS, appT, h15, h22, h37, h38, cond_true, cond_false, Bool.true_or, Bool.or_true, Bool.false_or, Bool.or_false, Bool.true_and, Bool.and_true, Bool.false_and, Bool.and_false, Bool.not_true, Bool.not_false]; done) | (rw [ho]; simp only [appOk, appE, appS, appT, h15, h22, h37, h38, cond_true, cond_false, Bool.true_or, Bool.or_true, Bool.false_or, Bool.or_false, Bool.true_and, Bool.and_true, Bool.false_and, Bool.and_false, Bool.not_true, Bool.not_false]; done)))
      · -- fff
        have h43 : (fitB (l)) = true := by simpa using h37
        refine wp_skip (then_n (hK29 _ _ ?_))
        refine wp_seq_k (fun K44 hK44 => ?_)
        refine wp_reg ?_
        refine wpF_seg 1 (by kernel_rfl) ?_
        refine gF hM35 (.load 46 (.tmp 25)) (some 26) (by kernel_rfl) (Y_loadB #[.slice AsL (sL).length csL, .int .i64 (sa), .int .i64 (sb)] (fun i v hi => le34 _ _ _ (hc8 i v hi)) (off := 0) (by kernel_rfl) (.slice AsL (sL).length csL) (by kernel_rfl)) ?_
        refine wpF_seg 1 (by kernel_rfl) ?_
        refine wpF_end _ (by kernel_rfl) (then_n (hK44 _ _ ?_))
        refine wp_seq_k (fun K45 hK45 => ?_)
        refine wp_seq_k (fun K46 hK46 => ?_)
        refine wp_reg ?_
        refine wpF_seg 1 (by kernel_rfl) ?_
        refine wpF_end _ (by kernel_rfl) (then_n (hK46 _ _ ?_))
        refine wp_block ?_
        refine wp_base [(1, .int .i64 (t)), (2, .slice Al (l).length cl), (3, .pointer (some ⟨b2, 0, none⟩)), (6, .pointer (some ⟨b10, 0, none⟩)), (7, .int .i64 (0)), (8, .slice AsL (sL).length csL), (9, .int .i64 ((0 : Int)))] (by kernel_rfl) (fun g48 => ?_)
        refine wp_loopX (fun (x_ : Nat × List Item) a_ w_ => ∃ (g : Nat → Value) (V_ : VT), ∃ (Arf8 : Option Addr) (crf8 : Nat), a_ = env [] 69 [(1, .int .i64 (t)), (2, .slice Al (l).length cl), (3, .pointer (some ⟨b2, 0, none⟩)), (6, .pointer (some ⟨b10, 0, none⟩)), (7, .int .i64 (0)), (8, .slice Arf8 (x_.2).length crf8), (9, .int .i64 ((x_.1 : Int)))] g ∧ Step V w [] V_ w_ [.blk b10 (.cells #[.slice none 0 0, .int .i64 (0), .int .i64 (0)] 50)] ∧ VT.le V32 V_ ∧ Rd (prK strK (slK (prK (intK .i64) (prK strK boolK)))) V_ Arf8 crf8 (x_.2) ∧ (x_.1 ≤ l.length) ∧ (x_.2 = appK t sL l (x_.1))) (fun (x_ : Nat × List Item) => l.length - x_.1) ((0 : Nat), (sL : List Item)) ⟨g48, V32, AsL, csL, rfl, hM35, VT.le.refl _, (hsL.up hM35.le), by omega, by rfl⟩ ?_
        rintro ⟨k, o⟩ a_ w50 ⟨g49, Vl47, Ar_53f8, cr_53f8, rfl, hM51, le52, hfAr_53f8, hi53_0, hi53_1⟩ K53 hK53
        replace hi53_0 : k ≤ l.length := hi53_0
        replace hi53_1 : o = appK t sL l (k) := hi53_1
        refine wp_seq_k (fun K54 hK54 => ?_)
        refine wp_seq_k (fun K55 hK55 => ?_)
        refine wp_reg ?_
        refine wpF_seg 4 (by kernel_rfl) ?_
        refine wpF_end _ (by kernel_rfl) (then_n (hK55 _ _ ?_))
        refine wp_if (decide (((k : Int)) < ((l.length : Int)))) (by kernel_rfl) (fun h56 => ?_) (fun h56 => ?_)
        · -- fffLt
          have p57 : (((k : Int)) < ((l.length : Int))) := of_decide_eq_true h56
          refine wp_skip (then_n (hK54 _ _ ?_))
          refine wp_seq_k (fun K58 hK58 => ?_)
          refine wp_block ?_
          refine wp_seq_k (fun K59 hK59 => ?_)
          refine wp_base [(1, .int .i64 (t)), (2, .slice Al (l).length cl), (3, .pointer (some ⟨b2, 0, none⟩)), (6, .pointer (some ⟨b10, 0, none⟩)), (7, .int .i64 (0)), (8, .slice Ar_53f8 (o).length cr_53f8), (9, .int .i64 ((k : Int))), (27, .int .i64 ((k : Int))), (28, .slice Al (l).length cl), (29, .int .i64 ((l.length : Int))), (30, .bool (decide (((k : Int)) < ((l.length : Int)))))] (by kernel_rfl) (fun g60 => ?_)
          refine wp_drawN hM51 [] no_held [] [0, 1, 2, 3, 4, 5, 7, 8, 9, 10, 11, 12, 13, 14, 15, 16, 17, 18] [.a 6, .a 19, .p 20, .p 21, .p 22, .p 23, .p 24] [.p 0, .p 1, .p 2, .p 3, .p 4, .p 5, .p 7, .p 8, .p 9, .p 10, .p 11, .p 12, .p 13, .p 14, .p 15, .p 16, .p 17, .p 18, .s, .a 6, .a 19, .p 20, .p 21, .p 22, .p 23, .p 24] rfl (by kernel_rfl) (by kernel_rfl) ?_
          refine gH (.load 50 (.tmp 3)) (some 34) (by kernel_rfl) (Y_loadB #[.slice AsL (sL).length csL, .int .i64 (sa), .int .i64 (sb)] (fun i v hi => (le34.trans le52) _ _ _ (hc8 i v hi)) (off := 0) (by kernel_rfl) (.agg #[.slice AsL (sL).length csL, .int .i64 (sa), .int .i64 (sb)]) (by kernel_rfl)) ?_
          refine h_seg 2 (by kernel_rfl) ?_
          refine gH_index (A := Al) (c := cl) (hl.up hM51.le) .i64 ((k : Int)) (h := (by kernel_rfl : opAt _ _ _ _ _ = some (.indexAddr 45 (.tmp 35) (.tmp 36), some 37))) (e := 105) (by kernel_rfl) (by kernel_rfl) (by kernel_rfl) (k) rfl (by omega) (fun b61 o62 at_b61 => ?_)
          have c63 : Vl47 b61 o62 = some (bs (l.getD (k) ([], [], false)).1) := (At.str (At.pr at_b61).1).1
          have l64 : (l.getD (k) ([], [], false)).1.length ≤ 140737488355328 := (At.str (At.pr at_b61).1).2
          have c65 : Vl47 b61 (o62 + 1) = some (bs (l.getD (k) ([], [], false)).2.1) := (At.str (At.pr (At.pr at_b61).2).1).1
          have l66 : (l.getD (k) ([], [], false)).2.1.length ≤ 140737488355328 := (At.str (At.pr (At.pr at_b61).2).1).2
          have c67 : Vl47 b61 (o62 + 2) = some (.bool (l.getD (k) ([], [], false)).2.2) := At.bool (At.pr (At.pr at_b61).2).2
          refine h_seg 1 (by kernel_rfl) ?_
          refine gH (.load 9 (.tmp 38)) (some 39) (by kernel_rfl) (Y_loadV c63 (by kernel_rfl) (by kernel_rfl)) ?_
          refine h_seg 3 (by kernel_rfl) ?_
          refine gH_index (A := Al) (c := cl) (hl.up hM51.le) .i64 ((k : Int)) (h := (by kernel_rfl : opAt _ _ _ _ _ = some (.indexAddr 45 (.tmp 42) (.tmp 43), some 44))) (e := 105) (by kernel_rfl) (by kernel_rfl) (by kernel_rfl) (k) rfl (by omega) (fun b68 o69 at_b68 => ?_)
          have c70 : Vl47 b68 o69 = some (bs (l.getD (k) ([], [], false)).1) := (At.str (At.pr at_b68).1).1
          have l71 : (l.getD (k) ([], [], false)).1.length ≤ 140737488355328 := (At.str (At.pr at_b68).1).2
          have c72 : Vl47 b68 (o69 + 1) = some (bs (l.getD (k) ([], [], false)).2.1) := (At.str (At.pr (At.pr at_b68).2).1).1
          have l73 : (l.getD (k) ([], [], false)).2.1.length ≤ 140737488355328 := (At.str (At.pr (At.pr at_b68).2).1).2
          have c74 : Vl47 b68 (o69 + 2) = some (.bool (l.getD (k) ([], [], false)).2.2) := At.bool (At.pr (At.pr at_b68).2).2
          refine h_seg 1 (by kernel_rfl) ?_
          refine gH (.load 9 (.tmp 45)) (some 46) (by kernel_rfl) (Y_loadV c72 (by kernel_rfl) (by kernel_rfl)) ?_
          refine h_seg 2 (by kernel_rfl) ?_
          refine gH_index (A := Al) (c := cl) (hl.up hM51.le) .i64 ((k : Int)) (h := (by kernel_rfl : opAt _ _ _ _ _ = some (.indexAddr 45 (.tmp 47) (.tmp 48), some 49))) (e := 105) (by kernel_rfl) (by kernel_rfl) (by kernel_rfl) (k) rfl (by omega) (fun b75 o76 at_b75 => ?_)
          have c77 : Vl47 b75 o76 = some (bs (l.getD (k) ([], [], false)).1) := (At.str (At.pr at_b75).1).1
          have l78 : (l.getD (k) ([], [], false)).1.length ≤ 140737488355328 := (At.str (At.pr at_b75).1).2
          have c79 : Vl47 b75 (o76 + 1) = some (bs (l.getD (k) ([], [], false)).2.1) := (At.str (At.pr (At.pr at_b75).2).1).1
          have l80 : (l.getD (k) ([], [], false)).2.1.length ≤ 140737488355328 := (At.str (At.pr (At.pr at_b75).2).1).2
          have c81 : Vl47 b75 (o76 + 2) = some (.bool (l.getD (k) ([], [], false)).2.2) := At.bool (At.pr (At.pr at_b75).2).2
          refine h_seg 1 (by kernel_rfl) ?_
          refine gH (.load 4 (.tmp 50)) (some 51) (by kernel_rfl) (Y_loadV c81 (by kernel_rfl) (by kernel_rfl)) ?_
          refine h_seg 1 (by kernel_rfl) ?_
          refine h_s no_fs ?_
          refine h_a (by kernel_rfl) (by kernel_rfl) (fun w82 X83 hM84 => ?_)
          refine wpF_callP hM84 (f := 127) (caps := #[]) (h := (by kernel_rfl : opAt _ _ _ _ _ = some (.call (.mk (.value (.func 127)) #[(.tmp 34), (.tmp 39)] #[50, 9]), some 40))) (by kernel_rfl) (by kernel_rfl) (by kernel_rfl) (f127 _ _ hM84.inW AsL csL (sL) (hsL.up hM84.le) (sa) (sb) ((l.getD (k) ([], [], false)).1) (l64)) (fun v85 V86 w87 le88 hM89 hp90 => ?_)
          obtain ⟨Ar90_1, cr90_1, rfl, r91⟩ := hp90
          have l92 : (lkD ((l.getD (k) ([], [], false)).1) (sL)).length ≤ 140737488355328 := r91.max
          refine wpF_end _ (by kernel_rfl) (then_n (h_d [] (by kernel_rfl) [.blk b10 (.cells #[.slice none 0 0, .int .i64 (0), .int .i64 (0)] 50)] hM89 no_held le88 ?_))
          refine h_a (by kernel_rfl) (by kernel_rfl) (fun w93 X94 hM95 => ?_)
          refine wpF_callP hM95 (f := 130) (caps := #[]) (h := (by kernel_rfl : opAt _ _ _ _ _ = some (.call (.mk (.value (.func 130)) #[(.tmp 40), (.tmp 52)] #[78, 126]), some 53))) (by kernel_rfl) (by kernel_rfl) (by kernel_rfl) (f130 _ _ hM95.inW Ar90_1 cr90_1 (lkD ((l.getD (k) ([], [], false)).1) (sL)) r91 (t) ((l.getD (k) ([], [], false)).2.1) (l73) ((l.getD (k) ([], [], false)).2.2) (by exact hb _) (by assumption)) (fun v96 V97 w98 le99 hM100 hp101 => ?_)
          obtain ⟨Ar101_1, cr101_1, rfl, r102⟩ := hp101
          have l103 : (addL (lkD ((l.getD (k) ([], [], false)).1) (sL)) (t) ((l.getD (k) ([], [], false)).2.1) ((l.getD (k) ([], [], false)).2.2)).length ≤ 140737488355328 := r102.max
          refine wpF_end _ (by kernel_rfl) (then_n (h_d [] (by kernel_rfl) [.blk b10 (.cells #[.slice none 0 0, .int .i64 (0), .int .i64 (0)] 50)] hM100 no_held le99 ?_))
          refine h_seg 5 (by kernel_rfl) ?_
          refine h_n (fun w104 hM105 => ?_)
          refine  (then_n (hK59 _ _ ?_))
          refine wp_reg ?_
          refine wpF_seg 3 (by kernel_rfl) ?_
          refine gF_index (A := Al) (c := cl) (hl.up hM105.le) .i64 ((k : Int)) (h := (by kernel_rfl : opAt _ _ _ _ _ = some (.indexAddr 45 (.tmp 57) (.tmp 58), some 59))) (e := 105) (by kernel_rfl) (by kernel_rfl) (by kernel_rfl) (k) rfl (by omega) (fun b106 o107 at_b106 => ?_)
          have c108 : V97 b106 o107 = some (bs (l.getD (k) ([], [], false)).1) := (At.str (At.pr at_b106).1).1
          have l109 : (l.getD (k) ([], [], false)).1.length ≤ 140737488355328 := (At.str (At.pr at_b106).1).2
          have c110 : V97 b106 (o107 + 1) = some (bs (l.getD (k) ([], [], false)).2.1) := (At.str (At.pr (At.pr at_b106).2).1).1
          have l111 : (l.getD (k) ([], [], false)).2.1.length ≤ 140737488355328 := (At.str (At.pr (At.pr at_b106).2).1).2
          have c112 : V97 b106 (o107 + 2) = some (.bool (l.getD (k) ([], [], false)).2.2) := At.bool (At.pr (At.pr at_b106).2).2
          refine wpF_seg 1 (by kernel_rfl) ?_
          refine gF hM105 (.load 9 (.tmp 60)) (some 61) (by kernel_rfl) (Y_loadV c108 (by kernel_rfl) (by kernel_rfl)) ?_
          refine wpF_seg 1 (by kernel_rfl) ?_
          refine wpF_callP hM105 (f := 131) (caps := #[]) (h := (by kernel_rfl : opAt _ _ _ _ _ = some (.call (.mk (.value (.func 131)) #[(.tmp 56), (.tmp 61), (.tmp 62)] #[46, 9, 78]), some 63))) (by kernel_rfl) (by kernel_rfl) (by kernel_rfl) (f131 _ _ hM105.inW Ar_53f8 cr_53f8 (o) (hfAr_53f8.up (le88.trans le99)) ((l.getD (k) ([], [], false)).1) (l109) Ar101_1 cr101_1 (addL (lkD ((l.getD (k) ([], [], false)).1) (sL)) (t) ((l.getD (k) ([], [], false)).2.1) ((l.getD (k) ([], [], false)).2.2)) r102 (by subst_vars; exact (spi_appK hup _ (by omega)).1) (by (have hq := len_appK t sL l k (by omega)); subst_vars; omega)) (fun v113 V114 w115 le116 hM117 hp118 => ?_)
          obtain ⟨Ar118_1, cr118_1, rfl, r119⟩ := hp118
          have l120 : (setL (o) ((l.getD (k) ([], [], false)).1) (addL (lkD ((l.getD (k) ([], [], false)).1) (sL)) (t) ((l.getD (k) ([], [], false)).2.1) ((l.getD (k) ([], [], false)).2.2))).length ≤ 140737488355328 := r119.max
          refine wpF_seg 1 (by kernel_rfl) ?_
          refine wpF_end _ (by kernel_rfl) (blk_n (then_n (hK58 _ _ ?_)))
          refine wp_reg ?_
          refine wpF_seg 1 (by kernel_rfl) ?_
          refine gF hM117 (.binOp .add 3 (.tmp 31) (.const (.int .i64 1)) 3) (some 32) (by kernel_rfl) (Y_add .i64 ((k : Int)) (1) ((k : Int) + 1) (by kernel_rfl) (by kernel_rfl) (wrap64_ok _ (by omega))) ?_
          refine wpF_seg 1 (by kernel_rfl) ?_
          refine wpF_base [(1, .int .i64 (t)), (2, .slice Al (l).length cl), (3, .pointer (some ⟨b2, 0, none⟩)), (6, .pointer (some ⟨b10, 0, none⟩)), (7, .int .i64 (0)), (8, .slice Ar118_1 (setL o (l.getD (k) ([], [], false)).1 (addL (lkD (l.getD (k) ([], [], false)).1 sL) t (l.getD (k) ([], [], false)).2.1 (l.getD (k) ([], [], false)).2.2)).length cr118_1), (9, .int .i64 ((k + 1 : Int)))] (by kernel_rfl) (fun g121 => ?_)
          refine wpF_end _ (by kernel_rfl) (then_n (hK53 _ _ (k + 1, setL o (l.getD (k) ([], [], false)).1 (addL (lkD (l.getD (k) ([], [], false)).1 sL) t (l.getD (k) ([], [], false)).2.1 (l.getD (k) ([], [], false)).2.2)) (by omega) ?_))
          refine ⟨g121, V114, Ar118_1, cr118_1, rfl, hM117, (((le52.trans le88).trans le99).trans le116), r119, ?_, ?_⟩
          · -- fffLt inv 0
            omega
          · -- fffLt inv 1
            rw [(by assumption : o = appK t sL l k)]; exact app14_step hup (by omega) (by assumption)
        · -- fffLf
          have p122 : ¬ (((k : Int)) < ((l.length : Int))) := of_decide_eq_false h56
          refine wp_exit (then_x (then_x (blk_hit (then_n (hK45 _ _ ?_)))))
          obtain rfl : k = l.length := by omega
          refine wp_seq_k (fun K123 hK123 => ?_)
          refine wp_reg ?_
          refine wpF_seg 3 (by kernel_rfl) ?_
          refine gF hM51 (.load 3 (.tmp 66)) (some 67) (by kernel_rfl) (Y_loadB #[.slice AsL (sL).length csL, .int .i64 (sa), .int .i64 (sb)] (fun i v hi => (le34.trans le52) _ _ _ (hc8 i v hi)) (off := 2) (by kernel_rfl) (.int .i64 (sb)) (by kernel_rfl)) ?_
          refine wpF_seg 1 (by kernel_rfl) ?_
          refine wpF_store hM51 0 rfl (h := (by kernel_rfl : opAt _ _ _ _ _ = some (.store 50 (.tmp 6) (.tmp 68), none))) (off := 0) (by kernel_rfl) #[.slice Ar_53f8 (o).length cr_53f8, .int .i64 (t), .int .i64 (sb)] (by kernel_rfl) (by kernel_rfl) (by kernel_rfl) (by kernel_rfl) (fun w125 hM124 => ?_)
          have hM126 : Step V w [] Vl47 _ ([.blk b10 (.cells #[.slice Ar_53f8 (o).length cr_53f8, .int .i64 (t), .int .i64 (sb)] 50)]) := hM124
          refine wpF_seg 1 (by kernel_rfl) ?_
          refine wpF_end _ (by kernel_rfl) (then_n (hK123 _ _ ?_))
          refine wp_ret ?_
          refine retN [.agg #[.slice Ar_53f8 (o).length cr_53f8, .int .i64 (t), .int .i64 (sb)], .int .i64 (0)] (.tuple #[.agg #[.slice Ar_53f8 (o).length cr_53f8, .int .i64 (t), .int .i64 (sb)], .int .i64 (0)]) Try.results95 (.cell (by kernel_rfl) (by kernel_rfl) hM126 0 rfl (by kernel_rfl) (.tmp (by kernel_rfl) (by kernel_rfl) .nil)) (by kernel_rfl) (hRet _ _ ⟨_, _, rfl, hM126.clear, ?_⟩)
          -- end fffLf
          have ho : o = appL t sL l := (by assumption : o = appK t sL l l.length).trans appK_all
          refine ⟨Ar_53f8, cr_53f8, ?_, ?_⟩
          · first | (simp only [appOk, appE, appS, appT, h15, h22, h37, h43, h56, cond_true, cond_false, Bool.true_or, Bool.or_true, Bool.false_or, Bool.or_false, Bool.true_and, Bool.and_true, Bool.false_and, Bool.and_false, Bool.not_true, Bool.not_false]; done) | (rw [ho]; simp only [appOk, appE, appS, appT, h15, h22, h37, h43, h56, cond_true, cond_false, Bool.true_or, Bool.or_true, Bool.false_or, Bool.or_false, Bool.true_and, Bool.and_true, Bool.false_and, Bool.and_false, Bool.not_true, Bool.not_false]; done) | (rw [ho]; simp only [appOk, appE, appS, appT, h15, h22, h37, h43, h56, cond_true, cond_false, Bool.true_or, Bool.or_true, Bool.false_or, Bool.or_false, Bool.true_and, Bool.and_true, Bool.false_and, Bool.and_false, Bool.not_true, Bool.not_false] <;> rfl)
          · first | exact hfAr_53f8 | (exact Rd.eq hfAr_53f8 (by first | (simp only [appOk, appE, appS, appT, h15, h22, h37, h43, h56, cond_true, cond_false, Bool.true_or, Bool.or_true, Bool.false_or, Bool.or_false, Bool.true_and, Bool.and_true, Bool.false_and, Bool.and_false, Bool.not_true, Bool.not_false]; done) | (rw [ho]; simp only [appOk, appE, appS, appT, h15, h22, h37, h43, h56, cond_true, cond_false, Bool.true_or, Bool.or_true, Bool.false_or, Bool.or_false, Bool.true_and, Bool.and_true, Bool.false_and, Bool.and_false, Bool.not_true, Bool.not_false]; done)))

set_option maxHeartbeats 4000000 in
set_option maxRecDepth 100000 in
theorem f94 (V : VT) (w : World) (hV : V.inW w) (AsL : Option Addr) (csL : Nat) (sL : List ((Str × (List ((Int × Str × Bool)))))) (hsL : Rd (prK strK (slK (prK (intK .i64) (prK strK boolK)))) V AsL csL sL) (sa : Int) (sb : Int) (t : Int) (h5 : sL.length ≤ 99000) (hb : ∀ i, i < sL.length → (sL.getD i ([], [])).2.length ≤ 4398046511104) :
    Calls Try.prog 94 #[.agg #[.slice AsL (sL).length csL, .int .i64 (sa), .int .i64 (sb)], .int .i64 (t)] w (RetP V w fun rv V' => ∃ (A1 : Option Addr), ∃ (c1 : Nat), rv = .tuple #[.agg #[.slice A1 (vmS t sL sa sb).length c1, .int .i64 (sa), .int .i64 (vmM t sa sb)], .int .i64 (vmE t sa sb)] ∧ Rd (prK strK (slK (prK (intK .i64) (prK strK boolK)))) V' A1 c1 (vmS t sL sa sb)) := by
  have mxsL : sL.length ≤ 140737488355328 := hsL.max
  refine calls_env (n := 54) Try.func94 (c := _) rfl Try.ntmps94 (by kernel_rfl) (fun R hRet => ?_)
  have hM0 : Step V w [] V w [] := Step.refl (St.nilE hV)
  refine wp_seq_k (fun K1 hK1 => ?_)
  refine wp_reg ?_
  refine wpF_box hM0 #[.slice AsL (sL).length csL, .int .i64 (sa), .int .i64 (sb)] (h := (by kernel_rfl : opAt _ _ _ _ _ = some (.box 50 (.tmp 0), some 2))) (by kernel_rfl) (fun b2 w3 hM4 => ?_)
  refine wpF_alloc hM4 #[.slice none 0 0, .int .i64 (0), .int .i64 (0)] (h := (by kernel_rfl : opAt _ _ _ _ _ = some (.alloc 50, some 4))) (by kernel_rfl) (fun b5 w6 hM7 => ?_)
  refine wpF_seg 1 (by kernel_rfl) ?_
  refine wpF_end _ (by kernel_rfl) (then_n (hK1 _ _ ?_))
  refine wp_seq_k (fun K8 hK8 => ?_)
  refine wp_seq_k (fun K9 hK9 => ?_)
  refine wp_reg ?_
  refine wpF_seg 2 (by kernel_rfl) ?_
  refine gF hM7 (.load 3 (.tmp 10)) (some 11) (by kernel_rfl) (Y_load 1 rfl (off := 2) (by kernel_rfl) (.int .i64 (sb)) (by kernel_rfl)) ?_
  refine wpF_seg 2 (by kernel_rfl) ?_
  refine wpF_caseB 13 (decide ((t) < (sb))) (by kernel_rfl) (by kernel_rfl) (fun h10 => ?_) (fun h10 => ?_)
  · -- t
    have p11 : ((t) < (sb)) := of_decide_eq_true h10
    refine wpF_seg 5 (by kernel_rfl) ?_
    refine wpF_end _ (by kernel_rfl) (then_n (hK9 _ _ ?_))
    refine wp_ct (by kernel_rfl) ?_
    refine wp_seq_k (fun K12 hK12 => ?_)
    refine wp_reg ?_
    refine gF hM7 (.load 50 (.tmp 2)) (some 19) (by kernel_rfl) (Y_load 1 rfl (off := 0) (by kernel_rfl) (.agg #[.slice AsL (sL).length csL, .int .i64 (sa), .int .i64 (sb)]) (by kernel_rfl)) ?_
    refine wpF_store hM7 0 rfl (h := (by kernel_rfl : opAt _ _ _ _ _ = some (.store 50 (.tmp 4) (.tmp 19), none))) (off := 0) (by kernel_rfl) #[.slice AsL (sL).length csL, .int .i64 (sa), .int .i64 (sb)] (by kernel_rfl) (by kernel_rfl) (by kernel_rfl) (by kernel_rfl) (fun w14 hM13 => ?_)
    have hM15 : Step V w [] V _ ([.blk b5 (.cells #[.slice AsL (sL).length csL, .int .i64 (sa), .int .i64 (sb)] 50), .blk b2 (.cells #[.slice AsL (sL).length csL, .int .i64 (sa), .int .i64 (sb)] 50)]) := hM13
    refine wpF_seg 1 (by kernel_rfl) ?_
    refine wpF_end _ (by kernel_rfl) (then_n (hK12 _ _ ?_))
    refine wp_ret (then_r (?_))
    refine retN [.agg #[.slice AsL (sL).length csL, .int .i64 (sa), .int .i64 (sb)], .int .i64 (2)] (.tuple #[.agg #[.slice AsL (sL).length csL, .int .i64 (sa), .int .i64 (sb)], .int .i64 (2)]) Try.results94 (.cell (by kernel_rfl) (by kernel_rfl) hM15 0 rfl (by kernel_rfl) (.tmp (by kernel_rfl) (by kernel_rfl) .nil)) (by kernel_rfl) (hRet _ _ ⟨_, _, rfl, hM15.clear, ?_⟩)
    -- end t
    refine ⟨AsL, csL, ?_, ?_⟩
    · first | (simp only [vmE, vmS, vmM, h10, cond_true, cond_false, Bool.true_or, Bool.or_true, Bool.false_or, Bool.or_false, Bool.true_and, Bool.and_true, Bool.false_and, Bool.and_false, Bool.not_true, Bool.not_false]; done) | (rw [ho]; simp only [vmE, vmS, vmM, h10, cond_true, cond_false, Bool.true_or, Bool.or_true, Bool.false_or, Bool.or_false, Bool.true_and, Bool.and_true, Bool.false_and, Bool.and_false, Bool.not_true, Bool.not_false]; done) | (rw [ho]; simp only [vmE, vmS, vmM, h10, cond_true, cond_false, Bool.true_or, Bool.or_true, Bool.false_or, Bool.or_false, Bool.true_and, Bool.and_true, Bool.false_and, Bool.and_false, Bool.not_true, Bool.not_false] <;> rfl)
    · first | exact hsL | (exact Rd.eq hsL (by first | (simp only [vmE, vmS, vmM, h10, cond_true, cond_false, Bool.true_or, Bool.or_true, Bool.false_or, Bool.or_false, Bool.true_and, Bool.and_true, Bool.false_and, Bool.and_false, Bool.not_true, Bool.not_false]; done) | (rw [ho]; simp only [vmE, vmS, vmM, h10, cond_true, cond_false, Bool.true_or, Bool.or_true, Bool.false_or, Bool.or_false, Bool.true_and, Bool.and_true, Bool.false_and, Bool.and_false, Bool.not_true, Bool.not_false]; done)))
  · -- f
    have p16 : ¬ ((t) < (sb)) := of_decide_eq_false h10
    refine wpF_seg 2 (by kernel_rfl) ?_
    refine gF hM7 (.load 3 (.tmp 15)) (some 16) (by kernel_rfl) (Y_load 1 rfl (off := 1) (by kernel_rfl) (.int .i64 (sa)) (by kernel_rfl)) ?_
    refine wpF_seg 2 (by kernel_rfl) ?_
    refine wpF_end _ (by kernel_rfl) (then_n (hK9 _ _ ?_))
    refine wp_if (decide ((sa) < (t))) (by kernel_rfl) (fun h17 => ?_) (fun h17 => ?_)
    · -- ft
      have p18 : ((sa) < (t)) := of_decide_eq_true h17
      refine wp_seq_k (fun K19 hK19 => ?_)
      refine wp_reg ?_
      refine gF hM7 (.load 50 (.tmp 2)) (some 19) (by kernel_rfl) (Y_load 1 rfl (off := 0) (by kernel_rfl) (.agg #[.slice AsL (sL).length csL, .int .i64 (sa), .int .i64 (sb)]) (by kernel_rfl)) ?_
      refine wpF_store hM7 0 rfl (h := (by kernel_rfl : opAt _ _ _ _ _ = some (.store 50 (.tmp 4) (.tmp 19), none))) (off := 0) (by kernel_rfl) #[.slice AsL (sL).length csL, .int .i64 (sa), .int .i64 (sb)] (by kernel_rfl) (by kernel_rfl) (by kernel_rfl) (by kernel_rfl) (fun w21 hM20 => ?_)
      have hM22 : Step V w [] V _ ([.blk b5 (.cells #[.slice AsL (sL).length csL, .int .i64 (sa), .int .i64 (sb)] 50), .blk b2 (.cells #[.slice AsL (sL).length csL, .int .i64 (sa), .int .i64 (sb)] 50)]) := hM20
      refine wpF_seg 1 (by kernel_rfl) ?_
      refine wpF_end _ (by kernel_rfl) (then_n (hK19 _ _ ?_))
      refine wp_ret (then_r (?_))
      refine retN [.agg #[.slice AsL (sL).length csL, .int .i64 (sa), .int .i64 (sb)], .int .i64 (2)] (.tuple #[.agg #[.slice AsL (sL).length csL, .int .i64 (sa), .int .i64 (sb)], .int .i64 (2)]) Try.results94 (.cell (by kernel_rfl) (by kernel_rfl) hM22 0 rfl (by kernel_rfl) (.tmp (by kernel_rfl) (by kernel_rfl) .nil)) (by kernel_rfl) (hRet _ _ ⟨_, _, rfl, hM22.clear, ?_⟩)
      -- end ft
      refine ⟨AsL, csL, ?_, ?_⟩
      · first | (simp only [vmE, vmS, vmM, h10, h17, cond_true, cond_false, Bool.true_or, Bool.or_true, Bool.false_or, Bool.or_false, Bool.true_and, Bool.and_true, Bool.false_and, Bool.and_false, Bool.not_true, Bool.not_false]; done) | (rw [ho]; simp only [vmE, vmS, vmM, h10, h17, cond_true, cond_false, Bool.true_or, Bool.or_true, Bool.false_or, Bool.or_false, Bool.true_and, Bool.and_true, Bool.false_and, Bool.and_false, Bool.not_true, Bool.not_false]; done) | (rw [ho]; simp only [vmE, vmS, vmM, h10, h17, cond_true, cond_false, Bool.true_or, Bool.or_true, Bool.false_or, Bool.or_false, Bool.true_and, Bool.and_true, Bool.false_and, Bool.and_false, Bool.not_true, Bool.not_false] <;> rfl)
      · first | exact hsL | (exact Rd.eq hsL (by first | (simp only [vmE, vmS, vmM, h10, h17, cond_true, cond_false, Bool.true_or, Bool.or_true, Bool.false_or, Bool.or_false, Bool.true_and, Bool.and_true, Bool.false_and, Bool.and_false, Bool.not_true, Bool.not_false]; done) | (rw [ho]; simp only [vmE, vmS, vmM, h10, h17, cond_true, cond_false, Bool.true_or, Bool.or_true, Bool.false_or, Bool.or_false, Bool.true_and, Bool.and_true, Bool.false_and, Bool.and_false, Bool.not_true, Bool.not_false]; done)))
    · -- ff
      have p23 : ¬ ((sa) < (t)) := of_decide_eq_false h17
      refine wp_skip (then_n (hK8 _ _ ?_))
      refine wp_seq_k (fun K24 hK24 => ?_)
      refine wp_reg ?_
      refine wpF_seg 1 (by kernel_rfl) ?_
      refine wpF_end _ (by kernel_rfl) (then_n (hK24 _ _ ?_))
      refine wp_seq_k (fun K25 hK25 => ?_)
      refine wp_seq_k (fun K26 hK26 => ?_)
      refine wp_reg ?_
      refine wpF_seg 1 (by kernel_rfl) ?_
      refine wpF_end _ (by kernel_rfl) (then_n (hK26 _ _ ?_))
      refine wp_block ?_
      have hM28 := hM7.nilrow (prK strK (slK (prK (intK .i64) (prK strK boolK)))) 80
      have hM29 : Step V w [] V _ ([.row (prK strK (slK (prK (intK .i64) (prK strK boolK)))) 80 none 0 (([] : List ((Str × (List ((Int × Str × Bool))))))), .blk b5 (.cells #[.slice none 0 0, .int .i64 (0), .int .i64 (0)] 50), .blk b2 (.cells #[.slice AsL (sL).length csL, .int .i64 (sa), .int .i64 (sb)] 50)]) := hM28
      refine wp_base [(1, .int .i64 (t)), (2, .pointer (some ⟨b2, 0, none⟩)), (4, .pointer (some ⟨b5, 0, none⟩)), (5, .int .i64 (0)), (6, .slice none (([] : List Item)).length 0), (7, .int .i64 ((0 : Int)))] (by kernel_rfl) (fun g30 => ?_)
      refine wp_loopX (fun (x_ : Nat × List Item) a_ w_ => ∃ (g : Nat → Value) (V_ : VT), ∃ (Ar6 : Option Addr) (cr6 : Nat), a_ = env [] 54 [(1, .int .i64 (t)), (2, .pointer (some ⟨b2, 0, none⟩)), (4, .pointer (some ⟨b5, 0, none⟩)), (5, .int .i64 (0)), (6, .slice Ar6 (x_.2).length cr6), (7, .int .i64 ((x_.1 : Int)))] g ∧ Step V w [] V_ w_ [.row (prK strK (slK (prK (intK .i64) (prK strK boolK)))) 80 Ar6 cr6 (x_.2), .blk b5 (.cells #[.slice none 0 0, .int .i64 (0), .int .i64 (0)] 50), .blk b2 (.cells #[.slice AsL (sL).length csL, .int .i64 (sa), .int .i64 (sb)] 50)] ∧ VT.le V V_ ∧ (x_.1 ≤ sL.length) ∧ (x_.2 = vacM t (sL.take (x_.1))) ∧ ((x_.2).length ≤ x_.1)) (fun (x_ : Nat × List Item) => sL.length - x_.1) ((0 : Nat), (([] : List Item) : List Item)) ⟨g30, V, none, 0, rfl, hM29, VT.le.refl _, by omega, by rfl, by exact Nat.zero_le _⟩ ?_
      rintro ⟨k, o⟩ a_ w32 ⟨g31, Vl27, Ar_356, cr_356, rfl, hM33, le34, hi35_0, hi35_1, hi35_2⟩ K35 hK35
      replace hi35_0 : k ≤ sL.length := hi35_0
      replace hi35_1 : o = vacM t (sL.take (k)) := hi35_1
      replace hi35_2 : (o).length ≤ k := hi35_2
      refine wp_seq_k (fun K36 hK36 => ?_)
      refine wp_seq_k (fun K37 hK37 => ?_)
      refine wp_reg ?_
      refine wpF_seg 2 (by kernel_rfl) ?_
      refine gF hM33 (.load 46 (.tmp 21)) (some 22) (by kernel_rfl) (Y_load 2 rfl (off := 0) (by kernel_rfl) (.slice AsL (sL).length csL) (by kernel_rfl)) ?_
      refine wpF_seg 2 (by kernel_rfl) ?_
      refine wpF_end _ (by kernel_rfl) (then_n (hK37 _ _ ?_))
      refine wp_if (decide (((k : Int)) < ((sL.length : Int)))) (by kernel_rfl) (fun h38 => ?_) (fun h38 => ?_)
      · -- ffLt
        have p39 : (((k : Int)) < ((sL.length : Int))) := of_decide_eq_true h38
        refine wp_skip (then_n (hK36 _ _ ?_))
        refine wp_seq_k (fun K40 hK40 => ?_)
        refine wp_block ?_
        refine wp_seq_k (fun K41 hK41 => ?_)
        refine wp_reg ?_
        refine wpF_seg 1 (by kernel_rfl) ?_
        refine gF hM33 (.load 46 (.tmp 27)) (some 28) (by kernel_rfl) (Y_load 2 rfl (off := 0) (by kernel_rfl) (.slice AsL (sL).length csL) (by kernel_rfl)) ?_
        refine wpF_seg 1 (by kernel_rfl) ?_
        refine gF_index (A := AsL) (c := csL) (hsL.up hM33.le) .i64 ((k : Int)) (h := (by kernel_rfl : opAt _ _ _ _ _ = some (.indexAddr 46 (.tmp 28) (.tmp 29), some 30))) (e := 80) (by kernel_rfl) (by kernel_rfl) (by kernel_rfl) (k) rfl (by omega) (fun b42 o43 at_b42 => ?_)
        have c44 : Vl27 b42 o43 = some (bs (sL.getD (k) ([], [])).1) := (At.str (At.pr at_b42).1).1
        have l45 : (sL.getD (k) ([], [])).1.length ≤ 140737488355328 := (At.str (At.pr at_b42).1).2
        obtain ⟨A46, c47, c48, r49⟩ := At.sl (At.pr at_b42).2
        have c48 : Vl27 b42 (o43 + 1) = some (.slice A46 ((sL.getD (k) ([], [])).2).length c47) := c48
        have r49 : Rd (prK (intK .i64) (prK strK boolK)) Vl27 A46 c47 ((sL.getD (k) ([], [])).2) := r49
        have l50 : ((sL.getD (k) ([], [])).2).length ≤ 140737488355328 := r49.max
        refine wpF_seg 1 (by kernel_rfl) ?_
        refine gF hM33 (.load 78 (.tmp 31)) (some 32) (by kernel_rfl) (Y_loadV c48 (by kernel_rfl) (by kernel_rfl)) ?_
        refine wpF_seg 1 (by kernel_rfl) ?_
        refine wpF_callP hM33 (f := 128) (caps := #[]) (h := (by kernel_rfl : opAt _ _ _ _ _ = some (.call (.mk (.value (.func 128)) #[(.tmp 32), (.tmp 33)] #[78, 3]), some 34))) (by kernel_rfl) (by kernel_rfl) (by kernel_rfl) (f128 _ _ hM33.inW A46 c47 ((sL.getD (k) ([], [])).2) r49 (t) (by exact hb _ (by omega))) (fun v51 V52 w53 le54 hM55 hp56 => ?_)
        obtain ⟨Ar56_1, cr56_1, rfl, r57⟩ := hp56
        have l58 : (vacL ((sL.getD (k) ([], [])).2) (t)).length ≤ 140737488355328 := r57.max
        refine wpF_seg 1 (by kernel_rfl) ?_
        refine wpF_end _ (by kernel_rfl) (then_n (hK41 _ _ ?_))
        refine wp_seq_k (fun K59 hK59 => ?_)
        refine wp_reg ?_
        refine wpF_seg 3 (by kernel_rfl) ?_
        refine wpF_end _ (by kernel_rfl) (then_n (hK59 _ _ ?_))
        refine wp_if (decide ((0) < (((vacL ((sL.getD (k) ([], [])).2) (t)).length : Int)))) (by kernel_rfl) (fun h60 => ?_) (fun h60 => ?_)
        · -- ffLtt
          have p61 : ((0) < (((vacL ((sL.getD (k) ([], [])).2) (t)).length : Int))) := of_decide_eq_true h60
          refine wp_reg ?_
          refine wpF_seg 2 (by kernel_rfl) ?_
          refine gF hM55 (.load 46 (.tmp 39)) (some 40) (by kernel_rfl) (Y_load 2 rfl (off := 0) (by kernel_rfl) (.slice AsL (sL).length csL) (by kernel_rfl)) ?_
          refine wpF_seg 1 (by kernel_rfl) ?_
          refine gF_index (A := AsL) (c := csL) (hsL.up hM55.le) .i64 ((k : Int)) (h := (by kernel_rfl : opAt _ _ _ _ _ = some (.indexAddr 46 (.tmp 40) (.tmp 41), some 42))) (e := 80) (by kernel_rfl) (by kernel_rfl) (by kernel_rfl) (k) rfl (by omega) (fun b62 o63 at_b62 => ?_)
          have c64 : V52 b62 o63 = some (bs (sL.getD (k) ([], [])).1) := (At.str (At.pr at_b62).1).1
          have l65 : (sL.getD (k) ([], [])).1.length ≤ 140737488355328 := (At.str (At.pr at_b62).1).2
          obtain ⟨A66, c67, c68, r69⟩ := At.sl (At.pr at_b62).2
          have c68 : V52 b62 (o63 + 1) = some (.slice A66 ((sL.getD (k) ([], [])).2).length c67) := c68
          have r69 : Rd (prK (intK .i64) (prK strK boolK)) V52 A66 c67 ((sL.getD (k) ([], [])).2) := r69
          have l70 : ((sL.getD (k) ([], [])).2).length ≤ 140737488355328 := r69.max
          refine wpF_seg 1 (by kernel_rfl) ?_
          refine gF hM55 (.load 9 (.tmp 43)) (some 44) (by kernel_rfl) (Y_loadV c64 (by kernel_rfl) (by kernel_rfl)) ?_
          refine wpF_seg 2 (by kernel_rfl) ?_
          refine wpF_litR (prK strK (slK (prK (intK .i64) (prK strK boolK)))) hM55 #[bs ((sL.getD (k) ([], [])).1), .slice Ar56_1 (vacL ((sL.getD (k) ([], [])).2) (t)).length cr56_1] (h := (by kernel_rfl : opAt _ _ _ _ _ = some (.buildSlice 46 1 #[(0, (.tmp 46))], some 47))) (e := 80) (by kernel_rfl) ([((sL.getD (k) ([], [])).1, vacL ((sL.getD (k) ([], [])).2) (t))]) (Reps.single (K := (prK strK (slK (prK (intK .i64) (prK strK boolK))))) (x := ((sL.getD (k) ([], [])).1, vacL ((sL.getD (k) ([], [])).2) (t))) ⟨[bs ((sL.getD (k) ([], [])).1)], [.slice Ar56_1 (vacL ((sL.getD (k) ([], [])).2) (t)).length cr56_1], rfl, ⟨rfl, l65⟩, ⟨Ar56_1, cr56_1, rfl, r57⟩⟩) rfl (by simp [maxL]) (fun A71 c72 V75 w73 le76 hM74 r77 => ?_)
          refine wpF_append (by_ := 40) hM74 0 rfl (h := (by kernel_rfl : opAt _ _ _ _ _ = some (.call (.mk (.builtin .append) #[(.tmp 38), (.tmp 47)] #[46, 46]), some 48))) (by kernel_rfl) (by kernel_rfl) (by kernel_rfl) (by kernel_rfl) (by kernel_rfl) (by kernel_rfl) (by kernel_rfl) (Src.rd r77) (by first | omega | (simp only [List.length_append, List.length_cons, List.length_nil]; omega)) (fun A78 c79 w80 hM81 => ?_)
          have hM82 : Step V w [] V75 _ ([.row (prK strK (slK (prK (intK .i64) (prK strK boolK)))) 80 A78 c79 (o ++ [((sL.getD (k) ([], [])).1, vacL ((sL.getD (k) ([], [])).2) (t))]), .blk b5 (.cells #[.slice none 0 0, .int .i64 (0), .int .i64 (0)] 50), .blk b2 (.cells #[.slice AsL (sL).length csL, .int .i64 (sa), .int .i64 (sb)] 50)]) := hM81
          refine wpF_seg 1 (by kernel_rfl) ?_
          refine wpF_end _ (by kernel_rfl) (blk_n (then_n (hK40 _ _ ?_)))
          refine wp_reg ?_
          refine wpF_seg 1 (by kernel_rfl) ?_
          refine gF hM82 (.binOp .add 3 (.tmp 25) (.const (.int .i64 1)) 3) (some 26) (by kernel_rfl) (Y_add .i64 ((k : Int)) (1) ((k : Int) + 1) (by kernel_rfl) (by kernel_rfl) (wrap64_ok _ (by omega))) ?_
          refine wpF_seg 1 (by kernel_rfl) ?_
          refine wpF_base [(1, .int .i64 (t)), (2, .pointer (some ⟨b2, 0, none⟩)), (4, .pointer (some ⟨b5, 0, none⟩)), (5, .int .i64 (0)), (6, .slice A78 (o ++ ([((sL.getD (k) ([], [])).1, vacL (sL.getD (k) ([], [])).2 (t))] : List (List UInt8 × List (Int × Str × Bool)))).length c79), (7, .int .i64 ((k + 1 : Int)))] (by kernel_rfl) (fun g83 => ?_)
          refine wpF_end _ (by kernel_rfl) (then_n (hK35 _ _ (k + 1, o ++ ([((sL.getD (k) ([], [])).1, vacL (sL.getD (k) ([], [])).2 (t))] : List (List UInt8 × List (Int × Str × Bool)))) (by omega) ?_))
          refine ⟨g83, V75, A78, c79, rfl, hM82, hM82.le, ?_, ?_, ?_⟩
          · -- ffLtt inv 0
            omega
          · -- ffLtt inv 1
            exact vacM_y (by omega) (by assumption) (by assumption)
          · -- ffLtt inv 2
            simp only [List.length_append, List.length_cons, List.length_nil]; omega
        · -- ffLtf
          have p84 : ¬ ((0) < (((vacL ((sL.getD (k) ([], [])).2) (t)).length : Int))) := of_decide_eq_false h60
          refine wp_skip (blk_n (then_n (hK40 _ _ ?_)))
          refine wp_reg ?_
          refine wpF_seg 1 (by kernel_rfl) ?_
          refine gF hM55 (.binOp .add 3 (.tmp 25) (.const (.int .i64 1)) 3) (some 26) (by kernel_rfl) (Y_add .i64 ((k : Int)) (1) ((k : Int) + 1) (by kernel_rfl) (by kernel_rfl) (wrap64_ok _ (by omega))) ?_
          refine wpF_seg 1 (by kernel_rfl) ?_
          refine wpF_base [(1, .int .i64 (t)), (2, .pointer (some ⟨b2, 0, none⟩)), (4, .pointer (some ⟨b5, 0, none⟩)), (5, .int .i64 (0)), (6, .slice Ar_356 (o).length cr_356), (7, .int .i64 ((k + 1 : Int)))] (by kernel_rfl) (fun g85 => ?_)
          refine wpF_end _ (by kernel_rfl) (then_n (hK35 _ _ (k + 1, o) (by omega) ?_))
          refine ⟨g85, V52, Ar_356, cr_356, rfl, hM55, hM55.le, ?_, ?_, ?_⟩
          · -- ffLtf inv 0
            omega
          · -- ffLtf inv 1
            exact vacM_n (by omega) (by assumption) (by assumption)
          · -- ffLtf inv 2
            exact Nat.le_succ_of_le (by assumption)
      · -- ffLf
        have p86 : ¬ (((k : Int)) < ((sL.length : Int))) := of_decide_eq_false h38
        refine wp_exit (then_x (then_x (blk_hit (then_n (hK25 _ _ ?_)))))
        obtain rfl : k = sL.length := by omega
        refine wp_seq_k (fun K87 hK87 => ?_)
        refine wp_reg ?_
        refine wpF_seg 2 (by kernel_rfl) ?_
        refine gF hM33 (.load 3 (.tmp 50)) (some 51) (by kernel_rfl) (Y_load 2 rfl (off := 1) (by kernel_rfl) (.int .i64 (sa)) (by kernel_rfl)) ?_
        refine wpF_seg 2 (by kernel_rfl) ?_
        refine wpF_store hM33 1 rfl (h := (by kernel_rfl : opAt _ _ _ _ _ = some (.store 50 (.tmp 4) (.tmp 53), none))) (off := 0) (by kernel_rfl) #[.slice Ar_356 (o).length cr_356, .int .i64 (sa), .int .i64 (t)] (by kernel_rfl) (by kernel_rfl) (by kernel_rfl) (by kernel_rfl) (fun w89 hM88 => ?_)
        have hM90 : Step V w [] Vl27 _ ([.row (prK strK (slK (prK (intK .i64) (prK strK boolK)))) 80 Ar_356 cr_356 (o), .blk b5 (.cells #[.slice Ar_356 (o).length cr_356, .int .i64 (sa), .int .i64 (t)] 50), .blk b2 (.cells #[.slice AsL (sL).length csL, .int .i64 (sa), .int .i64 (sb)] 50)]) := hM88
        refine wpF_seg 1 (by kernel_rfl) ?_
        refine wpF_end _ (by kernel_rfl) (then_n (hK87 _ _ ?_))
        refine wp_ret ?_
        obtain ⟨V91, le92, hM93, r94⟩ := hM90.settleRow 0 rfl
        have hM95 : Step V w [] V91 _ ([.blk b5 (.cells #[.slice Ar_356 (o).length cr_356, .int .i64 (sa), .int .i64 (t)] 50), .blk b2 (.cells #[.slice AsL (sL).length csL, .int .i64 (sa), .int .i64 (sb)] 50)]) := hM93
        refine retN [.agg #[.slice Ar_356 (o).length cr_356, .int .i64 (sa), .int .i64 (t)], .int .i64 (0)] (.tuple #[.agg #[.slice Ar_356 (o).length cr_356, .int .i64 (sa), .int .i64 (t)], .int .i64 (0)]) Try.results94 (.cell (by kernel_rfl) (by kernel_rfl) hM95 0 rfl (by kernel_rfl) (.tmp (by kernel_rfl) (by kernel_rfl) .nil)) (by kernel_rfl) (hRet _ _ ⟨_, _, rfl, hM95.clear, ?_⟩)
        -- end ffLf
        have ho : o = vacM t sL := (by assumption : o = vacM t (sL.take sL.length)).trans (by rw [List.take_length])
        refine ⟨Ar_356, cr_356, ?_, ?_⟩
        · first | (simp only [vmE, vmS, vmM, h10, h17, h38, cond_true, cond_false, Bool.true_or, Bool.or_true, Bool.false_or, Bool.or_false, Bool.true_and, Bool.and_true, Bool.false_and, Bool.and_false, Bool.not_true, Bool.not_false]; done) | (rw [ho]; simp only [vmE, vmS, vmM, h10, h17, h38, cond_true, cond_false, Bool.true_or, Bool.or_true, Bool.false_or, Bool.or_false, Bool.true_and, Bool.and_true, Bool.false_and, Bool.and_false, Bool.not_true, Bool.not_false]; done) | (rw [ho]; simp only [vmE, vmS, vmM, h10, h17, h38, cond_true, cond_false, Bool.true_or, Bool.or_true, Bool.false_or, Bool.or_false, Bool.true_and, Bool.and_true, Bool.false_and, Bool.and_false, Bool.not_true, Bool.not_false] <;> rfl)
        · first | exact r94 | (exact Rd.eq r94 (by first | (simp only [vmE, vmS, vmM, h10, h17, h38, cond_true, cond_false, Bool.true_or, Bool.or_true, Bool.false_or, Bool.or_false, Bool.true_and, Bool.and_true, Bool.false_and, Bool.and_false, Bool.not_true, Bool.not_false]; done) | (rw [ho]; simp only [vmE, vmS, vmM, h10, h17, h38, cond_true, cond_false, Bool.true_or, Bool.or_true, Bool.false_or, Bool.or_false, Bool.true_and, Bool.and_true, Bool.false_and, Bool.and_false, Bool.not_true, Bool.not_false]; done)))

end Go.Vk
