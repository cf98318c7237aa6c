import Derived.Test.YtnibbocbefnnnaaRA
import Derived.Test.YtnibbocbefnnnaaRIt
import Derived.Test.YtnibbocbefnnnaaRMathSp
import Derived.Test.YtnibbocbefnnnaaRPlainSp
import Derived.Test.YtnibbocbefnnnaaRSa
import Derived.Test.YtnibbocbefnnnaaRSb
import Derived.Test.YtnibbocbefnnnaaRSp
set_option linter.unusedVariables false
set_option linter.unusedSimpArgs false
namespace Go.Vk
open Go.Proofs
variable {D : List Deferred}
set_option maxHeartbeats 4000000 in
set_option maxRecDepth 100000 in
theorem f30 (V : VT) (w : World) (hV : V.inW w) (Al : Option Addr) (cl : Nat) (l : List ((Str × (List ((Int × Str × Bool)))))) (hl : Rd (prK strK (slK (prK (intK .i64) (prK strK boolK)))) V Al cl l) (t : Int) (m : Int) :
    Calls Try.prog 30 #[.slice Al (l).length cl, .int .i64 (t), .int .i64 (m)] w (RetP V w fun rv V' => ∃ (A1 : Option Addr), ∃ (c1 : Nat), rv = .tuple #[.agg #[.slice A1 ((bif ldB l t m then l else [])).length c1, .int .i64 ((bif ldB l t m then t else 0)), .int .i64 ((bif ldB l t m then m else 0))], .int .i64 ((bif ldB l t m then 0 else 4 : Int))] ∧ Rd (prK strK (slK (prK (intK .i64) (prK strK boolK)))) V' A1 c1 ((bif ldB l t m then l else []))) := by
  have mxl : l.length ≤ 140737488355328 := hl.max
  refine calls_env (n := 86) Try.func30 (c := _) rfl Try.ntmps30 (by kernel_rfl) (fun R hRet => ?_)
  have hM0 : Step V w [] V w [] := Step.refl (St.nilE hV)
  refine wp_seq_k (fun K1 hK1 => ?_)
  refine wp_reg ?_
  refine wpF_alloc hM0 #[.slice none 0 0, .int .i64 (0), .int .i64 (0)] (h := (by kernel_rfl : opAt _ _ _ _ _ = some (.alloc 50, some 6))) (by kernel_rfl) (fun b2 w3 hM4 => ?_)
  refine wpF_seg 1 (by kernel_rfl) ?_
  refine wpF_end _ (by kernel_rfl) (then_n (hK1 _ _ ?_))
  refine wp_seq_k (fun K5 hK5 => ?_)
  refine wp_seq_k (fun K6 hK6 => ?_)
  refine wp_reg ?_
  refine wpF_seg 3 (by kernel_rfl) ?_
  refine wpF_caseB 12 (decide ((t) < (0))) (by kernel_rfl) (by kernel_rfl) (fun h7 => ?_) (fun h7 => ?_)
  · -- t
    have p8 : ((t) < (0)) := of_decide_eq_true h7
    refine wpF_seg 12 (by kernel_rfl) ?_
    refine wpF_end _ (by kernel_rfl) (then_n (hK6 _ _ ?_))
    refine wp_ct (by kernel_rfl) ?_
    refine wp_seq_k (fun K9 hK9 => ?_)
    refine wp_reg ?_
    refine wpF_seg 1 (by kernel_rfl) ?_
    refine wpF_store hM4 0 rfl (h := (by kernel_rfl : opAt _ _ _ _ _ = some (.store 50 (.tmp 6) (.tmp 25), none))) (off := 0) (by kernel_rfl) #[.slice none 0 0, .int .i64 (0), .int .i64 (0)] (by kernel_rfl) (by kernel_rfl) (by kernel_rfl) (by kernel_rfl) (fun w11 hM10 => ?_)
    have hM12 : Step V w [] V _ ([.blk b2 (.cells #[.slice none 0 0, .int .i64 (0), .int .i64 (0)] 50)]) := hM10
    refine wpF_seg 1 (by kernel_rfl) ?_
    refine wpF_end _ (by kernel_rfl) (then_n (hK9 _ _ ?_))
    refine wp_ret (then_r (?_))
    refine retN [.agg #[.slice none 0 0, .int .i64 (0), .int .i64 (0)], .int .i64 (4)] (.tuple #[.agg #[.slice none 0 0, .int .i64 (0), .int .i64 (0)], .int .i64 (4)]) Try.results30 (.cell (by kernel_rfl) (by kernel_rfl) hM12 0 rfl (by kernel_rfl) (.tmp (by kernel_rfl) (by kernel_rfl) .nil)) (by kernel_rfl) (hRet _ _ ⟨_, _, rfl, hM12.clear, ?_⟩)
    -- end t
    refine ⟨none, 0, ?_, ?_⟩
    · first | (simp only [hb, cond_false, cond_true] <;> rfl) | ((have hb : ldB l t m = false := ld14_rng (by omega)); simp only [hb, cond_false] <;> rfl)
    · first | exact (Rd.nil _ _) | (exact Rd.eq (Rd.nil _ _) (by first | (simp only [hb, cond_false, cond_true]; done) | ((have hb : ldB l t m = false := ld14_rng (by omega)); simp only [hb, cond_false]; done) | ((have hb : ldB l t m = false := ld14_no (k := k) (by omega) (by first | exact .inl (by omega) | exact .inr (.inl ⟨by omega, by first | assumption | exact not_t (by assumption)⟩) | exact .inr (.inr (.inl (by omega))) | exact .inr (.inr (.inr (.inl (by first | assumption | exact not_t (by assumption))))) | exact .inr (.inr (.inr (.inr (by omega)))))); simp only [hb, cond_false]; done)))
  · -- f
    have p13 : ¬ ((t) < (0)) := of_decide_eq_false h7
    refine wpF_seg 4 (by kernel_rfl) ?_
    refine wpF_caseB 16 (decide ((1152921504606846976) < (t))) (by kernel_rfl) (by kernel_rfl) (fun h14 => ?_) (fun h14 => ?_)
    · -- ft
      have p15 : ((1152921504606846976) < (t)) := of_decide_eq_true h14
      refine wpF_seg 8 (by kernel_rfl) ?_
      refine wpF_end _ (by kernel_rfl) (then_n (hK6 _ _ ?_))
      refine wp_ct (by kernel_rfl) ?_
      refine wp_seq_k (fun K16 hK16 => ?_)
      refine wp_reg ?_
      refine wpF_seg 1 (by kernel_rfl) ?_
      refine wpF_store hM4 0 rfl (h := (by kernel_rfl : opAt _ _ _ _ _ = some (.store 50 (.tmp 6) (.tmp 25), none))) (off := 0) (by kernel_rfl) #[.slice none 0 0, .int .i64 (0), .int .i64 (0)] (by kernel_rfl) (by kernel_rfl) (by kernel_rfl) (by kernel_rfl) (fun w18 hM17 => ?_)
      have hM19 : Step V w [] V _ ([.blk b2 (.cells #[.slice none 0 0, .int .i64 (0), .int .i64 (0)] 50)]) := hM17
      refine wpF_seg 1 (by kernel_rfl) ?_
      refine wpF_end _ (by kernel_rfl) (then_n (hK16 _ _ ?_))
      refine wp_ret (then_r (?_))
      refine retN [.agg #[.slice none 0 0, .int .i64 (0), .int .i64 (0)], .int .i64 (4)] (.tuple #[.agg #[.slice none 0 0, .int .i64 (0), .int .i64 (0)], .int .i64 (4)]) Try.results30 (.cell (by kernel_rfl) (by kernel_rfl) hM19 0 rfl (by kernel_rfl) (.tmp (by kernel_rfl) (by kernel_rfl) .nil)) (by kernel_rfl) (hRet _ _ ⟨_, _, rfl, hM19.clear, ?_⟩)
      -- end ft
      refine ⟨none, 0, ?_, ?_⟩
      · first | (simp only [hb, cond_false, cond_true] <;> rfl) | ((have hb : ldB l t m = false := ld14_rng (by omega)); simp only [hb, cond_false] <;> rfl)
      · first | exact (Rd.nil _ _) | (exact Rd.eq (Rd.nil _ _) (by first | (simp only [hb, cond_false, cond_true]; done) | ((have hb : ldB l t m = false := ld14_rng (by omega)); simp only [hb, cond_false]; done) | ((have hb : ldB l t m = false := ld14_no (k := k) (by omega) (by first | exact .inl (by omega) | exact .inr (.inl ⟨by omega, by first | assumption | exact not_t (by assumption)⟩) | exact .inr (.inr (.inl (by omega))) | exact .inr (.inr (.inr (.inl (by first | assumption | exact not_t (by assumption))))) | exact .inr (.inr (.inr (.inr (by omega)))))); simp only [hb, cond_false]; done)))
    · -- ff
      have p20 : ¬ ((1152921504606846976) < (t)) := of_decide_eq_false h14
      refine wpF_seg 4 (by kernel_rfl) ?_
      refine wpF_caseB 20 (decide ((m) < (0))) (by kernel_rfl) (by kernel_rfl) (fun h21 => ?_) (fun h21 => ?_)
      · -- fft
        have p22 : ((m) < (0)) := of_decide_eq_true h21
        refine wpF_seg 4 (by kernel_rfl) ?_
        refine wpF_end _ (by kernel_rfl) (then_n (hK6 _ _ ?_))
        refine wp_ct (by kernel_rfl) ?_
        refine wp_seq_k (fun K23 hK23 => ?_)
        refine wp_reg ?_
        refine wpF_seg 1 (by kernel_rfl) ?_
        refine wpF_store hM4 0 rfl (h := (by kernel_rfl : opAt _ _ _ _ _ = some (.store 50 (.tmp 6) (.tmp 25), none))) (off := 0) (by kernel_rfl) #[.slice none 0 0, .int .i64 (0), .int .i64 (0)] (by kernel_rfl) (by kernel_rfl) (by kernel_rfl) (by kernel_rfl) (fun w25 hM24 => ?_)
        have hM26 : Step V w [] V _ ([.blk b2 (.cells #[.slice none 0 0, .int .i64 (0), .int .i64 (0)] 50)]) := hM24
        refine wpF_seg 1 (by kernel_rfl) ?_
        refine wpF_end _ (by kernel_rfl) (then_n (hK23 _ _ ?_))
        refine wp_ret (then_r (?_))
        refine retN [.agg #[.slice none 0 0, .int .i64 (0), .int .i64 (0)], .int .i64 (4)] (.tuple #[.agg #[.slice none 0 0, .int .i64 (0), .int .i64 (0)], .int .i64 (4)]) Try.results30 (.cell (by kernel_rfl) (by kernel_rfl) hM26 0 rfl (by kernel_rfl) (.tmp (by kernel_rfl) (by kernel_rfl) .nil)) (by kernel_rfl) (hRet _ _ ⟨_, _, rfl, hM26.clear, ?_⟩)
        -- end fft
        refine ⟨none, 0, ?_, ?_⟩
        · first | (simp only [hb, cond_false, cond_true] <;> rfl) | ((have hb : ldB l t m = false := ld14_rng (by omega)); simp only [hb, cond_false] <;> rfl)
        · first | exact (Rd.nil _ _) | (exact Rd.eq (Rd.nil _ _) (by first | (simp only [hb, cond_false, cond_true]; done) | ((have hb : ldB l t m = false := ld14_rng (by omega)); simp only [hb, cond_false]; done) | ((have hb : ldB l t m = false := ld14_no (k := k) (by omega) (by first | exact .inl (by omega) | exact .inr (.inl ⟨by omega, by first | assumption | exact not_t (by assumption)⟩) | exact .inr (.inr (.inl (by omega))) | exact .inr (.inr (.inr (.inl (by first | assumption | exact not_t (by assumption))))) | exact .inr (.inr (.inr (.inr (by omega)))))); simp only [hb, cond_false]; done)))
      · -- fff
        have p27 : ¬ ((m) < (0)) := of_decide_eq_false h21
        refine wpF_seg 4 (by kernel_rfl) ?_
        refine wpF_end _ (by kernel_rfl) (then_n (hK6 _ _ ?_))
        refine wp_if (decide ((t) < (m))) (by kernel_rfl) (fun h28 => ?_) (fun h28 => ?_)
        · -- ffft
          have p29 : ((t) < (m)) := of_decide_eq_true h28
          refine wp_seq_k (fun K30 hK30 => ?_)
          refine wp_reg ?_
          refine wpF_seg 1 (by kernel_rfl) ?_
          refine wpF_store hM4 0 rfl (h := (by kernel_rfl : opAt _ _ _ _ _ = some (.store 50 (.tmp 6) (.tmp 25), none))) (off := 0) (by kernel_rfl) #[.slice none 0 0, .int .i64 (0), .int .i64 (0)] (by kernel_rfl) (by kernel_rfl) (by kernel_rfl) (by kernel_rfl) (fun w32 hM31 => ?_)
          have hM33 : Step V w [] V _ ([.blk b2 (.cells #[.slice none 0 0, .int .i64 (0), .int .i64 (0)] 50)]) := hM31
          refine wpF_seg 1 (by kernel_rfl) ?_
          refine wpF_end _ (by kernel_rfl) (then_n (hK30 _ _ ?_))
          refine wp_ret (then_r (?_))
          refine retN [.agg #[.slice none 0 0, .int .i64 (0), .int .i64 (0)], .int .i64 (4)] (.tuple #[.agg #[.slice none 0 0, .int .i64 (0), .int .i64 (0)], .int .i64 (4)]) Try.results30 (.cell (by kernel_rfl) (by kernel_rfl) hM33 0 rfl (by kernel_rfl) (.tmp (by kernel_rfl) (by kernel_rfl) .nil)) (by kernel_rfl) (hRet _ _ ⟨_, _, rfl, hM33.clear, ?_⟩)
          -- end ffft
          refine ⟨none, 0, ?_, ?_⟩
          · first | (simp only [hb, cond_false, cond_true] <;> rfl) | ((have hb : ldB l t m = false := ld14_rng (by omega)); simp only [hb, cond_false] <;> rfl)
          · first | exact (Rd.nil _ _) | (exact Rd.eq (Rd.nil _ _) (by first | (simp only [hb, cond_false, cond_true]; done) | ((have hb : ldB l t m = false := ld14_rng (by omega)); simp only [hb, cond_false]; done) | ((have hb : ldB l t m = false := ld14_no (k := k) (by omega) (by first | exact .inl (by omega) | exact .inr (.inl ⟨by omega, by first | assumption | exact not_t (by assumption)⟩) | exact .inr (.inr (.inl (by omega))) | exact .inr (.inr (.inr (.inl (by first | assumption | exact not_t (by assumption))))) | exact .inr (.inr (.inr (.inr (by omega)))))); simp only [hb, cond_false]; done)))
        · -- ffff
          have p34 : ¬ ((t) < (m)) := of_decide_eq_false h28
          refine wp_skip (then_n (hK5 _ _ ?_))
          refine wp_seq_k (fun K35 hK35 => ?_)
          refine wp_seq_k (fun K36 hK36 => ?_)
          refine wp_reg ?_
          refine wpF_seg 1 (by kernel_rfl) ?_
          refine wpF_end _ (by kernel_rfl) (then_n (hK36 _ _ ?_))
          refine wp_block ?_
          refine wp_base [(0, .slice Al (l).length cl), (1, .int .i64 (t)), (2, .int .i64 (m)), (6, .pointer (some ⟨b2, 0, none⟩)), (8, .int .i64 ((0 : Int)))] (by kernel_rfl) (fun g38 => ?_)
          refine wp_loopX (fun (x_ : Nat) a_ w_ => ∃ (g : Nat → Value) (V_ : VT), a_ = env [] 86 [(0, .slice Al (l).length cl), (1, .int .i64 (t)), (2, .int .i64 (m)), (6, .pointer (some ⟨b2, 0, none⟩)), (8, .int .i64 ((x_ : Int)))] g ∧ Step V w [] V_ w_ [.blk b2 (.cells #[.slice none 0 0, .int .i64 (0), .int .i64 (0)] 50)] ∧ VT.le V V_ ∧ (x_ ≤ l.length) ∧ (ldK l t (x_) = true)) (fun (x_ : Nat) => l.length - x_) (0) ⟨g38, V, rfl, hM4, VT.le.refl _, by omega, by exact ldK_iff.2 (fun i hi => by omega)⟩ ?_
          rintro k a_ w40 ⟨g39, Vl37, rfl, hM41, le42, hi43_0, hi43_1⟩ K43 hK43
          refine wp_seq_k (fun K44 hK44 => ?_)
          refine wp_seq_k (fun K45 hK45 => ?_)
          refine wp_reg ?_
          refine wpF_seg 4 (by kernel_rfl) ?_
          refine wpF_end _ (by kernel_rfl) (then_n (hK45 _ _ ?_))
          refine wp_if (decide (((k : Int)) < ((l.length : Int)))) (by kernel_rfl) (fun h46 => ?_) (fun h46 => ?_)
          · -- ffffLt
            have p47 : (((k : Int)) < ((l.length : Int))) := of_decide_eq_true h46
            refine wp_skip (then_n (hK44 _ _ ?_))
            refine wp_seq_k (fun K48 hK48 => ?_)
            refine wp_block ?_
            refine wp_seq_k (fun K49 hK49 => ?_)
            refine wp_reg ?_
            refine wpF_seg 2 (by kernel_rfl) ?_
            refine gF_index (A := Al) (c := cl) (hl.up hM41.le) .i64 ((k : Int)) (h := (by kernel_rfl : opAt _ _ _ _ _ = some (.indexAddr 46 (.tmp 32) (.tmp 33), some 34))) (e := 80) (by kernel_rfl) (by kernel_rfl) (by kernel_rfl) (k) rfl (by omega) (fun b50 o51 at_b50 => ?_)
            have c52 : Vl37 b50 o51 = some (bs (l.getD (k) ([], [])).1) := (At.str (At.pr at_b50).1).1
            have l53 : (l.getD (k) ([], [])).1.length ≤ 140737488355328 := (At.str (At.pr at_b50).1).2
            obtain ⟨A54, c55, c56, r57⟩ := At.sl (At.pr at_b50).2
            have c56 : Vl37 b50 (o51 + 1) = some (.slice A54 ((l.getD (k) ([], [])).2).length c55) := c56
            have r57 : Rd (prK (intK .i64) (prK strK boolK)) Vl37 A54 c55 ((l.getD (k) ([], [])).2) := r57
            have l58 : ((l.getD (k) ([], [])).2).length ≤ 140737488355328 := r57.max
            refine wpF_seg 1 (by kernel_rfl) ?_
            refine gF hM41 (.load 78 (.tmp 35)) (some 36) (by kernel_rfl) (Y_loadV c56 (by kernel_rfl) (by kernel_rfl)) ?_
            refine wpF_seg 1 (by kernel_rfl) ?_
            refine wpF_end _ (by kernel_rfl) (then_n (hK49 _ _ ?_))
            refine wp_seq_k (fun K59 hK59 => ?_)
            refine wp_base [(0, .slice Al (l).length cl), (1, .int .i64 (t)), (2, .int .i64 (m)), (6, .pointer (some ⟨b2, 0, none⟩)), (8, .int .i64 ((k : Int))), (9, .slice A54 ((l.getD (k) ([], [])).2).length c55), (26, .int .i64 ((k : Int))), (27, .slice Al (l).length cl), (28, .int .i64 ((l.length : Int))), (29, .bool (decide (((k : Int)) < ((l.length : Int))))), (32, .slice Al (l).length cl), (33, .int .i64 ((k : Int))), (34, .pointer (some ⟨b50, o51, none⟩)), (35, .pointer (some ⟨b50, (o51 + 1), none⟩)), (36, .slice A54 ((l.getD (k) ([], [])).2).length c55)] (by kernel_rfl) (fun g60 => ?_)
            refine wp_drawN hM41 [] no_held [] [0, 1, 2, 3, 4, 5, 6, 7, 8, 9, 10, 11, 12, 13, 14, 15, 16, 17, 18, 19, 20, 21] [.a 22, .p 23, .p 24, .p 25, .p 26, .p 27, .p 28, .p 29, .p 30, .p 31, .p 32, .a 33, .p 34, .p 35, .p 36, .p 37, .p 38, .p 39, .p 40, .p 41, .p 42, .p 43] [.p 0, .p 1, .p 2, .p 3, .p 4, .p 5, .p 6, .p 7, .p 8, .p 9, .p 10, .p 11, .p 12, .p 13, .p 14, .p 15, .p 16, .p 17, .p 18, .p 19, .p 20, .p 21, .s, .a 22, .p 23, .p 24, .p 25, .p 26, .p 27, .p 28, .p 29, .p 30, .p 31, .p 32, .a 33, .p 34, .p 35, .p 36, .p 37, .p 38, .p 39, .p 40, .p 41, .p 42, .p 43] rfl (by kernel_rfl) (by kernel_rfl) ?_
            refine h_seg 2 (by kernel_rfl) ?_
            refine gH_index (A := Al) (c := cl) (hl.up hM41.le) .i64 ((k : Int)) (h := (by kernel_rfl : opAt _ _ _ _ _ = some (.indexAddr 46 (.tmp 37) (.tmp 38), some 39))) (e := 80) (by kernel_rfl) (by kernel_rfl) (by kernel_rfl) (k) rfl (by omega) (fun b61 o62 at_b61 => ?_)
            have c63 : Vl37 b61 o62 = some (bs (l.getD (k) ([], [])).1) := (At.str (At.pr at_b61).1).1
            have l64 : (l.getD (k) ([], [])).1.length ≤ 140737488355328 := (At.str (At.pr at_b61).1).2
            obtain ⟨A65, c66, c67, r68⟩ := At.sl (At.pr at_b61).2
            have c67 : Vl37 b61 (o62 + 1) = some (.slice A65 ((l.getD (k) ([], [])).2).length c66) := c67
            have r68 : Rd (prK (intK .i64) (prK strK boolK)) Vl37 A65 c66 ((l.getD (k) ([], [])).2) := r68
            have l69 : ((l.getD (k) ([], [])).2).length ≤ 140737488355328 := r68.max
            refine h_seg 1 (by kernel_rfl) ?_
            refine gH (.load 9 (.tmp 40)) (some 41) (by kernel_rfl) (Y_loadV c63 (by kernel_rfl) (by kernel_rfl)) ?_
            refine h_seg 3 (by kernel_rfl) ?_
            refine h_caseB 44 (decide ((128) < ((((l.getD (k) ([], [])).1).length : Int)))) (by kernel_rfl) (by kernel_rfl) (fun h70 => ?_) (fun h70 => ?_)
            · -- ffffLtt
              have p71 : ((128) < ((((l.getD (k) ([], [])).1).length : Int))) := of_decide_eq_true h70
              refine h_seg 14 (by kernel_rfl) ?_
              refine h_s no_fs ?_
              refine h_a (by kernel_rfl) (by kernel_rfl) (fun w72 X73 hM74 => ?_)
              refine wpF_seg 1 (by kernel_rfl) ?_
              refine wpF_end _ (by kernel_rfl) (then_n (h_d [] (by kernel_rfl) [.blk b2 (.cells #[.slice none 0 0, .int .i64 (0), .int .i64 (0)] 50)] hM74 no_held (VT.le.refl _) ?_))
              refine h_seg 10 (by kernel_rfl) ?_
              refine h_a (by kernel_rfl) (by kernel_rfl) (fun w75 X76 hM77 => ?_)
              refine wpF_seg 1 (by kernel_rfl) ?_
              refine wpF_end _ (by kernel_rfl) (then_n (h_d [] (by kernel_rfl) [.blk b2 (.cells #[.slice none 0 0, .int .i64 (0), .int .i64 (0)] 50)] hM77 no_held (VT.le.refl _) ?_))
              refine h_seg 10 (by kernel_rfl) ?_
              refine h_n (fun w78 hM79 => ?_)
              refine  (then_n (hK59 _ _ ?_))
              refine wp_ct (by kernel_rfl) ?_
              refine wp_seq_k (fun K80 hK80 => ?_)
              refine wp_reg ?_
              refine wpF_seg 1 (by kernel_rfl) ?_
              refine wpF_store hM79 0 rfl (h := (by kernel_rfl : opAt _ _ _ _ _ = some (.store 50 (.tmp 6) (.tmp 81), none))) (off := 0) (by kernel_rfl) #[.slice none 0 0, .int .i64 (0), .int .i64 (0)] (by kernel_rfl) (by kernel_rfl) (by kernel_rfl) (by kernel_rfl) (fun w82 hM81 => ?_)
              have hM83 : Step V w [] Vl37 _ ([.blk b2 (.cells #[.slice none 0 0, .int .i64 (0), .int .i64 (0)] 50)]) := hM81
              refine wpF_seg 1 (by kernel_rfl) ?_
              refine wpF_end _ (by kernel_rfl) (then_n (hK80 _ _ ?_))
              refine wp_ret (blk_r (then_r (then_r (blk_r (then_r (?_))))))
              refine retN [.agg #[.slice none 0 0, .int .i64 (0), .int .i64 (0)], .int .i64 (4)] (.tuple #[.agg #[.slice none 0 0, .int .i64 (0), .int .i64 (0)], .int .i64 (4)]) Try.results30 (.cell (by kernel_rfl) (by kernel_rfl) hM83 0 rfl (by kernel_rfl) (.tmp (by kernel_rfl) (by kernel_rfl) .nil)) (by kernel_rfl) (hRet _ _ ⟨_, _, rfl, hM83.clear, ?_⟩)
              -- end ffffLtt
              refine ⟨none, 0, ?_, ?_⟩
              · (have hb : ldB l t m = false := ld14_no (k := k) (by omega) (by first | exact .inl (by omega) | exact .inr (.inl ⟨by omega, by first | assumption | exact not_t (by assumption)⟩) | exact .inr (.inr (.inl (by omega))) | exact .inr (.inr (.inr (.inl (by first | assumption | exact not_t (by assumption))))) | exact .inr (.inr (.inr (.inr (by omega)))))); (simp only [hb, cond_false] <;> rfl)
              · first | exact (Rd.nil _ _) | (exact Rd.eq (Rd.nil _ _) (by first | (simp only [hb, cond_false, cond_true]; done) | ((have hb : ldB l t m = false := ld14_rng (by omega)); simp only [hb, cond_false]; done) | ((have hb : ldB l t m = false := ld14_no (k := k) (by omega) (by first | exact .inl (by omega) | exact .inr (.inl ⟨by omega, by first | assumption | exact not_t (by assumption)⟩) | exact .inr (.inr (.inl (by omega))) | exact .inr (.inr (.inr (.inl (by first | assumption | exact not_t (by assumption))))) | exact .inr (.inr (.inr (.inr (by omega)))))); simp only [hb, cond_false]; done)))
            · -- ffffLtf
              have p84 : ¬ ((128) < ((((l.getD (k) ([], [])).1).length : Int))) := of_decide_eq_false h70
              refine h_seg 3 (by kernel_rfl) ?_
              refine h_caseB 47 (decide ((0) < ((k : Int)))) (by kernel_rfl) (by kernel_rfl) (fun h85 => ?_) (fun h85 => ?_)
              · -- ffffLtft
                have p86 : ((0) < ((k : Int))) := of_decide_eq_true h85
                refine h_seg 2 (by kernel_rfl) ?_
                refine gH (.binOp .sub 3 (.tmp 49) (.const (.int .i64 1)) 3) (some 50) (by kernel_rfl) (Y_sub .i64 ((k : Int)) (1) ((k : Int) - 1) (by kernel_rfl) (by kernel_rfl) (wrap64_ok _ (by omega))) ?_
                refine gH_index (A := Al) (c := cl) (hl.up hM41.le) .i64 ((k : Int) - 1) (h := (by kernel_rfl : opAt _ _ _ _ _ = some (.indexAddr 46 (.tmp 48) (.tmp 50), some 51))) (e := 80) (by kernel_rfl) (by kernel_rfl) (by kernel_rfl) (k - 1) (by omega) (by omega) (fun b87 o88 at_b87 => ?_)
                have c89 : Vl37 b87 o88 = some (bs (l.getD (k - 1) ([], [])).1) := (At.str (At.pr at_b87).1).1
                have l90 : (l.getD (k - 1) ([], [])).1.length ≤ 140737488355328 := (At.str (At.pr at_b87).1).2
                obtain ⟨A91, c92, c93, r94⟩ := At.sl (At.pr at_b87).2
                have c93 : Vl37 b87 (o88 + 1) = some (.slice A91 ((l.getD (k - 1) ([], [])).2).length c92) := c93
                have r94 : Rd (prK (intK .i64) (prK strK boolK)) Vl37 A91 c92 ((l.getD (k - 1) ([], [])).2) := r94
                have l95 : ((l.getD (k - 1) ([], [])).2).length ≤ 140737488355328 := r94.max
                refine h_seg 1 (by kernel_rfl) ?_
                refine gH (.load 9 (.tmp 52)) (some 53) (by kernel_rfl) (Y_loadV c89 (by kernel_rfl) (by kernel_rfl)) ?_
                refine h_seg 2 (by kernel_rfl) ?_
                refine gH_index (A := Al) (c := cl) (hl.up hM41.le) .i64 ((k : Int)) (h := (by kernel_rfl : opAt _ _ _ _ _ = some (.indexAddr 46 (.tmp 54) (.tmp 55), some 56))) (e := 80) (by kernel_rfl) (by kernel_rfl) (by kernel_rfl) (k) rfl (by omega) (fun b96 o97 at_b96 => ?_)
                have c98 : Vl37 b96 o97 = some (bs (l.getD (k) ([], [])).1) := (At.str (At.pr at_b96).1).1
                have l99 : (l.getD (k) ([], [])).1.length ≤ 140737488355328 := (At.str (At.pr at_b96).1).2
                obtain ⟨A100, c101, c102, r103⟩ := At.sl (At.pr at_b96).2
                have c102 : Vl37 b96 (o97 + 1) = some (.slice A100 ((l.getD (k) ([], [])).2).length c101) := c102
                have r103 : Rd (prK (intK .i64) (prK strK boolK)) Vl37 A100 c101 ((l.getD (k) ([], [])).2) := r103
                have l104 : ((l.getD (k) ([], [])).2).length ≤ 140737488355328 := r103.max
                refine h_seg 1 (by kernel_rfl) ?_
                refine gH (.load 9 (.tmp 57)) (some 58) (by kernel_rfl) (Y_loadV c98 (by kernel_rfl) (by kernel_rfl)) ?_
                refine h_s no_fs ?_
                refine h_a (by kernel_rfl) (by kernel_rfl) (fun w105 X106 hM107 => ?_)
                refine wpF_callP hM107 (f := 60) (caps := #[]) (h := (by kernel_rfl : opAt _ _ _ _ _ = some (.call (.mk (.value (.func 60)) #[(.tmp 53), (.tmp 58)] #[9, 9]), some 59))) (by kernel_rfl) (by kernel_rfl) (by kernel_rfl) (f60 _ _ hM107.inW ((l.getD (k - 1) ([], [])).1) (l90) ((l.getD (k) ([], [])).1) (l99)) (fun v108 V109 w110 le111 hM112 hp113 => ?_)
                obtain rfl := hp113
                refine wpF_end _ (by kernel_rfl) (then_n (h_d [] (by kernel_rfl) [.blk b2 (.cells #[.slice none 0 0, .int .i64 (0), .int .i64 (0)] 50)] hM112 no_held le111 ?_))
                refine h_seg 4 (by kernel_rfl) ?_
                refine h_caseB 63 (!(decide (((l.getD (k - 1) ([], [])).1) < ((l.getD (k) ([], [])).1)))) (by kernel_rfl) (by kernel_rfl) (fun h114 => ?_) (fun h114 => ?_)
                · -- ffffLtftt
                  have h115 : decide (((l.getD (k - 1) ([], [])).1) < ((l.getD (k) ([], [])).1)) = false := by rw [← Bool.not_not (decide _), h114]; rfl
                  have p116 : ¬ (((l.getD (k - 1) ([], [])).1) < ((l.getD (k) ([], [])).1)) := of_decide_eq_false h115
                  refine h_seg 6 (by kernel_rfl) ?_
                  refine h_a (by kernel_rfl) (by kernel_rfl) (fun w117 X118 hM119 => ?_)
                  refine wpF_seg 1 (by kernel_rfl) ?_
                  refine wpF_end _ (by kernel_rfl) (then_n (h_d [] (by kernel_rfl) [.blk b2 (.cells #[.slice none 0 0, .int .i64 (0), .int .i64 (0)] 50)] hM119 no_held (VT.le.refl _) ?_))
                  refine h_seg 10 (by kernel_rfl) ?_
                  refine h_n (fun w120 hM121 => ?_)
                  refine  (then_n (hK59 _ _ ?_))
                  refine wp_ct (by kernel_rfl) ?_
                  refine wp_seq_k (fun K122 hK122 => ?_)
                  refine wp_reg ?_
                  refine wpF_seg 1 (by kernel_rfl) ?_
                  refine wpF_store hM121 0 rfl (h := (by kernel_rfl : opAt _ _ _ _ _ = some (.store 50 (.tmp 6) (.tmp 81), none))) (off := 0) (by kernel_rfl) #[.slice none 0 0, .int .i64 (0), .int .i64 (0)] (by kernel_rfl) (by kernel_rfl) (by kernel_rfl) (by kernel_rfl) (fun w124 hM123 => ?_)
                  have hM125 : Step V w [] V109 _ ([.blk b2 (.cells #[.slice none 0 0, .int .i64 (0), .int .i64 (0)] 50)]) := hM123
                  refine wpF_seg 1 (by kernel_rfl) ?_
                  refine wpF_end _ (by kernel_rfl) (then_n (hK122 _ _ ?_))
                  refine wp_ret (blk_r (then_r (then_r (blk_r (then_r (?_))))))
                  refine retN [.agg #[.slice none 0 0, .int .i64 (0), .int .i64 (0)], .int .i64 (4)] (.tuple #[.agg #[.slice none 0 0, .int .i64 (0), .int .i64 (0)], .int .i64 (4)]) Try.results30 (.cell (by kernel_rfl) (by kernel_rfl) hM125 0 rfl (by kernel_rfl) (.tmp (by kernel_rfl) (by kernel_rfl) .nil)) (by kernel_rfl) (hRet _ _ ⟨_, _, rfl, hM125.clear, ?_⟩)
                  -- end ffffLtftt
                  refine ⟨none, 0, ?_, ?_⟩
                  · (have hb : ldB l t m = false := ld14_no (k := k) (by omega) (by first | exact .inl (by omega) | exact .inr (.inl ⟨by omega, by first | assumption | exact not_t (by assumption)⟩) | exact .inr (.inr (.inl (by omega))) | exact .inr (.inr (.inr (.inl (by first | assumption | exact not_t (by assumption))))) | exact .inr (.inr (.inr (.inr (by omega)))))); (simp only [hb, cond_false] <;> rfl)
                  · first | exact (Rd.nil _ _) | (exact Rd.eq (Rd.nil _ _) (by first | (simp only [hb, cond_false, cond_true]; done) | ((have hb : ldB l t m = false := ld14_rng (by omega)); simp only [hb, cond_false]; done) | ((have hb : ldB l t m = false := ld14_no (k := k) (by omega) (by first | exact .inl (by omega) | exact .inr (.inl ⟨by omega, by first | assumption | exact not_t (by assumption)⟩) | exact .inr (.inr (.inl (by omega))) | exact .inr (.inr (.inr (.inl (by first | assumption | exact not_t (by assumption))))) | exact .inr (.inr (.inr (.inr (by omega)))))); simp only [hb, cond_false]; done)))
                · -- ffffLtftf
                  have h126 : decide (((l.getD (k - 1) ([], [])).1) < ((l.getD (k) ([], [])).1)) = true := by rw [← Bool.not_not (decide _), h114]; rfl
                  have p127 : (((l.getD (k - 1) ([], [])).1) < ((l.getD (k) ([], [])).1)) := of_decide_eq_true h126
                  refine h_seg 5 (by kernel_rfl) ?_
                  refine h_caseB 68 (decide (((((l.getD (k) ([], [])).2).length : Int)) = (0))) (by kernel_rfl) (by kernel_rfl) (fun h128 => ?_) (fun h128 => ?_)
                  · -- ffffLtftft
                    have p129 : (((((l.getD (k) ([], [])).2).length : Int)) = (0)) := of_decide_eq_true h128
                    refine h_seg 1 (by kernel_rfl) ?_
                    refine h_a (by kernel_rfl) (by kernel_rfl) (fun w130 X131 hM132 => ?_)
                    refine wpF_seg 1 (by kernel_rfl) ?_
                    refine wpF_end _ (by kernel_rfl) (then_n (h_d [] (by kernel_rfl) [.blk b2 (.cells #[.slice none 0 0, .int .i64 (0), .int .i64 (0)] 50)] hM132 no_held (VT.le.refl _) ?_))
                    refine h_seg 10 (by kernel_rfl) ?_
                    refine h_n (fun w133 hM134 => ?_)
                    refine  (then_n (hK59 _ _ ?_))
                    refine wp_ct (by kernel_rfl) ?_
                    refine wp_seq_k (fun K135 hK135 => ?_)
                    refine wp_reg ?_
                    refine wpF_seg 1 (by kernel_rfl) ?_
                    refine wpF_store hM134 0 rfl (h := (by kernel_rfl : opAt _ _ _ _ _ = some (.store 50 (.tmp 6) (.tmp 81), none))) (off := 0) (by kernel_rfl) #[.slice none 0 0, .int .i64 (0), .int .i64 (0)] (by kernel_rfl) (by kernel_rfl) (by kernel_rfl) (by kernel_rfl) (fun w137 hM136 => ?_)
                    have hM138 : Step V w [] V109 _ ([.blk b2 (.cells #[.slice none 0 0, .int .i64 (0), .int .i64 (0)] 50)]) := hM136
                    refine wpF_seg 1 (by kernel_rfl) ?_
                    refine wpF_end _ (by kernel_rfl) (then_n (hK135 _ _ ?_))
                    refine wp_ret (blk_r (then_r (then_r (blk_r (then_r (?_))))))
                    refine retN [.agg #[.slice none 0 0, .int .i64 (0), .int .i64 (0)], .int .i64 (4)] (.tuple #[.agg #[.slice none 0 0, .int .i64 (0), .int .i64 (0)], .int .i64 (4)]) Try.results30 (.cell (by kernel_rfl) (by kernel_rfl) hM138 0 rfl (by kernel_rfl) (.tmp (by kernel_rfl) (by kernel_rfl) .nil)) (by kernel_rfl) (hRet _ _ ⟨_, _, rfl, hM138.clear, ?_⟩)
                    -- end ffffLtftft
                    refine ⟨none, 0, ?_, ?_⟩
                    · (have hb : ldB l t m = false := ld14_no (k := k) (by omega) (by first | exact .inl (by omega) | exact .inr (.inl ⟨by omega, by first | assumption | exact not_t (by assumption)⟩) | exact .inr (.inr (.inl (by omega))) | exact .inr (.inr (.inr (.inl (by first | assumption | exact not_t (by assumption))))) | exact .inr (.inr (.inr (.inr (by omega)))))); (simp only [hb, cond_false] <;> rfl)
                    · first | exact (Rd.nil _ _) | (exact Rd.eq (Rd.nil _ _) (by first | (simp only [hb, cond_false, cond_true]; done) | ((have hb : ldB l t m = false := ld14_rng (by omega)); simp only [hb, cond_false]; done) | ((have hb : ldB l t m = false := ld14_no (k := k) (by omega) (by first | exact .inl (by omega) | exact .inr (.inl ⟨by omega, by first | assumption | exact not_t (by assumption)⟩) | exact .inr (.inr (.inl (by omega))) | exact .inr (.inr (.inr (.inl (by first | assumption | exact not_t (by assumption))))) | exact .inr (.inr (.inr (.inr (by omega)))))); simp only [hb, cond_false]; done)))
                  · -- ffffLtftff
                    have p139 : ¬ (((((l.getD (k) ([], [])).2).length : Int)) = (0)) := of_decide_eq_false h128
                    refine h_seg 1 (by kernel_rfl) ?_
                    refine h_a (by kernel_rfl) (by kernel_rfl) (fun w140 X141 hM142 => ?_)
                    refine wpF_callP hM142 (f := 76) (caps := #[]) (h := (by kernel_rfl : opAt _ _ _ _ _ = some (.call (.mk (.value (.func 76)) #[(.tmp 69)] #[78]), some 70))) (by kernel_rfl) (by kernel_rfl) (by kernel_rfl) (f76 _ _ hM142.inW A54 c55 ((l.getD (k) ([], [])).2) (r57.up le111)) (fun v143 V144 w145 le146 hM147 hp148 => ?_)
                    obtain rfl := hp148
                    refine wpF_end _ (by kernel_rfl) (then_n (h_d [] (by kernel_rfl) [.blk b2 (.cells #[.slice none 0 0, .int .i64 (0), .int .i64 (0)] 50)] hM147 no_held le146 ?_))
                    refine h_seg 3 (by kernel_rfl) ?_
                    refine h_caseB 73 (!(chnB ((l.getD (k) ([], [])).2))) (by kernel_rfl) (by kernel_rfl) (fun h149 => ?_) (fun h149 => ?_)
                    · -- ffffLtftfft
                      have h150 : (chnB ((l.getD (k) ([], [])).2)) = false := by simpa using h149
                      refine h_seg 7 (by kernel_rfl) ?_
                      refine h_n (fun w151 hM152 => ?_)
                      refine  (then_n (hK59 _ _ ?_))
                      refine wp_ct (by kernel_rfl) ?_
                      refine wp_seq_k (fun K153 hK153 => ?_)
                      refine wp_reg ?_
                      refine wpF_seg 1 (by kernel_rfl) ?_
                      refine wpF_store hM152 0 rfl (h := (by kernel_rfl : opAt _ _ _ _ _ = some (.store 50 (.tmp 6) (.tmp 81), none))) (off := 0) (by kernel_rfl) #[.slice none 0 0, .int .i64 (0), .int .i64 (0)] (by kernel_rfl) (by kernel_rfl) (by kernel_rfl) (by kernel_rfl) (fun w155 hM154 => ?_)
                      have hM156 : Step V w [] V144 _ ([.blk b2 (.cells #[.slice none 0 0, .int .i64 (0), .int .i64 (0)] 50)]) := hM154
                      refine wpF_seg 1 (by kernel_rfl) ?_
                      refine wpF_end _ (by kernel_rfl) (then_n (hK153 _ _ ?_))
                      refine wp_ret (blk_r (then_r (then_r (blk_r (then_r (?_))))))
                      refine retN [.agg #[.slice none 0 0, .int .i64 (0), .int .i64 (0)], .int .i64 (4)] (.tuple #[.agg #[.slice none 0 0, .int .i64 (0), .int .i64 (0)], .int .i64 (4)]) Try.results30 (.cell (by kernel_rfl) (by kernel_rfl) hM156 0 rfl (by kernel_rfl) (.tmp (by kernel_rfl) (by kernel_rfl) .nil)) (by kernel_rfl) (hRet _ _ ⟨_, _, rfl, hM156.clear, ?_⟩)
                      -- end ffffLtftfft
                      refine ⟨none, 0, ?_, ?_⟩
                      · (have hb : ldB l t m = false := ld14_no (k := k) (by omega) (by first | exact .inl (by omega) | exact .inr (.inl ⟨by omega, by first | assumption | exact not_t (by assumption)⟩) | exact .inr (.inr (.inl (by omega))) | exact .inr (.inr (.inr (.inl (by first | assumption | exact not_t (by assumption))))) | exact .inr (.inr (.inr (.inr (by omega)))))); (simp only [hb, cond_false] <;> rfl)
                      · first | exact (Rd.nil _ _) | (exact Rd.eq (Rd.nil _ _) (by first | (simp only [hb, cond_false, cond_true]; done) | ((have hb : ldB l t m = false := ld14_rng (by omega)); simp only [hb, cond_false]; done) | ((have hb : ldB l t m = false := ld14_no (k := k) (by omega) (by first | exact .inl (by omega) | exact .inr (.inl ⟨by omega, by first | assumption | exact not_t (by assumption)⟩) | exact .inr (.inr (.inl (by omega))) | exact .inr (.inr (.inr (.inl (by first | assumption | exact not_t (by assumption))))) | exact .inr (.inr (.inr (.inr (by omega)))))); simp only [hb, cond_false]; done)))
                    · -- ffffLtftfff
                      have h157 : (chnB ((l.getD (k) ([], [])).2)) = true := by simpa using h149
                      refine h_seg 1 (by kernel_rfl) ?_
                      refine gH_index (A := A54) (c := c55) (r57.up (le111.trans le146)) .i64 (0) (h := (by kernel_rfl : opAt _ _ _ _ _ = some (.indexAddr 78 (.tmp 74) (.const (.int .i64 0)), some 75))) (e := 126) (by kernel_rfl) (by kernel_rfl) (by kernel_rfl) (0) (by omega) (by omega) (fun b158 o159 at_b158 => ?_)
                      have c160 : V144 b158 o159 = some (.int .i64 (((l.getD (k) ([], [])).2).getD (0) (0, [], false)).1) := (At.int (At.pr at_b158).1).1
                      have l161 : IntKind.i64.min ≤ (((l.getD (k) ([], [])).2).getD (0) (0, [], false)).1 ∧ (((l.getD (k) ([], [])).2).getD (0) (0, [], false)).1 ≤ IntKind.i64.max := (At.int (At.pr at_b158).1).2
                      have c162 : V144 b158 (o159 + 1) = some (bs (((l.getD (k) ([], [])).2).getD (0) (0, [], false)).2.1) := (At.str (At.pr (At.pr at_b158).2).1).1
                      have l163 : (((l.getD (k) ([], [])).2).getD (0) (0, [], false)).2.1.length ≤ 140737488355328 := (At.str (At.pr (At.pr at_b158).2).1).2
                      have c164 : V144 b158 (o159 + 2) = some (.bool (((l.getD (k) ([], [])).2).getD (0) (0, [], false)).2.2) := At.bool (At.pr (At.pr at_b158).2).2
                      refine h_seg 1 (by kernel_rfl) ?_
                      refine gH (.load 3 (.tmp 76)) (some 77) (by kernel_rfl) (Y_loadV c160 (by kernel_rfl) (by kernel_rfl)) ?_
                      refine h_seg 3 (by kernel_rfl) ?_
                      refine h_n (fun w165 hM166 => ?_)
                      refine  (then_n (hK59 _ _ ?_))
                      refine wp_if (decide ((t) < ((((l.getD (k) ([], [])).2).getD (0) (0, [], false)).1))) (by kernel_rfl) (fun h167 => ?_) (fun h167 => ?_)
                      · -- ffffLtftffft
                        have p168 : ((t) < ((((l.getD (k) ([], [])).2).getD (0) (0, [], false)).1)) := of_decide_eq_true h167
                        refine wp_seq_k (fun K169 hK169 => ?_)
                        refine wp_reg ?_
                        refine wpF_seg 1 (by kernel_rfl) ?_
                        refine wpF_store hM166 0 rfl (h := (by kernel_rfl : opAt _ _ _ _ _ = some (.store 50 (.tmp 6) (.tmp 81), none))) (off := 0) (by kernel_rfl) #[.slice none 0 0, .int .i64 (0), .int .i64 (0)] (by kernel_rfl) (by kernel_rfl) (by kernel_rfl) (by kernel_rfl) (fun w171 hM170 => ?_)
                        have hM172 : Step V w [] V144 _ ([.blk b2 (.cells #[.slice none 0 0, .int .i64 (0), .int .i64 (0)] 50)]) := hM170
                        refine wpF_seg 1 (by kernel_rfl) ?_
                        refine wpF_end _ (by kernel_rfl) (then_n (hK169 _ _ ?_))
                        refine wp_ret (blk_r (then_r (then_r (blk_r (then_r (?_))))))
                        refine retN [.agg #[.slice none 0 0, .int .i64 (0), .int .i64 (0)], .int .i64 (4)] (.tuple #[.agg #[.slice none 0 0, .int .i64 (0), .int .i64 (0)], .int .i64 (4)]) Try.results30 (.cell (by kernel_rfl) (by kernel_rfl) hM172 0 rfl (by kernel_rfl) (.tmp (by kernel_rfl) (by kernel_rfl) .nil)) (by kernel_rfl) (hRet _ _ ⟨_, _, rfl, hM172.clear, ?_⟩)
                        -- end ffffLtftffft
                        refine ⟨none, 0, ?_, ?_⟩
                        · (have hb : ldB l t m = false := ld14_no (k := k) (by omega) (by first | exact .inl (by omega) | exact .inr (.inl ⟨by omega, by first | assumption | exact not_t (by assumption)⟩) | exact .inr (.inr (.inl (by omega))) | exact .inr (.inr (.inr (.inl (by first | assumption | exact not_t (by assumption))))) | exact .inr (.inr (.inr (.inr (by omega)))))); (simp only [hb, cond_false] <;> rfl)
                        · first | exact (Rd.nil _ _) | (exact Rd.eq (Rd.nil _ _) (by first | (simp only [hb, cond_false, cond_true]; done) | ((have hb : ldB l t m = false := ld14_rng (by omega)); simp only [hb, cond_false]; done) | ((have hb : ldB l t m = false := ld14_no (k := k) (by omega) (by first | exact .inl (by omega) | exact .inr (.inl ⟨by omega, by first | assumption | exact not_t (by assumption)⟩) | exact .inr (.inr (.inl (by omega))) | exact .inr (.inr (.inr (.inl (by first | assumption | exact not_t (by assumption))))) | exact .inr (.inr (.inr (.inr (by omega)))))); simp only [hb, cond_false]; done)))
                      · -- ffffLtftffff
                        have p173 : ¬ ((t) < ((((l.getD (k) ([], [])).2).getD (0) (0, [], false)).1)) := of_decide_eq_false h167
                        refine wp_skip (blk_n (then_n (hK48 _ _ ?_)))
                        refine wp_reg ?_
                        refine wpF_seg 1 (by kernel_rfl) ?_
                        refine gF hM166 (.binOp .add 3 (.tmp 30) (.const (.int .i64 1)) 3) (some 31) (by kernel_rfl) (Y_add .i64 ((k : Int)) (1) ((k : Int) + 1) (by kernel_rfl) (by kernel_rfl) (wrap64_ok _ (by omega))) ?_
                        refine wpF_seg 1 (by kernel_rfl) ?_
                        refine wpF_base [(0, .slice Al (l).length cl), (1, .int .i64 (t)), (2, .int .i64 (m)), (6, .pointer (some ⟨b2, 0, none⟩)), (8, .int .i64 ((k + 1 : Int)))] (by kernel_rfl) (fun g174 => ?_)
                        refine wpF_end _ (by kernel_rfl) (then_n (hK43 _ _ (k + 1) (by omega) ?_))
                        refine ⟨g174, V144, rfl, hM166, hM166.le, ?_, ?_⟩
                        · -- ffffLtftffff inv 0
                          omega
                        · -- ffffLtftffff inv 1
                          exact ld14_step (by assumption) (by omega) (by first | exact .inl (by omega) | exact .inr (by assumption)) (by omega) (by assumption) (by omega)
              · -- ffffLtff
                have p175 : ¬ ((0) < ((k : Int))) := of_decide_eq_false h85
                refine h_seg 11 (by kernel_rfl) ?_
                refine h_s no_fs ?_
                refine h_a (by kernel_rfl) (by kernel_rfl) (fun w176 X177 hM178 => ?_)
                refine wpF_seg 1 (by kernel_rfl) ?_
                refine wpF_end _ (by kernel_rfl) (then_n (h_d [] (by kernel_rfl) [.blk b2 (.cells #[.slice none 0 0, .int .i64 (0), .int .i64 (0)] 50)] hM178 no_held (VT.le.refl _) ?_))
                refine h_seg 9 (by kernel_rfl) ?_
                refine h_caseB 68 (decide (((((l.getD (k) ([], [])).2).length : Int)) = (0))) (by kernel_rfl) (by kernel_rfl) (fun h179 => ?_) (fun h179 => ?_)
                · -- ffffLtfft
                  have p180 : (((((l.getD (k) ([], [])).2).length : Int)) = (0)) := of_decide_eq_true h179
                  refine h_seg 1 (by kernel_rfl) ?_
                  refine h_a (by kernel_rfl) (by kernel_rfl) (fun w181 X182 hM183 => ?_)
                  refine wpF_seg 1 (by kernel_rfl) ?_
                  refine wpF_end _ (by kernel_rfl) (then_n (h_d [] (by kernel_rfl) [.blk b2 (.cells #[.slice none 0 0, .int .i64 (0), .int .i64 (0)] 50)] hM183 no_held (VT.le.refl _) ?_))
                  refine h_seg 10 (by kernel_rfl) ?_
                  refine h_n (fun w184 hM185 => ?_)
                  refine  (then_n (hK59 _ _ ?_))
                  refine wp_ct (by kernel_rfl) ?_
                  refine wp_seq_k (fun K186 hK186 => ?_)
                  refine wp_reg ?_
                  refine wpF_seg 1 (by kernel_rfl) ?_
                  refine wpF_store hM185 0 rfl (h := (by kernel_rfl : opAt _ _ _ _ _ = some (.store 50 (.tmp 6) (.tmp 81), none))) (off := 0) (by kernel_rfl) #[.slice none 0 0, .int .i64 (0), .int .i64 (0)] (by kernel_rfl) (by kernel_rfl) (by kernel_rfl) (by kernel_rfl) (fun w188 hM187 => ?_)
                  have hM189 : Step V w [] Vl37 _ ([.blk b2 (.cells #[.slice none 0 0, .int .i64 (0), .int .i64 (0)] 50)]) := hM187
                  refine wpF_seg 1 (by kernel_rfl) ?_
                  refine wpF_end _ (by kernel_rfl) (then_n (hK186 _ _ ?_))
                  refine wp_ret (blk_r (then_r (then_r (blk_r (then_r (?_))))))
                  refine retN [.agg #[.slice none 0 0, .int .i64 (0), .int .i64 (0)], .int .i64 (4)] (.tuple #[.agg #[.slice none 0 0, .int .i64 (0), .int .i64 (0)], .int .i64 (4)]) Try.results30 (.cell (by kernel_rfl) (by kernel_rfl) hM189 0 rfl (by kernel_rfl) (.tmp (by kernel_rfl) (by kernel_rfl) .nil)) (by kernel_rfl) (hRet _ _ ⟨_, _, rfl, hM189.clear, ?_⟩)
                  -- end ffffLtfft
                  refine ⟨none, 0, ?_, ?_⟩
                  · (have hb : ldB l t m = false := ld14_no (k := k) (by omega) (by first | exact .inl (by omega) | exact .inr (.inl ⟨by omega, by first | assumption | exact not_t (by assumption)⟩) | exact .inr (.inr (.inl (by omega))) | exact .inr (.inr (.inr (.inl (by first | assumption | exact not_t (by assumption))))) | exact .inr (.inr (.inr (.inr (by omega)))))); (simp only [hb, cond_false] <;> rfl)
                  · first | exact (Rd.nil _ _) | (exact Rd.eq (Rd.nil _ _) (by first | (simp only [hb, cond_false, cond_true]; done) | ((have hb : ldB l t m = false := ld14_rng (by omega)); simp only [hb, cond_false]; done) | ((have hb : ldB l t m = false := ld14_no (k := k) (by omega) (by first | exact .inl (by omega) | exact .inr (.inl ⟨by omega, by first | assumption | exact not_t (by assumption)⟩) | exact .inr (.inr (.inl (by omega))) | exact .inr (.inr (.inr (.inl (by first | assumption | exact not_t (by assumption))))) | exact .inr (.inr (.inr (.inr (by omega)))))); simp only [hb, cond_false]; done)))
                · -- ffffLtfff
                  have p190 : ¬ (((((l.getD (k) ([], [])).2).length : Int)) = (0)) := of_decide_eq_false h179
                  refine h_seg 1 (by kernel_rfl) ?_
                  refine h_a (by kernel_rfl) (by kernel_rfl) (fun w191 X192 hM193 => ?_)
                  refine wpF_callP hM193 (f := 76) (caps := #[]) (h := (by kernel_rfl : opAt _ _ _ _ _ = some (.call (.mk (.value (.func 76)) #[(.tmp 69)] #[78]), some 70))) (by kernel_rfl) (by kernel_rfl) (by kernel_rfl) (f76 _ _ hM193.inW A54 c55 ((l.getD (k) ([], [])).2) r57) (fun v194 V195 w196 le197 hM198 hp199 => ?_)
                  obtain rfl := hp199
                  refine wpF_end _ (by kernel_rfl) (then_n (h_d [] (by kernel_rfl) [.blk b2 (.cells #[.slice none 0 0, .int .i64 (0), .int .i64 (0)] 50)] hM198 no_held le197 ?_))
                  refine h_seg 3 (by kernel_rfl) ?_
                  refine h_caseB 73 (!(chnB ((l.getD (k) ([], [])).2))) (by kernel_rfl) (by kernel_rfl) (fun h200 => ?_) (fun h200 => ?_)
                  · -- ffffLtffft
                    have h201 : (chnB ((l.getD (k) ([], [])).2)) = false := by simpa using h200
                    refine h_seg 7 (by kernel_rfl) ?_
                    refine h_n (fun w202 hM203 => ?_)
                    refine  (then_n (hK59 _ _ ?_))
                    refine wp_ct (by kernel_rfl) ?_
                    refine wp_seq_k (fun K204 hK204 => ?_)
                    refine wp_reg ?_
                    refine wpF_seg 1 (by kernel_rfl) ?_
                    refine wpF_store hM203 0 rfl (h := (by kernel_rfl : opAt _ _ _ _ _ = some (.store 50 (.tmp 6) (.tmp 81), none))) (off := 0) (by kernel_rfl) #[.slice none 0 0, .int .i64 (0), .int .i64 (0)] (by kernel_rfl) (by kernel_rfl) (by kernel_rfl) (by kernel_rfl) (fun w206 hM205 => ?_)
                    have hM207 : Step V w [] V195 _ ([.blk b2 (.cells #[.slice none 0 0, .int .i64 (0), .int .i64 (0)] 50)]) := hM205
                    refine wpF_seg 1 (by kernel_rfl) ?_
                    refine wpF_end _ (by kernel_rfl) (then_n (hK204 _ _ ?_))
                    refine wp_ret (blk_r (then_r (then_r (blk_r (then_r (?_))))))
                    refine retN [.agg #[.slice none 0 0, .int .i64 (0), .int .i64 (0)], .int .i64 (4)] (.tuple #[.agg #[.slice none 0 0, .int .i64 (0), .int .i64 (0)], .int .i64 (4)]) Try.results30 (.cell (by kernel_rfl) (by kernel_rfl) hM207 0 rfl (by kernel_rfl) (.tmp (by kernel_rfl) (by kernel_rfl) .nil)) (by kernel_rfl) (hRet _ _ ⟨_, _, rfl, hM207.clear, ?_⟩)
                    -- end ffffLtffft
                    refine ⟨none, 0, ?_, ?_⟩
                    · (have hb : ldB l t m = false := ld14_no (k := k) (by omega) (by first | exact .inl (by omega) | exact .inr (.inl ⟨by omega, by first | assumption | exact not_t (by assumption)⟩) | exact .inr (.inr (.inl (by omega))) | exact .inr (.inr (.inr (.inl (by first | assumption | exact not_t (by assumption))))) | exact .inr (.inr (.inr (.inr (by omega)))))); (simp only [hb, cond_false] <;> rfl)
                    · first | exact (Rd.nil _ _) | (exact Rd.eq (Rd.nil _ _) (by first | (simp only [hb, cond_false, cond_true]; done) | ((have hb : ldB l t m = false := ld14_rng (by omega)); simp only [hb, cond_false]; done) | ((have hb : ldB l t m = false := ld14_no (k := k) (by omega) (by first | exact .inl (by omega) | exact .inr (.inl ⟨by omega, by first | assumption | exact not_t (by assumption)⟩) | exact .inr (.inr (.inl (by omega))) | exact .inr (.inr (.inr (.inl (by first | assumption | exact not_t (by assumption))))) | exact .inr (.inr (.inr (.inr (by omega)))))); simp only [hb, cond_false]; done)))
                  · -- ffffLtffff
                    have h208 : (chnB ((l.getD (k) ([], [])).2)) = true := by simpa using h200
                    refine h_seg 1 (by kernel_rfl) ?_
                    refine gH_index (A := A54) (c := c55) (r57.up le197) .i64 (0) (h := (by kernel_rfl : opAt _ _ _ _ _ = some (.indexAddr 78 (.tmp 74) (.const (.int .i64 0)), some 75))) (e := 126) (by kernel_rfl) (by kernel_rfl) (by kernel_rfl) (0) (by omega) (by omega) (fun b209 o210 at_b209 => ?_)
                    have c211 : V195 b209 o210 = some (.int .i64 (((l.getD (k) ([], [])).2).getD (0) (0, [], false)).1) := (At.int (At.pr at_b209).1).1
                    have l212 : IntKind.i64.min ≤ (((l.getD (k) ([], [])).2).getD (0) (0, [], false)).1 ∧ (((l.getD (k) ([], [])).2).getD (0) (0, [], false)).1 ≤ IntKind.i64.max := (At.int (At.pr at_b209).1).2
                    have c213 : V195 b209 (o210 + 1) = some (bs (((l.getD (k) ([], [])).2).getD (0) (0, [], false)).2.1) := (At.str (At.pr (At.pr at_b209).2).1).1
                    have l214 : (((l.getD (k) ([], [])).2).getD (0) (0, [], false)).2.1.length ≤ 140737488355328 := (At.str (At.pr (At.pr at_b209).2).1).2
                    have c215 : V195 b209 (o210 + 2) = some (.bool (((l.getD (k) ([], [])).2).getD (0) (0, [], false)).2.2) := At.bool (At.pr (At.pr at_b209).2).2
                    refine h_seg 1 (by kernel_rfl) ?_
                    refine gH (.load 3 (.tmp 76)) (some 77) (by kernel_rfl) (Y_loadV c211 (by kernel_rfl) (by kernel_rfl)) ?_
                    refine h_seg 3 (by kernel_rfl) ?_
                    refine h_n (fun w216 hM217 => ?_)
                    refine  (then_n (hK59 _ _ ?_))
                    refine wp_if (decide ((t) < ((((l.getD (k) ([], [])).2).getD (0) (0, [], false)).1))) (by kernel_rfl) (fun h218 => ?_) (fun h218 => ?_)
                    · -- ffffLtfffft
                      have p219 : ((t) < ((((l.getD (k) ([], [])).2).getD (0) (0, [], false)).1)) := of_decide_eq_true h218
                      refine wp_seq_k (fun K220 hK220 => ?_)
                      refine wp_reg ?_
                      refine wpF_seg 1 (by kernel_rfl) ?_
                      refine wpF_store hM217 0 rfl (h := (by kernel_rfl : opAt _ _ _ _ _ = some (.store 50 (.tmp 6) (.tmp 81), none))) (off := 0) (by kernel_rfl) #[.slice none 0 0, .int .i64 (0), .int .i64 (0)] (by kernel_rfl) (by kernel_rfl) (by kernel_rfl) (by kernel_rfl) (fun w222 hM221 => ?_)
                      have hM223 : Step V w [] V195 _ ([.blk b2 (.cells #[.slice none 0 0, .int .i64 (0), .int .i64 (0)] 50)]) := hM221
                      refine wpF_seg 1 (by kernel_rfl) ?_
                      refine wpF_end _ (by kernel_rfl) (then_n (hK220 _ _ ?_))
                      refine wp_ret (blk_r (then_r (then_r (blk_r (then_r (?_))))))
                      refine retN [.agg #[.slice none 0 0, .int .i64 (0), .int .i64 (0)], .int .i64 (4)] (.tuple #[.agg #[.slice none 0 0, .int .i64 (0), .int .i64 (0)], .int .i64 (4)]) Try.results30 (.cell (by kernel_rfl) (by kernel_rfl) hM223 0 rfl (by kernel_rfl) (.tmp (by kernel_rfl) (by kernel_rfl) .nil)) (by kernel_rfl) (hRet _ _ ⟨_, _, rfl, hM223.clear, ?_⟩)
                      -- end ffffLtfffft
                      refine ⟨none, 0, ?_, ?_⟩
                      · (have hb : ldB l t m = false := ld14_no (k := k) (by omega) (by first | exact .inl (by omega) | exact .inr (.inl ⟨by omega, by first | assumption | exact not_t (by assumption)⟩) | exact .inr (.inr (.inl (by omega))) | exact .inr (.inr (.inr (.inl (by first | assumption | exact not_t (by assumption))))) | exact .inr (.inr (.inr (.inr (by omega)))))); (simp only [hb, cond_false] <;> rfl)
                      · first | exact (Rd.nil _ _) | (exact Rd.eq (Rd.nil _ _) (by first | (simp only [hb, cond_false, cond_true]; done) | ((have hb : ldB l t m = false := ld14_rng (by omega)); simp only [hb, cond_false]; done) | ((have hb : ldB l t m = false := ld14_no (k := k) (by omega) (by first | exact .inl (by omega) | exact .inr (.inl ⟨by omega, by first | assumption | exact not_t (by assumption)⟩) | exact .inr (.inr (.inl (by omega))) | exact .inr (.inr (.inr (.inl (by first | assumption | exact not_t (by assumption))))) | exact .inr (.inr (.inr (.inr (by omega)))))); simp only [hb, cond_false]; done)))
                    · -- ffffLtfffff
                      have p224 : ¬ ((t) < ((((l.getD (k) ([], [])).2).getD (0) (0, [], false)).1)) := of_decide_eq_false h218
                      refine wp_skip (blk_n (then_n (hK48 _ _ ?_)))
                      refine wp_reg ?_
                      refine wpF_seg 1 (by kernel_rfl) ?_
                      refine gF hM217 (.binOp .add 3 (.tmp 30) (.const (.int .i64 1)) 3) (some 31) (by kernel_rfl) (Y_add .i64 ((k : Int)) (1) ((k : Int) + 1) (by kernel_rfl) (by kernel_rfl) (wrap64_ok _ (by omega))) ?_
                      refine wpF_seg 1 (by kernel_rfl) ?_
                      refine wpF_base [(0, .slice Al (l).length cl), (1, .int .i64 (t)), (2, .int .i64 (m)), (6, .pointer (some ⟨b2, 0, none⟩)), (8, .int .i64 ((k + 1 : Int)))] (by kernel_rfl) (fun g225 => ?_)
                      refine wpF_end _ (by kernel_rfl) (then_n (hK43 _ _ (k + 1) (by omega) ?_))
                      refine ⟨g225, V195, rfl, hM217, hM217.le, ?_, ?_⟩
                      · -- ffffLtfffff inv 0
                        omega
                      · -- ffffLtfffff inv 1
                        exact ld14_step (by assumption) (by omega) (by first | exact .inl (by omega) | exact .inr (by assumption)) (by omega) (by assumption) (by omega)
          · -- ffffLf
            have p226 : ¬ (((k : Int)) < ((l.length : Int))) := of_decide_eq_false h46
            refine wp_exit (then_x (then_x (blk_hit (then_n (hK35 _ _ ?_)))))
            obtain rfl : k = l.length := by omega
            refine wp_seq_k (fun K227 hK227 => ?_)
            refine wp_reg ?_
            refine wpF_seg 4 (by kernel_rfl) ?_
            refine wpF_store hM41 0 rfl (h := (by kernel_rfl : opAt _ _ _ _ _ = some (.store 50 (.tmp 6) (.tmp 85), none))) (off := 0) (by kernel_rfl) #[.slice Al (l).length cl, .int .i64 (t), .int .i64 (m)] (by kernel_rfl) (by kernel_rfl) (by kernel_rfl) (by kernel_rfl) (fun w229 hM228 => ?_)
            have hM230 : Step V w [] Vl37 _ ([.blk b2 (.cells #[.slice Al (l).length cl, .int .i64 (t), .int .i64 (m)] 50)]) := hM228
            refine wpF_seg 1 (by kernel_rfl) ?_
            refine wpF_end _ (by kernel_rfl) (then_n (hK227 _ _ ?_))
            refine wp_ret ?_
            refine retN [.agg #[.slice Al (l).length cl, .int .i64 (t), .int .i64 (m)], .int .i64 (0)] (.tuple #[.agg #[.slice Al (l).length cl, .int .i64 (t), .int .i64 (m)], .int .i64 (0)]) Try.results30 (.cell (by kernel_rfl) (by kernel_rfl) hM230 0 rfl (by kernel_rfl) (.tmp (by kernel_rfl) (by kernel_rfl) .nil)) (by kernel_rfl) (hRet _ _ ⟨_, _, rfl, hM230.clear, ?_⟩)
            -- end ffffLf
            have hb : ldB l t m = true := ld14_yes (by omega) (by omega) (by omega) (by omega) (by assumption)
            refine ⟨Al, cl, ?_, ?_⟩
            · first | (simp only [hb, cond_false, cond_true] <;> rfl) | ((have hb : ldB l t m = false := ld14_rng (by omega)); simp only [hb, cond_false] <;> rfl)
            · first | exact (hl.up hM230.le) | (exact Rd.eq (hl.up hM230.le) (by first | (simp only [hb, cond_false, cond_true]; done) | ((have hb : ldB l t m = false := ld14_rng (by omega)); simp only [hb, cond_false]; done) | ((have hb : ldB l t m = false := ld14_no (k := k) (by omega) (by first | exact .inl (by omega) | exact .inr (.inl ⟨by omega, by first | assumption | exact not_t (by assumption)⟩) | exact .inr (.inr (.inl (by omega))) | exact .inr (.inr (.inr (.inl (by first | assumption | exact not_t (by assumption))))) | exact .inr (.inr (.inr (.inr (by omega)))))); simp only [hb, cond_false]; done)))

end Go.Vk
