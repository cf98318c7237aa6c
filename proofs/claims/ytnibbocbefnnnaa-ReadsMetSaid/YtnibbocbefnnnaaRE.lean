import Derived.Test.YtnibbocbefnnnaaRPlain
set_option linter.unusedVariables false
set_option linter.unusedSimpArgs false
namespace Go.Vk
open Go.Proofs
set_option maxHeartbeats 4000000 in
set_option maxRecDepth 100000 in
theorem f24 (V : VT) (w : World) (hV : V.inW w) (Aak : Option Addr) (cak : Nat) (ak : List Str) (hak : Rd strK V Aak cak ak) (Aaq : Option Addr) (caq : Nat) (aq : List ((Str × Str))) (haq : Rd (prK strK strK) V Aaq caq aq) (Abk : Option Addr) (cbk : Nat) (bk : List Str) (hbk : Rd strK V Abk cbk bk) (Abq : Option Addr) (cbq : Nat) (bq : List ((Str × Str))) (hbq : Rd (prK strK strK) V Abq cbq bq) :
    Calls Try.prog 24 #[.agg #[.slice Aak (ak).length cak, .slice Aaq (aq).length caq], .agg #[.slice Abk (bk).length cbk, .slice Abq (bq).length cbq]] w (RetP V w fun rv V' => rv = .bool (decide (ak = bk ∧ aq = bq))) := by
  have mxak : ak.length ≤ 140737488355328 := hak.max
  have mxaq : aq.length ≤ 140737488355328 := haq.max
  have mxbk : bk.length ≤ 140737488355328 := hbk.max
  have mxbq : bq.length ≤ 140737488355328 := hbq.max
  refine calls_env (n := 59) Try.func24 (c := _) rfl Try.ntmps24 (by kernel_rfl) (fun R hRet => ?_)
  have hM0 : Step V w [] V w [] := Step.refl (St.nilE hV)
  refine wp_seq_k (fun K1 hK1 => ?_)
  refine wp_reg ?_
  refine wpF_box hM0 #[.slice Aak (ak).length cak, .slice Aaq (aq).length caq] (h := (by kernel_rfl : opAt _ _ _ _ _ = some (.box 25 (.tmp 0), some 2))) (by kernel_rfl) (fun b2 w3 hM4 => ?_)
  obtain ⟨V5, le6, hM7, hc8⟩ := hM4.settle 0 rfl
  have hM9 : Step V w [] V5 _ ([]) := hM7
  refine wpF_box hM9 #[.slice Abk (bk).length cbk, .slice Abq (bq).length cbq] (h := (by kernel_rfl : opAt _ _ _ _ _ = some (.box 25 (.tmp 1), some 3))) (by kernel_rfl) (fun b10 w11 hM12 => ?_)
  obtain ⟨V13, le14, hM15, hc16⟩ := hM12.settle 0 rfl
  have hM17 : Step V w [] V13 _ ([]) := hM15
  refine wpF_seg 1 (by kernel_rfl) ?_
  refine wpF_end _ (by kernel_rfl) (then_n (hK1 _ _ ?_))
  refine wp_seq_k (fun K18 hK18 => ?_)
  refine wp_seq_k (fun K19 hK19 => ?_)
  refine wp_reg ?_
  refine wpF_seg 1 (by kernel_rfl) ?_
  refine gF hM17 (.load 22 (.tmp 7)) (some 8) (by kernel_rfl) (Y_loadB #[.slice Aak (ak).length cak, .slice Aaq (aq).length caq] (fun i v hi => le14 _ _ _ (hc8 i v hi)) (off := 0) (by kernel_rfl) (.slice Aak (ak).length cak) (by kernel_rfl)) ?_
  refine wpF_seg 2 (by kernel_rfl) ?_
  refine gF hM17 (.load 22 (.tmp 10)) (some 11) (by kernel_rfl) (Y_loadB #[.slice Abk (bk).length cbk, .slice Abq (bq).length cbq] hc16 (off := 0) (by kernel_rfl) (.slice Abk (bk).length cbk) (by kernel_rfl)) ?_
  refine wpF_seg 3 (by kernel_rfl) ?_
  refine wpF_caseB 14 (!(decide (((ak.length : Int)) = ((bk.length : Int))))) (by kernel_rfl) (by kernel_rfl) (fun h20 => ?_) (fun h20 => ?_)
  · -- t
    have h21 : decide (((ak.length : Int)) = ((bk.length : Int))) = false := by rw [← Bool.not_not (decide _), h20]; rfl
    have p22 : ¬ (((ak.length : Int)) = ((bk.length : Int))) := of_decide_eq_false h21
    refine wpF_seg 8 (by kernel_rfl) ?_
    refine wpF_end _ (by kernel_rfl) (then_n (hK19 _ _ ?_))
    refine wp_ct (by kernel_rfl) ?_
    refine wp_seq_k (fun K23 hK23 => ?_)
    refine wp_reg ?_
    refine wpF_seg 1 (by kernel_rfl) ?_
    refine wpF_end _ (by kernel_rfl) (then_n (hK23 _ _ ?_))
    refine wp_ret (then_r (?_))
    refine retN [.bool (false)] (.bool (false)) Try.results24 (.tmp (by kernel_rfl) (by kernel_rfl) .nil) (by kernel_rfl) (hRet _ _ ⟨_, _, rfl, hM17.clear, ?_⟩)
    -- end t
    first | exact congrArg Value.bool (decide_eq_true ⟨ext_getD (d := []) (by omega) (by assumption), ext_getD (d := ([], [])) (by omega) (by assumption)⟩).symm | exact congrArg Value.bool (decide_eq_false (by rintro ⟨rfl, rfl⟩; first | omega | exact absurd rfl (by assumption) | exact absurd rfl (sameP_ne (by assumption)) | contradiction)).symm
  · -- f
    have h24 : decide (((ak.length : Int)) = ((bk.length : Int))) = true := by rw [← Bool.not_not (decide _), h20]; rfl
    have p25 : (((ak.length : Int)) = ((bk.length : Int))) := of_decide_eq_true h24
    refine wpF_seg 1 (by kernel_rfl) ?_
    refine gF hM17 (.load 23 (.tmp 15)) (some 16) (by kernel_rfl) (Y_loadB #[.slice Aak (ak).length cak, .slice Aaq (aq).length caq] (fun i v hi => le14 _ _ _ (hc8 i v hi)) (off := 1) (by kernel_rfl) (.slice Aaq (aq).length caq) (by kernel_rfl)) ?_
    refine wpF_seg 2 (by kernel_rfl) ?_
    refine gF hM17 (.load 23 (.tmp 18)) (some 19) (by kernel_rfl) (Y_loadB #[.slice Abk (bk).length cbk, .slice Abq (bq).length cbq] hc16 (off := 1) (by kernel_rfl) (.slice Abq (bq).length cbq) (by kernel_rfl)) ?_
    refine wpF_seg 3 (by kernel_rfl) ?_
    refine wpF_end _ (by kernel_rfl) (then_n (hK19 _ _ ?_))
    refine wp_if (!(decide (((aq.length : Int)) = ((bq.length : Int))))) (by kernel_rfl) (fun h26 => ?_) (fun h26 => ?_)
    · -- ft
      have h27 : decide (((aq.length : Int)) = ((bq.length : Int))) = false := by rw [← Bool.not_not (decide _), h26]; rfl
      have p28 : ¬ (((aq.length : Int)) = ((bq.length : Int))) := of_decide_eq_false h27
      refine wp_seq_k (fun K29 hK29 => ?_)
      refine wp_reg ?_
      refine wpF_seg 1 (by kernel_rfl) ?_
      refine wpF_end _ (by kernel_rfl) (then_n (hK29 _ _ ?_))
      refine wp_ret (then_r (?_))
      refine retN [.bool (false)] (.bool (false)) Try.results24 (.tmp (by kernel_rfl) (by kernel_rfl) .nil) (by kernel_rfl) (hRet _ _ ⟨_, _, rfl, hM17.clear, ?_⟩)
      -- end ft
      first | exact congrArg Value.bool (decide_eq_true ⟨ext_getD (d := []) (by omega) (by assumption), ext_getD (d := ([], [])) (by omega) (by assumption)⟩).symm | exact congrArg Value.bool (decide_eq_false (by rintro ⟨rfl, rfl⟩; first | omega | exact absurd rfl (by assumption) | exact absurd rfl (sameP_ne (by assumption)) | contradiction)).symm
    · -- ff
      have h30 : decide (((aq.length : Int)) = ((bq.length : Int))) = true := by rw [← Bool.not_not (decide _), h26]; rfl
      have p31 : (((aq.length : Int)) = ((bq.length : Int))) := of_decide_eq_true h30
      refine wp_skip (then_n (hK18 _ _ ?_))
      refine wp_seq_k (fun K32 hK32 => ?_)
      refine wp_seq_k (fun K33 hK33 => ?_)
      refine wp_reg ?_
      refine wpF_seg 1 (by kernel_rfl) ?_
      refine wpF_end _ (by kernel_rfl) (then_n (hK33 _ _ ?_))
      refine wp_block ?_
      refine wp_base [(2, .pointer (some ⟨b2, 0, none⟩)), (3, .pointer (some ⟨b10, 0, none⟩)), (5, .int .i64 ((0 : Int)))] (by kernel_rfl) (fun g35 => ?_)
      refine wp_loopX (fun (x_ : Nat) a_ w_ => ∃ (g : Nat → Value) (V_ : VT), a_ = env [] 59 [(2, .pointer (some ⟨b2, 0, none⟩)), (3, .pointer (some ⟨b10, 0, none⟩)), (5, .int .i64 ((x_ : Int)))] g ∧ Step V w [] V_ w_ [] ∧ VT.le V13 V_ ∧ (x_ ≤ ak.length) ∧ (∀ i, i < x_ → ak.getD i [] = bk.getD i [])) (fun (x_ : Nat) => ak.length - x_) (0) ⟨g35, V13, rfl, hM17, VT.le.refl _, by omega, by (intro i hi; omega)⟩ ?_
      rintro i1 a_ w37 ⟨g36, Vl34, rfl, hM38, le39, hi40_0, hi40_1⟩ K40 hK40
      refine wp_seq_k (fun K41 hK41 => ?_)
      refine wp_seq_k (fun K42 hK42 => ?_)
      refine wp_reg ?_
      refine wpF_seg 2 (by kernel_rfl) ?_
      refine gF hM38 (.load 22 (.tmp 24)) (some 25) (by kernel_rfl) (Y_loadB #[.slice Aak (ak).length cak, .slice Aaq (aq).length caq] (fun i v hi => (le14.trans le39) _ _ _ (hc8 i v hi)) (off := 0) (by kernel_rfl) (.slice Aak (ak).length cak) (by kernel_rfl)) ?_
      refine wpF_seg 2 (by kernel_rfl) ?_
      refine wpF_end _ (by kernel_rfl) (then_n (hK42 _ _ ?_))
      refine wp_if (decide (((i1 : Int)) < ((ak.length : Int)))) (by kernel_rfl) (fun h43 => ?_) (fun h43 => ?_)
      · -- ffLt
        have p44 : (((i1 : Int)) < ((ak.length : Int))) := of_decide_eq_true h43
        refine wp_skip (then_n (hK41 _ _ ?_))
        refine wp_seq_k (fun K45 hK45 => ?_)
        refine wp_block ?_
        refine wp_seq_k (fun K46 hK46 => ?_)
        refine wp_base [(2, .pointer (some ⟨b2, 0, none⟩)), (3, .pointer (some ⟨b10, 0, none⟩)), (5, .int .i64 ((i1 : Int))), (23, .int .i64 ((i1 : Int))), (24, .pointer (some ⟨b2, 0, none⟩)), (25, .slice Aak (ak).length cak), (26, .int .i64 ((ak.length : Int))), (27, .bool (decide (((i1 : Int)) < ((ak.length : Int)))))] (by kernel_rfl) (fun g47 => ?_)
        refine wp_drawN hM38 [] no_held [] [0, 1, 2, 3, 4, 5, 6, 7, 8, 9, 10] [] [.p 0, .p 1, .p 2, .p 3, .p 4, .p 5, .p 6, .p 7, .p 8, .p 9, .p 10, .s] rfl (by kernel_rfl) (by kernel_rfl) ?_
        refine h_seg 1 (by kernel_rfl) ?_
        refine gH (.load 22 (.tmp 30)) (some 31) (by kernel_rfl) (Y_loadB #[.slice Aak (ak).length cak, .slice Aaq (aq).length caq] (fun i v hi => (le14.trans le39) _ _ _ (hc8 i v hi)) (off := 0) (by kernel_rfl) (.slice Aak (ak).length cak) (by kernel_rfl)) ?_
        refine h_seg 1 (by kernel_rfl) ?_
        refine gH_index (A := Aak) (c := cak) (hak.up hM38.le) .i64 ((i1 : Int)) (h := (by kernel_rfl : opAt _ _ _ _ _ = some (.indexAddr 22 (.tmp 31) (.tmp 32), some 33))) (e := 9) (by kernel_rfl) (by kernel_rfl) (by kernel_rfl) (i1) rfl (by omega) (fun b48 o49 at_b48 => ?_)
        have c50 : Vl34 b48 o49 = some (bs (ak.getD (i1) [])) := (At.str at_b48).1
        have l51 : (ak.getD (i1) []).length ≤ 140737488355328 := (At.str at_b48).2
        refine gH (.load 9 (.tmp 33)) (some 34) (by kernel_rfl) (Y_loadV c50 (by kernel_rfl) (by kernel_rfl)) ?_
        refine h_seg 1 (by kernel_rfl) ?_
        refine gH (.load 22 (.tmp 35)) (some 36) (by kernel_rfl) (Y_loadB #[.slice Abk (bk).length cbk, .slice Abq (bq).length cbq] (fun i v hi => le39 _ _ _ (hc16 i v hi)) (off := 0) (by kernel_rfl) (.slice Abk (bk).length cbk) (by kernel_rfl)) ?_
        refine h_seg 1 (by kernel_rfl) ?_
        refine gH_index (A := Abk) (c := cbk) (hbk.up hM38.le) .i64 ((i1 : Int)) (h := (by kernel_rfl : opAt _ _ _ _ _ = some (.indexAddr 22 (.tmp 36) (.tmp 37), some 38))) (e := 9) (by kernel_rfl) (by kernel_rfl) (by kernel_rfl) (i1) rfl (by omega) (fun b52 o53 at_b52 => ?_)
        have c54 : Vl34 b52 o53 = some (bs (bk.getD (i1) [])) := (At.str at_b52).1
        have l55 : (bk.getD (i1) []).length ≤ 140737488355328 := (At.str at_b52).2
        refine gH (.load 9 (.tmp 38)) (some 39) (by kernel_rfl) (Y_loadV c54 (by kernel_rfl) (by kernel_rfl)) ?_
        refine h_seg 1 (by kernel_rfl) ?_
        refine h_s no_fs ?_
        refine h_n (fun w56 hM57 => ?_)
        refine  (then_n (hK46 _ _ ?_))
        refine wp_if (!(decide (((ak.getD (i1) [])) = ((bk.getD (i1) []))))) (by kernel_rfl) (fun h58 => ?_) (fun h58 => ?_)
        · -- ffLtt
          have h59 : decide (((ak.getD (i1) [])) = ((bk.getD (i1) []))) = false := by rw [← Bool.not_not (decide _), h58]; rfl
          have p60 : ¬ (((ak.getD (i1) [])) = ((bk.getD (i1) []))) := of_decide_eq_false h59
          refine wp_seq_k (fun K61 hK61 => ?_)
          refine wp_reg ?_
          refine wpF_seg 1 (by kernel_rfl) ?_
          refine wpF_end _ (by kernel_rfl) (then_n (hK61 _ _ ?_))
          refine wp_ret (blk_r (then_r (then_r (blk_r (then_r (?_))))))
          refine retN [.bool (false)] (.bool (false)) Try.results24 (.tmp (by kernel_rfl) (by kernel_rfl) .nil) (by kernel_rfl) (hRet _ _ ⟨_, _, rfl, hM57.clear, ?_⟩)
          -- end ffLtt
          first | exact congrArg Value.bool (decide_eq_true ⟨ext_getD (d := []) (by omega) (by assumption), ext_getD (d := ([], [])) (by omega) (by assumption)⟩).symm | exact congrArg Value.bool (decide_eq_false (by rintro ⟨rfl, rfl⟩; first | omega | exact absurd rfl (by assumption) | exact absurd rfl (sameP_ne (by assumption)) | contradiction)).symm
        · -- ffLtf
          have h62 : decide (((ak.getD (i1) [])) = ((bk.getD (i1) []))) = true := by rw [← Bool.not_not (decide _), h58]; rfl
          have p63 : (((ak.getD (i1) [])) = ((bk.getD (i1) []))) := of_decide_eq_true h62
          refine wp_skip (blk_n (then_n (hK45 _ _ ?_)))
          refine wp_reg ?_
          refine wpF_seg 1 (by kernel_rfl) ?_
          refine gF hM57 (.binOp .add 3 (.tmp 28) (.const (.int .i64 1)) 3) (some 29) (by kernel_rfl) (Y_add .i64 ((i1 : Int)) (1) ((i1 : Int) + 1) (by kernel_rfl) (by kernel_rfl) (wrap64_ok _ (by omega))) ?_
          refine wpF_seg 1 (by kernel_rfl) ?_
          refine wpF_base [(2, .pointer (some ⟨b2, 0, none⟩)), (3, .pointer (some ⟨b10, 0, none⟩)), (5, .int .i64 ((i1 + 1 : Int)))] (by kernel_rfl) (fun g64 => ?_)
          refine wpF_end _ (by kernel_rfl) (then_n (hK40 _ _ (i1 + 1) (by omega) ?_))
          refine ⟨g64, Vl34, rfl, hM57, le39, ?_, ?_⟩
          · -- ffLtf inv 0
            omega
          · -- ffLtf inv 1
            exact eq_step (by assumption) (by first | assumption | exact sameP_eq (by assumption))
      · -- ffLf
        have p65 : ¬ (((i1 : Int)) < ((ak.length : Int))) := of_decide_eq_false h43
        refine wp_exit (then_x (then_x (blk_hit (then_n (hK32 _ _ ?_)))))
        obtain rfl : i1 = ak.length := by omega
        refine wp_seq_k (fun K66 hK66 => ?_)
        refine wp_seq_k (fun K67 hK67 => ?_)
        refine wp_reg ?_
        refine wpF_seg 1 (by kernel_rfl) ?_
        refine wpF_end _ (by kernel_rfl) (then_n (hK67 _ _ ?_))
        refine wp_block ?_
        refine wp_base [(2, .pointer (some ⟨b2, 0, none⟩)), (3, .pointer (some ⟨b10, 0, none⟩)), (6, .int .i64 ((0 : Int)))] (by kernel_rfl) (fun g69 => ?_)
        refine wp_loopX (fun (x_ : Nat) a_ w_ => ∃ (g : Nat → Value) (V_ : VT), a_ = env [] 59 [(2, .pointer (some ⟨b2, 0, none⟩)), (3, .pointer (some ⟨b10, 0, none⟩)), (6, .int .i64 ((x_ : Int)))] g ∧ Step V w [] V_ w_ [] ∧ VT.le Vl34 V_ ∧ (x_ ≤ aq.length) ∧ (∀ i, i < x_ → aq.getD i ([], []) = bq.getD i ([], []))) (fun (x_ : Nat) => aq.length - x_) (0) ⟨g69, Vl34, rfl, hM38, VT.le.refl _, by omega, by (intro i hi; omega)⟩ ?_
        rintro i2 a_ w71 ⟨g70, Vl68, rfl, hM72, le73, hi74_0, hi74_1⟩ K74 hK74
        refine wp_seq_k (fun K75 hK75 => ?_)
        refine wp_seq_k (fun K76 hK76 => ?_)
        refine wp_reg ?_
        refine wpF_seg 2 (by kernel_rfl) ?_
        refine gF hM72 (.load 23 (.tmp 42)) (some 43) (by kernel_rfl) (Y_loadB #[.slice Aak (ak).length cak, .slice Aaq (aq).length caq] (fun i v hi => ((le14.trans le39).trans le73) _ _ _ (hc8 i v hi)) (off := 1) (by kernel_rfl) (.slice Aaq (aq).length caq) (by kernel_rfl)) ?_
        refine wpF_seg 2 (by kernel_rfl) ?_
        refine wpF_end _ (by kernel_rfl) (then_n (hK76 _ _ ?_))
        refine wp_if (decide (((i2 : Int)) < ((aq.length : Int)))) (by kernel_rfl) (fun h77 => ?_) (fun h77 => ?_)
        · -- ffLfLt
          have p78 : (((i2 : Int)) < ((aq.length : Int))) := of_decide_eq_true h77
          refine wp_skip (then_n (hK75 _ _ ?_))
          refine wp_seq_k (fun K79 hK79 => ?_)
          refine wp_block ?_
          refine wp_seq_k (fun K80 hK80 => ?_)
          refine wp_base [(2, .pointer (some ⟨b2, 0, none⟩)), (3, .pointer (some ⟨b10, 0, none⟩)), (6, .int .i64 ((i2 : Int))), (41, .int .i64 ((i2 : Int))), (42, .pointer (some ⟨b2, 1, none⟩)), (43, .slice Aaq (aq).length caq), (44, .int .i64 ((aq.length : Int))), (45, .bool (decide (((i2 : Int)) < ((aq.length : Int)))))] (by kernel_rfl) (fun g81 => ?_)
          refine wp_drawN hM72 [] no_held [] [0, 1, 2, 3, 4, 5, 6, 7, 8, 9, 10] [] [.p 0, .p 1, .p 2, .p 3, .p 4, .p 5, .p 6, .p 7, .p 8, .p 9, .p 10, .s] rfl (by kernel_rfl) (by kernel_rfl) ?_
          refine h_seg 1 (by kernel_rfl) ?_
          refine gH (.load 23 (.tmp 48)) (some 49) (by kernel_rfl) (Y_loadB #[.slice Aak (ak).length cak, .slice Aaq (aq).length caq] (fun i v hi => ((le14.trans le39).trans le73) _ _ _ (hc8 i v hi)) (off := 1) (by kernel_rfl) (.slice Aaq (aq).length caq) (by kernel_rfl)) ?_
          refine h_seg 1 (by kernel_rfl) ?_
          refine gH_index (A := Aaq) (c := caq) (haq.up hM72.le) .i64 ((i2 : Int)) (h := (by kernel_rfl : opAt _ _ _ _ _ = some (.indexAddr 23 (.tmp 49) (.tmp 50), some 51))) (e := 40) (by kernel_rfl) (by kernel_rfl) (by kernel_rfl) (i2) rfl (by omega) (fun b82 o83 at_b82 => ?_)
          have c84 : Vl68 b82 o83 = some (bs (aq.getD (i2) ([], [])).1) := (At.str (At.pr at_b82).1).1
          have l85 : (aq.getD (i2) ([], [])).1.length ≤ 140737488355328 := (At.str (At.pr at_b82).1).2
          have c86 : Vl68 b82 (o83 + 1) = some (bs (aq.getD (i2) ([], [])).2) := (At.str (At.pr at_b82).2).1
          have l87 : (aq.getD (i2) ([], [])).2.length ≤ 140737488355328 := (At.str (At.pr at_b82).2).2
          refine gH (.load 40 (.tmp 51)) (some 52) (by kernel_rfl) (Y_loadS (b := b82) (off := o83) [bs ((aq.getD (i2) ([], [])).1), bs ((aq.getD (i2) ([], [])).2)] (cells2 c84 c86) (by kernel_rfl) (by kernel_rfl) (by kernel_rfl)) ?_
          refine h_seg 1 (by kernel_rfl) ?_
          refine gH (.load 23 (.tmp 53)) (some 54) (by kernel_rfl) (Y_loadB #[.slice Abk (bk).length cbk, .slice Abq (bq).length cbq] (fun i v hi => (le39.trans le73) _ _ _ (hc16 i v hi)) (off := 1) (by kernel_rfl) (.slice Abq (bq).length cbq) (by kernel_rfl)) ?_
          refine h_seg 1 (by kernel_rfl) ?_
          refine gH_index (A := Abq) (c := cbq) (hbq.up hM72.le) .i64 ((i2 : Int)) (h := (by kernel_rfl : opAt _ _ _ _ _ = some (.indexAddr 23 (.tmp 54) (.tmp 55), some 56))) (e := 40) (by kernel_rfl) (by kernel_rfl) (by kernel_rfl) (i2) rfl (by omega) (fun b88 o89 at_b88 => ?_)
          have c90 : Vl68 b88 o89 = some (bs (bq.getD (i2) ([], [])).1) := (At.str (At.pr at_b88).1).1
          have l91 : (bq.getD (i2) ([], [])).1.length ≤ 140737488355328 := (At.str (At.pr at_b88).1).2
          have c92 : Vl68 b88 (o89 + 1) = some (bs (bq.getD (i2) ([], [])).2) := (At.str (At.pr at_b88).2).1
          have l93 : (bq.getD (i2) ([], [])).2.length ≤ 140737488355328 := (At.str (At.pr at_b88).2).2
          refine gH (.load 40 (.tmp 56)) (some 57) (by kernel_rfl) (Y_loadS (b := b88) (off := o89) [bs ((bq.getD (i2) ([], [])).1), bs ((bq.getD (i2) ([], [])).2)] (cells2 c90 c92) (by kernel_rfl) (by kernel_rfl) (by kernel_rfl)) ?_
          refine gH (.binOp .neq 40 (.tmp 52) (.tmp 57) 40) (some 58) (by kernel_rfl) (Y_neqSpan ((aq.getD (i2) ([], [])).1) ((aq.getD (i2) ([], [])).2) ((bq.getD (i2) ([], [])).1) ((bq.getD (i2) ([], [])).2) (by kernel_rfl) (by kernel_rfl) (by kernel_rfl)) ?_
          refine h_s no_fs ?_
          refine h_n (fun w94 hM95 => ?_)
          refine  (then_n (hK80 _ _ ?_))
          refine wp_if (!(sameP ((aq.getD (i2) ([], [])).1) ((aq.getD (i2) ([], [])).2) ((bq.getD (i2) ([], [])).1) ((bq.getD (i2) ([], [])).2))) (by kernel_rfl) (fun h96 => ?_) (fun h96 => ?_)
          · -- ffLfLtt
            have h97 : (sameP ((aq.getD (i2) ([], [])).1) ((aq.getD (i2) ([], [])).2) ((bq.getD (i2) ([], [])).1) ((bq.getD (i2) ([], [])).2)) = false := by simpa using h96
            refine wp_seq_k (fun K98 hK98 => ?_)
            refine wp_reg ?_
            refine wpF_seg 1 (by kernel_rfl) ?_
            refine wpF_end _ (by kernel_rfl) (then_n (hK98 _ _ ?_))
            refine wp_ret (blk_r (then_r (then_r (blk_r (then_r (?_))))))
            refine retN [.bool (false)] (.bool (false)) Try.results24 (.tmp (by kernel_rfl) (by kernel_rfl) .nil) (by kernel_rfl) (hRet _ _ ⟨_, _, rfl, hM95.clear, ?_⟩)
            -- end ffLfLtt
            first | exact congrArg Value.bool (decide_eq_true ⟨ext_getD (d := []) (by omega) (by assumption), ext_getD (d := ([], [])) (by omega) (by assumption)⟩).symm | exact congrArg Value.bool (decide_eq_false (by rintro ⟨rfl, rfl⟩; first | omega | exact absurd rfl (by assumption) | exact absurd rfl (sameP_ne (by assumption)) | contradiction)).symm
          · -- ffLfLtf
            have h99 : (sameP ((aq.getD (i2) ([], [])).1) ((aq.getD (i2) ([], [])).2) ((bq.getD (i2) ([], [])).1) ((bq.getD (i2) ([], [])).2)) = true := by simpa using h96
            refine wp_skip (blk_n (then_n (hK79 _ _ ?_)))
            refine wp_reg ?_
            refine wpF_seg 1 (by kernel_rfl) ?_
            refine gF hM95 (.binOp .add 3 (.tmp 46) (.const (.int .i64 1)) 3) (some 47) (by kernel_rfl) (Y_add .i64 ((i2 : Int)) (1) ((i2 : Int) + 1) (by kernel_rfl) (by kernel_rfl) (wrap64_ok _ (by omega))) ?_
            refine wpF_seg 1 (by kernel_rfl) ?_
            refine wpF_base [(2, .pointer (some ⟨b2, 0, none⟩)), (3, .pointer (some ⟨b10, 0, none⟩)), (6, .int .i64 ((i2 + 1 : Int)))] (by kernel_rfl) (fun g100 => ?_)
            refine wpF_end _ (by kernel_rfl) (then_n (hK74 _ _ (i2 + 1) (by omega) ?_))
            refine ⟨g100, Vl68, rfl, hM95, le73, ?_, ?_⟩
            · -- ffLfLtf inv 0
              omega
            · -- ffLfLtf inv 1
              exact eq_step (by assumption) (by first | assumption | exact sameP_eq (by assumption))
        · -- ffLfLf
          have p101 : ¬ (((i2 : Int)) < ((aq.length : Int))) := of_decide_eq_false h77
          refine wp_exit (then_x (then_x (blk_hit (then_n (hK66 _ _ ?_)))))
          obtain rfl : i2 = aq.length := by omega
          refine wp_seq_k (fun K102 hK102 => ?_)
          refine wp_reg ?_
          refine wpF_seg 1 (by kernel_rfl) ?_
          refine wpF_end _ (by kernel_rfl) (then_n (hK102 _ _ ?_))
          refine wp_ret ?_
          refine retN [.bool (true)] (.bool (true)) Try.results24 (.tmp (by kernel_rfl) (by kernel_rfl) .nil) (by kernel_rfl) (hRet _ _ ⟨_, _, rfl, hM72.clear, ?_⟩)
          -- end ffLfLf
          first | exact congrArg Value.bool (decide_eq_true ⟨ext_getD (d := []) (by omega) (by assumption), ext_getD (d := ([], [])) (by omega) (by assumption)⟩).symm | exact congrArg Value.bool (decide_eq_false (by rintro ⟨rfl, rfl⟩; first | omega | exact absurd rfl (by assumption) | exact absurd rfl (sameP_ne (by assumption)) | contradiction)).symm

end Go.Vk
