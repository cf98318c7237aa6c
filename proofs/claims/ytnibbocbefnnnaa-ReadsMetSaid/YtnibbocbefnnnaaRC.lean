import Derived.Test.YtnibbocbefnnnaaRA
set_option linter.unusedVariables false
set_option linter.unusedSimpArgs false
namespace Go.Vk
open Go.Proofs
set_option maxHeartbeats 4000000 in
set_option maxRecDepth 100000 in
theorem f22 (V : VT) (w : World) (hV : V.inW w) (Ark : Option Addr) (crk : Nat) (rk : List Str) (hrk : Rd strK V Ark crk rk) (Arq : Option Addr) (crq : Nat) (rq : List ((Str × Str))) (hrq : Rd (prK strK strK) V Arq crq rq) :
    Calls Try.prog 22 #[.agg #[.slice Ark (rk).length crk, .slice Arq (rq).length crq]] w (RetP V w fun rv V' => rv = .int .i64 (chkM rk rq)) := by
  have mxrk : rk.length ≤ 140737488355328 := hrk.max
  have mxrq : rq.length ≤ 140737488355328 := hrq.max
  refine calls_env (n := 71) Try.func22 (c := _) rfl Try.ntmps22 (by kernel_rfl) (fun R hRet => ?_)
  have hM0 : Step V w [] V w [] := Step.refl (St.nilE hV)
  refine wp_seq_k (fun K1 hK1 => ?_)
  refine wp_reg ?_
  refine wpF_box hM0 #[.slice Ark (rk).length crk, .slice Arq (rq).length crq] (h := (by kernel_rfl : opAt _ _ _ _ _ = some (.box 25 (.tmp 0), some 1))) (by kernel_rfl) (fun b2 w3 hM4 => ?_)
  obtain ⟨V5, le6, hM7, hc8⟩ := hM4.settle 0 rfl
  have hM9 : Step V w [] V5 _ ([]) := hM7
  refine wpF_seg 1 (by kernel_rfl) ?_
  refine wpF_end _ (by kernel_rfl) (then_n (hK1 _ _ ?_))
  refine wp_seq_k (fun K10 hK10 => ?_)
  refine wp_seq_k (fun K11 hK11 => ?_)
  refine wp_reg ?_
  refine wpF_seg 1 (by kernel_rfl) ?_
  refine gF hM9 (.load 22 (.tmp 7)) (some 8) (by kernel_rfl) (Y_loadB #[.slice Ark (rk).length crk, .slice Arq (rq).length crq] hc8 (off := 0) (by kernel_rfl) (.slice Ark (rk).length crk) (by kernel_rfl)) ?_
  refine wpF_seg 3 (by kernel_rfl) ?_
  refine wpF_caseB 11 (decide ((64) < ((rk.length : Int)))) (by kernel_rfl) (by kernel_rfl) (fun h12 => ?_) (fun h12 => ?_)
  · -- t
    have p13 : ((64) < ((rk.length : Int))) := of_decide_eq_true h12
    refine wpF_seg 5 (by kernel_rfl) ?_
    refine wpF_end _ (by kernel_rfl) (then_n (hK11 _ _ ?_))
    refine wp_ct (by kernel_rfl) ?_
    refine wp_seq_k (fun K14 hK14 => ?_)
    refine wp_reg ?_
    refine wpF_seg 1 (by kernel_rfl) ?_
    refine wpF_end _ (by kernel_rfl) (then_n (hK14 _ _ ?_))
    refine wp_ret (then_r (?_))
    refine retN [.int .i64 (4)] (.int .i64 (4)) Try.results22 (.tmp (by kernel_rfl) (by kernel_rfl) .nil) (by kernel_rfl) (hRet _ _ ⟨_, _, rfl, hM9.clear, ?_⟩)
    -- end t
    (first | have hr := right_long (ks := rk) (sp := rq) (.inl (by omega)) | have hr := right_long (ks := rk) (sp := rq) (.inr (by omega)) | have hr := right_S (ks := rk) (sp := rq) (k := k) (by omega) (upS_no (by first | exact .inl (by assumption) | exact .inr ⟨by omega, by assumption⟩ | exact .inr ⟨by omega, apB_no (by first | exact .inl (by assumption) | exact .inr (by assumption))⟩)) | have hr := right_K (ks := rk) (sp := rq) (k := q) (by omega) (upK_no (by first | exact .inl (by assumption) | exact .inr ⟨by omega, by assumption⟩)) | have hr := right_yes (ks := rk) (sp := rq) (by assumption) (by assumption) (by assumption) (by assumption)) <;> simp only [chkM, hr, cond_true, cond_false]
  · -- f
    have p15 : ¬ ((64) < ((rk.length : Int))) := of_decide_eq_false h12
    refine wpF_seg 1 (by kernel_rfl) ?_
    refine gF hM9 (.load 23 (.tmp 12)) (some 13) (by kernel_rfl) (Y_loadB #[.slice Ark (rk).length crk, .slice Arq (rq).length crq] hc8 (off := 1) (by kernel_rfl) (.slice Arq (rq).length crq) (by kernel_rfl)) ?_
    refine wpF_seg 3 (by kernel_rfl) ?_
    refine wpF_end _ (by kernel_rfl) (then_n (hK11 _ _ ?_))
    refine wp_if (decide ((64) < ((rq.length : Int)))) (by kernel_rfl) (fun h16 => ?_) (fun h16 => ?_)
    · -- ft
      have p17 : ((64) < ((rq.length : Int))) := of_decide_eq_true h16
      refine wp_seq_k (fun K18 hK18 => ?_)
      refine wp_reg ?_
      refine wpF_seg 1 (by kernel_rfl) ?_
      refine wpF_end _ (by kernel_rfl) (then_n (hK18 _ _ ?_))
      refine wp_ret (then_r (?_))
      refine retN [.int .i64 (4)] (.int .i64 (4)) Try.results22 (.tmp (by kernel_rfl) (by kernel_rfl) .nil) (by kernel_rfl) (hRet _ _ ⟨_, _, rfl, hM9.clear, ?_⟩)
      -- end ft
      (first | have hr := right_long (ks := rk) (sp := rq) (.inl (by omega)) | have hr := right_long (ks := rk) (sp := rq) (.inr (by omega)) | have hr := right_S (ks := rk) (sp := rq) (k := k) (by omega) (upS_no (by first | exact .inl (by assumption) | exact .inr ⟨by omega, by assumption⟩ | exact .inr ⟨by omega, apB_no (by first | exact .inl (by assumption) | exact .inr (by assumption))⟩)) | have hr := right_K (ks := rk) (sp := rq) (k := q) (by omega) (upK_no (by first | exact .inl (by assumption) | exact .inr ⟨by omega, by assumption⟩)) | have hr := right_yes (ks := rk) (sp := rq) (by assumption) (by assumption) (by assumption) (by assumption)) <;> simp only [chkM, hr, cond_true, cond_false]
    · -- ff
      have p19 : ¬ ((64) < ((rq.length : Int))) := of_decide_eq_false h16
      refine wp_skip (then_n (hK10 _ _ ?_))
      refine wp_seq_k (fun K20 hK20 => ?_)
      refine wp_seq_k (fun K21 hK21 => ?_)
      refine wp_reg ?_
      refine wpF_seg 1 (by kernel_rfl) ?_
      refine gF hM9 (.load 23 (.tmp 17)) (some 18) (by kernel_rfl) (Y_loadB #[.slice Ark (rk).length crk, .slice Arq (rq).length crq] hc8 (off := 1) (by kernel_rfl) (.slice Arq (rq).length crq) (by kernel_rfl)) ?_
      refine wpF_seg 2 (by kernel_rfl) ?_
      refine wpF_end _ (by kernel_rfl) (then_n (hK21 _ _ ?_))
      refine wp_block ?_
      refine wp_base [(1, .pointer (some ⟨b2, 0, none⟩)), (18, .slice Arq (rq).length crq), (19, .int .i64 ((rq.length : Int))), (20, .int .i64 ((0 : Int)))] (by kernel_rfl) (fun g23 => ?_)
      refine wp_loopX (fun (x_ : Nat) a_ w_ => ∃ (g : Nat → Value) (V_ : VT), a_ = env [] 71 [(1, .pointer (some ⟨b2, 0, none⟩)), (18, .slice Arq (rq).length crq), (19, .int .i64 ((rq.length : Int))), (20, .int .i64 ((x_ : Int)))] g ∧ Step V w [] V_ w_ [] ∧ VT.le V5 V_ ∧ (x_ ≤ rq.length) ∧ (upS rq (x_) = true)) (fun (x_ : Nat) => rq.length - x_) (0) ⟨g23, V5, rfl, hM9, VT.le.refl _, by omega, by rfl⟩ ?_
      rintro k a_ w25 ⟨g24, Vl22, rfl, hM26, le27, hi28_0, hi28_1⟩ K28 hK28
      refine wp_seq_k (fun K29 hK29 => ?_)
      refine wp_reg ?_
      refine wpF_seg 1 (by kernel_rfl) ?_
      refine wpF_end _ (by kernel_rfl) (then_n (hK29 _ _ ?_))
      refine wp_seq_k (fun K30 hK30 => ?_)
      refine wp_if (decide (((k : Int)) < ((rq.length : Int)))) (by kernel_rfl) (fun h31 => ?_) (fun h31 => ?_)
      · -- ffLt
        have p32 : (((k : Int)) < ((rq.length : Int))) := of_decide_eq_true h31
        refine wp_skip (then_n (hK30 _ _ ?_))
        refine wp_seq_k (fun K33 hK33 => ?_)
        refine wp_block ?_
        refine wp_seq_k (fun K34 hK34 => ?_)
        refine wp_reg ?_
        refine wpF_seg 1 (by kernel_rfl) ?_
        refine gF_index (A := Arq) (c := crq) (hrq.up hM26.le) .i64 ((k : Int)) (h := (by kernel_rfl : opAt _ _ _ _ _ = some (.indexAddr 23 (.tmp 18) (.tmp 20), some 23))) (e := 40) (by kernel_rfl) (by kernel_rfl) (by kernel_rfl) (k) rfl (by omega) (fun b35 o36 at_b35 => ?_)
        have c37 : Vl22 b35 o36 = some (bs (rq.getD (k) ([], [])).1) := (At.str (At.pr at_b35).1).1
        have l38 : (rq.getD (k) ([], [])).1.length ≤ 140737488355328 := (At.str (At.pr at_b35).1).2
        have c39 : Vl22 b35 (o36 + 1) = some (bs (rq.getD (k) ([], [])).2) := (At.str (At.pr at_b35).2).1
        have l40 : (rq.getD (k) ([], [])).2.length ≤ 140737488355328 := (At.str (At.pr at_b35).2).2
        refine gF hM26 (.load 40 (.tmp 23)) (some 24) (by kernel_rfl) (Y_loadS (b := b35) (off := o36) [bs ((rq.getD (k) ([], [])).1), bs ((rq.getD (k) ([], [])).2)] (cells2 c37 c39) (by kernel_rfl) (by kernel_rfl) (by kernel_rfl)) ?_
        refine wpF_alloc hM26 #[bs ([]), bs ([])] (h := (by kernel_rfl : opAt _ _ _ _ _ = some (.alloc 40, some 4))) (by kernel_rfl) (fun b41 w42 hM43 => ?_)
        refine wpF_seg 1 (by kernel_rfl) ?_
        refine wpF_store hM43 0 rfl (h := (by kernel_rfl : opAt _ _ _ _ _ = some (.store 40 (.tmp 4) (.tmp 24), none))) (off := 0) (by kernel_rfl) #[bs ((rq.getD (k) ([], [])).1), bs ((rq.getD (k) ([], [])).2)] (by kernel_rfl) (by kernel_rfl) (by kernel_rfl) (by kernel_rfl) (fun w45 hM44 => ?_)
        have hM46 : Step V w [] Vl22 _ ([.blk b41 (.cells #[bs ((rq.getD (k) ([], [])).1), bs ((rq.getD (k) ([], [])).2)] 40)]) := hM44
        refine wpF_end _ (by kernel_rfl) (then_n (hK34 _ _ ?_))
        refine wp_seq_k (fun K47 hK47 => ?_)
        refine wp_base [(1, .pointer (some ⟨b2, 0, none⟩)), (3, .int .i64 ((k : Int))), (4, .pointer (some ⟨b41, 0, none⟩)), (18, .slice Arq (rq).length crq), (19, .int .i64 ((rq.length : Int))), (20, .int .i64 ((k : Int))), (21, .bool (decide (((k : Int)) < ((rq.length : Int))))), (22, .int .i64 ((k : Int))), (23, .pointer (some ⟨b35, o36, none⟩)), (24, .agg #[bs ((rq.getD (k) ([], [])).1), bs ((rq.getD (k) ([], [])).2)])] (by kernel_rfl) (fun g48 => ?_)
        refine wp_drawN hM46 [(.blk b41 (.cells #[bs ((rq.getD (k) ([], [])).1), bs ((rq.getD (k) ([], [])).2)] 40), 9999)] (and_held 0 rfl no_held) [] [0] [.a 1, .p 2, .p 3, .p 4, .p 5, .p 6, .p 7, .p 8, .p 9, .p 10, .p 11, .p 12, .p 13, .a 14, .p 15, .p 16, .p 17] [.p 0, .s, .a 1, .p 2, .p 3, .p 4, .p 5, .p 6, .p 7, .p 8, .p 9, .p 10, .p 11, .p 12, .p 13, .a 14, .p 15, .p 16, .p 17] rfl (by kernel_rfl) (by kernel_rfl) ?_
        refine gH (.load 40 (.tmp 4)) (some 25) (by kernel_rfl) (Y_load 0 (by kernel_rfl : (FOf _ _ _)[0]? = some (.blk b41 (.cells #[bs ((rq.getD (k) ([], [])).1), bs ((rq.getD (k) ([], [])).2)] 40))) (off := 0) (by kernel_rfl) (.agg #[bs ((rq.getD (k) ([], [])).1), bs ((rq.getD (k) ([], [])).2)]) (by kernel_rfl)) ?_
        refine h_s no_fs ?_
        refine h_a (by kernel_rfl) (by kernel_rfl) (fun w49 X50 hM51 => ?_)
        refine wpF_callP hM51 (f := 62) (caps := #[]) (h := (by kernel_rfl : opAt _ _ _ _ _ = some (.call (.mk (.value (.func 62)) #[(.tmp 25)] #[40]), some 26))) (by kernel_rfl) (by kernel_rfl) (by kernel_rfl) (f62 _ _ hM51.inW ((rq.getD (k) ([], [])).1) (l38) ((rq.getD (k) ([], [])).2) (l40)) (fun v52 V53 w54 le55 hM56 hp57 => ?_)
        obtain rfl := hp57
        refine wpF_end _ (by kernel_rfl) (then_n (h_d [(.blk b41 (.cells #[bs ((rq.getD (k) ([], [])).1), bs ((rq.getD (k) ([], [])).2)] 40), 9999)] (by kernel_rfl) [.blk b41 (.cells #[bs ((rq.getD (k) ([], [])).1), bs ((rq.getD (k) ([], [])).2)] 40)] hM56 (and_held 0 rfl no_held) le55 ?_))
        refine h_seg 2 (by kernel_rfl) ?_
        refine h_caseB 28 (!(hasB ((rq.getD (k) ([], [])).1) ((rq.getD (k) ([], [])).2))) (by kernel_rfl) (by kernel_rfl) (fun h58 => ?_) (fun h58 => ?_)
        · -- ffLtt
          have h59 : (hasB ((rq.getD (k) ([], [])).1) ((rq.getD (k) ([], [])).2)) = false := by simpa using h58
          refine h_seg 10 (by kernel_rfl) ?_
          refine h_a (by kernel_rfl) (by kernel_rfl) (fun w60 X61 hM62 => ?_)
          refine wpF_seg 1 (by kernel_rfl) ?_
          refine wpF_end _ (by kernel_rfl) (then_n (h_d [(.blk b41 (.cells #[bs ((rq.getD (k) ([], [])).1), bs ((rq.getD (k) ([], [])).2)] 40), 9999)] (by kernel_rfl) [.blk b41 (.cells #[bs ((rq.getD (k) ([], [])).1), bs ((rq.getD (k) ([], [])).2)] 40)] hM62 (and_held 0 rfl no_held) (VT.le.refl _) ?_))
          refine h_seg 3 (by kernel_rfl) ?_
          refine h_n (fun w63 hM64 => ?_)
          refine  (then_n (hK47 _ _ ?_))
          refine wp_ct (by kernel_rfl) ?_
          refine wp_seq_k (fun K65 hK65 => ?_)
          refine wp_reg ?_
          refine wpF_seg 1 (by kernel_rfl) ?_
          refine wpF_end _ (by kernel_rfl) (then_n (hK65 _ _ ?_))
          refine wp_ret (blk_r (then_r (then_r (blk_r (then_r (?_))))))
          refine retN [.int .i64 (4)] (.int .i64 (4)) Try.results22 (.tmp (by kernel_rfl) (by kernel_rfl) .nil) (by kernel_rfl) (hRet _ _ ⟨_, _, rfl, hM64.clear, ?_⟩)
          -- end ffLtt
          (first | have hr := right_long (ks := rk) (sp := rq) (.inl (by omega)) | have hr := right_long (ks := rk) (sp := rq) (.inr (by omega)) | have hr := right_S (ks := rk) (sp := rq) (k := k) (by omega) (upS_no (by first | exact .inl (by assumption) | exact .inr ⟨by omega, by assumption⟩ | exact .inr ⟨by omega, apB_no (by first | exact .inl (by assumption) | exact .inr (by assumption))⟩)) | have hr := right_K (ks := rk) (sp := rq) (k := q) (by omega) (upK_no (by first | exact .inl (by assumption) | exact .inr ⟨by omega, by assumption⟩)) | have hr := right_yes (ks := rk) (sp := rq) (by assumption) (by assumption) (by assumption) (by assumption)) <;> simp only [chkM, hr, cond_true, cond_false]
        · -- ffLtf
          have h66 : (hasB ((rq.getD (k) ([], [])).1) ((rq.getD (k) ([], [])).2)) = true := by simpa using h58
          refine h_seg 3 (by kernel_rfl) ?_
          refine h_caseB 31 (decide ((0) < ((k : Int)))) (by kernel_rfl) (by kernel_rfl) (fun h67 => ?_) (fun h67 => ?_)
          · -- ffLtft
            have p68 : ((0) < ((k : Int))) := of_decide_eq_true h67
            refine h_seg 1 (by kernel_rfl) ?_
            refine gH (.load 23 (.tmp 32)) (some 33) (by kernel_rfl) (Y_loadB #[.slice Ark (rk).length crk, .slice Arq (rq).length crq] (fun i v hi => (le27.trans le55) _ _ _ (hc8 i v hi)) (off := 1) (by kernel_rfl) (.slice Arq (rq).length crq) (by kernel_rfl)) ?_
            refine h_seg 1 (by kernel_rfl) ?_
            refine gH (.binOp .sub 3 (.tmp 34) (.const (.int .i64 1)) 3) (some 35) (by kernel_rfl) (Y_sub .i64 ((k : Int)) (1) ((k : Int) - 1) (by kernel_rfl) (by kernel_rfl) (wrap64_ok _ (by omega))) ?_
            refine gH_index (A := Arq) (c := crq) (hrq.up hM56.le) .i64 ((k : Int) - 1) (h := (by kernel_rfl : opAt _ _ _ _ _ = some (.indexAddr 23 (.tmp 33) (.tmp 35), some 36))) (e := 40) (by kernel_rfl) (by kernel_rfl) (by kernel_rfl) (k - 1) (by omega) (by omega) (fun b69 o70 at_b69 => ?_)
            have c71 : V53 b69 o70 = some (bs (rq.getD (k - 1) ([], [])).1) := (At.str (At.pr at_b69).1).1
            have l72 : (rq.getD (k - 1) ([], [])).1.length ≤ 140737488355328 := (At.str (At.pr at_b69).1).2
            have c73 : V53 b69 (o70 + 1) = some (bs (rq.getD (k - 1) ([], [])).2) := (At.str (At.pr at_b69).2).1
            have l74 : (rq.getD (k - 1) ([], [])).2.length ≤ 140737488355328 := (At.str (At.pr at_b69).2).2
            refine gH (.load 40 (.tmp 36)) (some 37) (by kernel_rfl) (Y_loadS (b := b69) (off := o70) [bs ((rq.getD (k - 1) ([], [])).1), bs ((rq.getD (k - 1) ([], [])).2)] (cells2 c71 c73) (by kernel_rfl) (by kernel_rfl) (by kernel_rfl)) ?_
            refine gH (.load 40 (.tmp 4)) (some 38) (by kernel_rfl) (Y_load 0 (by kernel_rfl : (FOf _ _ _)[0]? = some (.blk b41 (.cells #[bs ((rq.getD (k) ([], [])).1), bs ((rq.getD (k) ([], [])).2)] 40))) (off := 0) (by kernel_rfl) (.agg #[bs ((rq.getD (k) ([], [])).1), bs ((rq.getD (k) ([], [])).2)]) (by kernel_rfl)) ?_
            refine h_a (by kernel_rfl) (by kernel_rfl) (fun w75 X76 hM77 => ?_)
            refine wpF_callP hM77 (f := 63) (caps := #[]) (h := (by kernel_rfl : opAt _ _ _ _ _ = some (.call (.mk (.value (.func 63)) #[(.tmp 37), (.tmp 38)] #[40, 40]), some 39))) (by kernel_rfl) (by kernel_rfl) (by kernel_rfl) (f63 _ _ hM77.inW ((rq.getD (k - 1) ([], [])).1) (l72) ((rq.getD (k - 1) ([], [])).2) (l74) ((rq.getD (k) ([], [])).1) (l38) ((rq.getD (k) ([], [])).2) (l40)) (fun v78 V79 w80 le81 hM82 hp83 => ?_)
            obtain rfl := hp83
            refine wpF_end _ (by kernel_rfl) (then_n (h_d [(.blk b41 (.cells #[bs ((rq.getD (k) ([], [])).1), bs ((rq.getD (k) ([], [])).2)] 40), 9999)] (by kernel_rfl) [.blk b41 (.cells #[bs ((rq.getD (k) ([], [])).1), bs ((rq.getD (k) ([], [])).2)] 40)] hM82 (and_held 0 rfl no_held) le81 ?_))
            refine h_seg 3 (by kernel_rfl) ?_
            refine h_n (fun w84 hM85 => ?_)
            refine  (then_n (hK47 _ _ ?_))
            refine wp_if (!(apB ((rq.getD (k - 1) ([], [])).2) ((rq.getD (k) ([], [])).1))) (by kernel_rfl) (fun h86 => ?_) (fun h86 => ?_)
            · -- ffLtftt
              have h87 : (apB ((rq.getD (k - 1) ([], [])).2) ((rq.getD (k) ([], [])).1)) = false := by simpa using h86
              refine wp_seq_k (fun K88 hK88 => ?_)
              refine wp_reg ?_
              refine wpF_seg 1 (by kernel_rfl) ?_
              refine wpF_end _ (by kernel_rfl) (then_n (hK88 _ _ ?_))
              refine wp_ret (blk_r (then_r (then_r (blk_r (then_r (?_))))))
              refine retN [.int .i64 (4)] (.int .i64 (4)) Try.results22 (.tmp (by kernel_rfl) (by kernel_rfl) .nil) (by kernel_rfl) (hRet _ _ ⟨_, _, rfl, hM85.clear, ?_⟩)
              -- end ffLtftt
              (first | have hr := right_long (ks := rk) (sp := rq) (.inl (by omega)) | have hr := right_long (ks := rk) (sp := rq) (.inr (by omega)) | have hr := right_S (ks := rk) (sp := rq) (k := k) (by omega) (upS_no (by first | exact .inl (by assumption) | exact .inr ⟨by omega, by assumption⟩ | exact .inr ⟨by omega, apB_no (by first | exact .inl (by assumption) | exact .inr (by assumption))⟩)) | have hr := right_K (ks := rk) (sp := rq) (k := q) (by omega) (upK_no (by first | exact .inl (by assumption) | exact .inr ⟨by omega, by assumption⟩)) | have hr := right_yes (ks := rk) (sp := rq) (by assumption) (by assumption) (by assumption) (by assumption)) <;> simp only [chkM, hr, cond_true, cond_false]
            · -- ffLtftf
              have h89 : (apB ((rq.getD (k - 1) ([], [])).2) ((rq.getD (k) ([], [])).1)) = true := by simpa using h86
              refine wp_skip (blk_n (then_n (hK33 _ _ ?_)))
              refine wp_reg ?_
              refine gF hM85 (.binOp .add 3 (.tmp 20) (.const (.int .i64 1)) 3) (some 43) (by kernel_rfl) (Y_add .i64 ((k : Int)) (1) ((k : Int) + 1) (by kernel_rfl) (by kernel_rfl) (wrap64_ok _ (by omega))) ?_
              refine wpF_seg 1 (by kernel_rfl) ?_
              refine wpF_base [(1, .pointer (some ⟨b2, 0, none⟩)), (18, .slice Arq (rq).length crq), (19, .int .i64 ((rq.length : Int))), (20, .int .i64 ((k + 1 : Int)))] (by kernel_rfl) (fun g90 => ?_)
              have hM91 := (hM85.front 0 rfl).drop
              refine wpF_end _ (by kernel_rfl) (then_n (hK28 _ _ (k + 1) (by omega) ?_))
              refine ⟨g90, V79, rfl, hM91, ((le27.trans le55).trans le81), ?_, ?_⟩
              · -- ffLtftf inv 0
                omega
              · -- ffLtftf inv 1
                exact upS_step (by assumption) (by assumption) (by first | exact .inl (by omega) | exact .inr (by assumption) | exact .inr (apB_yes (by assumption) (by assumption)))
          · -- ffLtff
            have p92 : ¬ ((0) < ((k : Int))) := of_decide_eq_false h67
            refine h_seg 7 (by kernel_rfl) ?_
            refine h_a (by kernel_rfl) (by kernel_rfl) (fun w93 X94 hM95 => ?_)
            refine wpF_seg 1 (by kernel_rfl) ?_
            refine wpF_end _ (by kernel_rfl) (then_n (h_d [(.blk b41 (.cells #[bs ((rq.getD (k) ([], [])).1), bs ((rq.getD (k) ([], [])).2)] 40), 9999)] (by kernel_rfl) [.blk b41 (.cells #[bs ((rq.getD (k) ([], [])).1), bs ((rq.getD (k) ([], [])).2)] 40)] hM95 (and_held 0 rfl no_held) (VT.le.refl _) ?_))
            refine h_seg 3 (by kernel_rfl) ?_
            refine h_n (fun w96 hM97 => ?_)
            refine  (then_n (hK47 _ _ ?_))
            refine wp_cf (by kernel_rfl) ?_
            refine wp_skip (blk_n (then_n (hK33 _ _ ?_)))
            refine wp_reg ?_
            refine gF hM97 (.binOp .add 3 (.tmp 20) (.const (.int .i64 1)) 3) (some 43) (by kernel_rfl) (Y_add .i64 ((k : Int)) (1) ((k : Int) + 1) (by kernel_rfl) (by kernel_rfl) (wrap64_ok _ (by omega))) ?_
            refine wpF_seg 1 (by kernel_rfl) ?_
            refine wpF_base [(1, .pointer (some ⟨b2, 0, none⟩)), (18, .slice Arq (rq).length crq), (19, .int .i64 ((rq.length : Int))), (20, .int .i64 ((k + 1 : Int)))] (by kernel_rfl) (fun g98 => ?_)
            have hM99 := (hM97.front 0 rfl).drop
            refine wpF_end _ (by kernel_rfl) (then_n (hK28 _ _ (k + 1) (by omega) ?_))
            refine ⟨g98, V53, rfl, hM99, (le27.trans le55), ?_, ?_⟩
            · -- ffLtff inv 0
              omega
            · -- ffLtff inv 1
              exact upS_step (by assumption) (by assumption) (by first | exact .inl (by omega) | exact .inr (by assumption) | exact .inr (apB_yes (by assumption) (by assumption)))
      · -- ffLf
        have p100 : ¬ (((k : Int)) < ((rq.length : Int))) := of_decide_eq_false h31
        refine wp_exit (then_x (then_x (blk_hit (then_n (hK20 _ _ ?_)))))
        obtain rfl : k = rq.length := by omega
        refine wp_seq_k (fun K101 hK101 => ?_)
        refine wp_seq_k (fun K102 hK102 => ?_)
        refine wp_reg ?_
        refine wpF_seg 1 (by kernel_rfl) ?_
        refine gF hM26 (.load 22 (.tmp 44)) (some 45) (by kernel_rfl) (Y_loadB #[.slice Ark (rk).length crk, .slice Arq (rq).length crq] (fun i v hi => le27 _ _ _ (hc8 i v hi)) (off := 0) (by kernel_rfl) (.slice Ark (rk).length crk) (by kernel_rfl)) ?_
        refine wpF_seg 2 (by kernel_rfl) ?_
        refine wpF_end _ (by kernel_rfl) (then_n (hK102 _ _ ?_))
        refine wp_block ?_
        refine wp_base [(1, .pointer (some ⟨b2, 0, none⟩)), (45, .slice Ark (rk).length crk), (46, .int .i64 ((rk.length : Int))), (47, .int .i64 ((0 : Int)))] (by kernel_rfl) (fun g104 => ?_)
        refine wp_loopX (fun (x_ : Nat) a_ w_ => ∃ (g : Nat → Value) (V_ : VT), a_ = env [] 71 [(1, .pointer (some ⟨b2, 0, none⟩)), (45, .slice Ark (rk).length crk), (46, .int .i64 ((rk.length : Int))), (47, .int .i64 ((x_ : Int)))] g ∧ Step V w [] V_ w_ [] ∧ VT.le Vl22 V_ ∧ (x_ ≤ rk.length) ∧ (upK rk rq (x_) = true)) (fun (x_ : Nat) => rk.length - x_) (0) ⟨g104, Vl22, rfl, hM26, VT.le.refl _, by omega, by rfl⟩ ?_
        rintro q a_ w106 ⟨g105, Vl103, rfl, hM107, le108, hi109_0, hi109_1⟩ K109 hK109
        refine wp_seq_k (fun K110 hK110 => ?_)
        refine wp_reg ?_
        refine wpF_seg 1 (by kernel_rfl) ?_
        refine wpF_end _ (by kernel_rfl) (then_n (hK110 _ _ ?_))
        refine wp_seq_k (fun K111 hK111 => ?_)
        refine wp_if (decide (((q : Int)) < ((rk.length : Int)))) (by kernel_rfl) (fun h112 => ?_) (fun h112 => ?_)
        · -- ffLfLt
          have p113 : (((q : Int)) < ((rk.length : Int))) := of_decide_eq_true h112
          refine wp_skip (then_n (hK111 _ _ ?_))
          refine wp_seq_k (fun K114 hK114 => ?_)
          refine wp_block ?_
          refine wp_seq_k (fun K115 hK115 => ?_)
          refine wp_reg ?_
          refine wpF_seg 1 (by kernel_rfl) ?_
          refine gF_index (A := Ark) (c := crk) (hrk.up hM107.le) .i64 ((q : Int)) (h := (by kernel_rfl : opAt _ _ _ _ _ = some (.indexAddr 22 (.tmp 45) (.tmp 47), some 50))) (e := 9) (by kernel_rfl) (by kernel_rfl) (by kernel_rfl) (q) rfl (by omega) (fun b116 o117 at_b116 => ?_)
          have c118 : Vl103 b116 o117 = some (bs (rk.getD (q) [])) := (At.str at_b116).1
          have l119 : (rk.getD (q) []).length ≤ 140737488355328 := (At.str at_b116).2
          refine gF hM107 (.load 9 (.tmp 50)) (some 51) (by kernel_rfl) (Y_loadV c118 (by kernel_rfl) (by kernel_rfl)) ?_
          refine wpF_seg 2 (by kernel_rfl) ?_
          refine wpF_end _ (by kernel_rfl) (then_n (hK115 _ _ ?_))
          refine wp_seq_k (fun K120 hK120 => ?_)
          refine wp_reg ?_
          refine wpF_seg 3 (by kernel_rfl) ?_
          refine wpF_caseB 54 (decide ((0) < ((q : Int)))) (by kernel_rfl) (by kernel_rfl) (fun h121 => ?_) (fun h121 => ?_)
          · -- ffLfLtt
            have p122 : ((0) < ((q : Int))) := of_decide_eq_true h121
            refine wpF_seg 1 (by kernel_rfl) ?_
            refine gF hM107 (.load 22 (.tmp 55)) (some 56) (by kernel_rfl) (Y_loadB #[.slice Ark (rk).length crk, .slice Arq (rq).length crq] (fun i v hi => (le27.trans le108) _ _ _ (hc8 i v hi)) (off := 0) (by kernel_rfl) (.slice Ark (rk).length crk) (by kernel_rfl)) ?_
            refine wpF_seg 1 (by kernel_rfl) ?_
            refine gF hM107 (.binOp .sub 3 (.tmp 57) (.const (.int .i64 1)) 3) (some 58) (by kernel_rfl) (Y_sub .i64 ((q : Int)) (1) ((q : Int) - 1) (by kernel_rfl) (by kernel_rfl) (wrap64_ok _ (by omega))) ?_
            refine gF_index (A := Ark) (c := crk) (hrk.up hM107.le) .i64 ((q : Int) - 1) (h := (by kernel_rfl : opAt _ _ _ _ _ = some (.indexAddr 22 (.tmp 56) (.tmp 58), some 59))) (e := 9) (by kernel_rfl) (by kernel_rfl) (by kernel_rfl) (q - 1) (by omega) (by omega) (fun b123 o124 at_b123 => ?_)
            have c125 : Vl103 b123 o124 = some (bs (rk.getD (q - 1) [])) := (At.str at_b123).1
            have l126 : (rk.getD (q - 1) []).length ≤ 140737488355328 := (At.str at_b123).2
            refine gF hM107 (.load 9 (.tmp 59)) (some 60) (by kernel_rfl) (Y_loadV c125 (by kernel_rfl) (by kernel_rfl)) ?_
            refine wpF_seg 4 (by kernel_rfl) ?_
            refine wpF_caseB 64 (!(decide (((rk.getD (q - 1) [])) < ((rk.getD (q) []))))) (by kernel_rfl) (by kernel_rfl) (fun h127 => ?_) (fun h127 => ?_)
            · -- ffLfLttt
              have h128 : decide (((rk.getD (q - 1) [])) < ((rk.getD (q) []))) = false := by rw [← Bool.not_not (decide _), h127]; rfl
              have p129 : ¬ (((rk.getD (q - 1) [])) < ((rk.getD (q) []))) := of_decide_eq_false h128
              refine wpF_seg 5 (by kernel_rfl) ?_
              refine wpF_end _ (by kernel_rfl) (then_n (hK120 _ _ ?_))
              refine wp_ct (by kernel_rfl) ?_
              refine wp_seq_k (fun K130 hK130 => ?_)
              refine wp_reg ?_
              refine wpF_seg 1 (by kernel_rfl) ?_
              refine wpF_end _ (by kernel_rfl) (then_n (hK130 _ _ ?_))
              refine wp_ret (blk_r (then_r (then_r (blk_r (then_r (?_))))))
              refine retN [.int .i64 (4)] (.int .i64 (4)) Try.results22 (.tmp (by kernel_rfl) (by kernel_rfl) .nil) (by kernel_rfl) (hRet _ _ ⟨_, _, rfl, hM107.clear, ?_⟩)
              -- end ffLfLttt
              (first | have hr := right_long (ks := rk) (sp := rq) (.inl (by omega)) | have hr := right_long (ks := rk) (sp := rq) (.inr (by omega)) | have hr := right_S (ks := rk) (sp := rq) (k := k) (by omega) (upS_no (by first | exact .inl (by assumption) | exact .inr ⟨by omega, by assumption⟩ | exact .inr ⟨by omega, apB_no (by first | exact .inl (by assumption) | exact .inr (by assumption))⟩)) | have hr := right_K (ks := rk) (sp := rq) (k := q) (by omega) (upK_no (by first | exact .inl (by assumption) | exact .inr ⟨by omega, by assumption⟩)) | have hr := right_yes (ks := rk) (sp := rq) (by assumption) (by assumption) (by assumption) (by assumption)) <;> simp only [chkM, hr, cond_true, cond_false]
            · -- ffLfLttf
              have h131 : decide (((rk.getD (q - 1) [])) < ((rk.getD (q) []))) = true := by rw [← Bool.not_not (decide _), h127]; rfl
              have p132 : (((rk.getD (q - 1) [])) < ((rk.getD (q) []))) := of_decide_eq_true h131
              refine wpF_seg 1 (by kernel_rfl) ?_
              refine gF hM107 (.load 23 (.tmp 65)) (some 66) (by kernel_rfl) (Y_loadB #[.slice Ark (rk).length crk, .slice Arq (rq).length crq] (fun i v hi => (le27.trans le108) _ _ _ (hc8 i v hi)) (off := 1) (by kernel_rfl) (.slice Arq (rq).length crq) (by kernel_rfl)) ?_
              refine wpF_seg 1 (by kernel_rfl) ?_
              refine wpF_callP hM107 (f := 67) (caps := #[]) (h := (by kernel_rfl : opAt _ _ _ _ _ = some (.call (.mk (.value (.func 67)) #[(.tmp 66), (.tmp 67)] #[23, 9]), some 68))) (by kernel_rfl) (by kernel_rfl) (by kernel_rfl) (f67 _ _ hM107.inW Arq crq (rq) (hrq.up hM107.le) ((rk.getD (q) [])) (l119)) (fun v133 V134 w135 le136 hM137 hp138 => ?_)
              obtain rfl := hp138
              refine wpF_seg 1 (by kernel_rfl) ?_
              refine wpF_end _ (by kernel_rfl) (then_n (hK120 _ _ ?_))
              refine wp_if (spB (rq) ((rk.getD (q) []))) (by kernel_rfl) (fun h139 => ?_) (fun h139 => ?_)
              · -- ffLfLttft
                refine wp_seq_k (fun K140 hK140 => ?_)
                refine wp_reg ?_
                refine wpF_seg 1 (by kernel_rfl) ?_
                refine wpF_end _ (by kernel_rfl) (then_n (hK140 _ _ ?_))
                refine wp_ret (blk_r (then_r (then_r (blk_r (then_r (?_))))))
                refine retN [.int .i64 (4)] (.int .i64 (4)) Try.results22 (.tmp (by kernel_rfl) (by kernel_rfl) .nil) (by kernel_rfl) (hRet _ _ ⟨_, _, rfl, hM137.clear, ?_⟩)
                -- end ffLfLttft
                (first | have hr := right_long (ks := rk) (sp := rq) (.inl (by omega)) | have hr := right_long (ks := rk) (sp := rq) (.inr (by omega)) | have hr := right_S (ks := rk) (sp := rq) (k := k) (by omega) (upS_no (by first | exact .inl (by assumption) | exact .inr ⟨by omega, by assumption⟩ | exact .inr ⟨by omega, apB_no (by first | exact .inl (by assumption) | exact .inr (by assumption))⟩)) | have hr := right_K (ks := rk) (sp := rq) (k := q) (by omega) (upK_no (by first | exact .inl (by assumption) | exact .inr ⟨by omega, by assumption⟩)) | have hr := right_yes (ks := rk) (sp := rq) (by assumption) (by assumption) (by assumption) (by assumption)) <;> simp only [chkM, hr, cond_true, cond_false]
              · -- ffLfLttff
                refine wp_skip (blk_n (then_n (hK114 _ _ ?_)))
                refine wp_reg ?_
                refine gF hM137 (.binOp .add 3 (.tmp 47) (.const (.int .i64 1)) 3) (some 70) (by kernel_rfl) (Y_add .i64 ((q : Int)) (1) ((q : Int) + 1) (by kernel_rfl) (by kernel_rfl) (wrap64_ok _ (by omega))) ?_
                refine wpF_seg 1 (by kernel_rfl) ?_
                refine wpF_base [(1, .pointer (some ⟨b2, 0, none⟩)), (45, .slice Ark (rk).length crk), (46, .int .i64 ((rk.length : Int))), (47, .int .i64 ((q + 1 : Int)))] (by kernel_rfl) (fun g141 => ?_)
                refine wpF_end _ (by kernel_rfl) (then_n (hK109 _ _ (q + 1) (by omega) ?_))
                refine ⟨g141, V134, rfl, hM137, (le108.trans le136), ?_, ?_⟩
                · -- ffLfLttff inv 0
                  omega
                · -- ffLfLttff inv 1
                  exact upK_step (by assumption) (by first | exact .inl (by omega) | exact .inr (by assumption)) (by assumption)
          · -- ffLfLtf
            have p142 : ¬ ((0) < ((q : Int))) := of_decide_eq_false h121
            refine wpF_seg 11 (by kernel_rfl) ?_
            refine gF hM107 (.load 23 (.tmp 65)) (some 66) (by kernel_rfl) (Y_loadB #[.slice Ark (rk).length crk, .slice Arq (rq).length crq] (fun i v hi => (le27.trans le108) _ _ _ (hc8 i v hi)) (off := 1) (by kernel_rfl) (.slice Arq (rq).length crq) (by kernel_rfl)) ?_
            refine wpF_seg 1 (by kernel_rfl) ?_
            refine wpF_callP hM107 (f := 67) (caps := #[]) (h := (by kernel_rfl : opAt _ _ _ _ _ = some (.call (.mk (.value (.func 67)) #[(.tmp 66), (.tmp 67)] #[23, 9]), some 68))) (by kernel_rfl) (by kernel_rfl) (by kernel_rfl) (f67 _ _ hM107.inW Arq crq (rq) (hrq.up hM107.le) ((rk.getD (q) [])) (l119)) (fun v143 V144 w145 le146 hM147 hp148 => ?_)
            obtain rfl := hp148
            refine wpF_seg 1 (by kernel_rfl) ?_
            refine wpF_end _ (by kernel_rfl) (then_n (hK120 _ _ ?_))
            refine wp_if (spB (rq) ((rk.getD (q) []))) (by kernel_rfl) (fun h149 => ?_) (fun h149 => ?_)
            · -- ffLfLtft
              refine wp_seq_k (fun K150 hK150 => ?_)
              refine wp_reg ?_
              refine wpF_seg 1 (by kernel_rfl) ?_
              refine wpF_end _ (by kernel_rfl) (then_n (hK150 _ _ ?_))
              refine wp_ret (blk_r (then_r (then_r (blk_r (then_r (?_))))))
              refine retN [.int .i64 (4)] (.int .i64 (4)) Try.results22 (.tmp (by kernel_rfl) (by kernel_rfl) .nil) (by kernel_rfl) (hRet _ _ ⟨_, _, rfl, hM147.clear, ?_⟩)
              -- end ffLfLtft
              (first | have hr := right_long (ks := rk) (sp := rq) (.inl (by omega)) | have hr := right_long (ks := rk) (sp := rq) (.inr (by omega)) | have hr := right_S (ks := rk) (sp := rq) (k := k) (by omega) (upS_no (by first | exact .inl (by assumption) | exact .inr ⟨by omega, by assumption⟩ | exact .inr ⟨by omega, apB_no (by first | exact .inl (by assumption) | exact .inr (by assumption))⟩)) | have hr := right_K (ks := rk) (sp := rq) (k := q) (by omega) (upK_no (by first | exact .inl (by assumption) | exact .inr ⟨by omega, by assumption⟩)) | have hr := right_yes (ks := rk) (sp := rq) (by assumption) (by assumption) (by assumption) (by assumption)) <;> simp only [chkM, hr, cond_true, cond_false]
            · -- ffLfLtff
              refine wp_skip (blk_n (then_n (hK114 _ _ ?_)))
              refine wp_reg ?_
              refine gF hM147 (.binOp .add 3 (.tmp 47) (.const (.int .i64 1)) 3) (some 70) (by kernel_rfl) (Y_add .i64 ((q : Int)) (1) ((q : Int) + 1) (by kernel_rfl) (by kernel_rfl) (wrap64_ok _ (by omega))) ?_
              refine wpF_seg 1 (by kernel_rfl) ?_
              refine wpF_base [(1, .pointer (some ⟨b2, 0, none⟩)), (45, .slice Ark (rk).length crk), (46, .int .i64 ((rk.length : Int))), (47, .int .i64 ((q + 1 : Int)))] (by kernel_rfl) (fun g151 => ?_)
              refine wpF_end _ (by kernel_rfl) (then_n (hK109 _ _ (q + 1) (by omega) ?_))
              refine ⟨g151, V144, rfl, hM147, (le108.trans le146), ?_, ?_⟩
              · -- ffLfLtff inv 0
                omega
              · -- ffLfLtff inv 1
                exact upK_step (by assumption) (by first | exact .inl (by omega) | exact .inr (by assumption)) (by assumption)
        · -- ffLfLf
          have p152 : ¬ (((q : Int)) < ((rk.length : Int))) := of_decide_eq_false h112
          refine wp_exit (then_x (then_x (blk_hit (then_n (hK101 _ _ ?_)))))
          obtain rfl : q = rk.length := by omega
          refine wp_seq_k (fun K153 hK153 => ?_)
          refine wp_reg ?_
          refine wpF_seg 1 (by kernel_rfl) ?_
          refine wpF_end _ (by kernel_rfl) (then_n (hK153 _ _ ?_))
          refine wp_ret ?_
          refine retN [.int .i64 (0)] (.int .i64 (0)) Try.results22 (.tmp (by kernel_rfl) (by kernel_rfl) .nil) (by kernel_rfl) (hRet _ _ ⟨_, _, rfl, hM107.clear, ?_⟩)
          -- end ffLfLf
          (first | have hr := right_long (ks := rk) (sp := rq) (.inl (by omega)) | have hr := right_long (ks := rk) (sp := rq) (.inr (by omega)) | have hr := right_S (ks := rk) (sp := rq) (k := k) (by omega) (upS_no (by first | exact .inl (by assumption) | exact .inr ⟨by omega, by assumption⟩ | exact .inr ⟨by omega, apB_no (by first | exact .inl (by assumption) | exact .inr (by assumption))⟩)) | have hr := right_K (ks := rk) (sp := rq) (k := q) (by omega) (upK_no (by first | exact .inl (by assumption) | exact .inr ⟨by omega, by assumption⟩)) | have hr := right_yes (ks := rk) (sp := rq) (by assumption) (by assumption) (by assumption) (by assumption)) <;> simp only [chkM, hr, cond_true, cond_false]

end Go.Vk
