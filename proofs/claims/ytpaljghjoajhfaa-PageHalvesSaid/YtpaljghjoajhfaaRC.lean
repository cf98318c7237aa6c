/- Contracts of the page's functions, part C: printed by wip/tools/p8.py. -/
import Derived.Test.YtpaljghjoajhfaaRPlain
set_option linter.unusedVariables false
set_option linter.unusedSimpArgs false
namespace Go.Vk
open Go.Proofs
set_option maxHeartbeats 4000000 in
set_option maxRecDepth 100000 in
theorem f21 (V : VT) (w : World) (hV : V.inW w) (al : Bool) (Aak : Option Addr) (cak : Nat) (ak : List Str) (hak : Rd strK V Aak cak ak) (Aav : Option Addr) (cav : Nat) (av : List Str) (hav : Rd strK V Aav cav av) (Aac : Option Addr) (cac : Nat) (ac : List Int) (hac : Rd (intK .i64) V Aac cac ac) (bl : Bool) (Abk : Option Addr) (cbk : Nat) (bk : List Str) (hbk : Rd strK V Abk cbk bk) (Abv : Option Addr) (cbv : Nat) (bv : List Str) (hbv : Rd strK V Abv cbv bv) (Abc : Option Addr) (cbc : Nat) (bc : List Int) (hbc : Rd (intK .i64) V Abc cbc bc) :
    Calls Try.prog 21 #[.agg #[.bool (al), .slice Aak (ak).length cak, .slice Aav (av).length cav, .slice Aac (ac).length cac], .agg #[.bool (bl), .slice Abk (bk).length cbk, .slice Abv (bv).length cbv, .slice Abc (bc).length cbc]] w (RetP V w fun rv V' => rv = .bool (decide (al = bl ∧ ak = bk ∧ av = bv ∧ ac = bc))) := by
  have mxak : ak.length ≤ 140737488355328 := hak.max
  have mxav : av.length ≤ 140737488355328 := hav.max
  have mxac : ac.length ≤ 140737488355328 := hac.max
  have mxbk : bk.length ≤ 140737488355328 := hbk.max
  have mxbv : bv.length ≤ 140737488355328 := hbv.max
  have mxbc : bc.length ≤ 140737488355328 := hbc.max
  refine calls_env (n := 94) Try.func21 (c := _) rfl Try.ntmps21 (by kernel_rfl) (fun R hRet => ?_)
  have hM0 : Step V w [] V w [] := Step.refl (St.nilE hV)
  refine wp_seq_k (fun K1 hK1 => ?_)
  refine wp_reg ?_
  refine wpF_box hM0 #[.bool (al), .slice Aak (ak).length cak, .slice Aav (av).length cav, .slice Aac (ac).length cac] (h := (by kernel_rfl : opAt _ _ _ _ _ = some (.box 25 (.tmp 0), some 2))) (by kernel_rfl) (fun b2 w3 hM4 => ?_)
  obtain ⟨V5, le6, hM7, hc8⟩ := hM4.settle 0 rfl
  have hM9 : Step V w [] V5 _ ([]) := hM7
  refine wpF_box hM9 #[.bool (bl), .slice Abk (bk).length cbk, .slice Abv (bv).length cbv, .slice Abc (bc).length cbc] (h := (by kernel_rfl : opAt _ _ _ _ _ = some (.box 25 (.tmp 1), some 3))) (by kernel_rfl) (fun b10 w11 hM12 => ?_)
  obtain ⟨V13, le14, hM15, hc16⟩ := hM12.settle 0 rfl
  have hM17 : Step V w [] V13 _ ([]) := hM15
  refine wpF_seg 1 (by kernel_rfl) ?_
  refine wpF_end _ (by kernel_rfl) (then_n (hK1 _ _ ?_))
  refine wp_seq_k (fun K18 hK18 => ?_)
  refine wp_seq_k (fun K19 hK19 => ?_)
  refine wp_reg ?_
  refine wpF_seg 1 (by kernel_rfl) ?_
  refine gF hM17 (.load 4 (.tmp 8)) (some 9) (by kernel_rfl) (Y_loadB #[.bool (al), .slice Aak (ak).length cak, .slice Aav (av).length cav, .slice Aac (ac).length cac] (fun i v hi => le14 _ _ _ (hc8 i v hi)) (off := 0) (by kernel_rfl) (.bool (al)) (by kernel_rfl)) ?_
  refine wpF_seg 1 (by kernel_rfl) ?_
  refine gF hM17 (.load 4 (.tmp 10)) (some 11) (by kernel_rfl) (Y_loadB #[.bool (bl), .slice Abk (bk).length cbk, .slice Abv (bv).length cbv, .slice Abc (bc).length cbc] hc16 (off := 0) (by kernel_rfl) (.bool (bl)) (by kernel_rfl)) ?_
  refine gF hM17 (.binOp .neq 4 (.tmp 9) (.tmp 11) 4) (some 12) (by kernel_rfl) (Y_neq (.bool (al)) (.bool (bl)) ((al) == (bl)) (by kernel_rfl) (by kernel_rfl) (by kernel_rfl)) ?_
  refine wpF_seg 1 (by kernel_rfl) ?_
  refine wpF_caseB 13 (!((al) == (bl))) (by kernel_rfl) (by kernel_rfl) (fun h20 => ?_) (fun h20 => ?_)
  · -- t
    have h21 : ((al) == (bl)) = false := by simpa using h20
    have p22 : ¬ ((al) = (bl)) := by simpa using h21
    refine wpF_seg 26 (by kernel_rfl) ?_
    refine wpF_end _ (by kernel_rfl) (then_n (hK19 _ _ ?_))
    refine wp_ct (by kernel_rfl) ?_
    refine wp_seq_k (fun K23 hK23 => ?_)
    refine wp_reg ?_
    refine wpF_seg 1 (by kernel_rfl) ?_
    refine wpF_end _ (by kernel_rfl) (then_n (hK23 _ _ ?_))
    refine wp_ret (then_r (?_))
    refine retN [.bool (false)] (.bool (false)) Try.results21 (.tmp (by kernel_rfl) (by kernel_rfl) .nil) (by kernel_rfl) (hRet _ _ ⟨_, _, rfl, hM17.clear, ?_⟩)
    -- end t
    first | exact congrArg Value.bool (decide_eq_true ⟨by assumption, ext_getD (d := []) (by omega) (by assumption), ext_getD (d := []) (by omega) (by assumption), ext_getD (d := 0) (by omega) (by assumption)⟩).symm | exact congrArg Value.bool (decide_eq_false (by rintro ⟨rfl, rfl, rfl, rfl⟩; first | omega | exact absurd rfl (by assumption) | contradiction)).symm
  · -- f
    have h24 : ((al) == (bl)) = true := by simpa using h20
    have p25 : ((al) = (bl)) := by simpa using h24
    refine wpF_seg 1 (by kernel_rfl) ?_
    refine gF hM17 (.load 22 (.tmp 14)) (some 15) (by kernel_rfl) (Y_loadB #[.bool (al), .slice Aak (ak).length cak, .slice Aav (av).length cav, .slice Aac (ac).length cac] (fun i v hi => le14 _ _ _ (hc8 i v hi)) (off := 1) (by kernel_rfl) (.slice Aak (ak).length cak) (by kernel_rfl)) ?_
    refine wpF_seg 2 (by kernel_rfl) ?_
    refine gF hM17 (.load 22 (.tmp 17)) (some 18) (by kernel_rfl) (Y_loadB #[.bool (bl), .slice Abk (bk).length cbk, .slice Abv (bv).length cbv, .slice Abc (bc).length cbc] hc16 (off := 1) (by kernel_rfl) (.slice Abk (bk).length cbk) (by kernel_rfl)) ?_
    refine wpF_seg 4 (by kernel_rfl) ?_
    refine wpF_caseB 22 (!(decide (((ak.length : Int)) = ((bk.length : Int))))) (by kernel_rfl) (by kernel_rfl) (fun h26 => ?_) (fun h26 => ?_)
    · -- ft
      have h27 : decide (((ak.length : Int)) = ((bk.length : Int))) = false := by rw [← Bool.not_not (decide _), h26]; rfl
      have p28 : ¬ (((ak.length : Int)) = ((bk.length : Int))) := of_decide_eq_false h27
      refine wpF_seg 17 (by kernel_rfl) ?_
      refine wpF_end _ (by kernel_rfl) (then_n (hK19 _ _ ?_))
      refine wp_ct (by kernel_rfl) ?_
      refine wp_seq_k (fun K29 hK29 => ?_)
      refine wp_reg ?_
      refine wpF_seg 1 (by kernel_rfl) ?_
      refine wpF_end _ (by kernel_rfl) (then_n (hK29 _ _ ?_))
      refine wp_ret (then_r (?_))
      refine retN [.bool (false)] (.bool (false)) Try.results21 (.tmp (by kernel_rfl) (by kernel_rfl) .nil) (by kernel_rfl) (hRet _ _ ⟨_, _, rfl, hM17.clear, ?_⟩)
      -- end ft
      first | exact congrArg Value.bool (decide_eq_true ⟨by assumption, ext_getD (d := []) (by omega) (by assumption), ext_getD (d := []) (by omega) (by assumption), ext_getD (d := 0) (by omega) (by assumption)⟩).symm | exact congrArg Value.bool (decide_eq_false (by rintro ⟨rfl, rfl, rfl, rfl⟩; first | omega | exact absurd rfl (by assumption) | contradiction)).symm
    · -- ff
      have h30 : decide (((ak.length : Int)) = ((bk.length : Int))) = true := by rw [← Bool.not_not (decide _), h26]; rfl
      have p31 : (((ak.length : Int)) = ((bk.length : Int))) := of_decide_eq_true h30
      refine wpF_seg 1 (by kernel_rfl) ?_
      refine gF hM17 (.load 22 (.tmp 23)) (some 24) (by kernel_rfl) (Y_loadB #[.bool (al), .slice Aak (ak).length cak, .slice Aav (av).length cav, .slice Aac (ac).length cac] (fun i v hi => le14 _ _ _ (hc8 i v hi)) (off := 2) (by kernel_rfl) (.slice Aav (av).length cav) (by kernel_rfl)) ?_
      refine wpF_seg 2 (by kernel_rfl) ?_
      refine gF hM17 (.load 22 (.tmp 26)) (some 27) (by kernel_rfl) (Y_loadB #[.bool (bl), .slice Abk (bk).length cbk, .slice Abv (bv).length cbv, .slice Abc (bc).length cbc] hc16 (off := 2) (by kernel_rfl) (.slice Abv (bv).length cbv) (by kernel_rfl)) ?_
      refine wpF_seg 4 (by kernel_rfl) ?_
      refine wpF_caseB 31 (!(decide (((av.length : Int)) = ((bv.length : Int))))) (by kernel_rfl) (by kernel_rfl) (fun h32 => ?_) (fun h32 => ?_)
      · -- fft
        have h33 : decide (((av.length : Int)) = ((bv.length : Int))) = false := by rw [← Bool.not_not (decide _), h32]; rfl
        have p34 : ¬ (((av.length : Int)) = ((bv.length : Int))) := of_decide_eq_false h33
        refine wpF_seg 8 (by kernel_rfl) ?_
        refine wpF_end _ (by kernel_rfl) (then_n (hK19 _ _ ?_))
        refine wp_ct (by kernel_rfl) ?_
        refine wp_seq_k (fun K35 hK35 => ?_)
        refine wp_reg ?_
        refine wpF_seg 1 (by kernel_rfl) ?_
        refine wpF_end _ (by kernel_rfl) (then_n (hK35 _ _ ?_))
        refine wp_ret (then_r (?_))
        refine retN [.bool (false)] (.bool (false)) Try.results21 (.tmp (by kernel_rfl) (by kernel_rfl) .nil) (by kernel_rfl) (hRet _ _ ⟨_, _, rfl, hM17.clear, ?_⟩)
        -- end fft
        first | exact congrArg Value.bool (decide_eq_true ⟨by assumption, ext_getD (d := []) (by omega) (by assumption), ext_getD (d := []) (by omega) (by assumption), ext_getD (d := 0) (by omega) (by assumption)⟩).symm | exact congrArg Value.bool (decide_eq_false (by rintro ⟨rfl, rfl, rfl, rfl⟩; first | omega | exact absurd rfl (by assumption) | contradiction)).symm
      · -- fff
        have h36 : decide (((av.length : Int)) = ((bv.length : Int))) = true := by rw [← Bool.not_not (decide _), h32]; rfl
        have p37 : (((av.length : Int)) = ((bv.length : Int))) := of_decide_eq_true h36
        refine wpF_seg 1 (by kernel_rfl) ?_
        refine gF hM17 (.load 23 (.tmp 32)) (some 33) (by kernel_rfl) (Y_loadB #[.bool (al), .slice Aak (ak).length cak, .slice Aav (av).length cav, .slice Aac (ac).length cac] (fun i v hi => le14 _ _ _ (hc8 i v hi)) (off := 3) (by kernel_rfl) (.slice Aac (ac).length cac) (by kernel_rfl)) ?_
        refine wpF_seg 2 (by kernel_rfl) ?_
        refine gF hM17 (.load 23 (.tmp 35)) (some 36) (by kernel_rfl) (Y_loadB #[.bool (bl), .slice Abk (bk).length cbk, .slice Abv (bv).length cbv, .slice Abc (bc).length cbc] hc16 (off := 3) (by kernel_rfl) (.slice Abc (bc).length cbc) (by kernel_rfl)) ?_
        refine wpF_seg 3 (by kernel_rfl) ?_
        refine wpF_end _ (by kernel_rfl) (then_n (hK19 _ _ ?_))
        refine wp_if (!(decide (((ac.length : Int)) = ((bc.length : Int))))) (by kernel_rfl) (fun h38 => ?_) (fun h38 => ?_)
        · -- ffft
          have h39 : decide (((ac.length : Int)) = ((bc.length : Int))) = false := by rw [← Bool.not_not (decide _), h38]; rfl
          have p40 : ¬ (((ac.length : Int)) = ((bc.length : Int))) := of_decide_eq_false h39
          refine wp_seq_k (fun K41 hK41 => ?_)
          refine wp_reg ?_
          refine wpF_seg 1 (by kernel_rfl) ?_
          refine wpF_end _ (by kernel_rfl) (then_n (hK41 _ _ ?_))
          refine wp_ret (then_r (?_))
          refine retN [.bool (false)] (.bool (false)) Try.results21 (.tmp (by kernel_rfl) (by kernel_rfl) .nil) (by kernel_rfl) (hRet _ _ ⟨_, _, rfl, hM17.clear, ?_⟩)
          -- end ffft
          first | exact congrArg Value.bool (decide_eq_true ⟨by assumption, ext_getD (d := []) (by omega) (by assumption), ext_getD (d := []) (by omega) (by assumption), ext_getD (d := 0) (by omega) (by assumption)⟩).symm | exact congrArg Value.bool (decide_eq_false (by rintro ⟨rfl, rfl, rfl, rfl⟩; first | omega | exact absurd rfl (by assumption) | contradiction)).symm
        · -- ffff
          have h42 : decide (((ac.length : Int)) = ((bc.length : Int))) = true := by rw [← Bool.not_not (decide _), h38]; rfl
          have p43 : (((ac.length : Int)) = ((bc.length : Int))) := of_decide_eq_true h42
          refine wp_skip (then_n (hK18 _ _ ?_))
          refine wp_seq_k (fun K44 hK44 => ?_)
          refine wp_seq_k (fun K45 hK45 => ?_)
          refine wp_reg ?_
          refine wpF_seg 1 (by kernel_rfl) ?_
          refine wpF_end _ (by kernel_rfl) (then_n (hK45 _ _ ?_))
          refine wp_block ?_
          refine wp_base [(2, .pointer (some ⟨b2, 0, none⟩)), (3, .pointer (some ⟨b10, 0, none⟩)), (5, .int .i64 ((0 : Int)))] (by kernel_rfl) (fun g47 => ?_)
          refine wp_loopX (fun (x_ : Nat) a_ w_ => ∃ (g : Nat → Value) (V_ : VT), a_ = env 94 [(2, .pointer (some ⟨b2, 0, none⟩)), (3, .pointer (some ⟨b10, 0, none⟩)), (5, .int .i64 ((x_ : Int)))] g ∧ Step V w [] V_ w_ [] ∧ VT.le V13 V_ ∧ (x_ ≤ ak.length) ∧ (∀ i, i < x_ → ak.getD i [] = bk.getD i [])) (fun (x_ : Nat) => ak.length - x_) (0) ⟨g47, V13, rfl, hM17, VT.le.refl _, by omega, by (intro i hi; omega)⟩ ?_
          rintro i1 a_ w49 ⟨g48, Vl46, rfl, hM50, le51, hi52_0, hi52_1⟩ K52 hK52
          refine wp_seq_k (fun K53 hK53 => ?_)
          refine wp_seq_k (fun K54 hK54 => ?_)
          refine wp_reg ?_
          refine wpF_seg 2 (by kernel_rfl) ?_
          refine gF hM50 (.load 22 (.tmp 41)) (some 42) (by kernel_rfl) (Y_loadB #[.bool (al), .slice Aak (ak).length cak, .slice Aav (av).length cav, .slice Aac (ac).length cac] (fun i v hi => (le14.trans le51) _ _ _ (hc8 i v hi)) (off := 1) (by kernel_rfl) (.slice Aak (ak).length cak) (by kernel_rfl)) ?_
          refine wpF_seg 2 (by kernel_rfl) ?_
          refine wpF_end _ (by kernel_rfl) (then_n (hK54 _ _ ?_))
          refine wp_if (decide (((i1 : Int)) < ((ak.length : Int)))) (by kernel_rfl) (fun h55 => ?_) (fun h55 => ?_)
          · -- ffffLt
            have p56 : (((i1 : Int)) < ((ak.length : Int))) := of_decide_eq_true h55
            refine wp_skip (then_n (hK53 _ _ ?_))
            refine wp_seq_k (fun K57 hK57 => ?_)
            refine wp_block ?_
            refine wp_seq_k (fun K58 hK58 => ?_)
            refine wp_base [(2, .pointer (some ⟨b2, 0, none⟩)), (3, .pointer (some ⟨b10, 0, none⟩)), (5, .int .i64 ((i1 : Int))), (40, .int .i64 ((i1 : Int))), (41, .pointer (some ⟨b2, 1, none⟩)), (42, .slice Aak (ak).length cak), (43, .int .i64 ((ak.length : Int))), (44, .bool (decide (((i1 : Int)) < ((ak.length : Int)))))] (by kernel_rfl) (fun g59 => ?_)
            refine wp_drawN hM50 [] no_held [] [0, 1, 2, 3, 4, 5, 6, 7, 8, 9, 10] [] [.p 0, .p 1, .p 2, .p 3, .p 4, .p 5, .p 6, .p 7, .p 8, .p 9, .p 10, .s] rfl (by kernel_rfl) (by kernel_rfl) ?_
            refine h_seg 1 (by kernel_rfl) ?_
            refine gH (.load 22 (.tmp 47)) (some 48) (by kernel_rfl) (Y_loadB #[.bool (al), .slice Aak (ak).length cak, .slice Aav (av).length cav, .slice Aac (ac).length cac] (fun i v hi => (le14.trans le51) _ _ _ (hc8 i v hi)) (off := 1) (by kernel_rfl) (.slice Aak (ak).length cak) (by kernel_rfl)) ?_
            refine h_seg 1 (by kernel_rfl) ?_
            refine gH_index (A := Aak) (c := cak) (hak.up hM50.le) .i64 ((i1 : Int)) (h := (by kernel_rfl : opAt _ _ _ _ _ = some (.indexAddr 22 (.tmp 48) (.tmp 49), some 50))) (e := 9) (by kernel_rfl) (by kernel_rfl) (by kernel_rfl) (i1) rfl (by omega) (fun b60 o61 at_b60 => ?_)
            have c62 : Vl46 b60 o61 = some (bs (ak.getD (i1) [])) := (At.str at_b60).1
            have l63 : (ak.getD (i1) []).length ≤ 140737488355328 := (At.str at_b60).2
            refine gH (.load 9 (.tmp 50)) (some 51) (by kernel_rfl) (Y_loadV c62 (by kernel_rfl) (by kernel_rfl)) ?_
            refine h_seg 1 (by kernel_rfl) ?_
            refine gH (.load 22 (.tmp 52)) (some 53) (by kernel_rfl) (Y_loadB #[.bool (bl), .slice Abk (bk).length cbk, .slice Abv (bv).length cbv, .slice Abc (bc).length cbc] (fun i v hi => le51 _ _ _ (hc16 i v hi)) (off := 1) (by kernel_rfl) (.slice Abk (bk).length cbk) (by kernel_rfl)) ?_
            refine h_seg 1 (by kernel_rfl) ?_
            refine gH_index (A := Abk) (c := cbk) (hbk.up hM50.le) .i64 ((i1 : Int)) (h := (by kernel_rfl : opAt _ _ _ _ _ = some (.indexAddr 22 (.tmp 53) (.tmp 54), some 55))) (e := 9) (by kernel_rfl) (by kernel_rfl) (by kernel_rfl) (i1) rfl (by omega) (fun b64 o65 at_b64 => ?_)
            have c66 : Vl46 b64 o65 = some (bs (bk.getD (i1) [])) := (At.str at_b64).1
            have l67 : (bk.getD (i1) []).length ≤ 140737488355328 := (At.str at_b64).2
            refine gH (.load 9 (.tmp 55)) (some 56) (by kernel_rfl) (Y_loadV c66 (by kernel_rfl) (by kernel_rfl)) ?_
            refine h_seg 1 (by kernel_rfl) ?_
            refine h_s no_fs ?_
            refine h_n (fun w68 hM69 => ?_)
            refine  (then_n (hK58 _ _ ?_))
            refine wp_if (!(decide (((ak.getD (i1) [])) = ((bk.getD (i1) []))))) (by kernel_rfl) (fun h70 => ?_) (fun h70 => ?_)
            · -- ffffLtt
              have h71 : decide (((ak.getD (i1) [])) = ((bk.getD (i1) []))) = false := by rw [← Bool.not_not (decide _), h70]; rfl
              have p72 : ¬ (((ak.getD (i1) [])) = ((bk.getD (i1) []))) := of_decide_eq_false h71
              refine wp_seq_k (fun K73 hK73 => ?_)
              refine wp_reg ?_
              refine wpF_seg 1 (by kernel_rfl) ?_
              refine wpF_end _ (by kernel_rfl) (then_n (hK73 _ _ ?_))
              refine wp_ret (blk_r (then_r (then_r (blk_r (then_r (?_))))))
              refine retN [.bool (false)] (.bool (false)) Try.results21 (.tmp (by kernel_rfl) (by kernel_rfl) .nil) (by kernel_rfl) (hRet _ _ ⟨_, _, rfl, hM69.clear, ?_⟩)
              -- end ffffLtt
              first | exact congrArg Value.bool (decide_eq_true ⟨by assumption, ext_getD (d := []) (by omega) (by assumption), ext_getD (d := []) (by omega) (by assumption), ext_getD (d := 0) (by omega) (by assumption)⟩).symm | exact congrArg Value.bool (decide_eq_false (by rintro ⟨rfl, rfl, rfl, rfl⟩; first | omega | exact absurd rfl (by assumption) | contradiction)).symm
            · -- ffffLtf
              have h74 : decide (((ak.getD (i1) [])) = ((bk.getD (i1) []))) = true := by rw [← Bool.not_not (decide _), h70]; rfl
              have p75 : (((ak.getD (i1) [])) = ((bk.getD (i1) []))) := of_decide_eq_true h74
              refine wp_skip (blk_n (then_n (hK57 _ _ ?_)))
              refine wp_reg ?_
              refine wpF_seg 1 (by kernel_rfl) ?_
              refine gF hM69 (.binOp .add 3 (.tmp 45) (.const (.int .i64 1)) 3) (some 46) (by kernel_rfl) (Y_add .i64 ((i1 : Int)) (1) ((i1 : Int) + 1) (by kernel_rfl) (by kernel_rfl) (wrap64_ok _ (by omega))) ?_
              refine wpF_seg 1 (by kernel_rfl) ?_
              refine wpF_base [(2, .pointer (some ⟨b2, 0, none⟩)), (3, .pointer (some ⟨b10, 0, none⟩)), (5, .int .i64 ((i1 + 1 : Int)))] (by kernel_rfl) (fun g76 => ?_)
              refine wpF_end _ (by kernel_rfl) (then_n (hK52 _ _ (i1 + 1) (by omega) ?_))
              refine ⟨g76, Vl46, rfl, hM69, le51, ?_, ?_⟩
              · -- ffffLtf inv 0
                omega
              · -- ffffLtf inv 1
                exact eq_step (by assumption) (by assumption)
          · -- ffffLf
            have p77 : ¬ (((i1 : Int)) < ((ak.length : Int))) := of_decide_eq_false h55
            refine wp_exit (then_x (then_x (blk_hit (then_n (hK44 _ _ ?_)))))
            obtain rfl : i1 = ak.length := by omega
            refine wp_seq_k (fun K78 hK78 => ?_)
            refine wp_seq_k (fun K79 hK79 => ?_)
            refine wp_reg ?_
            refine wpF_seg 1 (by kernel_rfl) ?_
            refine wpF_end _ (by kernel_rfl) (then_n (hK79 _ _ ?_))
            refine wp_block ?_
            refine wp_base [(2, .pointer (some ⟨b2, 0, none⟩)), (3, .pointer (some ⟨b10, 0, none⟩)), (6, .int .i64 ((0 : Int)))] (by kernel_rfl) (fun g81 => ?_)
            refine wp_loopX (fun (x_ : Nat) a_ w_ => ∃ (g : Nat → Value) (V_ : VT), a_ = env 94 [(2, .pointer (some ⟨b2, 0, none⟩)), (3, .pointer (some ⟨b10, 0, none⟩)), (6, .int .i64 ((x_ : Int)))] g ∧ Step V w [] V_ w_ [] ∧ VT.le Vl46 V_ ∧ (x_ ≤ av.length) ∧ (∀ i, i < x_ → av.getD i [] = bv.getD i [])) (fun (x_ : Nat) => av.length - x_) (0) ⟨g81, Vl46, rfl, hM50, VT.le.refl _, by omega, by (intro i hi; omega)⟩ ?_
            rintro i2 a_ w83 ⟨g82, Vl80, rfl, hM84, le85, hi86_0, hi86_1⟩ K86 hK86
            refine wp_seq_k (fun K87 hK87 => ?_)
            refine wp_seq_k (fun K88 hK88 => ?_)
            refine wp_reg ?_
            refine wpF_seg 2 (by kernel_rfl) ?_
            refine gF hM84 (.load 22 (.tmp 59)) (some 60) (by kernel_rfl) (Y_loadB #[.bool (al), .slice Aak (ak).length cak, .slice Aav (av).length cav, .slice Aac (ac).length cac] (fun i v hi => ((le14.trans le51).trans le85) _ _ _ (hc8 i v hi)) (off := 2) (by kernel_rfl) (.slice Aav (av).length cav) (by kernel_rfl)) ?_
            refine wpF_seg 2 (by kernel_rfl) ?_
            refine wpF_end _ (by kernel_rfl) (then_n (hK88 _ _ ?_))
            refine wp_if (decide (((i2 : Int)) < ((av.length : Int)))) (by kernel_rfl) (fun h89 => ?_) (fun h89 => ?_)
            · -- ffffLfLt
              have p90 : (((i2 : Int)) < ((av.length : Int))) := of_decide_eq_true h89
              refine wp_skip (then_n (hK87 _ _ ?_))
              refine wp_seq_k (fun K91 hK91 => ?_)
              refine wp_block ?_
              refine wp_seq_k (fun K92 hK92 => ?_)
              refine wp_base [(2, .pointer (some ⟨b2, 0, none⟩)), (3, .pointer (some ⟨b10, 0, none⟩)), (6, .int .i64 ((i2 : Int))), (58, .int .i64 ((i2 : Int))), (59, .pointer (some ⟨b2, 2, none⟩)), (60, .slice Aav (av).length cav), (61, .int .i64 ((av.length : Int))), (62, .bool (decide (((i2 : Int)) < ((av.length : Int)))))] (by kernel_rfl) (fun g93 => ?_)
              refine wp_drawN hM84 [] no_held [] [0, 1, 2, 3, 4, 5, 6, 7, 8, 9, 10] [] [.p 0, .p 1, .p 2, .p 3, .p 4, .p 5, .p 6, .p 7, .p 8, .p 9, .p 10, .s] rfl (by kernel_rfl) (by kernel_rfl) ?_
              refine h_seg 1 (by kernel_rfl) ?_
              refine gH (.load 22 (.tmp 65)) (some 66) (by kernel_rfl) (Y_loadB #[.bool (al), .slice Aak (ak).length cak, .slice Aav (av).length cav, .slice Aac (ac).length cac] (fun i v hi => ((le14.trans le51).trans le85) _ _ _ (hc8 i v hi)) (off := 2) (by kernel_rfl) (.slice Aav (av).length cav) (by kernel_rfl)) ?_
              refine h_seg 1 (by kernel_rfl) ?_
              refine gH_index (A := Aav) (c := cav) (hav.up hM84.le) .i64 ((i2 : Int)) (h := (by kernel_rfl : opAt _ _ _ _ _ = some (.indexAddr 22 (.tmp 66) (.tmp 67), some 68))) (e := 9) (by kernel_rfl) (by kernel_rfl) (by kernel_rfl) (i2) rfl (by omega) (fun b94 o95 at_b94 => ?_)
              have c96 : Vl80 b94 o95 = some (bs (av.getD (i2) [])) := (At.str at_b94).1
              have l97 : (av.getD (i2) []).length ≤ 140737488355328 := (At.str at_b94).2
              refine gH (.load 9 (.tmp 68)) (some 69) (by kernel_rfl) (Y_loadV c96 (by kernel_rfl) (by kernel_rfl)) ?_
              refine h_seg 1 (by kernel_rfl) ?_
              refine gH (.load 22 (.tmp 70)) (some 71) (by kernel_rfl) (Y_loadB #[.bool (bl), .slice Abk (bk).length cbk, .slice Abv (bv).length cbv, .slice Abc (bc).length cbc] (fun i v hi => (le51.trans le85) _ _ _ (hc16 i v hi)) (off := 2) (by kernel_rfl) (.slice Abv (bv).length cbv) (by kernel_rfl)) ?_
              refine h_seg 1 (by kernel_rfl) ?_
              refine gH_index (A := Abv) (c := cbv) (hbv.up hM84.le) .i64 ((i2 : Int)) (h := (by kernel_rfl : opAt _ _ _ _ _ = some (.indexAddr 22 (.tmp 71) (.tmp 72), some 73))) (e := 9) (by kernel_rfl) (by kernel_rfl) (by kernel_rfl) (i2) rfl (by omega) (fun b98 o99 at_b98 => ?_)
              have c100 : Vl80 b98 o99 = some (bs (bv.getD (i2) [])) := (At.str at_b98).1
              have l101 : (bv.getD (i2) []).length ≤ 140737488355328 := (At.str at_b98).2
              refine gH (.load 9 (.tmp 73)) (some 74) (by kernel_rfl) (Y_loadV c100 (by kernel_rfl) (by kernel_rfl)) ?_
              refine h_seg 1 (by kernel_rfl) ?_
              refine h_s no_fs ?_
              refine h_n (fun w102 hM103 => ?_)
              refine  (then_n (hK92 _ _ ?_))
              refine wp_if (!(decide (((av.getD (i2) [])) = ((bv.getD (i2) []))))) (by kernel_rfl) (fun h104 => ?_) (fun h104 => ?_)
              · -- ffffLfLtt
                have h105 : decide (((av.getD (i2) [])) = ((bv.getD (i2) []))) = false := by rw [← Bool.not_not (decide _), h104]; rfl
                have p106 : ¬ (((av.getD (i2) [])) = ((bv.getD (i2) []))) := of_decide_eq_false h105
                refine wp_seq_k (fun K107 hK107 => ?_)
                refine wp_reg ?_
                refine wpF_seg 1 (by kernel_rfl) ?_
                refine wpF_end _ (by kernel_rfl) (then_n (hK107 _ _ ?_))
                refine wp_ret (blk_r (then_r (then_r (blk_r (then_r (?_))))))
                refine retN [.bool (false)] (.bool (false)) Try.results21 (.tmp (by kernel_rfl) (by kernel_rfl) .nil) (by kernel_rfl) (hRet _ _ ⟨_, _, rfl, hM103.clear, ?_⟩)
                -- end ffffLfLtt
                first | exact congrArg Value.bool (decide_eq_true ⟨by assumption, ext_getD (d := []) (by omega) (by assumption), ext_getD (d := []) (by omega) (by assumption), ext_getD (d := 0) (by omega) (by assumption)⟩).symm | exact congrArg Value.bool (decide_eq_false (by rintro ⟨rfl, rfl, rfl, rfl⟩; first | omega | exact absurd rfl (by assumption) | contradiction)).symm
              · -- ffffLfLtf
                have h108 : decide (((av.getD (i2) [])) = ((bv.getD (i2) []))) = true := by rw [← Bool.not_not (decide _), h104]; rfl
                have p109 : (((av.getD (i2) [])) = ((bv.getD (i2) []))) := of_decide_eq_true h108
                refine wp_skip (blk_n (then_n (hK91 _ _ ?_)))
                refine wp_reg ?_
                refine wpF_seg 1 (by kernel_rfl) ?_
                refine gF hM103 (.binOp .add 3 (.tmp 63) (.const (.int .i64 1)) 3) (some 64) (by kernel_rfl) (Y_add .i64 ((i2 : Int)) (1) ((i2 : Int) + 1) (by kernel_rfl) (by kernel_rfl) (wrap64_ok _ (by omega))) ?_
                refine wpF_seg 1 (by kernel_rfl) ?_
                refine wpF_base [(2, .pointer (some ⟨b2, 0, none⟩)), (3, .pointer (some ⟨b10, 0, none⟩)), (6, .int .i64 ((i2 + 1 : Int)))] (by kernel_rfl) (fun g110 => ?_)
                refine wpF_end _ (by kernel_rfl) (then_n (hK86 _ _ (i2 + 1) (by omega) ?_))
                refine ⟨g110, Vl80, rfl, hM103, le85, ?_, ?_⟩
                · -- ffffLfLtf inv 0
                  omega
                · -- ffffLfLtf inv 1
                  exact eq_step (by assumption) (by assumption)
            · -- ffffLfLf
              have p111 : ¬ (((i2 : Int)) < ((av.length : Int))) := of_decide_eq_false h89
              refine wp_exit (then_x (then_x (blk_hit (then_n (hK78 _ _ ?_)))))
              obtain rfl : i2 = av.length := by omega
              refine wp_seq_k (fun K112 hK112 => ?_)
              refine wp_seq_k (fun K113 hK113 => ?_)
              refine wp_reg ?_
              refine wpF_seg 1 (by kernel_rfl) ?_
              refine wpF_end _ (by kernel_rfl) (then_n (hK113 _ _ ?_))
              refine wp_block ?_
              refine wp_base [(2, .pointer (some ⟨b2, 0, none⟩)), (3, .pointer (some ⟨b10, 0, none⟩)), (7, .int .i64 ((0 : Int)))] (by kernel_rfl) (fun g115 => ?_)
              refine wp_loopX (fun (x_ : Nat) a_ w_ => ∃ (g : Nat → Value) (V_ : VT), a_ = env 94 [(2, .pointer (some ⟨b2, 0, none⟩)), (3, .pointer (some ⟨b10, 0, none⟩)), (7, .int .i64 ((x_ : Int)))] g ∧ Step V w [] V_ w_ [] ∧ VT.le Vl80 V_ ∧ (x_ ≤ ac.length) ∧ (∀ i, i < x_ → ac.getD i 0 = bc.getD i 0)) (fun (x_ : Nat) => ac.length - x_) (0) ⟨g115, Vl80, rfl, hM84, VT.le.refl _, by omega, by (intro i hi; omega)⟩ ?_
              rintro i3 a_ w117 ⟨g116, Vl114, rfl, hM118, le119, hi120_0, hi120_1⟩ K120 hK120
              refine wp_seq_k (fun K121 hK121 => ?_)
              refine wp_seq_k (fun K122 hK122 => ?_)
              refine wp_reg ?_
              refine wpF_seg 2 (by kernel_rfl) ?_
              refine gF hM118 (.load 23 (.tmp 77)) (some 78) (by kernel_rfl) (Y_loadB #[.bool (al), .slice Aak (ak).length cak, .slice Aav (av).length cav, .slice Aac (ac).length cac] (fun i v hi => (((le14.trans le51).trans le85).trans le119) _ _ _ (hc8 i v hi)) (off := 3) (by kernel_rfl) (.slice Aac (ac).length cac) (by kernel_rfl)) ?_
              refine wpF_seg 2 (by kernel_rfl) ?_
              refine wpF_end _ (by kernel_rfl) (then_n (hK122 _ _ ?_))
              refine wp_if (decide (((i3 : Int)) < ((ac.length : Int)))) (by kernel_rfl) (fun h123 => ?_) (fun h123 => ?_)
              · -- ffffLfLfLt
                have p124 : (((i3 : Int)) < ((ac.length : Int))) := of_decide_eq_true h123
                refine wp_skip (then_n (hK121 _ _ ?_))
                refine wp_seq_k (fun K125 hK125 => ?_)
                refine wp_block ?_
                refine wp_seq_k (fun K126 hK126 => ?_)
                refine wp_base [(2, .pointer (some ⟨b2, 0, none⟩)), (3, .pointer (some ⟨b10, 0, none⟩)), (7, .int .i64 ((i3 : Int))), (76, .int .i64 ((i3 : Int))), (77, .pointer (some ⟨b2, 3, none⟩)), (78, .slice Aac (ac).length cac), (79, .int .i64 ((ac.length : Int))), (80, .bool (decide (((i3 : Int)) < ((ac.length : Int)))))] (by kernel_rfl) (fun g127 => ?_)
                refine wp_drawN hM118 [] no_held [] [0, 1, 2, 3, 4, 5, 6, 7, 8, 9, 10] [] [.p 0, .p 1, .p 2, .p 3, .p 4, .p 5, .p 6, .p 7, .p 8, .p 9, .p 10, .s] rfl (by kernel_rfl) (by kernel_rfl) ?_
                refine h_seg 1 (by kernel_rfl) ?_
                refine gH (.load 23 (.tmp 83)) (some 84) (by kernel_rfl) (Y_loadB #[.bool (al), .slice Aak (ak).length cak, .slice Aav (av).length cav, .slice Aac (ac).length cac] (fun i v hi => (((le14.trans le51).trans le85).trans le119) _ _ _ (hc8 i v hi)) (off := 3) (by kernel_rfl) (.slice Aac (ac).length cac) (by kernel_rfl)) ?_
                refine h_seg 1 (by kernel_rfl) ?_
                refine gH_index (A := Aac) (c := cac) (hac.up hM118.le) .i64 ((i3 : Int)) (h := (by kernel_rfl : opAt _ _ _ _ _ = some (.indexAddr 23 (.tmp 84) (.tmp 85), some 86))) (e := 3) (by kernel_rfl) (by kernel_rfl) (by kernel_rfl) (i3) rfl (by omega) (fun b128 o129 at_b128 => ?_)
                have c130 : Vl114 b128 o129 = some (.int .i64 (ac.getD (i3) 0)) := (At.int at_b128).1
                have l131 : IntKind.i64.min ≤ (ac.getD (i3) 0) ∧ (ac.getD (i3) 0) ≤ IntKind.i64.max := (At.int at_b128).2
                refine gH (.load 3 (.tmp 86)) (some 87) (by kernel_rfl) (Y_loadV c130 (by kernel_rfl) (by kernel_rfl)) ?_
                refine h_seg 1 (by kernel_rfl) ?_
                refine gH (.load 23 (.tmp 88)) (some 89) (by kernel_rfl) (Y_loadB #[.bool (bl), .slice Abk (bk).length cbk, .slice Abv (bv).length cbv, .slice Abc (bc).length cbc] (fun i v hi => ((le51.trans le85).trans le119) _ _ _ (hc16 i v hi)) (off := 3) (by kernel_rfl) (.slice Abc (bc).length cbc) (by kernel_rfl)) ?_
                refine h_seg 1 (by kernel_rfl) ?_
                refine gH_index (A := Abc) (c := cbc) (hbc.up hM118.le) .i64 ((i3 : Int)) (h := (by kernel_rfl : opAt _ _ _ _ _ = some (.indexAddr 23 (.tmp 89) (.tmp 90), some 91))) (e := 3) (by kernel_rfl) (by kernel_rfl) (by kernel_rfl) (i3) rfl (by omega) (fun b132 o133 at_b132 => ?_)
                have c134 : Vl114 b132 o133 = some (.int .i64 (bc.getD (i3) 0)) := (At.int at_b132).1
                have l135 : IntKind.i64.min ≤ (bc.getD (i3) 0) ∧ (bc.getD (i3) 0) ≤ IntKind.i64.max := (At.int at_b132).2
                refine gH (.load 3 (.tmp 91)) (some 92) (by kernel_rfl) (Y_loadV c134 (by kernel_rfl) (by kernel_rfl)) ?_
                refine h_seg 1 (by kernel_rfl) ?_
                refine h_s no_fs ?_
                refine h_n (fun w136 hM137 => ?_)
                refine  (then_n (hK126 _ _ ?_))
                refine wp_if (!(decide (((ac.getD (i3) 0)) = ((bc.getD (i3) 0))))) (by kernel_rfl) (fun h138 => ?_) (fun h138 => ?_)
                · -- ffffLfLfLtt
                  have h139 : decide (((ac.getD (i3) 0)) = ((bc.getD (i3) 0))) = false := by rw [← Bool.not_not (decide _), h138]; rfl
                  have p140 : ¬ (((ac.getD (i3) 0)) = ((bc.getD (i3) 0))) := of_decide_eq_false h139
                  refine wp_seq_k (fun K141 hK141 => ?_)
                  refine wp_reg ?_
                  refine wpF_seg 1 (by kernel_rfl) ?_
                  refine wpF_end _ (by kernel_rfl) (then_n (hK141 _ _ ?_))
                  refine wp_ret (blk_r (then_r (then_r (blk_r (then_r (?_))))))
                  refine retN [.bool (false)] (.bool (false)) Try.results21 (.tmp (by kernel_rfl) (by kernel_rfl) .nil) (by kernel_rfl) (hRet _ _ ⟨_, _, rfl, hM137.clear, ?_⟩)
                  -- end ffffLfLfLtt
                  first | exact congrArg Value.bool (decide_eq_true ⟨by assumption, ext_getD (d := []) (by omega) (by assumption), ext_getD (d := []) (by omega) (by assumption), ext_getD (d := 0) (by omega) (by assumption)⟩).symm | exact congrArg Value.bool (decide_eq_false (by rintro ⟨rfl, rfl, rfl, rfl⟩; first | omega | exact absurd rfl (by assumption) | contradiction)).symm
                · -- ffffLfLfLtf
                  have h142 : decide (((ac.getD (i3) 0)) = ((bc.getD (i3) 0))) = true := by rw [← Bool.not_not (decide _), h138]; rfl
                  have p143 : (((ac.getD (i3) 0)) = ((bc.getD (i3) 0))) := of_decide_eq_true h142
                  refine wp_skip (blk_n (then_n (hK125 _ _ ?_)))
                  refine wp_reg ?_
                  refine wpF_seg 1 (by kernel_rfl) ?_
                  refine gF hM137 (.binOp .add 3 (.tmp 81) (.const (.int .i64 1)) 3) (some 82) (by kernel_rfl) (Y_add .i64 ((i3 : Int)) (1) ((i3 : Int) + 1) (by kernel_rfl) (by kernel_rfl) (wrap64_ok _ (by omega))) ?_
                  refine wpF_seg 1 (by kernel_rfl) ?_
                  refine wpF_base [(2, .pointer (some ⟨b2, 0, none⟩)), (3, .pointer (some ⟨b10, 0, none⟩)), (7, .int .i64 ((i3 + 1 : Int)))] (by kernel_rfl) (fun g144 => ?_)
                  refine wpF_end _ (by kernel_rfl) (then_n (hK120 _ _ (i3 + 1) (by omega) ?_))
                  refine ⟨g144, Vl114, rfl, hM137, le119, ?_, ?_⟩
                  · -- ffffLfLfLtf inv 0
                    omega
                  · -- ffffLfLfLtf inv 1
                    exact eq_step (by assumption) (by assumption)
              · -- ffffLfLfLf
                have p145 : ¬ (((i3 : Int)) < ((ac.length : Int))) := of_decide_eq_false h123
                refine wp_exit (then_x (then_x (blk_hit (then_n (hK112 _ _ ?_)))))
                obtain rfl : i3 = ac.length := by omega
                refine wp_seq_k (fun K146 hK146 => ?_)
                refine wp_reg ?_
                refine wpF_seg 1 (by kernel_rfl) ?_
                refine wpF_end _ (by kernel_rfl) (then_n (hK146 _ _ ?_))
                refine wp_ret ?_
                refine retN [.bool (true)] (.bool (true)) Try.results21 (.tmp (by kernel_rfl) (by kernel_rfl) .nil) (by kernel_rfl) (hRet _ _ ⟨_, _, rfl, hM118.clear, ?_⟩)
                -- end ffffLfLfLf
                first | exact congrArg Value.bool (decide_eq_true ⟨by assumption, ext_getD (d := []) (by omega) (by assumption), ext_getD (d := []) (by omega) (by assumption), ext_getD (d := 0) (by omega) (by assumption)⟩).symm | exact congrArg Value.bool (decide_eq_false (by rintro ⟨rfl, rfl, rfl, rfl⟩; first | omega | exact absurd rfl (by assumption) | contradiction)).symm

end Go.Vk
