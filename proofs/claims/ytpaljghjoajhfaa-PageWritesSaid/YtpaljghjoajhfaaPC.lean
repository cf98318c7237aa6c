/- Contracts of the page's functions, part C: printed by wip/tools/p8.py. -/
import Derived.Test.YtpaljghjoajhfaaPB
set_option linter.unusedVariables false
set_option linter.unusedSimpArgs false
namespace Go.Vk
open Go.Proofs
set_option maxRecDepth 100000 in
theorem f21 (V : VT) (w : World) (hV : V.inW w) (al : Bool) (Aak : Option Addr) (cak : Nat) (ak : List Str) (hak : Rd strK V Aak cak ak) (Aav : Option Addr) (cav : Nat) (av : List Str) (hav : Rd strK V Aav cav av) (Aac : Option Addr) (cac : Nat) (ac : List Int) (hac : Rd (intK .i64) V Aac cac ac) (bl : Bool) (Abk : Option Addr) (cbk : Nat) (bk : List Str) (hbk : Rd strK V Abk cbk bk) (Abv : Option Addr) (cbv : Nat) (bv : List Str) (hbv : Rd strK V Abv cbv bv) (Abc : Option Addr) (cbc : Nat) (bc : List Int) (hbc : Rd (intK .i64) V Abc cbc bc) :
    Calls Try.prog 21 #[.agg #[.bool (al), .slice Aak (ak).length cak, .slice Aav (av).length cav, .slice Aac (ac).length cac], .agg #[.bool (bl), .slice Abk (bk).length cbk, .slice Abv (bv).length cbv, .slice Abc (bc).length cbc]] w (RetP V w fun rv V' => rv = .bool (decide (al = bl ∧ ak = bk ∧ av = bv ∧ ac = bc))) := by
  have mxak : ak.length ≤ 140737488355328 := hak.max
  have mxav : av.length ≤ 140737488355328 := hav.max
  have mxac : ac.length ≤ 140737488355328 := hac.max
  have mxbk : bk.length ≤ 140737488355328 := hbk.max
  have mxbv : bv.length ≤ 140737488355328 := hbv.max
  have mxbc : bc.length ≤ 140737488355328 := hbc.max
  refine calls_env (n := 94) Try.func21 (c := _) rfl Try.ntmps21 (by kernel_rfl) (fun R hRet => ?_)
  have hM0 : Step V w [] V w [] := Step.refl (St.nilE hV)
  refine wp_seq_k (fun K1 hK1 => ?_)
  refine wp_reg ?_
  refine wpF_box hM0 #[.bool (al), .slice Aak (ak).length cak, .slice Aav (av).length cav, .slice Aac (ac).length cac] (h := (by kernel_rfl : opAt _ _ _ _ _ = some (Go.Op.box 25 (Go.Operand.tmp 0), some 2))) (by kernel_rfl) (fun b2 w3 hM4 => ?_)
  obtain ⟨V5, le6, hM7, hc8⟩ := hM4.settle 0 rfl
  have hM9 : Step V w [] V5 _ [] := hM7
  refine wpF_box hM9 #[.bool (bl), .slice Abk (bk).length cbk, .slice Abv (bv).length cbv, .slice Abc (bc).length cbc] (h := (by kernel_rfl : opAt _ _ _ _ _ = some (Go.Op.box 25 (Go.Operand.tmp 1), some 3))) (by kernel_rfl) (fun b10 w11 hM12 => ?_)
  obtain ⟨V13, le14, hM15, hc16⟩ := hM12.settle 0 rfl
  have hM17 : Step V w [] V13 _ [] := hM15
  refine wpF_seg 1 (by kernel_rfl) ?_
  refine wpF_end _ (by kernel_rfl) (then_n (hK1 _ _ ?_))
  refine wp_seq_k (fun K18 hK18 => ?_)
  refine wp_seq_k (fun K19 hK19 => ?_)
  refine wp_reg ?_
  refine wpF_seg 1 (by kernel_rfl) ?_
  refine wpF_loadB hM17 #[.bool (al), .slice Aak (ak).length cak, .slice Aav (av).length cav, .slice Aac (ac).length cac] (fun i v hi => le14 _ _ _ (hc8 i v hi)) (h := (by kernel_rfl : opAt _ _ _ _ _ = some (Go.Op.load 4 (Go.Operand.tmp 8), some 9))) (off := 0) (by kernel_rfl) (.bool (al)) (by kernel_rfl) ?_
  refine wpF_seg 1 (by kernel_rfl) ?_
  refine wpF_loadB hM17 #[.bool (bl), .slice Abk (bk).length cbk, .slice Abv (bv).length cbv, .slice Abc (bc).length cbc] hc16 (h := (by kernel_rfl : opAt _ _ _ _ _ = some (Go.Op.load 4 (Go.Operand.tmp 10), some 11))) (off := 0) (by kernel_rfl) (.bool (bl)) (by kernel_rfl) ?_
  refine wpF_neq (.bool (al)) (.bool (bl)) ((al) == (bl)) (h := (by kernel_rfl : opAt _ _ _ _ _ = some (Go.Op.binOp Go.BinOp.neq 4 (Go.Operand.tmp 9) (Go.Operand.tmp 11) 4, some 12))) (by kernel_rfl) (by kernel_rfl) (by kernel_rfl) ?_
  refine wpF_seg 1 (by kernel_rfl) ?_
  refine wpF_caseB 13 (!((al) == (bl))) (by kernel_rfl) (by kernel_rfl) (fun h20 => ?_) (fun h20 => ?_)
  · -- t
    have h21 : ((al) == (bl)) = false := by simpa using h20
    have p22 : ¬ ((al) = (bl)) := by simpa using h21
    refine wpF_seg 26 (by kernel_rfl) ?_
    refine wpF_end _ (by kernel_rfl) (then_n (hK19 _ _ ?_))
    refine wp_ct (by kernel_rfl) ?_
    refine wp_seq_k (fun K23 hK23 => ?_)
    refine wp_reg ?_
    refine wpF_seg 1 (by kernel_rfl) ?_
    refine wpF_end _ (by kernel_rfl) (then_n (hK23 _ _ ?_))
    refine wp_ret (then_r (?_))
    refine retN [.bool (false)] (.bool (false)) Try.results21 (.tmp (by kernel_rfl) (by kernel_rfl) .nil) (by kernel_rfl) (hRet _ _ ⟨_, _, rfl, hM17.clear, ?_⟩)
    -- end t
    first | exact congrArg Value.bool (decide_eq_true ⟨by assumption, ext_getD (d := []) (by omega) (by assumption), ext_getD (d := []) (by omega) (by assumption), ext_getD (d := 0) (by omega) (by assumption)⟩).symm | exact congrArg Value.bool (decide_eq_false (by rintro ⟨rfl, rfl, rfl, rfl⟩; first | omega | exact absurd rfl (by assumption) | contradiction)).symm
  · -- f
    have h24 : ((al) == (bl)) = true := by simpa using h20
    have p25 : ((al) = (bl)) := by simpa using h24
    refine wpF_seg 1 (by kernel_rfl) ?_
    refine wpF_loadB hM17 #[.bool (al), .slice Aak (ak).length cak, .slice Aav (av).length cav, .slice Aac (ac).length cac] (fun i v hi => le14 _ _ _ (hc8 i v hi)) (h := (by kernel_rfl : opAt _ _ _ _ _ = some (Go.Op.load 22 (Go.Operand.tmp 14), some 15))) (off := 1) (by kernel_rfl) (.slice Aak (ak).length cak) (by kernel_rfl) ?_
    refine wpF_seg 2 (by kernel_rfl) ?_
    refine wpF_loadB hM17 #[.bool (bl), .slice Abk (bk).length cbk, .slice Abv (bv).length cbv, .slice Abc (bc).length cbc] hc16 (h := (by kernel_rfl : opAt _ _ _ _ _ = some (Go.Op.load 22 (Go.Operand.tmp 17), some 18))) (off := 1) (by kernel_rfl) (.slice Abk (bk).length cbk) (by kernel_rfl) ?_
    refine wpF_seg 4 (by kernel_rfl) ?_
    refine wpF_caseB 22 (!(decide (((ak.length : Int)) = ((bk.length : Int))))) (by kernel_rfl) (by kernel_rfl) (fun h26 => ?_) (fun h26 => ?_)
    · -- ft
      have h27 : decide (((ak.length : Int)) = ((bk.length : Int))) = false := by rw [← Bool.not_not (decide _), h26]; rfl
      have p28 : ¬ (((ak.length : Int)) = ((bk.length : Int))) := of_decide_eq_false h27
      refine wpF_seg 17 (by kernel_rfl) ?_
      refine wpF_end _ (by kernel_rfl) (then_n (hK19 _ _ ?_))
      refine wp_ct (by kernel_rfl) ?_
      refine wp_seq_k (fun K29 hK29 => ?_)
      refine wp_reg ?_
      refine wpF_seg 1 (by kernel_rfl) ?_
      refine wpF_end _ (by kernel_rfl) (then_n (hK29 _ _ ?_))
      refine wp_ret (then_r (?_))
      refine retN [.bool (false)] (.bool (false)) Try.results21 (.tmp (by kernel_rfl) (by kernel_rfl) .nil) (by kernel_rfl) (hRet _ _ ⟨_, _, rfl, hM17.clear, ?_⟩)
      -- end ft
      first | exact congrArg Value.bool (decide_eq_true ⟨by assumption, ext_getD (d := []) (by omega) (by assumption), ext_getD (d := []) (by omega) (by assumption), ext_getD (d := 0) (by omega) (by assumption)⟩).symm | exact congrArg Value.bool (decide_eq_false (by rintro ⟨rfl, rfl, rfl, rfl⟩; first | omega | exact absurd rfl (by assumption) | contradiction)).symm
    · -- ff
      have h30 : decide (((ak.length : Int)) = ((bk.length : Int))) = true := by rw [← Bool.not_not (decide _), h26]; rfl
      have p31 : (((ak.length : Int)) = ((bk.length : Int))) := of_decide_eq_true h30
      refine wpF_seg 1 (by kernel_rfl) ?_
      refine wpF_loadB hM17 #[.bool (al), .slice Aak (ak).length cak, .slice Aav (av).length cav, .slice Aac (ac).length cac] (fun i v hi => le14 _ _ _ (hc8 i v hi)) (h := (by kernel_rfl : opAt _ _ _ _ _ = some (Go.Op.load 22 (Go.Operand.tmp 23), some 24))) (off := 2) (by kernel_rfl) (.slice Aav (av).length cav) (by kernel_rfl) ?_
      refine wpF_seg 2 (by kernel_rfl) ?_
      refine wpF_loadB hM17 #[.bool (bl), .slice Abk (bk).length cbk, .slice Abv (bv).length cbv, .slice Abc (bc).length cbc] hc16 (h := (by kernel_rfl : opAt _ _ _ _ _ = some (Go.Op.load 22 (Go.Operand.tmp 26), some 27))) (off := 2) (by kernel_rfl) (.slice Abv (bv).length cbv) (by kernel_rfl) ?_
      refine wpF_seg 4 (by kernel_rfl) ?_
      refine wpF_caseB 31 (!(decide (((av.length : Int)) = ((bv.length : Int))))) (by kernel_rfl) (by kernel_rfl) (fun h32 => ?_) (fun h32 => ?_)
      · -- fft
        have h33 : decide (((av.length : Int)) = ((bv.length : Int))) = false := by rw [← Bool.not_not (decide _), h32]; rfl
        have p34 : ¬ (((av.length : Int)) = ((bv.length : Int))) := of_decide_eq_false h33
        refine wpF_seg 8 (by kernel_rfl) ?_
        refine wpF_end _ (by kernel_rfl) (then_n (hK19 _ _ ?_))
        refine wp_ct (by kernel_rfl) ?_
        refine wp_seq_k (fun K35 hK35 => ?_)
        refine wp_reg ?_
        refine wpF_seg 1 (by kernel_rfl) ?_
        refine wpF_end _ (by kernel_rfl) (then_n (hK35 _ _ ?_))
        refine wp_ret (then_r (?_))
        refine retN [.bool (false)] (.bool (false)) Try.results21 (.tmp (by kernel_rfl) (by kernel_rfl) .nil) (by kernel_rfl) (hRet _ _ ⟨_, _, rfl, hM17.clear, ?_⟩)
        -- end fft
        first | exact congrArg Value.bool (decide_eq_true ⟨by assumption, ext_getD (d := []) (by omega) (by assumption), ext_getD (d := []) (by omega) (by assumption), ext_getD (d := 0) (by omega) (by assumption)⟩).symm | exact congrArg Value.bool (decide_eq_false (by rintro ⟨rfl, rfl, rfl, rfl⟩; first | omega | exact absurd rfl (by assumption) | contradiction)).symm
      · -- fff
        have h36 : decide (((av.length : Int)) = ((bv.length : Int))) = true := by rw [← Bool.not_not (decide _), h32]; rfl
        have p37 : (((av.length : Int)) = ((bv.length : Int))) := of_decide_eq_true h36
        refine wpF_seg 1 (by kernel_rfl) ?_
        refine wpF_loadB hM17 #[.bool (al), .slice Aak (ak).length cak, .slice Aav (av).length cav, .slice Aac (ac).length cac] (fun i v hi => le14 _ _ _ (hc8 i v hi)) (h := (by kernel_rfl : opAt _ _ _ _ _ = some (Go.Op.load 23 (Go.Operand.tmp 32), some 33))) (off := 3) (by kernel_rfl) (.slice Aac (ac).length cac) (by kernel_rfl) ?_
        refine wpF_seg 2 (by kernel_rfl) ?_
        refine wpF_loadB hM17 #[.bool (bl), .slice Abk (bk).length cbk, .slice Abv (bv).length cbv, .slice Abc (bc).length cbc] hc16 (h := (by kernel_rfl : opAt _ _ _ _ _ = some (Go.Op.load 23 (Go.Operand.tmp 35), some 36))) (off := 3) (by kernel_rfl) (.slice Abc (bc).length cbc) (by kernel_rfl) ?_
        refine wpF_seg 3 (by kernel_rfl) ?_
        refine wpF_end _ (by kernel_rfl) (then_n (hK19 _ _ ?_))
        refine wp_if (!(decide (((ac.length : Int)) = ((bc.length : Int))))) (by kernel_rfl) (fun h38 => ?_) (fun h38 => ?_)
        · -- ffft
          have h39 : decide (((ac.length : Int)) = ((bc.length : Int))) = false := by rw [← Bool.not_not (decide _), h38]; rfl
          have p40 : ¬ (((ac.length : Int)) = ((bc.length : Int))) := of_decide_eq_false h39
          refine wp_seq_k (fun K41 hK41 => ?_)
          refine wp_reg ?_
          refine wpF_seg 1 (by kernel_rfl) ?_
          refine wpF_end _ (by kernel_rfl) (then_n (hK41 _ _ ?_))
          refine wp_ret (then_r (?_))
          refine retN [.bool (false)] (.bool (false)) Try.results21 (.tmp (by kernel_rfl) (by kernel_rfl) .nil) (by kernel_rfl) (hRet _ _ ⟨_, _, rfl, hM17.clear, ?_⟩)
          -- end ffft
          first | exact congrArg Value.bool (decide_eq_true ⟨by assumption, ext_getD (d := []) (by omega) (by assumption), ext_getD (d := []) (by omega) (by assumption), ext_getD (d := 0) (by omega) (by assumption)⟩).symm | exact congrArg Value.bool (decide_eq_false (by rintro ⟨rfl, rfl, rfl, rfl⟩; first | omega | exact absurd rfl (by assumption) | contradiction)).symm
        · -- ffff
          have h42 : decide (((ac.length : Int)) = ((bc.length : Int))) = true := by rw [← Bool.not_not (decide _), h38]; rfl
          have p43 : (((ac.length : Int)) = ((bc.length : Int))) := of_decide_eq_true h42
          refine wp_skip (then_n (hK18 _ _ ?_))
          refine wp_seq_k (fun K44 hK44 => ?_)
          refine wp_seq_k (fun K45 hK45 => ?_)
          refine wp_reg ?_
          refine wpF_seg 1 (by kernel_rfl) ?_
          refine wpF_end _ (by kernel_rfl) (then_n (hK45 _ _ ?_))
          refine wp_block ?_
          refine wp_base [(2, .pointer (some ⟨b2, 0, none⟩)), (3, .pointer (some ⟨b10, 0, none⟩)), (5, .int .i64 ((0 : Int)))] (by kernel_rfl) (fun g47 => ?_)
          refine wp_loopX (fun (x_ : Nat) a_ w_ => ∃ (g : Nat → Value) (V_ : VT), a_ = env 94 [(2, .pointer (some ⟨b2, 0, none⟩)), (3, .pointer (some ⟨b10, 0, none⟩)), (5, .int .i64 ((x_ : Int)))] g ∧ Step V w [] V_ w_ [] ∧ VT.le V13 V_ ∧ (x_ ≤ ak.length) ∧ (∀ i, i < x_ → ak.getD i [] = bk.getD i [])) (fun (x_ : Nat) => ak.length - x_) (0) ⟨g47, V13, rfl, hM17, VT.le.refl _, by omega, by (intro i hi; omega)⟩ ?_
          rintro i1 a_ w49 ⟨g48, Vl46, rfl, hM50, le51, hi52_0, hi52_1⟩ K52 hK52
          refine wp_seq_k (fun K53 hK53 => ?_)
          refine wp_seq_k (fun K54 hK54 => ?_)
          refine wp_reg ?_
          refine wpF_seg 2 (by kernel_rfl) ?_
          refine wpF_loadB hM50 #[.bool (al), .slice Aak (ak).length cak, .slice Aav (av).length cav, .slice Aac (ac).length cac] (fun i v hi => (le14.trans le51) _ _ _ (hc8 i v hi)) (h := (by kernel_rfl : opAt _ _ _ _ _ = some (Go.Op.load 22 (Go.Operand.tmp 41), some 42))) (off := 1) (by kernel_rfl) (.slice Aak (ak).length cak) (by kernel_rfl) ?_
          refine wpF_seg 2 (by kernel_rfl) ?_
          refine wpF_end _ (by kernel_rfl) (then_n (hK54 _ _ ?_))
          refine wp_if (decide (((i1 : Int)) < ((ak.length : Int)))) (by kernel_rfl) (fun h55 => ?_) (fun h55 => ?_)
          · -- ffffLt
            have p56 : (((i1 : Int)) < ((ak.length : Int))) := of_decide_eq_true h55
            refine wp_skip (then_n (hK53 _ _ ?_))
            refine wp_seq_k (fun K57 hK57 => ?_)
            refine wp_block ?_
            refine wp_seq_k (fun K58 hK58 => ?_)
            refine wp_base [(2, .pointer (some ⟨b2, 0, none⟩)), (3, .pointer (some ⟨b10, 0, none⟩)), (5, .int .i64 ((i1 : Int))), (40, .int .i64 ((i1 : Int))), (41, .pointer (some ⟨b2, 1, none⟩)), (42, .slice Aak (ak).length cak), (43, .int .i64 ((ak.length : Int))), (44, .bool (decide (((i1 : Int)) < ((ak.length : Int)))))] (by kernel_rfl) (fun g0_67 => ?_)
            obtain ⟨G67, hGm67, hG67_0, hG67_1, hG67_2, hG67_3, hG67_4, hG67_5, hG67_6, hG67_7, hG67_8, hG67_9, hG67_10⟩ : ∃ G : Nat → Value → VT → Prop, (∀ j v V V', VT.le V V' → G j v V → G j v V') ∧ (∀ v_ V_, G 0 v_ V_ ↔ (v_ = .pointer (some ⟨b2, 1, none⟩))) ∧ (∀ v_ V_, G 1 v_ V_ ↔ (v_ = .slice Aak (ak).length cak)) ∧ (∀ v_ V_, G 2 v_ V_ ↔ (v_ = .int .i64 ((i1 : Int)))) ∧ (∀ v_ V_, G 3 v_ V_ ↔ (∃ b59 : Nat, ∃ o60 : Nat, v_ = .pointer (some ⟨b59, o60, none⟩) ∧ (At strK V_ b59 o60 ((ak.getD (i1) []))) ∧ ((ak.getD (i1) []).length ≤ 140737488355328))) ∧ (∀ v_ V_, G 4 v_ V_ ↔ (v_ = bs ((ak.getD (i1) [])) ∧ ((ak.getD (i1) []).length ≤ 140737488355328))) ∧ (∀ v_ V_, G 5 v_ V_ ↔ (v_ = .pointer (some ⟨b10, 1, none⟩))) ∧ (∀ v_ V_, G 6 v_ V_ ↔ (v_ = .slice Abk (bk).length cbk)) ∧ (∀ v_ V_, G 7 v_ V_ ↔ (v_ = .int .i64 ((i1 : Int)))) ∧ (∀ v_ V_, G 8 v_ V_ ↔ (∃ b63 : Nat, ∃ o64 : Nat, v_ = .pointer (some ⟨b63, o64, none⟩) ∧ (At strK V_ b63 o64 ((bk.getD (i1) []))) ∧ ((bk.getD (i1) []).length ≤ 140737488355328))) ∧ (∀ v_ V_, G 9 v_ V_ ↔ (v_ = bs ((bk.getD (i1) [])) ∧ ((bk.getD (i1) []).length ≤ 140737488355328))) ∧ (∀ v_ V_, G 10 v_ V_ ↔ (v_ = .bool (!(decide (((ak.getD (i1) [])) = ((bk.getD (i1) []))))) ∧ ((bk.getD (i1) []).length ≤ 140737488355328) ∧ ((ak.getD (i1) []).length ≤ 140737488355328))) :=
                ⟨mG [mV (.pointer (some ⟨b2, 1, none⟩)), mV (.slice Aak (ak).length cak), mV (.int .i64 ((i1 : Int))), mE fun b59 : Nat => mE fun o60 : Nat => mN (mV (.pointer (some ⟨b59, o60, none⟩))) (mN (mA strK b59 o60 ((ak.getD (i1) []))) (mP ((ak.getD (i1) []).length ≤ 140737488355328))), mN (mV (bs ((ak.getD (i1) [])))) (mP ((ak.getD (i1) []).length ≤ 140737488355328)), mV (.pointer (some ⟨b10, 1, none⟩)), mV (.slice Abk (bk).length cbk), mV (.int .i64 ((i1 : Int))), mE fun b63 : Nat => mE fun o64 : Nat => mN (mV (.pointer (some ⟨b63, o64, none⟩))) (mN (mA strK b63 o64 ((bk.getD (i1) []))) (mP ((bk.getD (i1) []).length ≤ 140737488355328))), mN (mV (bs ((bk.getD (i1) [])))) (mP ((bk.getD (i1) []).length ≤ 140737488355328)), mN (mV (.bool (!(decide (((ak.getD (i1) [])) = ((bk.getD (i1) []))))))) (mN (mP ((bk.getD (i1) []).length ≤ 140737488355328)) (mP ((ak.getD (i1) []).length ≤ 140737488355328)))], mG_up _, fun _ _ => Iff.rfl, fun _ _ => Iff.rfl, fun _ _ => Iff.rfl, fun _ _ => Iff.rfl, fun _ _ => Iff.rfl, fun _ _ => Iff.rfl, fun _ _ => Iff.rfl, fun _ _ => Iff.rfl, fun _ _ => Iff.rfl, fun _ _ => Iff.rfl, fun _ _ => Iff.rfl⟩
            refine wp_drawG (L0 := [(2, .pointer (some ⟨b2, 0, none⟩)), (3, .pointer (some ⟨b10, 0, none⟩)), (5, .int .i64 ((i1 : Int))), (40, .int .i64 ((i1 : Int))), (41, .pointer (some ⟨b2, 1, none⟩)), (42, .slice Aak (ak).length cak), (43, .int .i64 ((ak.length : Int))), (44, .bool (decide (((i1 : Int)) < ((ak.length : Int)))))]) 11 (by kernel_rfl) (by kernel_rfl) (by kernel_rfl) (by kernel_rfl) (by kernel_rfl) G67 hGm67 [] pre_nil (by kernel_rfl) [] (by kernel_rfl) (fun (S : Nat → Bool) (g : Nat → Value) => ([] : List Ent)) (fun _ _ _ _ _ => rfl) hM50 ?_ ?_
            · -- the operations
              refine all_snoc (.inr ⟨by decide, fun S67_10 g67_10 V67_10 w67_10 F67_10 cx67_10 hM67_10 => ?_⟩) ?_
              · -- op 10
                obtain ⟨hv4_V67_10, l62⟩ : g67_10 51 = bs ((ak.getD (i1) [])) ∧ ((ak.getD (i1) []).length ≤ 140737488355328) := (hG67_4 _ _).1 (cx67_10.fact 4 51 (by decide) (cx67_10.dep 4 (by kernel_rfl)) (by kernel_rfl))
                obtain ⟨hv9_V67_10, l66⟩ : g67_10 56 = bs ((bk.getD (i1) [])) ∧ ((bk.getD (i1) []).length ≤ 140737488355328) := (hG67_9 _ _).1 (cx67_10.fact 9 56 (by decide) (cx67_10.dep 9 (by kernel_rfl)) (by kernel_rfl))
                refine wpF_see 51 (bs ((ak.getD (i1) []))) (Eq.trans (by kernel_rfl) hv4_V67_10) ?_
                refine wpF_see 56 (bs ((bk.getD (i1) []))) (Eq.trans (by kernel_rfl) hv9_V67_10) ?_
                refine wpF_seg 1 (by kernel_rfl) ?_
                refine wpF_end _ (by kernel_rfl) (then_n ?_)
                exact one_in (some 57) (by kernel_rfl) (.bool (!(decide (((ak.getD (i1) [])) = ((bk.getD (i1) [])))))) _ [(56, bs ((bk.getD (i1) []))), (51, bs ((ak.getD (i1) [])))] (seen_cons (Eq.trans (by kernel_rfl) hv9_V67_10) (seen_cons (Eq.trans (by kernel_rfl) hv4_V67_10) seen_nil)) (by kernel_rfl) (VT.le.refl _) hM67_10 ((hG67_10 _ _).2 ⟨rfl, l66, l62⟩)
              refine all_snoc (.inr ⟨by decide, fun S67_9 g67_9 V67_9 w67_9 F67_9 cx67_9 hM67_9 => ?_⟩) ?_
              · -- op 9
                obtain ⟨b63, o64, hv8_V67_9, at_b63, l66⟩ : ∃ b63 : Nat, ∃ o64 : Nat, g67_9 55 = .pointer (some ⟨b63, o64, none⟩) ∧ (At strK V67_9 b63 o64 ((bk.getD (i1) []))) ∧ ((bk.getD (i1) []).length ≤ 140737488355328) := (hG67_8 _ _).1 (cx67_9.fact 8 55 (by decide) (cx67_9.dep 8 (by kernel_rfl)) (by kernel_rfl))
                have c909161 : V67_9 b63 o64 = some (bs (bk.getD (i1) [])) := (At.str at_b63).1
                have l909162 : (bk.getD (i1) []).length ≤ 140737488355328 := (At.str at_b63).2
                refine wpF_see 55 (.pointer (some ⟨b63, o64, none⟩)) (Eq.trans (by kernel_rfl) hv8_V67_9) ?_
                refine wpF_loadV hM67_9 c909161 (h := (by kernel_rfl : opAt _ _ _ _ _ = some (Go.Op.load 9 (Go.Operand.tmp 55), some 56))) (by kernel_rfl) (by kernel_rfl) ?_
                refine wpF_end _ (by kernel_rfl) (then_n ?_)
                exact one_in (some 56) (by kernel_rfl) (bs ((bk.getD (i1) []))) _ [(55, .pointer (some ⟨b63, o64, none⟩))] (seen_cons (Eq.trans (by kernel_rfl) hv8_V67_9) seen_nil) (by kernel_rfl) (VT.le.refl _) hM67_9 ((hG67_9 _ _).2 ⟨rfl, l66⟩)
              refine all_snoc (.inr ⟨by decide, fun S67_8 g67_8 V67_8 w67_8 F67_8 cx67_8 hM67_8 => ?_⟩) ?_
              · -- op 8
                obtain hv6_V67_8 : g67_8 53 = .slice Abk (bk).length cbk := (hG67_6 _ _).1 (cx67_8.fact 6 53 (by decide) (cx67_8.dep 6 (by kernel_rfl)) (by kernel_rfl))
                obtain hv7_V67_8 : g67_8 54 = .int .i64 ((i1 : Int)) := (hG67_7 _ _).1 (cx67_8.fact 7 54 (by decide) (cx67_8.dep 7 (by kernel_rfl)) (by kernel_rfl))
                refine wpF_see 53 (.slice Abk (bk).length cbk) (Eq.trans (by kernel_rfl) hv6_V67_8) ?_
                refine wpF_see 54 (.int .i64 ((i1 : Int))) (Eq.trans (by kernel_rfl) hv7_V67_8) ?_
                refine wpF_index (A := Abk) (c := cbk) (hbk.up hM67_8.le) .i64 ((i1 : Int)) (h := (by kernel_rfl : opAt _ _ _ _ _ = some (Go.Op.indexAddr 22 (Go.Operand.tmp 53) (Go.Operand.tmp 54), some 55))) (e := 9) (by kernel_rfl) (by kernel_rfl) (by kernel_rfl) (i1) rfl (by omega) (fun b63 o64 at_b63 => ?_)
                have c65 : V67_8 b63 o64 = some (bs (bk.getD (i1) [])) := (At.str at_b63).1
                have l66 : (bk.getD (i1) []).length ≤ 140737488355328 := (At.str at_b63).2
                refine wpF_end _ (by kernel_rfl) (then_n ?_)
                exact one_in (some 55) (by kernel_rfl) (.pointer (some ⟨b63, o64, none⟩)) _ [(54, .int .i64 ((i1 : Int))), (53, .slice Abk (bk).length cbk)] (seen_cons (Eq.trans (by kernel_rfl) hv7_V67_8) (seen_cons (Eq.trans (by kernel_rfl) hv6_V67_8) seen_nil)) (by kernel_rfl) (VT.le.refl _) hM67_8 ((hG67_8 _ _).2 ⟨b63, o64, rfl, at_b63, l66⟩)
              refine all_snoc (.inr ⟨by decide, fun S67_7 g67_7 V67_7 w67_7 F67_7 cx67_7 hM67_7 => ?_⟩) ?_
              · -- op 7
                refine wpF_seg 1 (by kernel_rfl) ?_
                refine wpF_end _ (by kernel_rfl) (then_n ?_)
                exact one_in (some 54) (by kernel_rfl) (.int .i64 ((i1 : Int))) _ [] seen_nil (by kernel_rfl) (VT.le.refl _) hM67_7 ((hG67_7 _ _).2 rfl)
              refine all_snoc (.inr ⟨by decide, fun S67_6 g67_6 V67_6 w67_6 F67_6 cx67_6 hM67_6 => ?_⟩) ?_
              · -- op 6
                obtain hv5_V67_6 : g67_6 52 = .pointer (some ⟨b10, 1, none⟩) := (hG67_5 _ _).1 (cx67_6.fact 5 52 (by decide) (cx67_6.dep 5 (by kernel_rfl)) (by kernel_rfl))
                refine wpF_see 52 (.pointer (some ⟨b10, 1, none⟩)) (Eq.trans (by kernel_rfl) hv5_V67_6) ?_
                refine wpF_loadB hM67_6 #[.bool (bl), .slice Abk (bk).length cbk, .slice Abv (bv).length cbv, .slice Abc (bc).length cbc] (fun i v hi => (le51.trans cx67_6.le) _ _ _ (hc16 i v hi)) (h := (by kernel_rfl : opAt _ _ _ _ _ = some (Go.Op.load 22 (Go.Operand.tmp 52), some 53))) (off := 1) (by kernel_rfl) (.slice Abk (bk).length cbk) (by kernel_rfl) ?_
                refine wpF_end _ (by kernel_rfl) (then_n ?_)
                exact one_in (some 53) (by kernel_rfl) (.slice Abk (bk).length cbk) _ [(52, .pointer (some ⟨b10, 1, none⟩))] (seen_cons (Eq.trans (by kernel_rfl) hv5_V67_6) seen_nil) (by kernel_rfl) (VT.le.refl _) hM67_6 ((hG67_6 _ _).2 rfl)
              refine all_snoc (.inr ⟨by decide, fun S67_5 g67_5 V67_5 w67_5 F67_5 cx67_5 hM67_5 => ?_⟩) ?_
              · -- op 5
                refine wpF_seg 1 (by kernel_rfl) ?_
                refine wpF_end _ (by kernel_rfl) (then_n ?_)
                exact one_in (some 52) (by kernel_rfl) (.pointer (some ⟨b10, 1, none⟩)) _ [] seen_nil (by kernel_rfl) (VT.le.refl _) hM67_5 ((hG67_5 _ _).2 rfl)
              refine all_snoc (.inr ⟨by decide, fun S67_4 g67_4 V67_4 w67_4 F67_4 cx67_4 hM67_4 => ?_⟩) ?_
              · -- op 4
                obtain ⟨b59, o60, hv3_V67_4, at_b59, l62⟩ : ∃ b59 : Nat, ∃ o60 : Nat, g67_4 50 = .pointer (some ⟨b59, o60, none⟩) ∧ (At strK V67_4 b59 o60 ((ak.getD (i1) []))) ∧ ((ak.getD (i1) []).length ≤ 140737488355328) := (hG67_3 _ _).1 (cx67_4.fact 3 50 (by decide) (cx67_4.dep 3 (by kernel_rfl)) (by kernel_rfl))
                have c904061 : V67_4 b59 o60 = some (bs (ak.getD (i1) [])) := (At.str at_b59).1
                have l904062 : (ak.getD (i1) []).length ≤ 140737488355328 := (At.str at_b59).2
                refine wpF_see 50 (.pointer (some ⟨b59, o60, none⟩)) (Eq.trans (by kernel_rfl) hv3_V67_4) ?_
                refine wpF_loadV hM67_4 c904061 (h := (by kernel_rfl : opAt _ _ _ _ _ = some (Go.Op.load 9 (Go.Operand.tmp 50), some 51))) (by kernel_rfl) (by kernel_rfl) ?_
                refine wpF_end _ (by kernel_rfl) (then_n ?_)
                exact one_in (some 51) (by kernel_rfl) (bs ((ak.getD (i1) []))) _ [(50, .pointer (some ⟨b59, o60, none⟩))] (seen_cons (Eq.trans (by kernel_rfl) hv3_V67_4) seen_nil) (by kernel_rfl) (VT.le.refl _) hM67_4 ((hG67_4 _ _).2 ⟨rfl, l62⟩)
              refine all_snoc (.inr ⟨by decide, fun S67_3 g67_3 V67_3 w67_3 F67_3 cx67_3 hM67_3 => ?_⟩) ?_
              · -- op 3
                obtain hv1_V67_3 : g67_3 48 = .slice Aak (ak).length cak := (hG67_1 _ _).1 (cx67_3.fact 1 48 (by decide) (cx67_3.dep 1 (by kernel_rfl)) (by kernel_rfl))
                obtain hv2_V67_3 : g67_3 49 = .int .i64 ((i1 : Int)) := (hG67_2 _ _).1 (cx67_3.fact 2 49 (by decide) (cx67_3.dep 2 (by kernel_rfl)) (by kernel_rfl))
                refine wpF_see 48 (.slice Aak (ak).length cak) (Eq.trans (by kernel_rfl) hv1_V67_3) ?_
                refine wpF_see 49 (.int .i64 ((i1 : Int))) (Eq.trans (by kernel_rfl) hv2_V67_3) ?_
                refine wpF_index (A := Aak) (c := cak) (hak.up hM67_3.le) .i64 ((i1 : Int)) (h := (by kernel_rfl : opAt _ _ _ _ _ = some (Go.Op.indexAddr 22 (Go.Operand.tmp 48) (Go.Operand.tmp 49), some 50))) (e := 9) (by kernel_rfl) (by kernel_rfl) (by kernel_rfl) (i1) rfl (by omega) (fun b59 o60 at_b59 => ?_)
                have c61 : V67_3 b59 o60 = some (bs (ak.getD (i1) [])) := (At.str at_b59).1
                have l62 : (ak.getD (i1) []).length ≤ 140737488355328 := (At.str at_b59).2
                refine wpF_end _ (by kernel_rfl) (then_n ?_)
                exact one_in (some 50) (by kernel_rfl) (.pointer (some ⟨b59, o60, none⟩)) _ [(49, .int .i64 ((i1 : Int))), (48, .slice Aak (ak).length cak)] (seen_cons (Eq.trans (by kernel_rfl) hv2_V67_3) (seen_cons (Eq.trans (by kernel_rfl) hv1_V67_3) seen_nil)) (by kernel_rfl) (VT.le.refl _) hM67_3 ((hG67_3 _ _).2 ⟨b59, o60, rfl, at_b59, l62⟩)
              refine all_snoc (.inr ⟨by decide, fun S67_2 g67_2 V67_2 w67_2 F67_2 cx67_2 hM67_2 => ?_⟩) ?_
              · -- op 2
                refine wpF_seg 1 (by kernel_rfl) ?_
                refine wpF_end _ (by kernel_rfl) (then_n ?_)
                exact one_in (some 49) (by kernel_rfl) (.int .i64 ((i1 : Int))) _ [] seen_nil (by kernel_rfl) (VT.le.refl _) hM67_2 ((hG67_2 _ _).2 rfl)
              refine all_snoc (.inr ⟨by decide, fun S67_1 g67_1 V67_1 w67_1 F67_1 cx67_1 hM67_1 => ?_⟩) ?_
              · -- op 1
                obtain hv0_V67_1 : g67_1 47 = .pointer (some ⟨b2, 1, none⟩) := (hG67_0 _ _).1 (cx67_1.fact 0 47 (by decide) (cx67_1.dep 0 (by kernel_rfl)) (by kernel_rfl))
                refine wpF_see 47 (.pointer (some ⟨b2, 1, none⟩)) (Eq.trans (by kernel_rfl) hv0_V67_1) ?_
                refine wpF_loadB hM67_1 #[.bool (al), .slice Aak (ak).length cak, .slice Aav (av).length cav, .slice Aac (ac).length cac] (fun i v hi => ((le14.trans le51).trans cx67_1.le) _ _ _ (hc8 i v hi)) (h := (by kernel_rfl : opAt _ _ _ _ _ = some (Go.Op.load 22 (Go.Operand.tmp 47), some 48))) (off := 1) (by kernel_rfl) (.slice Aak (ak).length cak) (by kernel_rfl) ?_
                refine wpF_end _ (by kernel_rfl) (then_n ?_)
                exact one_in (some 48) (by kernel_rfl) (.slice Aak (ak).length cak) _ [(47, .pointer (some ⟨b2, 1, none⟩))] (seen_cons (Eq.trans (by kernel_rfl) hv0_V67_1) seen_nil) (by kernel_rfl) (VT.le.refl _) hM67_1 ((hG67_1 _ _).2 rfl)
              refine all_snoc (.inr ⟨by decide, fun S67_0 g67_0 V67_0 w67_0 F67_0 cx67_0 hM67_0 => ?_⟩) ?_
              · -- op 0
                refine wpF_seg 1 (by kernel_rfl) ?_
                refine wpF_end _ (by kernel_rfl) (then_n ?_)
                exact one_in (some 47) (by kernel_rfl) (.pointer (some ⟨b2, 1, none⟩)) _ [] seen_nil (by kernel_rfl) (VT.le.refl _) hM67_0 ((hG67_0 _ _).2 rfl)
              exact all_none
            · -- behind it
              intro ge67 Ve67 we67 hMe67 hle67 hf67
              refine wpF_stop (P := Try.prog) (ops := #[]) (i := 0) _ rfl ?_
              obtain hv0_Ve67 : ge67 47 = .pointer (some ⟨b2, 1, none⟩) := (hG67_0 _ _).1 (hf67 0 47 (by decide) (by kernel_rfl))
              obtain hv1_Ve67 : ge67 48 = .slice Aak (ak).length cak := (hG67_1 _ _).1 (hf67 1 48 (by decide) (by kernel_rfl))
              obtain hv2_Ve67 : ge67 49 = .int .i64 ((i1 : Int)) := (hG67_2 _ _).1 (hf67 2 49 (by decide) (by kernel_rfl))
              obtain ⟨b59, o60, hv3_Ve67, at_b59, l62⟩ : ∃ b59 : Nat, ∃ o60 : Nat, ge67 50 = .pointer (some ⟨b59, o60, none⟩) ∧ (At strK Ve67 b59 o60 ((ak.getD (i1) []))) ∧ ((ak.getD (i1) []).length ≤ 140737488355328) := (hG67_3 _ _).1 (hf67 3 50 (by decide) (by kernel_rfl))
              have c69 : Ve67 b59 o60 = some (bs (ak.getD (i1) [])) := (At.str at_b59).1
              have l70 : (ak.getD (i1) []).length ≤ 140737488355328 := (At.str at_b59).2
              obtain ⟨hv4_Ve67, l62⟩ : ge67 51 = bs ((ak.getD (i1) [])) ∧ ((ak.getD (i1) []).length ≤ 140737488355328) := (hG67_4 _ _).1 (hf67 4 51 (by decide) (by kernel_rfl))
              obtain hv5_Ve67 : ge67 52 = .pointer (some ⟨b10, 1, none⟩) := (hG67_5 _ _).1 (hf67 5 52 (by decide) (by kernel_rfl))
              obtain hv6_Ve67 : ge67 53 = .slice Abk (bk).length cbk := (hG67_6 _ _).1 (hf67 6 53 (by decide) (by kernel_rfl))
              obtain hv7_Ve67 : ge67 54 = .int .i64 ((i1 : Int)) := (hG67_7 _ _).1 (hf67 7 54 (by decide) (by kernel_rfl))
              obtain ⟨b63, o64, hv8_Ve67, at_b63, l66⟩ : ∃ b63 : Nat, ∃ o64 : Nat, ge67 55 = .pointer (some ⟨b63, o64, none⟩) ∧ (At strK Ve67 b63 o64 ((bk.getD (i1) []))) ∧ ((bk.getD (i1) []).length ≤ 140737488355328) := (hG67_8 _ _).1 (hf67 8 55 (by decide) (by kernel_rfl))
              have c71 : Ve67 b63 o64 = some (bs (bk.getD (i1) [])) := (At.str at_b63).1
              have l72 : (bk.getD (i1) []).length ≤ 140737488355328 := (At.str at_b63).2
              obtain ⟨hv9_Ve67, l66⟩ : ge67 56 = bs ((bk.getD (i1) [])) ∧ ((bk.getD (i1) []).length ≤ 140737488355328) := (hG67_9 _ _).1 (hf67 9 56 (by decide) (by kernel_rfl))
              obtain ⟨hv10_Ve67, l66, l62⟩ : ge67 57 = .bool (!(decide (((ak.getD (i1) [])) = ((bk.getD (i1) []))))) ∧ ((bk.getD (i1) []).length ≤ 140737488355328) ∧ ((ak.getD (i1) []).length ≤ 140737488355328) := (hG67_10 _ _).1 (hf67 10 57 (by decide) (by kernel_rfl))
              refine wpF_see 47 (.pointer (some ⟨b2, 1, none⟩)) (Eq.trans (by kernel_rfl) hv0_Ve67) ?_
              refine wpF_see 48 (.slice Aak (ak).length cak) (Eq.trans (by kernel_rfl) hv1_Ve67) ?_
              refine wpF_see 49 (.int .i64 ((i1 : Int))) (Eq.trans (by kernel_rfl) hv2_Ve67) ?_
              refine wpF_see 50 (.pointer (some ⟨b59, o60, none⟩)) (Eq.trans (by kernel_rfl) hv3_Ve67) ?_
              refine wpF_see 51 (bs ((ak.getD (i1) []))) (Eq.trans (by kernel_rfl) hv4_Ve67) ?_
              refine wpF_see 52 (.pointer (some ⟨b10, 1, none⟩)) (Eq.trans (by kernel_rfl) hv5_Ve67) ?_
              refine wpF_see 53 (.slice Abk (bk).length cbk) (Eq.trans (by kernel_rfl) hv6_Ve67) ?_
              refine wpF_see 54 (.int .i64 ((i1 : Int))) (Eq.trans (by kernel_rfl) hv7_Ve67) ?_
              refine wpF_see 55 (.pointer (some ⟨b63, o64, none⟩)) (Eq.trans (by kernel_rfl) hv8_Ve67) ?_
              refine wpF_see 56 (bs ((bk.getD (i1) []))) (Eq.trans (by kernel_rfl) hv9_Ve67) ?_
              refine wpF_see 57 (.bool (!(decide (((ak.getD (i1) [])) = ((bk.getD (i1) [])))))) (Eq.trans (by kernel_rfl) hv10_Ve67) ?_
              refine wpF_end _ (by kernel_rfl) (then_n (hK58 _ _ ?_))
              refine wp_if (!(decide (((ak.getD (i1) [])) = ((bk.getD (i1) []))))) (by kernel_rfl) (fun h74 => ?_) (fun h74 => ?_)
              · -- ffffLtt
                have h75 : decide (((ak.getD (i1) [])) = ((bk.getD (i1) []))) = false := by rw [← Bool.not_not (decide _), h74]; rfl
                have p76 : ¬ (((ak.getD (i1) [])) = ((bk.getD (i1) []))) := of_decide_eq_false h75
                refine wp_seq_k (fun K77 hK77 => ?_)
                refine wp_reg ?_
                refine wpF_seg 1 (by kernel_rfl) ?_
                refine wpF_end _ (by kernel_rfl) (then_n (hK77 _ _ ?_))
                refine wp_ret (blk_r (then_r (then_r (blk_r (then_r (?_))))))
                refine retN [.bool (false)] (.bool (false)) Try.results21 (.tmp (by kernel_rfl) (by kernel_rfl) .nil) (by kernel_rfl) (hRet _ _ ⟨_, _, rfl, hMe67.clear, ?_⟩)
                -- end ffffLtt
                first | exact congrArg Value.bool (decide_eq_true ⟨by assumption, ext_getD (d := []) (by omega) (by assumption), ext_getD (d := []) (by omega) (by assumption), ext_getD (d := 0) (by omega) (by assumption)⟩).symm | exact congrArg Value.bool (decide_eq_false (by rintro ⟨rfl, rfl, rfl, rfl⟩; first | omega | exact absurd rfl (by assumption) | contradiction)).symm
              · -- ffffLtf
                have h78 : decide (((ak.getD (i1) [])) = ((bk.getD (i1) []))) = true := by rw [← Bool.not_not (decide _), h74]; rfl
                have p79 : (((ak.getD (i1) [])) = ((bk.getD (i1) []))) := of_decide_eq_true h78
                refine wp_skip (blk_n (then_n (hK57 _ _ ?_)))
                refine wp_reg ?_
                refine wpF_seg 1 (by kernel_rfl) ?_
                refine wpF_add .i64 ((i1 : Int)) (1) ((i1 : Int) + 1) (h := (by kernel_rfl : opAt _ _ _ _ _ = some (Go.Op.binOp Go.BinOp.add 3 (Go.Operand.tmp 45) (Go.Operand.const (Go.Value.int Go.IntKind.i64 1)) 3, some 46))) (by kernel_rfl) (by kernel_rfl) (wrap64_ok _ (by omega)) ?_
                refine wpF_seg 1 (by kernel_rfl) ?_
                refine wpF_base [(2, .pointer (some ⟨b2, 0, none⟩)), (3, .pointer (some ⟨b10, 0, none⟩)), (5, .int .i64 ((i1 + 1 : Int)))] (by kernel_rfl) (fun g80 => ?_)
                refine wpF_end _ (by kernel_rfl) (then_n (hK52 _ _ (i1 + 1) (by omega) ?_))
                refine ⟨g80, Ve67, rfl, hMe67, (le51.trans hle67), ?_, ?_⟩
                · -- ffffLtf inv 0
                  omega
                · -- ffffLtf inv 1
                  exact eq_step (by assumption) (by assumption)
          · -- ffffLf
            have p81 : ¬ (((i1 : Int)) < ((ak.length : Int))) := of_decide_eq_false h55
            refine wp_exit (then_x (then_x (blk_hit (then_n (hK44 _ _ ?_)))))
            obtain rfl : i1 = ak.length := by omega
            refine wp_seq_k (fun K82 hK82 => ?_)
            refine wp_seq_k (fun K83 hK83 => ?_)
            refine wp_reg ?_
            refine wpF_seg 1 (by kernel_rfl) ?_
            refine wpF_end _ (by kernel_rfl) (then_n (hK83 _ _ ?_))
            refine wp_block ?_
            refine wp_base [(2, .pointer (some ⟨b2, 0, none⟩)), (3, .pointer (some ⟨b10, 0, none⟩)), (6, .int .i64 ((0 : Int)))] (by kernel_rfl) (fun g85 => ?_)
            refine wp_loopX (fun (x_ : Nat) a_ w_ => ∃ (g : Nat → Value) (V_ : VT), a_ = env 94 [(2, .pointer (some ⟨b2, 0, none⟩)), (3, .pointer (some ⟨b10, 0, none⟩)), (6, .int .i64 ((x_ : Int)))] g ∧ Step V w [] V_ w_ [] ∧ VT.le Vl46 V_ ∧ (x_ ≤ av.length) ∧ (∀ i, i < x_ → av.getD i [] = bv.getD i [])) (fun (x_ : Nat) => av.length - x_) (0) ⟨g85, Vl46, rfl, hM50, VT.le.refl _, by omega, by (intro i hi; omega)⟩ ?_
            rintro i2 a_ w87 ⟨g86, Vl84, rfl, hM88, le89, hi90_0, hi90_1⟩ K90 hK90
            refine wp_seq_k (fun K91 hK91 => ?_)
            refine wp_seq_k (fun K92 hK92 => ?_)
            refine wp_reg ?_
            refine wpF_seg 2 (by kernel_rfl) ?_
            refine wpF_loadB hM88 #[.bool (al), .slice Aak (ak).length cak, .slice Aav (av).length cav, .slice Aac (ac).length cac] (fun i v hi => ((le14.trans le51).trans le89) _ _ _ (hc8 i v hi)) (h := (by kernel_rfl : opAt _ _ _ _ _ = some (Go.Op.load 22 (Go.Operand.tmp 59), some 60))) (off := 2) (by kernel_rfl) (.slice Aav (av).length cav) (by kernel_rfl) ?_
            refine wpF_seg 2 (by kernel_rfl) ?_
            refine wpF_end _ (by kernel_rfl) (then_n (hK92 _ _ ?_))
            refine wp_if (decide (((i2 : Int)) < ((av.length : Int)))) (by kernel_rfl) (fun h93 => ?_) (fun h93 => ?_)
            · -- ffffLfLt
              have p94 : (((i2 : Int)) < ((av.length : Int))) := of_decide_eq_true h93
              refine wp_skip (then_n (hK91 _ _ ?_))
              refine wp_seq_k (fun K95 hK95 => ?_)
              refine wp_block ?_
              refine wp_seq_k (fun K96 hK96 => ?_)
              refine wp_base [(2, .pointer (some ⟨b2, 0, none⟩)), (3, .pointer (some ⟨b10, 0, none⟩)), (6, .int .i64 ((i2 : Int))), (58, .int .i64 ((i2 : Int))), (59, .pointer (some ⟨b2, 2, none⟩)), (60, .slice Aav (av).length cav), (61, .int .i64 ((av.length : Int))), (62, .bool (decide (((i2 : Int)) < ((av.length : Int)))))] (by kernel_rfl) (fun g0_105 => ?_)
              obtain ⟨G105, hGm105, hG105_0, hG105_1, hG105_2, hG105_3, hG105_4, hG105_5, hG105_6, hG105_7, hG105_8, hG105_9, hG105_10⟩ : ∃ G : Nat → Value → VT → Prop, (∀ j v V V', VT.le V V' → G j v V → G j v V') ∧ (∀ v_ V_, G 0 v_ V_ ↔ (v_ = .pointer (some ⟨b2, 2, none⟩))) ∧ (∀ v_ V_, G 1 v_ V_ ↔ (v_ = .slice Aav (av).length cav)) ∧ (∀ v_ V_, G 2 v_ V_ ↔ (v_ = .int .i64 ((i2 : Int)))) ∧ (∀ v_ V_, G 3 v_ V_ ↔ (∃ b97 : Nat, ∃ o98 : Nat, v_ = .pointer (some ⟨b97, o98, none⟩) ∧ (At strK V_ b97 o98 ((av.getD (i2) []))) ∧ ((av.getD (i2) []).length ≤ 140737488355328))) ∧ (∀ v_ V_, G 4 v_ V_ ↔ (v_ = bs ((av.getD (i2) [])) ∧ ((av.getD (i2) []).length ≤ 140737488355328))) ∧ (∀ v_ V_, G 5 v_ V_ ↔ (v_ = .pointer (some ⟨b10, 2, none⟩))) ∧ (∀ v_ V_, G 6 v_ V_ ↔ (v_ = .slice Abv (bv).length cbv)) ∧ (∀ v_ V_, G 7 v_ V_ ↔ (v_ = .int .i64 ((i2 : Int)))) ∧ (∀ v_ V_, G 8 v_ V_ ↔ (∃ b101 : Nat, ∃ o102 : Nat, v_ = .pointer (some ⟨b101, o102, none⟩) ∧ (At strK V_ b101 o102 ((bv.getD (i2) []))) ∧ ((bv.getD (i2) []).length ≤ 140737488355328))) ∧ (∀ v_ V_, G 9 v_ V_ ↔ (v_ = bs ((bv.getD (i2) [])) ∧ ((bv.getD (i2) []).length ≤ 140737488355328))) ∧ (∀ v_ V_, G 10 v_ V_ ↔ (v_ = .bool (!(decide (((av.getD (i2) [])) = ((bv.getD (i2) []))))) ∧ ((bv.getD (i2) []).length ≤ 140737488355328) ∧ ((av.getD (i2) []).length ≤ 140737488355328))) :=
                  ⟨mG [mV (.pointer (some ⟨b2, 2, none⟩)), mV (.slice Aav (av).length cav), mV (.int .i64 ((i2 : Int))), mE fun b97 : Nat => mE fun o98 : Nat => mN (mV (.pointer (some ⟨b97, o98, none⟩))) (mN (mA strK b97 o98 ((av.getD (i2) []))) (mP ((av.getD (i2) []).length ≤ 140737488355328))), mN (mV (bs ((av.getD (i2) [])))) (mP ((av.getD (i2) []).length ≤ 140737488355328)), mV (.pointer (some ⟨b10, 2, none⟩)), mV (.slice Abv (bv).length cbv), mV (.int .i64 ((i2 : Int))), mE fun b101 : Nat => mE fun o102 : Nat => mN (mV (.pointer (some ⟨b101, o102, none⟩))) (mN (mA strK b101 o102 ((bv.getD (i2) []))) (mP ((bv.getD (i2) []).length ≤ 140737488355328))), mN (mV (bs ((bv.getD (i2) [])))) (mP ((bv.getD (i2) []).length ≤ 140737488355328)), mN (mV (.bool (!(decide (((av.getD (i2) [])) = ((bv.getD (i2) []))))))) (mN (mP ((bv.getD (i2) []).length ≤ 140737488355328)) (mP ((av.getD (i2) []).length ≤ 140737488355328)))], mG_up _, fun _ _ => Iff.rfl, fun _ _ => Iff.rfl, fun _ _ => Iff.rfl, fun _ _ => Iff.rfl, fun _ _ => Iff.rfl, fun _ _ => Iff.rfl, fun _ _ => Iff.rfl, fun _ _ => Iff.rfl, fun _ _ => Iff.rfl, fun _ _ => Iff.rfl, fun _ _ => Iff.rfl⟩
              refine wp_drawG (L0 := [(2, .pointer (some ⟨b2, 0, none⟩)), (3, .pointer (some ⟨b10, 0, none⟩)), (6, .int .i64 ((i2 : Int))), (58, .int .i64 ((i2 : Int))), (59, .pointer (some ⟨b2, 2, none⟩)), (60, .slice Aav (av).length cav), (61, .int .i64 ((av.length : Int))), (62, .bool (decide (((i2 : Int)) < ((av.length : Int)))))]) 11 (by kernel_rfl) (by kernel_rfl) (by kernel_rfl) (by kernel_rfl) (by kernel_rfl) G105 hGm105 [] pre_nil (by kernel_rfl) [] (by kernel_rfl) (fun (S : Nat → Bool) (g : Nat → Value) => ([] : List Ent)) (fun _ _ _ _ _ => rfl) hM88 ?_ ?_
              · -- the operations
                refine all_snoc (.inr ⟨by decide, fun S105_10 g105_10 V105_10 w105_10 F105_10 cx105_10 hM105_10 => ?_⟩) ?_
                · -- op 10
                  obtain ⟨hv4_V105_10, l100⟩ : g105_10 69 = bs ((av.getD (i2) [])) ∧ ((av.getD (i2) []).length ≤ 140737488355328) := (hG105_4 _ _).1 (cx105_10.fact 4 69 (by decide) (cx105_10.dep 4 (by kernel_rfl)) (by kernel_rfl))
                  obtain ⟨hv9_V105_10, l104⟩ : g105_10 74 = bs ((bv.getD (i2) [])) ∧ ((bv.getD (i2) []).length ≤ 140737488355328) := (hG105_9 _ _).1 (cx105_10.fact 9 74 (by decide) (cx105_10.dep 9 (by kernel_rfl)) (by kernel_rfl))
                  refine wpF_see 69 (bs ((av.getD (i2) []))) (Eq.trans (by kernel_rfl) hv4_V105_10) ?_
                  refine wpF_see 74 (bs ((bv.getD (i2) []))) (Eq.trans (by kernel_rfl) hv9_V105_10) ?_
                  refine wpF_seg 1 (by kernel_rfl) ?_
                  refine wpF_end _ (by kernel_rfl) (then_n ?_)
                  exact one_in (some 75) (by kernel_rfl) (.bool (!(decide (((av.getD (i2) [])) = ((bv.getD (i2) [])))))) _ [(74, bs ((bv.getD (i2) []))), (69, bs ((av.getD (i2) [])))] (seen_cons (Eq.trans (by kernel_rfl) hv9_V105_10) (seen_cons (Eq.trans (by kernel_rfl) hv4_V105_10) seen_nil)) (by kernel_rfl) (VT.le.refl _) hM105_10 ((hG105_10 _ _).2 ⟨rfl, l104, l100⟩)
                refine all_snoc (.inr ⟨by decide, fun S105_9 g105_9 V105_9 w105_9 F105_9 cx105_9 hM105_9 => ?_⟩) ?_
                · -- op 9
                  obtain ⟨b101, o102, hv8_V105_9, at_b101, l104⟩ : ∃ b101 : Nat, ∃ o102 : Nat, g105_9 73 = .pointer (some ⟨b101, o102, none⟩) ∧ (At strK V105_9 b101 o102 ((bv.getD (i2) []))) ∧ ((bv.getD (i2) []).length ≤ 140737488355328) := (hG105_8 _ _).1 (cx105_9.fact 8 73 (by decide) (cx105_9.dep 8 (by kernel_rfl)) (by kernel_rfl))
                  have c909161 : V105_9 b101 o102 = some (bs (bv.getD (i2) [])) := (At.str at_b101).1
                  have l909162 : (bv.getD (i2) []).length ≤ 140737488355328 := (At.str at_b101).2
                  refine wpF_see 73 (.pointer (some ⟨b101, o102, none⟩)) (Eq.trans (by kernel_rfl) hv8_V105_9) ?_
                  refine wpF_loadV hM105_9 c909161 (h := (by kernel_rfl : opAt _ _ _ _ _ = some (Go.Op.load 9 (Go.Operand.tmp 73), some 74))) (by kernel_rfl) (by kernel_rfl) ?_
                  refine wpF_end _ (by kernel_rfl) (then_n ?_)
                  exact one_in (some 74) (by kernel_rfl) (bs ((bv.getD (i2) []))) _ [(73, .pointer (some ⟨b101, o102, none⟩))] (seen_cons (Eq.trans (by kernel_rfl) hv8_V105_9) seen_nil) (by kernel_rfl) (VT.le.refl _) hM105_9 ((hG105_9 _ _).2 ⟨rfl, l104⟩)
                refine all_snoc (.inr ⟨by decide, fun S105_8 g105_8 V105_8 w105_8 F105_8 cx105_8 hM105_8 => ?_⟩) ?_
                · -- op 8
                  obtain hv6_V105_8 : g105_8 71 = .slice Abv (bv).length cbv := (hG105_6 _ _).1 (cx105_8.fact 6 71 (by decide) (cx105_8.dep 6 (by kernel_rfl)) (by kernel_rfl))
                  obtain hv7_V105_8 : g105_8 72 = .int .i64 ((i2 : Int)) := (hG105_7 _ _).1 (cx105_8.fact 7 72 (by decide) (cx105_8.dep 7 (by kernel_rfl)) (by kernel_rfl))
                  refine wpF_see 71 (.slice Abv (bv).length cbv) (Eq.trans (by kernel_rfl) hv6_V105_8) ?_
                  refine wpF_see 72 (.int .i64 ((i2 : Int))) (Eq.trans (by kernel_rfl) hv7_V105_8) ?_
                  refine wpF_index (A := Abv) (c := cbv) (hbv.up hM105_8.le) .i64 ((i2 : Int)) (h := (by kernel_rfl : opAt _ _ _ _ _ = some (Go.Op.indexAddr 22 (Go.Operand.tmp 71) (Go.Operand.tmp 72), some 73))) (e := 9) (by kernel_rfl) (by kernel_rfl) (by kernel_rfl) (i2) rfl (by omega) (fun b101 o102 at_b101 => ?_)
                  have c103 : V105_8 b101 o102 = some (bs (bv.getD (i2) [])) := (At.str at_b101).1
                  have l104 : (bv.getD (i2) []).length ≤ 140737488355328 := (At.str at_b101).2
                  refine wpF_end _ (by kernel_rfl) (then_n ?_)
                  exact one_in (some 73) (by kernel_rfl) (.pointer (some ⟨b101, o102, none⟩)) _ [(72, .int .i64 ((i2 : Int))), (71, .slice Abv (bv).length cbv)] (seen_cons (Eq.trans (by kernel_rfl) hv7_V105_8) (seen_cons (Eq.trans (by kernel_rfl) hv6_V105_8) seen_nil)) (by kernel_rfl) (VT.le.refl _) hM105_8 ((hG105_8 _ _).2 ⟨b101, o102, rfl, at_b101, l104⟩)
                refine all_snoc (.inr ⟨by decide, fun S105_7 g105_7 V105_7 w105_7 F105_7 cx105_7 hM105_7 => ?_⟩) ?_
                · -- op 7
                  refine wpF_seg 1 (by kernel_rfl) ?_
                  refine wpF_end _ (by kernel_rfl) (then_n ?_)
                  exact one_in (some 72) (by kernel_rfl) (.int .i64 ((i2 : Int))) _ [] seen_nil (by kernel_rfl) (VT.le.refl _) hM105_7 ((hG105_7 _ _).2 rfl)
                refine all_snoc (.inr ⟨by decide, fun S105_6 g105_6 V105_6 w105_6 F105_6 cx105_6 hM105_6 => ?_⟩) ?_
                · -- op 6
                  obtain hv5_V105_6 : g105_6 70 = .pointer (some ⟨b10, 2, none⟩) := (hG105_5 _ _).1 (cx105_6.fact 5 70 (by decide) (cx105_6.dep 5 (by kernel_rfl)) (by kernel_rfl))
                  refine wpF_see 70 (.pointer (some ⟨b10, 2, none⟩)) (Eq.trans (by kernel_rfl) hv5_V105_6) ?_
                  refine wpF_loadB hM105_6 #[.bool (bl), .slice Abk (bk).length cbk, .slice Abv (bv).length cbv, .slice Abc (bc).length cbc] (fun i v hi => ((le51.trans le89).trans cx105_6.le) _ _ _ (hc16 i v hi)) (h := (by kernel_rfl : opAt _ _ _ _ _ = some (Go.Op.load 22 (Go.Operand.tmp 70), some 71))) (off := 2) (by kernel_rfl) (.slice Abv (bv).length cbv) (by kernel_rfl) ?_
                  refine wpF_end _ (by kernel_rfl) (then_n ?_)
                  exact one_in (some 71) (by kernel_rfl) (.slice Abv (bv).length cbv) _ [(70, .pointer (some ⟨b10, 2, none⟩))] (seen_cons (Eq.trans (by kernel_rfl) hv5_V105_6) seen_nil) (by kernel_rfl) (VT.le.refl _) hM105_6 ((hG105_6 _ _).2 rfl)
                refine all_snoc (.inr ⟨by decide, fun S105_5 g105_5 V105_5 w105_5 F105_5 cx105_5 hM105_5 => ?_⟩) ?_
                · -- op 5
                  refine wpF_seg 1 (by kernel_rfl) ?_
                  refine wpF_end _ (by kernel_rfl) (then_n ?_)
                  exact one_in (some 70) (by kernel_rfl) (.pointer (some ⟨b10, 2, none⟩)) _ [] seen_nil (by kernel_rfl) (VT.le.refl _) hM105_5 ((hG105_5 _ _).2 rfl)
                refine all_snoc (.inr ⟨by decide, fun S105_4 g105_4 V105_4 w105_4 F105_4 cx105_4 hM105_4 => ?_⟩) ?_
                · -- op 4
                  obtain ⟨b97, o98, hv3_V105_4, at_b97, l100⟩ : ∃ b97 : Nat, ∃ o98 : Nat, g105_4 68 = .pointer (some ⟨b97, o98, none⟩) ∧ (At strK V105_4 b97 o98 ((av.getD (i2) []))) ∧ ((av.getD (i2) []).length ≤ 140737488355328) := (hG105_3 _ _).1 (cx105_4.fact 3 68 (by decide) (cx105_4.dep 3 (by kernel_rfl)) (by kernel_rfl))
                  have c904061 : V105_4 b97 o98 = some (bs (av.getD (i2) [])) := (At.str at_b97).1
                  have l904062 : (av.getD (i2) []).length ≤ 140737488355328 := (At.str at_b97).2
                  refine wpF_see 68 (.pointer (some ⟨b97, o98, none⟩)) (Eq.trans (by kernel_rfl) hv3_V105_4) ?_
                  refine wpF_loadV hM105_4 c904061 (h := (by kernel_rfl : opAt _ _ _ _ _ = some (Go.Op.load 9 (Go.Operand.tmp 68), some 69))) (by kernel_rfl) (by kernel_rfl) ?_
                  refine wpF_end _ (by kernel_rfl) (then_n ?_)
                  exact one_in (some 69) (by kernel_rfl) (bs ((av.getD (i2) []))) _ [(68, .pointer (some ⟨b97, o98, none⟩))] (seen_cons (Eq.trans (by kernel_rfl) hv3_V105_4) seen_nil) (by kernel_rfl) (VT.le.refl _) hM105_4 ((hG105_4 _ _).2 ⟨rfl, l100⟩)
                refine all_snoc (.inr ⟨by decide, fun S105_3 g105_3 V105_3 w105_3 F105_3 cx105_3 hM105_3 => ?_⟩) ?_
                · -- op 3
                  obtain hv1_V105_3 : g105_3 66 = .slice Aav (av).length cav := (hG105_1 _ _).1 (cx105_3.fact 1 66 (by decide) (cx105_3.dep 1 (by kernel_rfl)) (by kernel_rfl))
                  obtain hv2_V105_3 : g105_3 67 = .int .i64 ((i2 : Int)) := (hG105_2 _ _).1 (cx105_3.fact 2 67 (by decide) (cx105_3.dep 2 (by kernel_rfl)) (by kernel_rfl))
                  refine wpF_see 66 (.slice Aav (av).length cav) (Eq.trans (by kernel_rfl) hv1_V105_3) ?_
                  refine wpF_see 67 (.int .i64 ((i2 : Int))) (Eq.trans (by kernel_rfl) hv2_V105_3) ?_
                  refine wpF_index (A := Aav) (c := cav) (hav.up hM105_3.le) .i64 ((i2 : Int)) (h := (by kernel_rfl : opAt _ _ _ _ _ = some (Go.Op.indexAddr 22 (Go.Operand.tmp 66) (Go.Operand.tmp 67), some 68))) (e := 9) (by kernel_rfl) (by kernel_rfl) (by kernel_rfl) (i2) rfl (by omega) (fun b97 o98 at_b97 => ?_)
                  have c99 : V105_3 b97 o98 = some (bs (av.getD (i2) [])) := (At.str at_b97).1
                  have l100 : (av.getD (i2) []).length ≤ 140737488355328 := (At.str at_b97).2
                  refine wpF_end _ (by kernel_rfl) (then_n ?_)
                  exact one_in (some 68) (by kernel_rfl) (.pointer (some ⟨b97, o98, none⟩)) _ [(67, .int .i64 ((i2 : Int))), (66, .slice Aav (av).length cav)] (seen_cons (Eq.trans (by kernel_rfl) hv2_V105_3) (seen_cons (Eq.trans (by kernel_rfl) hv1_V105_3) seen_nil)) (by kernel_rfl) (VT.le.refl _) hM105_3 ((hG105_3 _ _).2 ⟨b97, o98, rfl, at_b97, l100⟩)
                refine all_snoc (.inr ⟨by decide, fun S105_2 g105_2 V105_2 w105_2 F105_2 cx105_2 hM105_2 => ?_⟩) ?_
                · -- op 2
                  refine wpF_seg 1 (by kernel_rfl) ?_
                  refine wpF_end _ (by kernel_rfl) (then_n ?_)
                  exact one_in (some 67) (by kernel_rfl) (.int .i64 ((i2 : Int))) _ [] seen_nil (by kernel_rfl) (VT.le.refl _) hM105_2 ((hG105_2 _ _).2 rfl)
                refine all_snoc (.inr ⟨by decide, fun S105_1 g105_1 V105_1 w105_1 F105_1 cx105_1 hM105_1 => ?_⟩) ?_
                · -- op 1
                  obtain hv0_V105_1 : g105_1 65 = .pointer (some ⟨b2, 2, none⟩) := (hG105_0 _ _).1 (cx105_1.fact 0 65 (by decide) (cx105_1.dep 0 (by kernel_rfl)) (by kernel_rfl))
                  refine wpF_see 65 (.pointer (some ⟨b2, 2, none⟩)) (Eq.trans (by kernel_rfl) hv0_V105_1) ?_
                  refine wpF_loadB hM105_1 #[.bool (al), .slice Aak (ak).length cak, .slice Aav (av).length cav, .slice Aac (ac).length cac] (fun i v hi => (((le14.trans le51).trans le89).trans cx105_1.le) _ _ _ (hc8 i v hi)) (h := (by kernel_rfl : opAt _ _ _ _ _ = some (Go.Op.load 22 (Go.Operand.tmp 65), some 66))) (off := 2) (by kernel_rfl) (.slice Aav (av).length cav) (by kernel_rfl) ?_
                  refine wpF_end _ (by kernel_rfl) (then_n ?_)
                  exact one_in (some 66) (by kernel_rfl) (.slice Aav (av).length cav) _ [(65, .pointer (some ⟨b2, 2, none⟩))] (seen_cons (Eq.trans (by kernel_rfl) hv0_V105_1) seen_nil) (by kernel_rfl) (VT.le.refl _) hM105_1 ((hG105_1 _ _).2 rfl)
                refine all_snoc (.inr ⟨by decide, fun S105_0 g105_0 V105_0 w105_0 F105_0 cx105_0 hM105_0 => ?_⟩) ?_
                · -- op 0
                  refine wpF_seg 1 (by kernel_rfl) ?_
                  refine wpF_end _ (by kernel_rfl) (then_n ?_)
                  exact one_in (some 65) (by kernel_rfl) (.pointer (some ⟨b2, 2, none⟩)) _ [] seen_nil (by kernel_rfl) (VT.le.refl _) hM105_0 ((hG105_0 _ _).2 rfl)
                exact all_none
              · -- behind it
                intro ge105 Ve105 we105 hMe105 hle105 hf105
                refine wpF_stop (P := Try.prog) (ops := #[]) (i := 0) _ rfl ?_
                obtain hv0_Ve105 : ge105 65 = .pointer (some ⟨b2, 2, none⟩) := (hG105_0 _ _).1 (hf105 0 65 (by decide) (by kernel_rfl))
                obtain hv1_Ve105 : ge105 66 = .slice Aav (av).length cav := (hG105_1 _ _).1 (hf105 1 66 (by decide) (by kernel_rfl))
                obtain hv2_Ve105 : ge105 67 = .int .i64 ((i2 : Int)) := (hG105_2 _ _).1 (hf105 2 67 (by decide) (by kernel_rfl))
                obtain ⟨b97, o98, hv3_Ve105, at_b97, l100⟩ : ∃ b97 : Nat, ∃ o98 : Nat, ge105 68 = .pointer (some ⟨b97, o98, none⟩) ∧ (At strK Ve105 b97 o98 ((av.getD (i2) []))) ∧ ((av.getD (i2) []).length ≤ 140737488355328) := (hG105_3 _ _).1 (hf105 3 68 (by decide) (by kernel_rfl))
                have c107 : Ve105 b97 o98 = some (bs (av.getD (i2) [])) := (At.str at_b97).1
                have l108 : (av.getD (i2) []).length ≤ 140737488355328 := (At.str at_b97).2
                obtain ⟨hv4_Ve105, l100⟩ : ge105 69 = bs ((av.getD (i2) [])) ∧ ((av.getD (i2) []).length ≤ 140737488355328) := (hG105_4 _ _).1 (hf105 4 69 (by decide) (by kernel_rfl))
                obtain hv5_Ve105 : ge105 70 = .pointer (some ⟨b10, 2, none⟩) := (hG105_5 _ _).1 (hf105 5 70 (by decide) (by kernel_rfl))
                obtain hv6_Ve105 : ge105 71 = .slice Abv (bv).length cbv := (hG105_6 _ _).1 (hf105 6 71 (by decide) (by kernel_rfl))
                obtain hv7_Ve105 : ge105 72 = .int .i64 ((i2 : Int)) := (hG105_7 _ _).1 (hf105 7 72 (by decide) (by kernel_rfl))
                obtain ⟨b101, o102, hv8_Ve105, at_b101, l104⟩ : ∃ b101 : Nat, ∃ o102 : Nat, ge105 73 = .pointer (some ⟨b101, o102, none⟩) ∧ (At strK Ve105 b101 o102 ((bv.getD (i2) []))) ∧ ((bv.getD (i2) []).length ≤ 140737488355328) := (hG105_8 _ _).1 (hf105 8 73 (by decide) (by kernel_rfl))
                have c109 : Ve105 b101 o102 = some (bs (bv.getD (i2) [])) := (At.str at_b101).1
                have l110 : (bv.getD (i2) []).length ≤ 140737488355328 := (At.str at_b101).2
                obtain ⟨hv9_Ve105, l104⟩ : ge105 74 = bs ((bv.getD (i2) [])) ∧ ((bv.getD (i2) []).length ≤ 140737488355328) := (hG105_9 _ _).1 (hf105 9 74 (by decide) (by kernel_rfl))
                obtain ⟨hv10_Ve105, l104, l100⟩ : ge105 75 = .bool (!(decide (((av.getD (i2) [])) = ((bv.getD (i2) []))))) ∧ ((bv.getD (i2) []).length ≤ 140737488355328) ∧ ((av.getD (i2) []).length ≤ 140737488355328) := (hG105_10 _ _).1 (hf105 10 75 (by decide) (by kernel_rfl))
                refine wpF_see 65 (.pointer (some ⟨b2, 2, none⟩)) (Eq.trans (by kernel_rfl) hv0_Ve105) ?_
                refine wpF_see 66 (.slice Aav (av).length cav) (Eq.trans (by kernel_rfl) hv1_Ve105) ?_
                refine wpF_see 67 (.int .i64 ((i2 : Int))) (Eq.trans (by kernel_rfl) hv2_Ve105) ?_
                refine wpF_see 68 (.pointer (some ⟨b97, o98, none⟩)) (Eq.trans (by kernel_rfl) hv3_Ve105) ?_
                refine wpF_see 69 (bs ((av.getD (i2) []))) (Eq.trans (by kernel_rfl) hv4_Ve105) ?_
                refine wpF_see 70 (.pointer (some ⟨b10, 2, none⟩)) (Eq.trans (by kernel_rfl) hv5_Ve105) ?_
                refine wpF_see 71 (.slice Abv (bv).length cbv) (Eq.trans (by kernel_rfl) hv6_Ve105) ?_
                refine wpF_see 72 (.int .i64 ((i2 : Int))) (Eq.trans (by kernel_rfl) hv7_Ve105) ?_
                refine wpF_see 73 (.pointer (some ⟨b101, o102, none⟩)) (Eq.trans (by kernel_rfl) hv8_Ve105) ?_
                refine wpF_see 74 (bs ((bv.getD (i2) []))) (Eq.trans (by kernel_rfl) hv9_Ve105) ?_
                refine wpF_see 75 (.bool (!(decide (((av.getD (i2) [])) = ((bv.getD (i2) [])))))) (Eq.trans (by kernel_rfl) hv10_Ve105) ?_
                refine wpF_end _ (by kernel_rfl) (then_n (hK96 _ _ ?_))
                refine wp_if (!(decide (((av.getD (i2) [])) = ((bv.getD (i2) []))))) (by kernel_rfl) (fun h112 => ?_) (fun h112 => ?_)
                · -- ffffLfLtt
                  have h113 : decide (((av.getD (i2) [])) = ((bv.getD (i2) []))) = false := by rw [← Bool.not_not (decide _), h112]; rfl
                  have p114 : ¬ (((av.getD (i2) [])) = ((bv.getD (i2) []))) := of_decide_eq_false h113
                  refine wp_seq_k (fun K115 hK115 => ?_)
                  refine wp_reg ?_
                  refine wpF_seg 1 (by kernel_rfl) ?_
                  refine wpF_end _ (by kernel_rfl) (then_n (hK115 _ _ ?_))
                  refine wp_ret (blk_r (then_r (then_r (blk_r (then_r (?_))))))
                  refine retN [.bool (false)] (.bool (false)) Try.results21 (.tmp (by kernel_rfl) (by kernel_rfl) .nil) (by kernel_rfl) (hRet _ _ ⟨_, _, rfl, hMe105.clear, ?_⟩)
                  -- end ffffLfLtt
                  first | exact congrArg Value.bool (decide_eq_true ⟨by assumption, ext_getD (d := []) (by omega) (by assumption), ext_getD (d := []) (by omega) (by assumption), ext_getD (d := 0) (by omega) (by assumption)⟩).symm | exact congrArg Value.bool (decide_eq_false (by rintro ⟨rfl, rfl, rfl, rfl⟩; first | omega | exact absurd rfl (by assumption) | contradiction)).symm
                · -- ffffLfLtf
                  have h116 : decide (((av.getD (i2) [])) = ((bv.getD (i2) []))) = true := by rw [← Bool.not_not (decide _), h112]; rfl
                  have p117 : (((av.getD (i2) [])) = ((bv.getD (i2) []))) := of_decide_eq_true h116
                  refine wp_skip (blk_n (then_n (hK95 _ _ ?_)))
                  refine wp_reg ?_
                  refine wpF_seg 1 (by kernel_rfl) ?_
                  refine wpF_add .i64 ((i2 : Int)) (1) ((i2 : Int) + 1) (h := (by kernel_rfl : opAt _ _ _ _ _ = some (Go.Op.binOp Go.BinOp.add 3 (Go.Operand.tmp 63) (Go.Operand.const (Go.Value.int Go.IntKind.i64 1)) 3, some 64))) (by kernel_rfl) (by kernel_rfl) (wrap64_ok _ (by omega)) ?_
                  refine wpF_seg 1 (by kernel_rfl) ?_
                  refine wpF_base [(2, .pointer (some ⟨b2, 0, none⟩)), (3, .pointer (some ⟨b10, 0, none⟩)), (6, .int .i64 ((i2 + 1 : Int)))] (by kernel_rfl) (fun g118 => ?_)
                  refine wpF_end _ (by kernel_rfl) (then_n (hK90 _ _ (i2 + 1) (by omega) ?_))
                  refine ⟨g118, Ve105, rfl, hMe105, (le89.trans hle105), ?_, ?_⟩
                  · -- ffffLfLtf inv 0
                    omega
                  · -- ffffLfLtf inv 1
                    exact eq_step (by assumption) (by assumption)
            · -- ffffLfLf
              have p119 : ¬ (((i2 : Int)) < ((av.length : Int))) := of_decide_eq_false h93
              refine wp_exit (then_x (then_x (blk_hit (then_n (hK82 _ _ ?_)))))
              obtain rfl : i2 = av.length := by omega
              refine wp_seq_k (fun K120 hK120 => ?_)
              refine wp_seq_k (fun K121 hK121 => ?_)
              refine wp_reg ?_
              refine wpF_seg 1 (by kernel_rfl) ?_
              refine wpF_end _ (by kernel_rfl) (then_n (hK121 _ _ ?_))
              refine wp_block ?_
              refine wp_base [(2, .pointer (some ⟨b2, 0, none⟩)), (3, .pointer (some ⟨b10, 0, none⟩)), (7, .int .i64 ((0 : Int)))] (by kernel_rfl) (fun g123 => ?_)
              refine wp_loopX (fun (x_ : Nat) a_ w_ => ∃ (g : Nat → Value) (V_ : VT), a_ = env 94 [(2, .pointer (some ⟨b2, 0, none⟩)), (3, .pointer (some ⟨b10, 0, none⟩)), (7, .int .i64 ((x_ : Int)))] g ∧ Step V w [] V_ w_ [] ∧ VT.le Vl84 V_ ∧ (x_ ≤ ac.length) ∧ (∀ i, i < x_ → ac.getD i 0 = bc.getD i 0)) (fun (x_ : Nat) => ac.length - x_) (0) ⟨g123, Vl84, rfl, hM88, VT.le.refl _, by omega, by (intro i hi; omega)⟩ ?_
              rintro i3 a_ w125 ⟨g124, Vl122, rfl, hM126, le127, hi128_0, hi128_1⟩ K128 hK128
              refine wp_seq_k (fun K129 hK129 => ?_)
              refine wp_seq_k (fun K130 hK130 => ?_)
              refine wp_reg ?_
              refine wpF_seg 2 (by kernel_rfl) ?_
              refine wpF_loadB hM126 #[.bool (al), .slice Aak (ak).length cak, .slice Aav (av).length cav, .slice Aac (ac).length cac] (fun i v hi => (((le14.trans le51).trans le89).trans le127) _ _ _ (hc8 i v hi)) (h := (by kernel_rfl : opAt _ _ _ _ _ = some (Go.Op.load 23 (Go.Operand.tmp 77), some 78))) (off := 3) (by kernel_rfl) (.slice Aac (ac).length cac) (by kernel_rfl) ?_
              refine wpF_seg 2 (by kernel_rfl) ?_
              refine wpF_end _ (by kernel_rfl) (then_n (hK130 _ _ ?_))
              refine wp_if (decide (((i3 : Int)) < ((ac.length : Int)))) (by kernel_rfl) (fun h131 => ?_) (fun h131 => ?_)
              · -- ffffLfLfLt
                have p132 : (((i3 : Int)) < ((ac.length : Int))) := of_decide_eq_true h131
                refine wp_skip (then_n (hK129 _ _ ?_))
                refine wp_seq_k (fun K133 hK133 => ?_)
                refine wp_block ?_
                refine wp_seq_k (fun K134 hK134 => ?_)
                refine wp_base [(2, .pointer (some ⟨b2, 0, none⟩)), (3, .pointer (some ⟨b10, 0, none⟩)), (7, .int .i64 ((i3 : Int))), (76, .int .i64 ((i3 : Int))), (77, .pointer (some ⟨b2, 3, none⟩)), (78, .slice Aac (ac).length cac), (79, .int .i64 ((ac.length : Int))), (80, .bool (decide (((i3 : Int)) < ((ac.length : Int)))))] (by kernel_rfl) (fun g0_143 => ?_)
                obtain ⟨G143, hGm143, hG143_0, hG143_1, hG143_2, hG143_3, hG143_4, hG143_5, hG143_6, hG143_7, hG143_8, hG143_9, hG143_10⟩ : ∃ G : Nat → Value → VT → Prop, (∀ j v V V', VT.le V V' → G j v V → G j v V') ∧ (∀ v_ V_, G 0 v_ V_ ↔ (v_ = .pointer (some ⟨b2, 3, none⟩))) ∧ (∀ v_ V_, G 1 v_ V_ ↔ (v_ = .slice Aac (ac).length cac)) ∧ (∀ v_ V_, G 2 v_ V_ ↔ (v_ = .int .i64 ((i3 : Int)))) ∧ (∀ v_ V_, G 3 v_ V_ ↔ (∃ b135 : Nat, ∃ o136 : Nat, v_ = .pointer (some ⟨b135, o136, none⟩) ∧ (At (intK .i64) V_ b135 o136 ((ac.getD (i3) 0))) ∧ (IntKind.i64.min ≤ (ac.getD (i3) 0) ∧ (ac.getD (i3) 0) ≤ IntKind.i64.max))) ∧ (∀ v_ V_, G 4 v_ V_ ↔ (v_ = .int .i64 ((ac.getD (i3) 0)) ∧ (IntKind.i64.min ≤ (ac.getD (i3) 0) ∧ (ac.getD (i3) 0) ≤ IntKind.i64.max))) ∧ (∀ v_ V_, G 5 v_ V_ ↔ (v_ = .pointer (some ⟨b10, 3, none⟩))) ∧ (∀ v_ V_, G 6 v_ V_ ↔ (v_ = .slice Abc (bc).length cbc)) ∧ (∀ v_ V_, G 7 v_ V_ ↔ (v_ = .int .i64 ((i3 : Int)))) ∧ (∀ v_ V_, G 8 v_ V_ ↔ (∃ b139 : Nat, ∃ o140 : Nat, v_ = .pointer (some ⟨b139, o140, none⟩) ∧ (At (intK .i64) V_ b139 o140 ((bc.getD (i3) 0))) ∧ (IntKind.i64.min ≤ (bc.getD (i3) 0) ∧ (bc.getD (i3) 0) ≤ IntKind.i64.max))) ∧ (∀ v_ V_, G 9 v_ V_ ↔ (v_ = .int .i64 ((bc.getD (i3) 0)) ∧ (IntKind.i64.min ≤ (bc.getD (i3) 0) ∧ (bc.getD (i3) 0) ≤ IntKind.i64.max))) ∧ (∀ v_ V_, G 10 v_ V_ ↔ (v_ = .bool (!(decide (((ac.getD (i3) 0)) = ((bc.getD (i3) 0))))) ∧ (IntKind.i64.min ≤ (bc.getD (i3) 0) ∧ (bc.getD (i3) 0) ≤ IntKind.i64.max) ∧ (IntKind.i64.min ≤ (ac.getD (i3) 0) ∧ (ac.getD (i3) 0) ≤ IntKind.i64.max))) :=
                    ⟨mG [mV (.pointer (some ⟨b2, 3, none⟩)), mV (.slice Aac (ac).length cac), mV (.int .i64 ((i3 : Int))), mE fun b135 : Nat => mE fun o136 : Nat => mN (mV (.pointer (some ⟨b135, o136, none⟩))) (mN (mA (intK .i64) b135 o136 ((ac.getD (i3) 0))) (mP (IntKind.i64.min ≤ (ac.getD (i3) 0) ∧ (ac.getD (i3) 0) ≤ IntKind.i64.max))), mN (mV (.int .i64 ((ac.getD (i3) 0)))) (mP (IntKind.i64.min ≤ (ac.getD (i3) 0) ∧ (ac.getD (i3) 0) ≤ IntKind.i64.max)), mV (.pointer (some ⟨b10, 3, none⟩)), mV (.slice Abc (bc).length cbc), mV (.int .i64 ((i3 : Int))), mE fun b139 : Nat => mE fun o140 : Nat => mN (mV (.pointer (some ⟨b139, o140, none⟩))) (mN (mA (intK .i64) b139 o140 ((bc.getD (i3) 0))) (mP (IntKind.i64.min ≤ (bc.getD (i3) 0) ∧ (bc.getD (i3) 0) ≤ IntKind.i64.max))), mN (mV (.int .i64 ((bc.getD (i3) 0)))) (mP (IntKind.i64.min ≤ (bc.getD (i3) 0) ∧ (bc.getD (i3) 0) ≤ IntKind.i64.max)), mN (mV (.bool (!(decide (((ac.getD (i3) 0)) = ((bc.getD (i3) 0))))))) (mN (mP (IntKind.i64.min ≤ (bc.getD (i3) 0) ∧ (bc.getD (i3) 0) ≤ IntKind.i64.max)) (mP (IntKind.i64.min ≤ (ac.getD (i3) 0) ∧ (ac.getD (i3) 0) ≤ IntKind.i64.max)))], mG_up _, fun _ _ => Iff.rfl, fun _ _ => Iff.rfl, fun _ _ => Iff.rfl, fun _ _ => Iff.rfl, fun _ _ => Iff.rfl, fun _ _ => Iff.rfl, fun _ _ => Iff.rfl, fun _ _ => Iff.rfl, fun _ _ => Iff.rfl, fun _ _ => Iff.rfl, fun _ _ => Iff.rfl⟩
                refine wp_drawG (L0 := [(2, .pointer (some ⟨b2, 0, none⟩)), (3, .pointer (some ⟨b10, 0, none⟩)), (7, .int .i64 ((i3 : Int))), (76, .int .i64 ((i3 : Int))), (77, .pointer (some ⟨b2, 3, none⟩)), (78, .slice Aac (ac).length cac), (79, .int .i64 ((ac.length : Int))), (80, .bool (decide (((i3 : Int)) < ((ac.length : Int)))))]) 11 (by kernel_rfl) (by kernel_rfl) (by kernel_rfl) (by kernel_rfl) (by kernel_rfl) G143 hGm143 [] pre_nil (by kernel_rfl) [] (by kernel_rfl) (fun (S : Nat → Bool) (g : Nat → Value) => ([] : List Ent)) (fun _ _ _ _ _ => rfl) hM126 ?_ ?_
                · -- the operations
                  refine all_snoc (.inr ⟨by decide, fun S143_10 g143_10 V143_10 w143_10 F143_10 cx143_10 hM143_10 => ?_⟩) ?_
                  · -- op 10
                    obtain ⟨hv4_V143_10, l138⟩ : g143_10 87 = .int .i64 ((ac.getD (i3) 0)) ∧ (IntKind.i64.min ≤ (ac.getD (i3) 0) ∧ (ac.getD (i3) 0) ≤ IntKind.i64.max) := (hG143_4 _ _).1 (cx143_10.fact 4 87 (by decide) (cx143_10.dep 4 (by kernel_rfl)) (by kernel_rfl))
                    obtain ⟨hv9_V143_10, l142⟩ : g143_10 92 = .int .i64 ((bc.getD (i3) 0)) ∧ (IntKind.i64.min ≤ (bc.getD (i3) 0) ∧ (bc.getD (i3) 0) ≤ IntKind.i64.max) := (hG143_9 _ _).1 (cx143_10.fact 9 92 (by decide) (cx143_10.dep 9 (by kernel_rfl)) (by kernel_rfl))
                    refine wpF_see 87 (.int .i64 ((ac.getD (i3) 0))) (Eq.trans (by kernel_rfl) hv4_V143_10) ?_
                    refine wpF_see 92 (.int .i64 ((bc.getD (i3) 0))) (Eq.trans (by kernel_rfl) hv9_V143_10) ?_
                    refine wpF_seg 1 (by kernel_rfl) ?_
                    refine wpF_end _ (by kernel_rfl) (then_n ?_)
                    exact one_in (some 93) (by kernel_rfl) (.bool (!(decide (((ac.getD (i3) 0)) = ((bc.getD (i3) 0)))))) _ [(92, .int .i64 ((bc.getD (i3) 0))), (87, .int .i64 ((ac.getD (i3) 0)))] (seen_cons (Eq.trans (by kernel_rfl) hv9_V143_10) (seen_cons (Eq.trans (by kernel_rfl) hv4_V143_10) seen_nil)) (by kernel_rfl) (VT.le.refl _) hM143_10 ((hG143_10 _ _).2 ⟨rfl, l142, l138⟩)
                  refine all_snoc (.inr ⟨by decide, fun S143_9 g143_9 V143_9 w143_9 F143_9 cx143_9 hM143_9 => ?_⟩) ?_
                  · -- op 9
                    obtain ⟨b139, o140, hv8_V143_9, at_b139, l142⟩ : ∃ b139 : Nat, ∃ o140 : Nat, g143_9 91 = .pointer (some ⟨b139, o140, none⟩) ∧ (At (intK .i64) V143_9 b139 o140 ((bc.getD (i3) 0))) ∧ (IntKind.i64.min ≤ (bc.getD (i3) 0) ∧ (bc.getD (i3) 0) ≤ IntKind.i64.max) := (hG143_8 _ _).1 (cx143_9.fact 8 91 (by decide) (cx143_9.dep 8 (by kernel_rfl)) (by kernel_rfl))
                    have c909161 : V143_9 b139 o140 = some (.int .i64 (bc.getD (i3) 0)) := (At.int at_b139).1
                    have l909162 : IntKind.i64.min ≤ (bc.getD (i3) 0) ∧ (bc.getD (i3) 0) ≤ IntKind.i64.max := (At.int at_b139).2
                    refine wpF_see 91 (.pointer (some ⟨b139, o140, none⟩)) (Eq.trans (by kernel_rfl) hv8_V143_9) ?_
                    refine wpF_loadV hM143_9 c909161 (h := (by kernel_rfl : opAt _ _ _ _ _ = some (Go.Op.load 3 (Go.Operand.tmp 91), some 92))) (by kernel_rfl) (by kernel_rfl) ?_
                    refine wpF_end _ (by kernel_rfl) (then_n ?_)
                    exact one_in (some 92) (by kernel_rfl) (.int .i64 ((bc.getD (i3) 0))) _ [(91, .pointer (some ⟨b139, o140, none⟩))] (seen_cons (Eq.trans (by kernel_rfl) hv8_V143_9) seen_nil) (by kernel_rfl) (VT.le.refl _) hM143_9 ((hG143_9 _ _).2 ⟨rfl, l142⟩)
                  refine all_snoc (.inr ⟨by decide, fun S143_8 g143_8 V143_8 w143_8 F143_8 cx143_8 hM143_8 => ?_⟩) ?_
                  · -- op 8
                    obtain hv6_V143_8 : g143_8 89 = .slice Abc (bc).length cbc := (hG143_6 _ _).1 (cx143_8.fact 6 89 (by decide) (cx143_8.dep 6 (by kernel_rfl)) (by kernel_rfl))
                    obtain hv7_V143_8 : g143_8 90 = .int .i64 ((i3 : Int)) := (hG143_7 _ _).1 (cx143_8.fact 7 90 (by decide) (cx143_8.dep 7 (by kernel_rfl)) (by kernel_rfl))
                    refine wpF_see 89 (.slice Abc (bc).length cbc) (Eq.trans (by kernel_rfl) hv6_V143_8) ?_
                    refine wpF_see 90 (.int .i64 ((i3 : Int))) (Eq.trans (by kernel_rfl) hv7_V143_8) ?_
                    refine wpF_index (A := Abc) (c := cbc) (hbc.up hM143_8.le) .i64 ((i3 : Int)) (h := (by kernel_rfl : opAt _ _ _ _ _ = some (Go.Op.indexAddr 23 (Go.Operand.tmp 89) (Go.Operand.tmp 90), some 91))) (e := 3) (by kernel_rfl) (by kernel_rfl) (by kernel_rfl) (i3) rfl (by omega) (fun b139 o140 at_b139 => ?_)
                    have c141 : V143_8 b139 o140 = some (.int .i64 (bc.getD (i3) 0)) := (At.int at_b139).1
                    have l142 : IntKind.i64.min ≤ (bc.getD (i3) 0) ∧ (bc.getD (i3) 0) ≤ IntKind.i64.max := (At.int at_b139).2
                    refine wpF_end _ (by kernel_rfl) (then_n ?_)
                    exact one_in (some 91) (by kernel_rfl) (.pointer (some ⟨b139, o140, none⟩)) _ [(90, .int .i64 ((i3 : Int))), (89, .slice Abc (bc).length cbc)] (seen_cons (Eq.trans (by kernel_rfl) hv7_V143_8) (seen_cons (Eq.trans (by kernel_rfl) hv6_V143_8) seen_nil)) (by kernel_rfl) (VT.le.refl _) hM143_8 ((hG143_8 _ _).2 ⟨b139, o140, rfl, at_b139, l142⟩)
                  refine all_snoc (.inr ⟨by decide, fun S143_7 g143_7 V143_7 w143_7 F143_7 cx143_7 hM143_7 => ?_⟩) ?_
                  · -- op 7
                    refine wpF_seg 1 (by kernel_rfl) ?_
                    refine wpF_end _ (by kernel_rfl) (then_n ?_)
                    exact one_in (some 90) (by kernel_rfl) (.int .i64 ((i3 : Int))) _ [] seen_nil (by kernel_rfl) (VT.le.refl _) hM143_7 ((hG143_7 _ _).2 rfl)
                  refine all_snoc (.inr ⟨by decide, fun S143_6 g143_6 V143_6 w143_6 F143_6 cx143_6 hM143_6 => ?_⟩) ?_
                  · -- op 6
                    obtain hv5_V143_6 : g143_6 88 = .pointer (some ⟨b10, 3, none⟩) := (hG143_5 _ _).1 (cx143_6.fact 5 88 (by decide) (cx143_6.dep 5 (by kernel_rfl)) (by kernel_rfl))
                    refine wpF_see 88 (.pointer (some ⟨b10, 3, none⟩)) (Eq.trans (by kernel_rfl) hv5_V143_6) ?_
                    refine wpF_loadB hM143_6 #[.bool (bl), .slice Abk (bk).length cbk, .slice Abv (bv).length cbv, .slice Abc (bc).length cbc] (fun i v hi => (((le51.trans le89).trans le127).trans cx143_6.le) _ _ _ (hc16 i v hi)) (h := (by kernel_rfl : opAt _ _ _ _ _ = some (Go.Op.load 23 (Go.Operand.tmp 88), some 89))) (off := 3) (by kernel_rfl) (.slice Abc (bc).length cbc) (by kernel_rfl) ?_
                    refine wpF_end _ (by kernel_rfl) (then_n ?_)
                    exact one_in (some 89) (by kernel_rfl) (.slice Abc (bc).length cbc) _ [(88, .pointer (some ⟨b10, 3, none⟩))] (seen_cons (Eq.trans (by kernel_rfl) hv5_V143_6) seen_nil) (by kernel_rfl) (VT.le.refl _) hM143_6 ((hG143_6 _ _).2 rfl)
                  refine all_snoc (.inr ⟨by decide, fun S143_5 g143_5 V143_5 w143_5 F143_5 cx143_5 hM143_5 => ?_⟩) ?_
                  · -- op 5
                    refine wpF_seg 1 (by kernel_rfl) ?_
                    refine wpF_end _ (by kernel_rfl) (then_n ?_)
                    exact one_in (some 88) (by kernel_rfl) (.pointer (some ⟨b10, 3, none⟩)) _ [] seen_nil (by kernel_rfl) (VT.le.refl _) hM143_5 ((hG143_5 _ _).2 rfl)
                  refine all_snoc (.inr ⟨by decide, fun S143_4 g143_4 V143_4 w143_4 F143_4 cx143_4 hM143_4 => ?_⟩) ?_
                  · -- op 4
                    obtain ⟨b135, o136, hv3_V143_4, at_b135, l138⟩ : ∃ b135 : Nat, ∃ o136 : Nat, g143_4 86 = .pointer (some ⟨b135, o136, none⟩) ∧ (At (intK .i64) V143_4 b135 o136 ((ac.getD (i3) 0))) ∧ (IntKind.i64.min ≤ (ac.getD (i3) 0) ∧ (ac.getD (i3) 0) ≤ IntKind.i64.max) := (hG143_3 _ _).1 (cx143_4.fact 3 86 (by decide) (cx143_4.dep 3 (by kernel_rfl)) (by kernel_rfl))
                    have c904061 : V143_4 b135 o136 = some (.int .i64 (ac.getD (i3) 0)) := (At.int at_b135).1
                    have l904062 : IntKind.i64.min ≤ (ac.getD (i3) 0) ∧ (ac.getD (i3) 0) ≤ IntKind.i64.max := (At.int at_b135).2
                    refine wpF_see 86 (.pointer (some ⟨b135, o136, none⟩)) (Eq.trans (by kernel_rfl) hv3_V143_4) ?_
                    refine wpF_loadV hM143_4 c904061 (h := (by kernel_rfl : opAt _ _ _ _ _ = some (Go.Op.load 3 (Go.Operand.tmp 86), some 87))) (by kernel_rfl) (by kernel_rfl) ?_
                    refine wpF_end _ (by kernel_rfl) (then_n ?_)
                    exact one_in (some 87) (by kernel_rfl) (.int .i64 ((ac.getD (i3) 0))) _ [(86, .pointer (some ⟨b135, o136, none⟩))] (seen_cons (Eq.trans (by kernel_rfl) hv3_V143_4) seen_nil) (by kernel_rfl) (VT.le.refl _) hM143_4 ((hG143_4 _ _).2 ⟨rfl, l138⟩)
                  refine all_snoc (.inr ⟨by decide, fun S143_3 g143_3 V143_3 w143_3 F143_3 cx143_3 hM143_3 => ?_⟩) ?_
                  · -- op 3
                    obtain hv1_V143_3 : g143_3 84 = .slice Aac (ac).length cac := (hG143_1 _ _).1 (cx143_3.fact 1 84 (by decide) (cx143_3.dep 1 (by kernel_rfl)) (by kernel_rfl))
                    obtain hv2_V143_3 : g143_3 85 = .int .i64 ((i3 : Int)) := (hG143_2 _ _).1 (cx143_3.fact 2 85 (by decide) (cx143_3.dep 2 (by kernel_rfl)) (by kernel_rfl))
                    refine wpF_see 84 (.slice Aac (ac).length cac) (Eq.trans (by kernel_rfl) hv1_V143_3) ?_
                    refine wpF_see 85 (.int .i64 ((i3 : Int))) (Eq.trans (by kernel_rfl) hv2_V143_3) ?_
                    refine wpF_index (A := Aac) (c := cac) (hac.up hM143_3.le) .i64 ((i3 : Int)) (h := (by kernel_rfl : opAt _ _ _ _ _ = some (Go.Op.indexAddr 23 (Go.Operand.tmp 84) (Go.Operand.tmp 85), some 86))) (e := 3) (by kernel_rfl) (by kernel_rfl) (by kernel_rfl) (i3) rfl (by omega) (fun b135 o136 at_b135 => ?_)
                    have c137 : V143_3 b135 o136 = some (.int .i64 (ac.getD (i3) 0)) := (At.int at_b135).1
                    have l138 : IntKind.i64.min ≤ (ac.getD (i3) 0) ∧ (ac.getD (i3) 0) ≤ IntKind.i64.max := (At.int at_b135).2
                    refine wpF_end _ (by kernel_rfl) (then_n ?_)
                    exact one_in (some 86) (by kernel_rfl) (.pointer (some ⟨b135, o136, none⟩)) _ [(85, .int .i64 ((i3 : Int))), (84, .slice Aac (ac).length cac)] (seen_cons (Eq.trans (by kernel_rfl) hv2_V143_3) (seen_cons (Eq.trans (by kernel_rfl) hv1_V143_3) seen_nil)) (by kernel_rfl) (VT.le.refl _) hM143_3 ((hG143_3 _ _).2 ⟨b135, o136, rfl, at_b135, l138⟩)
                  refine all_snoc (.inr ⟨by decide, fun S143_2 g143_2 V143_2 w143_2 F143_2 cx143_2 hM143_2 => ?_⟩) ?_
                  · -- op 2
                    refine wpF_seg 1 (by kernel_rfl) ?_
                    refine wpF_end _ (by kernel_rfl) (then_n ?_)
                    exact one_in (some 85) (by kernel_rfl) (.int .i64 ((i3 : Int))) _ [] seen_nil (by kernel_rfl) (VT.le.refl _) hM143_2 ((hG143_2 _ _).2 rfl)
                  refine all_snoc (.inr ⟨by decide, fun S143_1 g143_1 V143_1 w143_1 F143_1 cx143_1 hM143_1 => ?_⟩) ?_
                  · -- op 1
                    obtain hv0_V143_1 : g143_1 83 = .pointer (some ⟨b2, 3, none⟩) := (hG143_0 _ _).1 (cx143_1.fact 0 83 (by decide) (cx143_1.dep 0 (by kernel_rfl)) (by kernel_rfl))
                    refine wpF_see 83 (.pointer (some ⟨b2, 3, none⟩)) (Eq.trans (by kernel_rfl) hv0_V143_1) ?_
                    refine wpF_loadB hM143_1 #[.bool (al), .slice Aak (ak).length cak, .slice Aav (av).length cav, .slice Aac (ac).length cac] (fun i v hi => ((((le14.trans le51).trans le89).trans le127).trans cx143_1.le) _ _ _ (hc8 i v hi)) (h := (by kernel_rfl : opAt _ _ _ _ _ = some (Go.Op.load 23 (Go.Operand.tmp 83), some 84))) (off := 3) (by kernel_rfl) (.slice Aac (ac).length cac) (by kernel_rfl) ?_
                    refine wpF_end _ (by kernel_rfl) (then_n ?_)
                    exact one_in (some 84) (by kernel_rfl) (.slice Aac (ac).length cac) _ [(83, .pointer (some ⟨b2, 3, none⟩))] (seen_cons (Eq.trans (by kernel_rfl) hv0_V143_1) seen_nil) (by kernel_rfl) (VT.le.refl _) hM143_1 ((hG143_1 _ _).2 rfl)
                  refine all_snoc (.inr ⟨by decide, fun S143_0 g143_0 V143_0 w143_0 F143_0 cx143_0 hM143_0 => ?_⟩) ?_
                  · -- op 0
                    refine wpF_seg 1 (by kernel_rfl) ?_
                    refine wpF_end _ (by kernel_rfl) (then_n ?_)
                    exact one_in (some 83) (by kernel_rfl) (.pointer (some ⟨b2, 3, none⟩)) _ [] seen_nil (by kernel_rfl) (VT.le.refl _) hM143_0 ((hG143_0 _ _).2 rfl)
                  exact all_none
                · -- behind it
                  intro ge143 Ve143 we143 hMe143 hle143 hf143
                  refine wpF_stop (P := Try.prog) (ops := #[]) (i := 0) _ rfl ?_
                  obtain hv0_Ve143 : ge143 83 = .pointer (some ⟨b2, 3, none⟩) := (hG143_0 _ _).1 (hf143 0 83 (by decide) (by kernel_rfl))
                  obtain hv1_Ve143 : ge143 84 = .slice Aac (ac).length cac := (hG143_1 _ _).1 (hf143 1 84 (by decide) (by kernel_rfl))
                  obtain hv2_Ve143 : ge143 85 = .int .i64 ((i3 : Int)) := (hG143_2 _ _).1 (hf143 2 85 (by decide) (by kernel_rfl))
                  obtain ⟨b135, o136, hv3_Ve143, at_b135, l138⟩ : ∃ b135 : Nat, ∃ o136 : Nat, ge143 86 = .pointer (some ⟨b135, o136, none⟩) ∧ (At (intK .i64) Ve143 b135 o136 ((ac.getD (i3) 0))) ∧ (IntKind.i64.min ≤ (ac.getD (i3) 0) ∧ (ac.getD (i3) 0) ≤ IntKind.i64.max) := (hG143_3 _ _).1 (hf143 3 86 (by decide) (by kernel_rfl))
                  have c145 : Ve143 b135 o136 = some (.int .i64 (ac.getD (i3) 0)) := (At.int at_b135).1
                  have l146 : IntKind.i64.min ≤ (ac.getD (i3) 0) ∧ (ac.getD (i3) 0) ≤ IntKind.i64.max := (At.int at_b135).2
                  obtain ⟨hv4_Ve143, l138⟩ : ge143 87 = .int .i64 ((ac.getD (i3) 0)) ∧ (IntKind.i64.min ≤ (ac.getD (i3) 0) ∧ (ac.getD (i3) 0) ≤ IntKind.i64.max) := (hG143_4 _ _).1 (hf143 4 87 (by decide) (by kernel_rfl))
                  obtain hv5_Ve143 : ge143 88 = .pointer (some ⟨b10, 3, none⟩) := (hG143_5 _ _).1 (hf143 5 88 (by decide) (by kernel_rfl))
                  obtain hv6_Ve143 : ge143 89 = .slice Abc (bc).length cbc := (hG143_6 _ _).1 (hf143 6 89 (by decide) (by kernel_rfl))
                  obtain hv7_Ve143 : ge143 90 = .int .i64 ((i3 : Int)) := (hG143_7 _ _).1 (hf143 7 90 (by decide) (by kernel_rfl))
                  obtain ⟨b139, o140, hv8_Ve143, at_b139, l142⟩ : ∃ b139 : Nat, ∃ o140 : Nat, ge143 91 = .pointer (some ⟨b139, o140, none⟩) ∧ (At (intK .i64) Ve143 b139 o140 ((bc.getD (i3) 0))) ∧ (IntKind.i64.min ≤ (bc.getD (i3) 0) ∧ (bc.getD (i3) 0) ≤ IntKind.i64.max) := (hG143_8 _ _).1 (hf143 8 91 (by decide) (by kernel_rfl))
                  have c147 : Ve143 b139 o140 = some (.int .i64 (bc.getD (i3) 0)) := (At.int at_b139).1
                  have l148 : IntKind.i64.min ≤ (bc.getD (i3) 0) ∧ (bc.getD (i3) 0) ≤ IntKind.i64.max := (At.int at_b139).2
                  obtain ⟨hv9_Ve143, l142⟩ : ge143 92 = .int .i64 ((bc.getD (i3) 0)) ∧ (IntKind.i64.min ≤ (bc.getD (i3) 0) ∧ (bc.getD (i3) 0) ≤ IntKind.i64.max) := (hG143_9 _ _).1 (hf143 9 92 (by decide) (by kernel_rfl))
                  obtain ⟨hv10_Ve143, l142, l138⟩ : ge143 93 = .bool (!(decide (((ac.getD (i3) 0)) = ((bc.getD (i3) 0))))) ∧ (IntKind.i64.min ≤ (bc.getD (i3) 0) ∧ (bc.getD (i3) 0) ≤ IntKind.i64.max) ∧ (IntKind.i64.min ≤ (ac.getD (i3) 0) ∧ (ac.getD (i3) 0) ≤ IntKind.i64.max) := (hG143_10 _ _).1 (hf143 10 93 (by decide) (by kernel_rfl))
                  refine wpF_see 83 (.pointer (some ⟨b2, 3, none⟩)) (Eq.trans (by kernel_rfl) hv0_Ve143) ?_
                  refine wpF_see 84 (.slice Aac (ac).length cac) (Eq.trans (by kernel_rfl) hv1_Ve143) ?_
                  refine wpF_see 85 (.int .i64 ((i3 : Int))) (Eq.trans (by kernel_rfl) hv2_Ve143) ?_
                  refine wpF_see 86 (.pointer (some ⟨b135, o136, none⟩)) (Eq.trans (by kernel_rfl) hv3_Ve143) ?_
                  refine wpF_see 87 (.int .i64 ((ac.getD (i3) 0))) (Eq.trans (by kernel_rfl) hv4_Ve143) ?_
                  refine wpF_see 88 (.pointer (some ⟨b10, 3, none⟩)) (Eq.trans (by kernel_rfl) hv5_Ve143) ?_
                  refine wpF_see 89 (.slice Abc (bc).length cbc) (Eq.trans (by kernel_rfl) hv6_Ve143) ?_
                  refine wpF_see 90 (.int .i64 ((i3 : Int))) (Eq.trans (by kernel_rfl) hv7_Ve143) ?_
                  refine wpF_see 91 (.pointer (some ⟨b139, o140, none⟩)) (Eq.trans (by kernel_rfl) hv8_Ve143) ?_
                  refine wpF_see 92 (.int .i64 ((bc.getD (i3) 0))) (Eq.trans (by kernel_rfl) hv9_Ve143) ?_
                  refine wpF_see 93 (.bool (!(decide (((ac.getD (i3) 0)) = ((bc.getD (i3) 0)))))) (Eq.trans (by kernel_rfl) hv10_Ve143) ?_
                  refine wpF_end _ (by kernel_rfl) (then_n (hK134 _ _ ?_))
                  refine wp_if (!(decide (((ac.getD (i3) 0)) = ((bc.getD (i3) 0))))) (by kernel_rfl) (fun h150 => ?_) (fun h150 => ?_)
                  · -- ffffLfLfLtt
                    have h151 : decide (((ac.getD (i3) 0)) = ((bc.getD (i3) 0))) = false := by rw [← Bool.not_not (decide _), h150]; rfl
                    have p152 : ¬ (((ac.getD (i3) 0)) = ((bc.getD (i3) 0))) := of_decide_eq_false h151
                    refine wp_seq_k (fun K153 hK153 => ?_)
                    refine wp_reg ?_
                    refine wpF_seg 1 (by kernel_rfl) ?_
                    refine wpF_end _ (by kernel_rfl) (then_n (hK153 _ _ ?_))
                    refine wp_ret (blk_r (then_r (then_r (blk_r (then_r (?_))))))
                    refine retN [.bool (false)] (.bool (false)) Try.results21 (.tmp (by kernel_rfl) (by kernel_rfl) .nil) (by kernel_rfl) (hRet _ _ ⟨_, _, rfl, hMe143.clear, ?_⟩)
                    -- end ffffLfLfLtt
                    first | exact congrArg Value.bool (decide_eq_true ⟨by assumption, ext_getD (d := []) (by omega) (by assumption), ext_getD (d := []) (by omega) (by assumption), ext_getD (d := 0) (by omega) (by assumption)⟩).symm | exact congrArg Value.bool (decide_eq_false (by rintro ⟨rfl, rfl, rfl, rfl⟩; first | omega | exact absurd rfl (by assumption) | contradiction)).symm
                  · -- ffffLfLfLtf
                    have h154 : decide (((ac.getD (i3) 0)) = ((bc.getD (i3) 0))) = true := by rw [← Bool.not_not (decide _), h150]; rfl
                    have p155 : (((ac.getD (i3) 0)) = ((bc.getD (i3) 0))) := of_decide_eq_true h154
                    refine wp_skip (blk_n (then_n (hK133 _ _ ?_)))
                    refine wp_reg ?_
                    refine wpF_seg 1 (by kernel_rfl) ?_
                    refine wpF_add .i64 ((i3 : Int)) (1) ((i3 : Int) + 1) (h := (by kernel_rfl : opAt _ _ _ _ _ = some (Go.Op.binOp Go.BinOp.add 3 (Go.Operand.tmp 81) (Go.Operand.const (Go.Value.int Go.IntKind.i64 1)) 3, some 82))) (by kernel_rfl) (by kernel_rfl) (wrap64_ok _ (by omega)) ?_
                    refine wpF_seg 1 (by kernel_rfl) ?_
                    refine wpF_base [(2, .pointer (some ⟨b2, 0, none⟩)), (3, .pointer (some ⟨b10, 0, none⟩)), (7, .int .i64 ((i3 + 1 : Int)))] (by kernel_rfl) (fun g156 => ?_)
                    refine wpF_end _ (by kernel_rfl) (then_n (hK128 _ _ (i3 + 1) (by omega) ?_))
                    refine ⟨g156, Ve143, rfl, hMe143, (le127.trans hle143), ?_, ?_⟩
                    · -- ffffLfLfLtf inv 0
                      omega
                    · -- ffffLfLfLtf inv 1
                      exact eq_step (by assumption) (by assumption)
              · -- ffffLfLfLf
                have p157 : ¬ (((i3 : Int)) < ((ac.length : Int))) := of_decide_eq_false h131
                refine wp_exit (then_x (then_x (blk_hit (then_n (hK120 _ _ ?_)))))
                obtain rfl : i3 = ac.length := by omega
                refine wp_seq_k (fun K158 hK158 => ?_)
                refine wp_reg ?_
                refine wpF_seg 1 (by kernel_rfl) ?_
                refine wpF_end _ (by kernel_rfl) (then_n (hK158 _ _ ?_))
                refine wp_ret ?_
                refine retN [.bool (true)] (.bool (true)) Try.results21 (.tmp (by kernel_rfl) (by kernel_rfl) .nil) (by kernel_rfl) (hRet _ _ ⟨_, _, rfl, hM126.clear, ?_⟩)
                -- end ffffLfLfLf
                first | exact congrArg Value.bool (decide_eq_true ⟨by assumption, ext_getD (d := []) (by omega) (by assumption), ext_getD (d := []) (by omega) (by assumption), ext_getD (d := 0) (by omega) (by assumption)⟩).symm | exact congrArg Value.bool (decide_eq_false (by rintro ⟨rfl, rfl, rfl, rfl⟩; first | omega | exact absurd rfl (by assumption) | contradiction)).symm

end Go.Vk
