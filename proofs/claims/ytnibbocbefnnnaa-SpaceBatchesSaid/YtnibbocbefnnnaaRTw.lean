import Derived.Test.YtnibbocbefnnnaaRIt
import Derived.Test.YtnibbocbefnnnaaRMathSp
import Derived.Test.YtnibbocbefnnnaaRMathSq
import Derived.Test.YtnibbocbefnnnaaRMathSr
import Derived.Test.YtnibbocbefnnnaaRMathSs
import Derived.Test.YtnibbocbefnnnaaRMathSt
import Derived.Test.YtnibbocbefnnnaaRMathSu
import Derived.Test.YtnibbocbefnnnaaRPlainSp
import Derived.Test.YtnibbocbefnnnaaRSf
import Derived.Test.YtnibbocbefnnnaaRSg
import Derived.Test.YtnibbocbefnnnaaRSh
import Derived.Test.YtnibbocbefnnnaaRSk
import Derived.Test.YtnibbocbefnnnaaRSm
import Derived.Test.YtnibbocbefnnnaaRSp
import Derived.Test.YtnibbocbefnnnaaRTz
set_option linter.unusedVariables false
set_option linter.unusedSimpArgs false
namespace Go.Vk
open Go.Proofs
variable {D : List Deferred}
set_option maxHeartbeats 4000000 in
set_option maxRecDepth 100000 in
theorem f7 (V : VT) (w : World) (hV : V.inW w) (Al : Option Addr) (cl : Nat) (l : List (List ((Str × Str × Bool)))) (hl : Rd (slK (prK strK (prK strK boolK))) V Al cl l) (q : Int) :
    Calls Try.prog 7 #[.slice Al (l).length cl, .int .i64 (q)] w (RetP V w fun rv V' => rv = .bool (true)) := by
  have mxl : l.length ≤ 140737488355328 := hl.max
  refine calls_env (n := 117) Try.func7 (c := _) rfl Try.ntmps7 (by kernel_rfl) (fun R hRet => ?_)
  have hM0 : Step V w [] V w [] := Step.refl (St.nilE hV)
  refine wp_seq_k (fun K1 hK1 => ?_)
  refine wp_reg ?_
  refine wpF_seg 1 (by kernel_rfl) ?_
  refine wpF_end _ (by kernel_rfl) (then_n (hK1 _ _ ?_))
  refine wp_seq_k (fun K2 hK2 => ?_)
  refine wp_reg ?_
  have hM10 : Step V w [] V _ ([]) := hM0
  refine wpF_callE [] ([]) hM10 (f := 33) (caps := #[]) (h := (by kernel_rfl : opAt _ _ _ _ _ = some (.call (.mk (.value (.func 33)) #[] #[]), some 12))) (by kernel_rfl) (by kernel_rfl) (by kernel_rfl) (f33 _ _ hM10.inW) (fun v3 V4 w5 Eo6 le7 hM8 hp9 => ?_)
  obtain ⟨br10_1, Ar10_1, cr10_1, mr10_1, rfl, rfl⟩ := hp9
  have hM11 : Step V w [] V4 _ ([spE br10_1 Ar10_1 cr10_1 mr10_1 (([] : List Item)) (0) (0)]) := hM8
  refine wpF_seg 1 (by kernel_rfl) ?_
  refine wpF_end _ (by kernel_rfl) (then_n (hK2 _ _ ?_))
  refine wp_seq_k (fun K12 hK12 => ?_)
  refine wp_seq_k (fun K13 hK13 => ?_)
  refine wp_reg ?_
  refine wpF_seg 1 (by kernel_rfl) ?_
  refine gF hM11 (.binOp .eql 53 (.tmp 13) (.const (.pointer none)) 53) (some 14) (by kernel_rfl) (Y_eql (.pointer (some ⟨br10_1, 0, none⟩)) (.pointer none) (false) (by kernel_rfl) (by kernel_rfl) (by kernel_rfl)) ?_
  refine wpF_seg 5 (by kernel_rfl) ?_
  refine wpF_end _ (by kernel_rfl) (then_n (hK13 _ _ ?_))
  refine wp_if (decide ((60) < ((l.length : Int)))) (by kernel_rfl) (fun h14 => ?_) (fun h14 => ?_)
  · -- t
    have p15 : ((60) < ((l.length : Int))) := of_decide_eq_true h14
    refine wp_seq_k (fun K16 hK16 => ?_)
    refine wp_reg ?_
    refine wpF_seg 1 (by kernel_rfl) ?_
    refine gF hM11 (.binOp .neq 53 (.tmp 20) (.const (.pointer none)) 53) (some 21) (by kernel_rfl) (Y_neq (.pointer (some ⟨br10_1, 0, none⟩)) (.pointer none) (false) (by kernel_rfl) (by kernel_rfl) (by kernel_rfl)) ?_
    refine wpF_seg 1 (by kernel_rfl) ?_
    refine wpF_callP hM11 (f := 34) (caps := #[]) (h := (by kernel_rfl : opAt _ _ _ _ _ = some (.call (.mk (.value (.func 34)) #[] #[]), some 23))) (by kernel_rfl) (by kernel_rfl) (by kernel_rfl) (f34 _ _ hM11.inW ) (fun v17 V18 w19 le20 hM21 hp22 => ?_)
    obtain rfl := hp22
    refine wpF_seg 2 (by kernel_rfl) ?_
    refine wpF_end _ (by kernel_rfl) (then_n (hK16 _ _ ?_))
    refine wp_ret (then_r (?_))
    refine retN [.bool (true)] (.bool (true)) Try.results7 (.tmp (by kernel_rfl) (by kernel_rfl) .nil) (by kernel_rfl) (hRet _ _ ⟨_, _, rfl, hM21.clear, ?_⟩)
    -- end t
    rfl
  · -- f
    have p23 : ¬ ((60) < ((l.length : Int))) := of_decide_eq_false h14
    refine wp_skip (then_n (hK12 _ _ ?_))
    refine wp_seq_k (fun K24 hK24 => ?_)
    refine wp_reg ?_
    refine wpF_seg 2 (by kernel_rfl) ?_
    refine wpF_end _ (by kernel_rfl) (then_n (hK24 _ _ ?_))
    refine wp_seq_k (fun K25 hK25 => ?_)
    refine wp_seq_k (fun K26 hK26 => ?_)
    refine wp_reg ?_
    refine wpF_seg 1 (by kernel_rfl) ?_
    refine wpF_end _ (by kernel_rfl) (then_n (hK26 _ _ ?_))
    refine wp_block ?_
    refine wp_base [(0, .slice Al (l).length cl), (1, .int .i64 (q)), (5, .pointer (some ⟨br10_1, 0, none⟩)), (6, .slice none (([] : List (Str × Str))).length 0), (7, .slice none (([] : List (Str × Str))).length 0), (8, .int .i64 ((0 : Int)))] (by kernel_rfl) (fun g28 => ?_)
    refine wp_loopX (fun (x_ : Nat × List Item × Int × List (Str × Str) × List (Str × Str)) a_ w_ => ∃ (g : Nat → Value) (V_ : VT), ∃ (Ars5 : Option Addr) (crs5 : Nat), ∃ (Arf6 : Option Addr) (crf6 : Nat), ∃ (Arf7 : Option Addr) (crf7 : Nat), a_ = env [] 117 [(0, .slice Al (l).length cl), (1, .int .i64 (q)), (5, .pointer (some ⟨br10_1, 0, none⟩)), (6, .slice Arf6 (x_.2.2.2.1).length crf6), (7, .slice Arf7 (x_.2.2.2.2).length crf7), (8, .int .i64 ((x_.1 : Int)))] g ∧ Step V w [] V_ w_ [spE br10_1 Ars5 crs5 mr10_1 (x_.2.1) (x_.2.2.1) (0)] ∧ VT.le V4 V_ ∧ Rd (prK strK strK) V_ Arf6 crf6 (x_.2.2.2.1) ∧ Rd (prK strK strK) V_ Arf7 crf7 (x_.2.2.2.2) ∧ (x_.1 ≤ l.length) ∧ (BatI q (x_.1) (x_.2.1) (x_.2.2.1) (x_.2.2.2.1) (x_.2.2.2.2))) (fun (x_ : Nat × List Item × Int × List (Str × Str) × List (Str × Str)) => l.length - x_.1) ((0 : Nat), (([] : List Item) : List Item), (0 : Int), (([] : List (Str × Str)) : List (Str × Str)), (([] : List (Str × Str)) : List (Str × Str))) ⟨g28, V4, Ar10_1, cr10_1, none, 0, none, 0, rfl, hM11, VT.le.refl _, (Rd.nil _ _), (Rd.nil _ _), by omega, by exact bat_0 q⟩ ?_
    rintro ⟨k, L, a, s, z⟩ a_ w30 ⟨g29, Vl27, Ar_33s5, cr_33s5, Ar_33f6, cr_33f6, Ar_33f7, cr_33f7, rfl, hM31, le32, hfAr_33f6, hfAr_33f7, hi33_0, hi33_1⟩ K33 hK33
    replace hi33_0 : k ≤ l.length := hi33_0
    replace hi33_1 : BatI q (k) (L) (a) (s) (z) := hi33_1
    refine wp_seq_k (fun K34 hK34 => ?_)
    refine wp_seq_k (fun K35 hK35 => ?_)
    refine wp_reg ?_
    refine wpF_seg 4 (by kernel_rfl) ?_
    refine wpF_end _ (by kernel_rfl) (then_n (hK35 _ _ ?_))
    refine wp_if (decide (((k : Int)) < ((l.length : Int)))) (by kernel_rfl) (fun h36 => ?_) (fun h36 => ?_)
    · -- fLt
      have p37 : (((k : Int)) < ((l.length : Int))) := of_decide_eq_true h36
      refine wp_skip (then_n (hK34 _ _ ?_))
      refine wp_seq_k (fun K38 hK38 => ?_)
      refine wp_block ?_
      refine wp_seq_k (fun K39 hK39 => ?_)
      refine wp_seq_k (fun K40 hK40 => ?_)
      refine wp_reg ?_
      refine wpF_seg 2 (by kernel_rfl) ?_
      refine gF_index (A := Al) (c := cl) (hl.up hM31.le) .i64 ((k : Int)) (h := (by kernel_rfl : opAt _ _ _ _ _ = some (.indexAddr 58 (.tmp 31) (.tmp 32), some 33))) (e := 45) (by kernel_rfl) (by kernel_rfl) (by kernel_rfl) (k) rfl (by omega) (fun b41 o42 at_b41 => ?_)
      obtain ⟨A43, c44, c45, r46⟩ := At.sl at_b41
      have c45 : Vl27 b41 o42 = some (.slice A43 ((l.getD (k) [])).length c44) := c45
      have r46 : Rd (prK strK (prK strK boolK)) Vl27 A43 c44 ((l.getD (k) [])) := r46
      have l47 : ((l.getD (k) [])).length ≤ 140737488355328 := r46.max
      refine gF hM31 (.load 45 (.tmp 33)) (some 34) (by kernel_rfl) (Y_loadV c45 (by kernel_rfl) (by kernel_rfl)) ?_
      refine wpF_seg 2 (by kernel_rfl) ?_
      refine wpF_end _ (by kernel_rfl) (then_n (hK40 _ _ ?_))
      refine wp_if (decide ((30) < ((((l.getD (k) [])).length : Int)))) (by kernel_rfl) (fun h48 => ?_) (fun h48 => ?_)
      · -- fLtt
        have p49 : ((30) < ((((l.getD (k) [])).length : Int))) := of_decide_eq_true h48
        refine wp_seq_k (fun K50 hK50 => ?_)
        refine wp_reg ?_
        refine wpF_callP hM31 (f := 34) (caps := #[]) (h := (by kernel_rfl : opAt _ _ _ _ _ = some (.call (.mk (.value (.func 34)) #[] #[]), some 37))) (by kernel_rfl) (by kernel_rfl) (by kernel_rfl) (f34 _ _ hM31.inW ) (fun v51 V52 w53 le54 hM55 hp56 => ?_)
        obtain rfl := hp56
        refine wpF_seg 1 (by kernel_rfl) ?_
        refine wpF_end _ (by kernel_rfl) (then_n (hK50 _ _ ?_))
        refine wp_ret (then_r (blk_r (then_r (then_r (blk_r (then_r (?_)))))))
        refine retN [.bool (true)] (.bool (true)) Try.results7 (.tmp (by kernel_rfl) (by kernel_rfl) .nil) (by kernel_rfl) (hRet _ _ ⟨_, _, rfl, hM55.clear, ?_⟩)
        -- end fLtt
        rfl
      · -- fLtf
        have p57 : ¬ ((30) < ((((l.getD (k) [])).length : Int))) := of_decide_eq_false h48
        have hJ : BatI q k L a s z := by assumption
        have hk61 : k < 61 := by omega
        have hbl : (l.getD (k) []).length ≤ 30 := by omega
        have hjl := hJ.len
        have hjc := hJ.ch
        have hjs := bat_sl hJ
        refine wp_skip (then_n (hK39 _ _ ?_))
        refine wp_seq_k (fun K58 hK58 => ?_)
        refine wp_seq_k (fun K59 hK59 => ?_)
        refine wp_reg ?_
        refine wpF_seg 3 (by kernel_rfl) ?_
        refine wpF_end _ (by kernel_rfl) (then_n (hK59 _ _ ?_))
        refine wp_if (decide (((k : Int)) = (q))) (by kernel_rfl) (fun h60 => ?_) (fun h60 => ?_)
        · -- fLtft
          have p61 : (((k : Int)) = (q)) := of_decide_eq_true h60
          refine wp_reg ?_
          refine wpF_seg 2 (by kernel_rfl) ?_
          refine wpF_end _ (by kernel_rfl) (then_n (hK58 _ _ ?_))
          refine wp_seq_k (fun K62 hK62 => ?_)
          refine wp_reg ?_
          refine wpF_seg 2 (by kernel_rfl) ?_
          refine gF hM31 (.binOp .add 3 (.tmp 43) (.const (.int .i64 1)) 3) (some 44) (by kernel_rfl) (Y_add .i64 ((k : Int)) (1) ((k : Int) + 1) (by kernel_rfl) (by kernel_rfl) (wrap64_ok _ (by omega))) ?_
          refine wpF_seg 2 (by kernel_rfl) ?_
          refine gF_index (A := Al) (c := cl) (hl.up hM31.le) .i64 ((k : Int)) (h := (by kernel_rfl : opAt _ _ _ _ _ = some (.indexAddr 58 (.tmp 45) (.tmp 46), some 47))) (e := 45) (by kernel_rfl) (by kernel_rfl) (by kernel_rfl) (k) rfl (by omega) (fun b63 o64 at_b63 => ?_)
          obtain ⟨A65, c66, c67, r68⟩ := At.sl at_b63
          have c67 : Vl27 b63 o64 = some (.slice A65 ((l.getD (k) [])).length c66) := c67
          have r68 : Rd (prK strK (prK strK boolK)) Vl27 A65 c66 ((l.getD (k) [])) := r68
          have l69 : ((l.getD (k) [])).length ≤ 140737488355328 := r68.max
          refine gF hM31 (.load 45 (.tmp 47)) (some 48) (by kernel_rfl) (Y_loadV c67 (by kernel_rfl) (by kernel_rfl)) ?_
          have hM70 := hM31.front 0 rfl
          have hM78 : Step V w [] Vl27 _ ([spE br10_1 Ar_33s5 cr_33s5 mr10_1 (L) (a) (0)]) := hM70
          refine wpF_callE [spE br10_1 Ar_33s5 cr_33s5 mr10_1 (L) (a) (0)] ([]) hM78 (f := 35) (caps := #[]) (h := (by kernel_rfl : opAt _ _ _ _ _ = some (.call (.mk (.value (.func 35)) #[(.tmp 42), (.tmp 44), (.tmp 48)] #[53, 3, 45]), some 49))) (by kernel_rfl) (by kernel_rfl) (by kernel_rfl) (f35 _ _ br10_1 Ar_33s5 cr_33s5 mr10_1 (L) (a) (0) ((k : Int) + 1) A65 c66 ((l.getD (k) [])) r68 (St.part (E := [spE br10_1 Ar_33s5 cr_33s5 mr10_1 (L) (a) (0)]) (F := ([])) hM78.ok) (by first | omega | (rw [hen.2.2.1]; simp only [List.length_nil]; omega)) (by intro y; have hjy := hjc y; first | omega | (rw [hen.2.2.1]; simp only [List.length_nil]; omega)) (by exact i64_ok (by omega) (by omega))) (fun v71 V72 w73 Eo74 le75 hM76 hp77 => ?_)
          obtain ⟨Aor78_p, cor78_p, rfl, rfl⟩ := hp77
          have hM79 : Step V w [] V72 _ ([spE br10_1 Aor78_p cor78_p mr10_1 (appS ((k : Int) + 1) (L) (a) ((l.getD (k) []))) (appT ((k : Int) + 1) (a) ((l.getD (k) []))) ((0))]) := hM76
          refine wpF_seg 1 (by kernel_rfl) ?_
          refine wpF_end _ (by kernel_rfl) (then_n (hK62 _ _ ?_))
          refine wp_seq_k (fun K80 hK80 => ?_)
          refine wp_reg ?_
          refine wpF_seg 2 (by kernel_rfl) ?_
          refine wpF_end _ (by kernel_rfl) (then_n (hK80 _ _ ?_))
          refine wp_if (decide ((appE ((k : Int) + 1) (a) ((l.getD (k) []))) = (0))) (by kernel_rfl) (fun h81 => ?_) (fun h81 => ?_)
          · -- fLtftt
            have p82 : ((appE ((k : Int) + 1) (a) ((l.getD (k) []))) = (0)) := of_decide_eq_true h81
            have hfit : fitB (l.getD (k) []) = true := bat_e0 hJ hk61 (by assumption)
            refine wp_reg ?_
            refine wpF_seg 3 (by kernel_rfl) ?_
            refine gF_index (A := Al) (c := cl) (hl.up hM79.le) .i64 ((k : Int)) (h := (by kernel_rfl : opAt _ _ _ _ _ = some (.indexAddr 58 (.tmp 54) (.tmp 55), some 56))) (e := 45) (by kernel_rfl) (by kernel_rfl) (by kernel_rfl) (k) rfl (by omega) (fun b83 o84 at_b83 => ?_)
            obtain ⟨A85, c86, c87, r88⟩ := At.sl at_b83
            have c87 : V72 b83 o84 = some (.slice A85 ((l.getD (k) [])).length c86) := c87
            have r88 : Rd (prK strK (prK strK boolK)) V72 A85 c86 ((l.getD (k) [])) := r88
            have l89 : ((l.getD (k) [])).length ≤ 140737488355328 := r88.max
            refine gF hM79 (.load 45 (.tmp 56)) (some 57) (by kernel_rfl) (Y_loadV c87 (by kernel_rfl) (by kernel_rfl)) ?_
            refine wpF_callP hM79 (f := 36) (caps := #[]) (h := (by kernel_rfl : opAt _ _ _ _ _ = some (.call (.mk (.value (.func 36)) #[(.tmp 53), (.tmp 57)] #[60, 45]), some 58))) (by kernel_rfl) (by kernel_rfl) (by kernel_rfl) (f36 _ _ hM79.inW Ar_33f6 cr_33f6 (s) (hfAr_33f6.up le75) A85 c86 ((l.getD (k) [])) r88 (by rw [hJ.s]; exact (rprs_up (ld_spi hJ.ld).1).1) (by assumption) (by omega)) (fun v90 V91 w92 le93 hM94 hp95 => ?_)
            obtain ⟨Ar95_1, cr95_1, rfl, r96⟩ := hp95
            have l97 : (cdK (s) ((l.getD (k) [])) ((l.getD (k) [])).length).length ≤ 140737488355328 := r96.max
            refine wpF_seg 4 (by kernel_rfl) ?_
            refine wpF_end _ (by kernel_rfl) (blk_n (then_n (hK38 _ _ ?_)))
            refine wp_reg ?_
            refine wpF_seg 1 (by kernel_rfl) ?_
            refine gF hM94 (.binOp .add 3 (.tmp 29) (.const (.int .i64 1)) 3) (some 30) (by kernel_rfl) (Y_add .i64 ((k : Int)) (1) ((k : Int) + 1) (by kernel_rfl) (by kernel_rfl) (wrap64_ok _ (by omega))) ?_
            refine wpF_seg 1 (by kernel_rfl) ?_
            refine wpF_base [(0, .slice Al (l).length cl), (1, .int .i64 (q)), (5, .pointer (some ⟨br10_1, 0, none⟩)), (6, .slice Ar95_1 (cdK s (l.getD (k) []) (l.getD (k) []).length).length cr95_1), (7, .slice Ar_33f6 (s).length cr_33f6), (8, .int .i64 ((k + 1 : Int)))] (by kernel_rfl) (fun g98 => ?_)
            refine wpF_end _ (by kernel_rfl) (then_n (hK33 _ _ (k + 1, appS ((k : Int) + 1) L a (l.getD (k) []), appT ((k : Int) + 1) a (l.getD (k) []), cdK s (l.getD (k) []) (l.getD (k) []).length, s) (by omega) ?_))
            refine ⟨g98, V91, Aor78_p, cor78_p, Ar95_1, cr95_1, Ar_33f6, cr_33f6, rfl, hM94, ((le32.trans le75).trans le93), r96, (hfAr_33f6.up (le75.trans le93)), ?_, ?_⟩
            · -- fLtftt inv 0
              omega
            · -- fLtftt inv 1
              have h3 := bat_yes hJ hk61 hfit hbl; rw [if_pos (by assumption)] at h3; exact h3
          · -- fLtftf
            have p99 : ¬ ((appE ((k : Int) + 1) (a) ((l.getD (k) []))) = (0)) := of_decide_eq_false h81
            have hen := bat_en (b := (l.getD (k) [])) hJ hk61 (by assumption)
            refine wp_seq_k (fun K100 hK100 => ?_)
            refine wp_reg ?_
            refine wpF_seg 3 (by kernel_rfl) ?_
            have h101 : (decide ((appE ((k : Int) + 1) (a) ((l.getD (k) []))) = (2))) = true := by exact decide_eq_true hen.2.1
            have p102 : ((appE ((k : Int) + 1) (a) ((l.getD (k) []))) = (2)) := of_decide_eq_true h101
            refine wpF_slot 63 (.bool (!(decide ((appE ((k : Int) + 1) (a) ((l.getD (k) []))) = (2))))) (.bool false) (by kernel_rfl) (by kernel_rfl) (by rw [(show (!(decide ((appE ((k : Int) + 1) (a) ((l.getD (k) []))) = (2)))) = false from by rw [h101]; rfl)]) ?_
            refine wpF_seg 2 (by kernel_rfl) ?_
            refine gF hM79 (.binOp .add 3 (.tmp 65) (.const (.int .i64 1)) 3) (some 66) (by kernel_rfl) (Y_add .i64 ((k : Int)) (1) ((k : Int) + 1) (by kernel_rfl) (by kernel_rfl) (wrap64_ok _ (by omega))) ?_
            have hM103 := hM79.front 0 rfl
            have hM111 : Step V w [] V72 _ ([spE br10_1 Aor78_p cor78_p mr10_1 (appS ((k : Int) + 1) (L) (a) ((l.getD (k) []))) (appT ((k : Int) + 1) (a) ((l.getD (k) []))) ((0))]) := hM103
            refine wpF_callE [spE br10_1 Aor78_p cor78_p mr10_1 (appS ((k : Int) + 1) (L) (a) ((l.getD (k) []))) (appT ((k : Int) + 1) (a) ((l.getD (k) []))) ((0))] ([]) hM111 (f := 35) (caps := #[]) (h := (by kernel_rfl : opAt _ _ _ _ _ = some (.call (.mk (.value (.func 35)) #[(.tmp 64), (.tmp 66), (.const (.slice none 0 0))] #[53, 3, 45]), some 67))) (by kernel_rfl) (by kernel_rfl) (by kernel_rfl) (f35 _ _ br10_1 Aor78_p cor78_p mr10_1 (appS ((k : Int) + 1) (L) (a) ((l.getD (k) []))) (appT ((k : Int) + 1) (a) ((l.getD (k) []))) ((0)) ((k : Int) + 1) none 0 ([] : List ((Str × Str × Bool))) (Rd.nil _ _) (St.part (E := [spE br10_1 Aor78_p cor78_p mr10_1 (appS ((k : Int) + 1) (L) (a) ((l.getD (k) []))) (appT ((k : Int) + 1) (a) ((l.getD (k) []))) ((0))]) (F := ([])) hM111.ok) (by first | omega | (rw [hen.2.2.1]; simp only [List.length_nil]; omega)) (by intro y; have hjy := hjc y; first | omega | (rw [hen.2.2.1]; simp only [List.length_nil]; omega)) (by exact i64_ok (by omega) (by omega))) (fun v104 V105 w106 Eo107 le108 hM109 hp110 => ?_)
            obtain ⟨Aor111_p, cor111_p, rfl, rfl⟩ := hp110
            have hM112 : Step V w [] V105 _ ([spE br10_1 Aor111_p cor111_p mr10_1 (appS ((k : Int) + 1) (appS ((k : Int) + 1) (L) (a) ((l.getD (k) []))) (appT ((k : Int) + 1) (a) ((l.getD (k) []))) ([] : List ((Str × Str × Bool)))) (appT ((k : Int) + 1) (appT ((k : Int) + 1) (a) ((l.getD (k) []))) ([] : List ((Str × Str × Bool)))) (((0)))]) := hM109
            refine wpF_seg 2 (by kernel_rfl) ?_
            refine wpF_end _ (by kernel_rfl) (then_n (hK100 _ _ ?_))
            have h113 : (decide ((appE ((k : Int) + 1) (appT ((k : Int) + 1) (a) ((l.getD (k) []))) ([] : List ((Str × Str × Bool)))) = (0))) = true := by exact decide_eq_true (by rw [hen.2.2.2, bat_e hJ hk61, fit_nil]; rfl)
            have p114 : ((appE ((k : Int) + 1) (appT ((k : Int) + 1) (a) ((l.getD (k) []))) ([] : List ((Str × Str × Bool)))) = (0)) := of_decide_eq_true h113
            refine wp_slot 69 (.bool (!(decide ((appE ((k : Int) + 1) (appT ((k : Int) + 1) (a) ((l.getD (k) []))) ([] : List ((Str × Str × Bool)))) = (0))))) (.bool false) (by kernel_rfl) (by rw [(show (!(decide ((appE ((k : Int) + 1) (appT ((k : Int) + 1) (a) ((l.getD (k) []))) ([] : List ((Str × Str × Bool)))) = (0)))) = false from by rw [h113]; rfl)]) ?_
            refine wp_cf (by kernel_rfl) ?_
            refine wp_skip (blk_n (then_n (hK38 _ _ ?_)))
            refine wp_reg ?_
            refine wpF_seg 1 (by kernel_rfl) ?_
            refine gF hM112 (.binOp .add 3 (.tmp 29) (.const (.int .i64 1)) 3) (some 30) (by kernel_rfl) (Y_add .i64 ((k : Int)) (1) ((k : Int) + 1) (by kernel_rfl) (by kernel_rfl) (wrap64_ok _ (by omega))) ?_
            refine wpF_seg 1 (by kernel_rfl) ?_
            refine wpF_base [(0, .slice Al (l).length cl), (1, .int .i64 (q)), (5, .pointer (some ⟨br10_1, 0, none⟩)), (6, .slice Ar_33f6 (s).length cr_33f6), (7, .slice Ar_33f6 (s).length cr_33f6), (8, .int .i64 ((k + 1 : Int)))] (by kernel_rfl) (fun g115 => ?_)
            refine wpF_end _ (by kernel_rfl) (then_n (hK33 _ _ (k + 1, appS ((k : Int) + 1) (appS ((k : Int) + 1) L a (l.getD (k) [])) (appT ((k : Int) + 1) a (l.getD (k) [])) ([] : List (Str × Str × Bool)), appT ((k : Int) + 1) (appT ((k : Int) + 1) a (l.getD (k) [])) ([] : List (Str × Str × Bool)), s, s) (by omega) ?_))
            refine ⟨g115, V105, Aor111_p, cor111_p, Ar_33f6, cr_33f6, Ar_33f6, cr_33f6, rfl, hM112, ((le32.trans le75).trans le108), (hfAr_33f6.up (le75.trans le108)), (hfAr_33f6.up (le75.trans le108)), ?_, ?_⟩
            · -- fLtftf inv 0
              omega
            · -- fLtftf inv 1
              have h3 := bat_no2 (b := (l.getD (k) [])) hJ hk61 (by assumption); rw [if_pos (by assumption)] at h3; exact h3
        · -- fLtff
          have p116 : ¬ (((k : Int)) = (q)) := of_decide_eq_false h60
          refine wp_skip (then_n (hK58 _ _ ?_))
          refine wp_seq_k (fun K117 hK117 => ?_)
          refine wp_reg ?_
          refine wpF_seg 2 (by kernel_rfl) ?_
          refine gF hM31 (.binOp .add 3 (.tmp 43) (.const (.int .i64 1)) 3) (some 44) (by kernel_rfl) (Y_add .i64 ((k : Int)) (1) ((k : Int) + 1) (by kernel_rfl) (by kernel_rfl) (wrap64_ok _ (by omega))) ?_
          refine wpF_seg 2 (by kernel_rfl) ?_
          refine gF_index (A := Al) (c := cl) (hl.up hM31.le) .i64 ((k : Int)) (h := (by kernel_rfl : opAt _ _ _ _ _ = some (.indexAddr 58 (.tmp 45) (.tmp 46), some 47))) (e := 45) (by kernel_rfl) (by kernel_rfl) (by kernel_rfl) (k) rfl (by omega) (fun b118 o119 at_b118 => ?_)
          obtain ⟨A120, c121, c122, r123⟩ := At.sl at_b118
          have c122 : Vl27 b118 o119 = some (.slice A120 ((l.getD (k) [])).length c121) := c122
          have r123 : Rd (prK strK (prK strK boolK)) Vl27 A120 c121 ((l.getD (k) [])) := r123
          have l124 : ((l.getD (k) [])).length ≤ 140737488355328 := r123.max
          refine gF hM31 (.load 45 (.tmp 47)) (some 48) (by kernel_rfl) (Y_loadV c122 (by kernel_rfl) (by kernel_rfl)) ?_
          have hM125 := hM31.front 0 rfl
          have hM133 : Step V w [] Vl27 _ ([spE br10_1 Ar_33s5 cr_33s5 mr10_1 (L) (a) (0)]) := hM125
          refine wpF_callE [spE br10_1 Ar_33s5 cr_33s5 mr10_1 (L) (a) (0)] ([]) hM133 (f := 35) (caps := #[]) (h := (by kernel_rfl : opAt _ _ _ _ _ = some (.call (.mk (.value (.func 35)) #[(.tmp 42), (.tmp 44), (.tmp 48)] #[53, 3, 45]), some 49))) (by kernel_rfl) (by kernel_rfl) (by kernel_rfl) (f35 _ _ br10_1 Ar_33s5 cr_33s5 mr10_1 (L) (a) (0) ((k : Int) + 1) A120 c121 ((l.getD (k) [])) r123 (St.part (E := [spE br10_1 Ar_33s5 cr_33s5 mr10_1 (L) (a) (0)]) (F := ([])) hM133.ok) (by first | omega | (rw [hen.2.2.1]; simp only [List.length_nil]; omega)) (by intro y; have hjy := hjc y; first | omega | (rw [hen.2.2.1]; simp only [List.length_nil]; omega)) (by exact i64_ok (by omega) (by omega))) (fun v126 V127 w128 Eo129 le130 hM131 hp132 => ?_)
          obtain ⟨Aor133_p, cor133_p, rfl, rfl⟩ := hp132
          have hM134 : Step V w [] V127 _ ([spE br10_1 Aor133_p cor133_p mr10_1 (appS ((k : Int) + 1) (L) (a) ((l.getD (k) []))) (appT ((k : Int) + 1) (a) ((l.getD (k) []))) ((0))]) := hM131
          refine wpF_seg 1 (by kernel_rfl) ?_
          refine wpF_end _ (by kernel_rfl) (then_n (hK117 _ _ ?_))
          refine wp_seq_k (fun K135 hK135 => ?_)
          refine wp_reg ?_
          refine wpF_seg 2 (by kernel_rfl) ?_
          refine wpF_end _ (by kernel_rfl) (then_n (hK135 _ _ ?_))
          refine wp_if (decide ((appE ((k : Int) + 1) (a) ((l.getD (k) []))) = (0))) (by kernel_rfl) (fun h136 => ?_) (fun h136 => ?_)
          · -- fLtfft
            have p137 : ((appE ((k : Int) + 1) (a) ((l.getD (k) []))) = (0)) := of_decide_eq_true h136
            have hfit : fitB (l.getD (k) []) = true := bat_e0 hJ hk61 (by assumption)
            refine wp_reg ?_
            refine wpF_seg 3 (by kernel_rfl) ?_
            refine gF_index (A := Al) (c := cl) (hl.up hM134.le) .i64 ((k : Int)) (h := (by kernel_rfl : opAt _ _ _ _ _ = some (.indexAddr 58 (.tmp 54) (.tmp 55), some 56))) (e := 45) (by kernel_rfl) (by kernel_rfl) (by kernel_rfl) (k) rfl (by omega) (fun b138 o139 at_b138 => ?_)
            obtain ⟨A140, c141, c142, r143⟩ := At.sl at_b138
            have c142 : V127 b138 o139 = some (.slice A140 ((l.getD (k) [])).length c141) := c142
            have r143 : Rd (prK strK (prK strK boolK)) V127 A140 c141 ((l.getD (k) [])) := r143
            have l144 : ((l.getD (k) [])).length ≤ 140737488355328 := r143.max
            refine gF hM134 (.load 45 (.tmp 56)) (some 57) (by kernel_rfl) (Y_loadV c142 (by kernel_rfl) (by kernel_rfl)) ?_
            refine wpF_callP hM134 (f := 36) (caps := #[]) (h := (by kernel_rfl : opAt _ _ _ _ _ = some (.call (.mk (.value (.func 36)) #[(.tmp 53), (.tmp 57)] #[60, 45]), some 58))) (by kernel_rfl) (by kernel_rfl) (by kernel_rfl) (f36 _ _ hM134.inW Ar_33f6 cr_33f6 (s) (hfAr_33f6.up le130) A140 c141 ((l.getD (k) [])) r143 (by rw [hJ.s]; exact (rprs_up (ld_spi hJ.ld).1).1) (by assumption) (by omega)) (fun v145 V146 w147 le148 hM149 hp150 => ?_)
            obtain ⟨Ar150_1, cr150_1, rfl, r151⟩ := hp150
            have l152 : (cdK (s) ((l.getD (k) [])) ((l.getD (k) [])).length).length ≤ 140737488355328 := r151.max
            refine wpF_seg 4 (by kernel_rfl) ?_
            refine wpF_end _ (by kernel_rfl) (blk_n (then_n (hK38 _ _ ?_)))
            refine wp_reg ?_
            refine wpF_seg 1 (by kernel_rfl) ?_
            refine gF hM149 (.binOp .add 3 (.tmp 29) (.const (.int .i64 1)) 3) (some 30) (by kernel_rfl) (Y_add .i64 ((k : Int)) (1) ((k : Int) + 1) (by kernel_rfl) (by kernel_rfl) (wrap64_ok _ (by omega))) ?_
            refine wpF_seg 1 (by kernel_rfl) ?_
            refine wpF_base [(0, .slice Al (l).length cl), (1, .int .i64 (q)), (5, .pointer (some ⟨br10_1, 0, none⟩)), (6, .slice Ar150_1 (cdK s (l.getD (k) []) (l.getD (k) []).length).length cr150_1), (7, .slice Ar_33f7 (z).length cr_33f7), (8, .int .i64 ((k + 1 : Int)))] (by kernel_rfl) (fun g153 => ?_)
            refine wpF_end _ (by kernel_rfl) (then_n (hK33 _ _ (k + 1, appS ((k : Int) + 1) L a (l.getD (k) []), appT ((k : Int) + 1) a (l.getD (k) []), cdK s (l.getD (k) []) (l.getD (k) []).length, z) (by omega) ?_))
            refine ⟨g153, V146, Aor133_p, cor133_p, Ar150_1, cr150_1, Ar_33f7, cr_33f7, rfl, hM149, ((le32.trans le130).trans le148), r151, (hfAr_33f7.up (le130.trans le148)), ?_, ?_⟩
            · -- fLtfft inv 0
              omega
            · -- fLtfft inv 1
              have h3 := bat_yes hJ hk61 hfit hbl; rw [if_neg (by assumption)] at h3; exact h3
          · -- fLtfff
            have p154 : ¬ ((appE ((k : Int) + 1) (a) ((l.getD (k) []))) = (0)) := of_decide_eq_false h136
            have hen := bat_en (b := (l.getD (k) [])) hJ hk61 (by assumption)
            refine wp_seq_k (fun K155 hK155 => ?_)
            refine wp_reg ?_
            refine wpF_seg 3 (by kernel_rfl) ?_
            have h156 : (decide ((appE ((k : Int) + 1) (a) ((l.getD (k) []))) = (2))) = true := by exact decide_eq_true hen.2.1
            have p157 : ((appE ((k : Int) + 1) (a) ((l.getD (k) []))) = (2)) := of_decide_eq_true h156
            refine wpF_slot 63 (.bool (!(decide ((appE ((k : Int) + 1) (a) ((l.getD (k) []))) = (2))))) (.bool false) (by kernel_rfl) (by kernel_rfl) (by rw [(show (!(decide ((appE ((k : Int) + 1) (a) ((l.getD (k) []))) = (2)))) = false from by rw [h156]; rfl)]) ?_
            refine wpF_seg 2 (by kernel_rfl) ?_
            refine gF hM134 (.binOp .add 3 (.tmp 65) (.const (.int .i64 1)) 3) (some 66) (by kernel_rfl) (Y_add .i64 ((k : Int)) (1) ((k : Int) + 1) (by kernel_rfl) (by kernel_rfl) (wrap64_ok _ (by omega))) ?_
            have hM158 := hM134.front 0 rfl
            have hM166 : Step V w [] V127 _ ([spE br10_1 Aor133_p cor133_p mr10_1 (appS ((k : Int) + 1) (L) (a) ((l.getD (k) []))) (appT ((k : Int) + 1) (a) ((l.getD (k) []))) ((0))]) := hM158
            refine wpF_callE [spE br10_1 Aor133_p cor133_p mr10_1 (appS ((k : Int) + 1) (L) (a) ((l.getD (k) []))) (appT ((k : Int) + 1) (a) ((l.getD (k) []))) ((0))] ([]) hM166 (f := 35) (caps := #[]) (h := (by kernel_rfl : opAt _ _ _ _ _ = some (.call (.mk (.value (.func 35)) #[(.tmp 64), (.tmp 66), (.const (.slice none 0 0))] #[53, 3, 45]), some 67))) (by kernel_rfl) (by kernel_rfl) (by kernel_rfl) (f35 _ _ br10_1 Aor133_p cor133_p mr10_1 (appS ((k : Int) + 1) (L) (a) ((l.getD (k) []))) (appT ((k : Int) + 1) (a) ((l.getD (k) []))) ((0)) ((k : Int) + 1) none 0 ([] : List ((Str × Str × Bool))) (Rd.nil _ _) (St.part (E := [spE br10_1 Aor133_p cor133_p mr10_1 (appS ((k : Int) + 1) (L) (a) ((l.getD (k) []))) (appT ((k : Int) + 1) (a) ((l.getD (k) []))) ((0))]) (F := ([])) hM166.ok) (by first | omega | (rw [hen.2.2.1]; simp only [List.length_nil]; omega)) (by intro y; have hjy := hjc y; first | omega | (rw [hen.2.2.1]; simp only [List.length_nil]; omega)) (by exact i64_ok (by omega) (by omega))) (fun v159 V160 w161 Eo162 le163 hM164 hp165 => ?_)
            obtain ⟨Aor166_p, cor166_p, rfl, rfl⟩ := hp165
            have hM167 : Step V w [] V160 _ ([spE br10_1 Aor166_p cor166_p mr10_1 (appS ((k : Int) + 1) (appS ((k : Int) + 1) (L) (a) ((l.getD (k) []))) (appT ((k : Int) + 1) (a) ((l.getD (k) []))) ([] : List ((Str × Str × Bool)))) (appT ((k : Int) + 1) (appT ((k : Int) + 1) (a) ((l.getD (k) []))) ([] : List ((Str × Str × Bool)))) (((0)))]) := hM164
            refine wpF_seg 2 (by kernel_rfl) ?_
            refine wpF_end _ (by kernel_rfl) (then_n (hK155 _ _ ?_))
            have h168 : (decide ((appE ((k : Int) + 1) (appT ((k : Int) + 1) (a) ((l.getD (k) []))) ([] : List ((Str × Str × Bool)))) = (0))) = true := by exact decide_eq_true (by rw [hen.2.2.2, bat_e hJ hk61, fit_nil]; rfl)
            have p169 : ((appE ((k : Int) + 1) (appT ((k : Int) + 1) (a) ((l.getD (k) []))) ([] : List ((Str × Str × Bool)))) = (0)) := of_decide_eq_true h168
            refine wp_slot 69 (.bool (!(decide ((appE ((k : Int) + 1) (appT ((k : Int) + 1) (a) ((l.getD (k) []))) ([] : List ((Str × Str × Bool)))) = (0))))) (.bool false) (by kernel_rfl) (by rw [(show (!(decide ((appE ((k : Int) + 1) (appT ((k : Int) + 1) (a) ((l.getD (k) []))) ([] : List ((Str × Str × Bool)))) = (0)))) = false from by rw [h168]; rfl)]) ?_
            refine wp_cf (by kernel_rfl) ?_
            refine wp_skip (blk_n (then_n (hK38 _ _ ?_)))
            refine wp_reg ?_
            refine wpF_seg 1 (by kernel_rfl) ?_
            refine gF hM167 (.binOp .add 3 (.tmp 29) (.const (.int .i64 1)) 3) (some 30) (by kernel_rfl) (Y_add .i64 ((k : Int)) (1) ((k : Int) + 1) (by kernel_rfl) (by kernel_rfl) (wrap64_ok _ (by omega))) ?_
            refine wpF_seg 1 (by kernel_rfl) ?_
            refine wpF_base [(0, .slice Al (l).length cl), (1, .int .i64 (q)), (5, .pointer (some ⟨br10_1, 0, none⟩)), (6, .slice Ar_33f6 (s).length cr_33f6), (7, .slice Ar_33f7 (z).length cr_33f7), (8, .int .i64 ((k + 1 : Int)))] (by kernel_rfl) (fun g170 => ?_)
            refine wpF_end _ (by kernel_rfl) (then_n (hK33 _ _ (k + 1, appS ((k : Int) + 1) (appS ((k : Int) + 1) L a (l.getD (k) [])) (appT ((k : Int) + 1) a (l.getD (k) [])) ([] : List (Str × Str × Bool)), appT ((k : Int) + 1) (appT ((k : Int) + 1) a (l.getD (k) [])) ([] : List (Str × Str × Bool)), s, z) (by omega) ?_))
            refine ⟨g170, V160, Aor166_p, cor166_p, Ar_33f6, cr_33f6, Ar_33f7, cr_33f7, rfl, hM167, ((le32.trans le130).trans le163), (hfAr_33f6.up (le130.trans le163)), (hfAr_33f7.up (le130.trans le163)), ?_, ?_⟩
            · -- fLtfff inv 0
              omega
            · -- fLtfff inv 1
              have h3 := bat_no2 (b := (l.getD (k) [])) hJ hk61 (by assumption); rw [if_neg (by assumption)] at h3; exact h3
    · -- fLf
      have p171 : ¬ (((k : Int)) < ((l.length : Int))) := of_decide_eq_false h36
      have hk : k = l.length := by omega
      have hJ0 : BatI q l.length L a s z := by rw [← hk]; assumption
      have hsc := bat_scan hJ0
      have hjl := hJ0.len
      refine wp_exit (then_x (then_x (blk_hit (then_n (hK25 _ _ ?_)))))
      obtain rfl : k = l.length := by omega
      refine wp_seq_k (fun K172 hK172 => ?_)
      refine wp_reg ?_
      refine wpF_seg 3 (by kernel_rfl) ?_
      have hM173 := hM31.front 0 rfl
      have hM181 : Step V w [] Vl27 _ ([spE br10_1 Ar_33s5 cr_33s5 mr10_1 (L) (a) (0)]) := hM173
      refine wpF_callE [spE br10_1 Ar_33s5 cr_33s5 mr10_1 (L) (a) (0)] ([]) hM181 (f := 37) (caps := #[]) (h := (by kernel_rfl : opAt _ _ _ _ _ = some (.call (.mk (.value (.func 37)) #[(.tmp 71), (.const (.string (ByteArray.mk #[]))), (.const (.string (ByteArray.mk #[]))), (.tmp 73), (.const (.int .i64 (-1)))] #[53, 9, 9, 3, 3]), some 74))) (by kernel_rfl) (by kernel_rfl) (by kernel_rfl) (f37 _ _ br10_1 Ar_33s5 cr_33s5 mr10_1 (L) (a) (0) ([]) (by first | decide | (simp only [maxL, List.length_append, List.length_cons, List.length_nil]; omega)) ([]) (by first | decide | (simp only [maxL, List.length_append, List.length_cons, List.length_nil]; omega)) ((l.length : Int)) (-1) (St.part (E := [spE br10_1 Ar_33s5 cr_33s5 mr10_1 (L) (a) (0)]) (F := ([])) hM181.ok) (by omega)) (fun v174 V175 w176 Eo177 le178 hM179 hp180 => ?_)
      obtain ⟨Ar181_1, cr181_1, rfl, rfl, r182⟩ := hp180
      have hM183 : Step V w [] V175 _ ([spE br10_1 Ar_33s5 cr_33s5 mr10_1 ((L)) ((a)) ((0))]) := hM179
      have l184 : (scnR (L) (a) (0) ([]) ([]) ((l.length : Int)) (-1)).length ≤ 140737488355328 := r182.max
      refine wpF_seg 5 (by kernel_rfl) ?_
      refine wpF_end _ (by kernel_rfl) (then_n (hK172 _ _ ?_))
      refine wp_seq_k (fun K185 hK185 => ?_)
      refine wp_seq_k (fun K186 hK186 => ?_)
      refine wp_reg ?_
      refine wpF_seg 2 (by kernel_rfl) ?_
      refine wpF_callP hM183 (f := 38) (caps := #[]) (h := (by kernel_rfl : opAt _ _ _ _ _ = some (.call (.mk (.value (.func 38)) #[(.tmp 77), (.tmp 78)] #[60, 60]), some 79))) (by kernel_rfl) (by kernel_rfl) (by kernel_rfl) (f38 _ _ hM183.inW Ar181_1 cr181_1 (scnR (L) (a) (0) ([]) ([]) ((l.length : Int)) (-1)) r182 Ar_33f6 cr_33f6 (s) (hfAr_33f6.up le178)) (fun v187 V188 w189 le190 hM191 hp192 => ?_)
      obtain rfl := hp192
      refine wpF_seg 2 (by kernel_rfl) ?_
      have h193 : (decide ((scnR (L) (a) (0) ([]) ([]) ((l.length : Int)) (-1)) = (s))) = true := by exact decide_eq_true hsc.2
      have p194 : ((scnR (L) (a) (0) ([]) ([]) ((l.length : Int)) (-1)) = (s)) := of_decide_eq_true h193
      refine wpF_slot 81 (.bool (!(decide ((scnR (L) (a) (0) ([]) ([]) ((l.length : Int)) (-1)) = (s))))) (.bool false) (by kernel_rfl) (by kernel_rfl) (by rw [(show (!(decide ((scnR (L) (a) (0) ([]) ([]) ((l.length : Int)) (-1)) = (s)))) = false from by rw [h193]; rfl)]) ?_
      refine wpF_seg 4 (by kernel_rfl) ?_
      have h195 : (decide ((kepE ((l.length : Int)) (a) (0)) = (0))) = true := by exact decide_eq_true hsc.1
      have p196 : ((kepE ((l.length : Int)) (a) (0)) = (0)) := of_decide_eq_true h195
      refine wpF_slot 85 (.bool (!(decide ((kepE ((l.length : Int)) (a) (0)) = (0))))) (.bool false) (by kernel_rfl) (by kernel_rfl) (by rw [(show (!(decide ((kepE ((l.length : Int)) (a) (0)) = (0)))) = false from by rw [h195]; rfl)]) ?_
      refine wpF_seg 1 (by kernel_rfl) ?_
      have hM197 := hM191.front 0 rfl
      have hM205 : Step V w [] V188 _ ([spE br10_1 Ar_33s5 cr_33s5 mr10_1 ((L)) ((a)) ((0))]) := hM197
      refine wpF_callE [spE br10_1 Ar_33s5 cr_33s5 mr10_1 ((L)) ((a)) ((0))] ([]) hM205 (f := 39) (caps := #[]) (h := (by kernel_rfl : opAt _ _ _ _ _ = some (.call (.mk (.value (.func 39)) #[(.tmp 86)] #[53]), some 87))) (by kernel_rfl) (by kernel_rfl) (by kernel_rfl) (f39 _ _ br10_1 Ar_33s5 cr_33s5 mr10_1 ((L)) ((a)) ((0)) (St.part (E := [spE br10_1 Ar_33s5 cr_33s5 mr10_1 ((L)) ((a)) ((0))]) (F := ([])) hM205.ok)) (fun v198 V199 w200 Eo201 le202 hM203 hp204 => ?_)
      obtain ⟨rfl, rfl⟩ := hp204
      have hM206 : Step V w [] V199 _ ([spE br10_1 Ar_33s5 cr_33s5 mr10_1 (((L))) (((a))) (((0)))]) := hM203
      refine wpF_seg 4 (by kernel_rfl) ?_
      refine wpF_end _ (by kernel_rfl) (then_n (hK186 _ _ ?_))
      have h207 : (decide ((((a))) = ((l.length : Int)))) = true := by exact decide_eq_true hJ0.la
      have p208 : ((((a))) = ((l.length : Int))) := of_decide_eq_true h207
      refine wp_slot 91 (.bool (!(decide ((((a))) = ((l.length : Int)))))) (.bool false) (by kernel_rfl) (by rw [(show (!(decide ((((a))) = ((l.length : Int))))) = false from by rw [h207]; rfl)]) ?_
      refine wp_cf (by kernel_rfl) ?_
      refine wp_skip (then_n (hK185 _ _ ?_))
      refine wp_seq_k (fun K209 hK209 => ?_)
      refine wp_seq_k (fun K210 hK210 => ?_)
      refine wp_reg ?_
      refine wpF_seg 3 (by kernel_rfl) ?_
      refine wpF_caseB 94 (decide ((q) < (0))) (by kernel_rfl) (by kernel_rfl) (fun h211 => ?_) (fun h211 => ?_)
      · -- fLft
        have p212 : ((q) < (0)) := of_decide_eq_true h211
        refine wpF_seg 5 (by kernel_rfl) ?_
        refine wpF_end _ (by kernel_rfl) (then_n (hK210 _ _ ?_))
        refine wp_ct (by kernel_rfl) ?_
        refine wp_seq_k (fun K213 hK213 => ?_)
        refine wp_reg ?_
        refine wpF_callP hM206 (f := 34) (caps := #[]) (h := (by kernel_rfl : opAt _ _ _ _ _ = some (.call (.mk (.value (.func 34)) #[] #[]), some 100))) (by kernel_rfl) (by kernel_rfl) (by kernel_rfl) (f34 _ _ hM206.inW ) (fun v214 V215 w216 le217 hM218 hp219 => ?_)
        obtain rfl := hp219
        refine wpF_seg 1 (by kernel_rfl) ?_
        refine wpF_end _ (by kernel_rfl) (then_n (hK213 _ _ ?_))
        refine wp_ret (then_r (?_))
        refine retN [.bool (true)] (.bool (true)) Try.results7 (.tmp (by kernel_rfl) (by kernel_rfl) .nil) (by kernel_rfl) (hRet _ _ ⟨_, _, rfl, hM218.clear, ?_⟩)
        -- end fLft
        rfl
      · -- fLff
        have p220 : ¬ ((q) < (0)) := of_decide_eq_false h211
        refine wpF_seg 5 (by kernel_rfl) ?_
        refine wpF_end _ (by kernel_rfl) (then_n (hK210 _ _ ?_))
        refine wp_if (decide (((l.length : Int)) ≤ (q))) (by kernel_rfl) (fun h221 => ?_) (fun h221 => ?_)
        · -- fLfft
          have p222 : (((l.length : Int)) ≤ (q)) := of_decide_eq_true h221
          refine wp_seq_k (fun K223 hK223 => ?_)
          refine wp_reg ?_
          refine wpF_callP hM206 (f := 34) (caps := #[]) (h := (by kernel_rfl : opAt _ _ _ _ _ = some (.call (.mk (.value (.func 34)) #[] #[]), some 100))) (by kernel_rfl) (by kernel_rfl) (by kernel_rfl) (f34 _ _ hM206.inW ) (fun v224 V225 w226 le227 hM228 hp229 => ?_)
          obtain rfl := hp229
          refine wpF_seg 1 (by kernel_rfl) ?_
          refine wpF_end _ (by kernel_rfl) (then_n (hK223 _ _ ?_))
          refine wp_ret (then_r (?_))
          refine retN [.bool (true)] (.bool (true)) Try.results7 (.tmp (by kernel_rfl) (by kernel_rfl) .nil) (by kernel_rfl) (hRet _ _ ⟨_, _, rfl, hM228.clear, ?_⟩)
          -- end fLfft
          rfl
        · -- fLfff
          have p230 : ¬ (((l.length : Int)) ≤ (q)) := of_decide_eq_false h221
          have hth := bat_then hJ0 (by omega) (by omega)
          refine wp_skip (then_n (hK209 _ _ ?_))
          refine wp_seq_k (fun K231 hK231 => ?_)
          refine wp_reg ?_
          refine wpF_seg 2 (by kernel_rfl) ?_
          have hM232 := hM206.front 0 rfl
          have hM240 : Step V w [] V199 _ ([spE br10_1 Ar_33s5 cr_33s5 mr10_1 (((L))) (((a))) (((0)))]) := hM232
          refine wpF_callE [spE br10_1 Ar_33s5 cr_33s5 mr10_1 (((L))) (((a))) (((0)))] ([]) hM240 (f := 37) (caps := #[]) (h := (by kernel_rfl : opAt _ _ _ _ _ = some (.call (.mk (.value (.func 37)) #[(.tmp 102), (.const (.string (ByteArray.mk #[]))), (.const (.string (ByteArray.mk #[]))), (.tmp 103), (.const (.int .i64 (-1)))] #[53, 9, 9, 3, 3]), some 104))) (by kernel_rfl) (by kernel_rfl) (by kernel_rfl) (f37 _ _ br10_1 Ar_33s5 cr_33s5 mr10_1 (((L))) (((a))) (((0))) ([]) (by first | decide | (simp only [maxL, List.length_append, List.length_cons, List.length_nil]; omega)) ([]) (by first | decide | (simp only [maxL, List.length_append, List.length_cons, List.length_nil]; omega)) (q) (-1) (St.part (E := [spE br10_1 Ar_33s5 cr_33s5 mr10_1 (((L))) (((a))) (((0)))]) (F := ([])) hM240.ok) (by omega)) (fun v233 V234 w235 Eo236 le237 hM238 hp239 => ?_)
          obtain ⟨Ar240_1, cr240_1, rfl, rfl, r241⟩ := hp239
          have hM242 : Step V w [] V234 _ ([spE br10_1 Ar_33s5 cr_33s5 mr10_1 ((((L)))) ((((a)))) ((((0))))]) := hM238
          have l243 : (scnR (((L))) (((a))) (((0))) ([]) ([]) (q) (-1)).length ≤ 140737488355328 := r241.max
          refine wpF_seg 5 (by kernel_rfl) ?_
          refine wpF_end _ (by kernel_rfl) (then_n (hK231 _ _ ?_))
          refine wp_seq_k (fun K244 hK244 => ?_)
          refine wp_reg ?_
          refine wpF_seg 2 (by kernel_rfl) ?_
          refine wpF_callP hM242 (f := 38) (caps := #[]) (h := (by kernel_rfl : opAt _ _ _ _ _ = some (.call (.mk (.value (.func 38)) #[(.tmp 107), (.tmp 108)] #[60, 60]), some 109))) (by kernel_rfl) (by kernel_rfl) (by kernel_rfl) (f38 _ _ hM242.inW Ar240_1 cr240_1 (scnR (((L))) (((a))) (((0))) ([]) ([]) (q) (-1)) r241 Ar_33f7 cr_33f7 (z) (hfAr_33f7.up (((le178.trans le190).trans le202).trans le237))) (fun v245 V246 w247 le248 hM249 hp250 => ?_)
          obtain rfl := hp250
          refine wpF_seg 1 (by kernel_rfl) ?_
          have h251 : (decide ((scnR (((L))) (((a))) (((0))) ([]) ([]) (q) (-1)) = (z))) = true := by exact decide_eq_true hth.2
          have p252 : ((scnR (((L))) (((a))) (((0))) ([]) ([]) (q) (-1)) = (z)) := of_decide_eq_true h251
          refine wpF_slot 110 (.bool (decide ((scnR (((L))) (((a))) (((0))) ([]) ([]) (q) (-1)) = (z)))) (.bool true) (by kernel_rfl) (by kernel_rfl) (by rw [h251]) ?_
          refine wpF_seg 4 (by kernel_rfl) ?_
          have h253 : (decide ((kepE (q) (((a))) (((0)))) = (0))) = true := by exact decide_eq_true hth.1
          have p254 : ((kepE (q) (((a))) (((0)))) = (0)) := of_decide_eq_true h253
          refine wpF_slot 114 (.bool (decide ((kepE (q) (((a))) (((0)))) = (0)))) (.bool true) (by kernel_rfl) (by kernel_rfl) (by rw [h253]) ?_
          refine wpF_callP hM249 (f := 34) (caps := #[]) (h := (by kernel_rfl : opAt _ _ _ _ _ = some (.call (.mk (.value (.func 34)) #[] #[]), some 115))) (by kernel_rfl) (by kernel_rfl) (by kernel_rfl) (f34 _ _ hM249.inW ) (fun v255 V256 w257 le258 hM259 hp260 => ?_)
          obtain rfl := hp260
          refine wpF_seg 2 (by kernel_rfl) ?_
          refine wpF_end _ (by kernel_rfl) (then_n (hK244 _ _ ?_))
          refine wp_ret ?_
          refine retN [.bool (true)] (.bool (true)) Try.results7 (.tmp (by kernel_rfl) (by kernel_rfl) .nil) (by kernel_rfl) (hRet _ _ ⟨_, _, rfl, hM259.clear, ?_⟩)
          -- end fLfff
          rfl

end Go.Vk
