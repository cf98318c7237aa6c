/- Contracts of the page's functions, part Y: printed by wip/tools/p8.py. -/
import Derived.Test.YtpaljghjoajhfaaRC
import Derived.Test.YtpaljghjoajhfaaRH
import Derived.Test.YtpaljghjoajhfaaRK
import Derived.Test.YtpaljghjoajhfaaRN
import Derived.Test.YtpaljghjoajhfaaRT
set_option linter.unusedVariables false
set_option linter.unusedSimpArgs false
namespace Go.Vk
open Go.Proofs
set_option maxHeartbeats 4000000 in
set_option maxRecDepth 100000 in
theorem f7 (V : VT) (w : World) (hV : V.inW w) (nl : Bool) (Ank : Option Addr) (cnk : Nat) (nk : List Str) (hnk : Rd strK V Ank cnk nk) (Anv : Option Addr) (cnv : Nat) (nv : List Str) (hnv : Rd strK V Anv cnv nv) (Anc : Option Addr) (cnc : Nat) (nc : List Int) (hnc : Rd (intK .i64) V Anc cnc nc) (Ab : Option Addr) (cb : Nat) (b : List UInt8) (hb : Rd byteK V Ab cb b) :
    Calls Try.prog 7 #[.agg #[.bool (nl), .slice Ank (nk).length cnk, .slice Anv (nv).length cnv, .slice Anc (nc).length cnc], .slice Ab (b).length cb] w (RetP V w fun rv V' => rv = .bool (true)) := by
  have mxnk : nk.length ≤ 140737488355328 := hnk.max
  have mxnv : nv.length ≤ 140737488355328 := hnv.max
  have mxnc : nc.length ≤ 140737488355328 := hnc.max
  have mxb : b.length ≤ 140737488355328 := hb.max
  refine calls_env (n := 85) Try.func7 (c := _) rfl Try.ntmps7 (by kernel_rfl) (fun R hRet => ?_)
  have hM0 : Step V w [] V w [] := Step.refl (St.nilE hV)
  refine wp_seq_k (fun K1 hK1 => ?_)
  refine wp_reg ?_
  refine wpF_box hM0 #[.bool (nl), .slice Ank (nk).length cnk, .slice Anv (nv).length cnv, .slice Anc (nc).length cnc] (h := (by kernel_rfl : opAt _ _ _ _ _ = some (.box 25 (.tmp 0), some 2))) (by kernel_rfl) (fun b2 w3 hM4 => ?_)
  refine wpF_seg 1 (by kernel_rfl) ?_
  refine wpF_end _ (by kernel_rfl) (then_n (hK1 _ _ ?_))
  refine wp_seq_k (fun K5 hK5 => ?_)
  refine wp_seq_k (fun K6 hK6 => ?_)
  refine wp_reg ?_
  refine gF hM4 (.load 25 (.tmp 2)) (some 13) (by kernel_rfl) (Y_load 0 rfl (off := 0) (by kernel_rfl) (.agg #[.bool (nl), .slice Ank (nk).length cnk, .slice Anv (nv).length cnv, .slice Anc (nc).length cnc]) (by kernel_rfl)) ?_
  refine wpF_callP hM4 (f := 11) (caps := #[]) (h := (by kernel_rfl : opAt _ _ _ _ _ = some (.call (.mk (.value (.func 11)) #[(.tmp 13)] #[25]), some 14))) (by kernel_rfl) (by kernel_rfl) (by kernel_rfl) (f11 _ _ hM4.inW (nl) Ank cnk (nk) hnk Anv cnv (nv) hnv Anc cnc (nc) hnc) (fun v7 V8 w9 le10 hM11 hp12 => ?_)
  obtain rfl := hp12
  refine wpF_seg 1 (by kernel_rfl) ?_
  refine wpF_end _ (by kernel_rfl) (then_n (hK6 _ _ ?_))
  refine wp_if (!(fewM (nk) (nv) (nc))) (by kernel_rfl) (fun h13 => ?_) (fun h13 => ?_)
  · -- t
    have h14 : (fewM (nk) (nv) (nc)) = false := by simpa using h13
    skip
    refine wp_seq_k (fun K15 hK15 => ?_)
    refine wp_reg ?_
    refine wpF_callP hM11 (f := 12) (caps := #[]) (h := (by kernel_rfl : opAt _ _ _ _ _ = some (.call (.mk (.value (.func 12)) #[] #[]), some 16))) (by kernel_rfl) (by kernel_rfl) (by kernel_rfl) (f12 _ _ hM11.inW ) (fun v16 V17 w18 le19 hM20 hp21 => ?_)
    obtain rfl := hp21
    refine wpF_seg 1 (by kernel_rfl) ?_
    refine wpF_end _ (by kernel_rfl) (then_n (hK15 _ _ ?_))
    refine wp_ret (then_r (?_))
    refine retN [.bool (true)] (.bool (true)) Try.results7 (.tmp (by kernel_rfl) (by kernel_rfl) .nil) (by kernel_rfl) (hRet _ _ ⟨_, _, rfl, hM20.clear, ?_⟩)
    -- end t
    rfl
  · -- f
    have h22 : (fewM (nk) (nv) (nc)) = true := by simpa using h13
    have hf := few_le (by assumption : fewM nk nv nc = true)
    refine wp_skip (then_n (hK5 _ _ ?_))
    refine wp_seq_k (fun K23 hK23 => ?_)
    refine wp_seq_k (fun K24 hK24 => ?_)
    refine wp_reg ?_
    refine gF hM11 (.load 25 (.tmp 2)) (some 18) (by kernel_rfl) (Y_load 0 rfl (off := 0) (by kernel_rfl) (.agg #[.bool (nl), .slice Ank (nk).length cnk, .slice Anv (nv).length cnv, .slice Anc (nc).length cnc]) (by kernel_rfl)) ?_
    refine wpF_callP hM11 (f := 13) (caps := #[]) (h := (by kernel_rfl : opAt _ _ _ _ _ = some (.call (.mk (.value (.func 13)) #[(.tmp 18)] #[25]), some 19))) (by kernel_rfl) (by kernel_rfl) (by kernel_rfl) (f13 _ _ hM11.inW (nl) Ank cnk (nk) (hnk.up hM11.le) Anv cnv (nv) (hnv.up hM11.le) Anc cnc (nc) (hnc.up hM11.le) (by omega) (by omega)) (fun v25 V26 w27 le28 hM29 hp30 => ?_)
    obtain ⟨Ar30_1, cr30_1, rfl, r31⟩ := hp30
    have l32 : (bytesM (nl) (nk) (nv) (nc)).length ≤ 140737488355328 := r31.max
    refine wpF_seg 5 (by kernel_rfl) ?_
    refine wpF_end _ (by kernel_rfl) (then_n (hK24 _ _ ?_))
    refine wp_seq_k (fun K33 hK33 => ?_)
    refine wp_reg ?_
    refine wpF_seg 2 (by kernel_rfl) ?_
    refine wpF_end _ (by kernel_rfl) (then_n (hK33 _ _ ?_))
    refine wp_if (decide ((checkM (nl) (nk) (nv) (nc)) = (0))) (by kernel_rfl) (fun h34 => ?_) (fun h34 => ?_)
    · -- ft
      have p35 : ((checkM (nl) (nk) (nv) (nc)) = (0)) := of_decide_eq_true h34
      have hc := (by assumption : checkM nl nk nv nc = 0)
      have hbm : bytesM nl nk nv nc = pageM nl nk nv nc := by simp only [bytesM, hc, decide_true, cond_true]
      have hrp := read_page hc (by omega)
      rw [← hbm] at hrp
      obtain ⟨e1, e2, e3, e4, e5⟩ := hrp
      have hpl := (page_len hc).1
      refine wp_seq_k (fun K36 hK36 => ?_)
      refine wp_reg ?_
      refine wpF_seg 1 (by kernel_rfl) ?_
      refine wpF_callP hM29 (f := 23) (caps := #[]) (h := (by kernel_rfl : opAt _ _ _ _ _ = some (.call (.mk (.value (.func 23)) #[(.tmp 25)] #[28]), some 26))) (by kernel_rfl) (by kernel_rfl) (by kernel_rfl) (f23 _ _ hM29.inW Ar30_1 cr30_1 (bytesM (nl) (nk) (nv) (nc)) r31) (fun v37 V38 w39 le40 hM41 hp42 => ?_)
      obtain ⟨Ar42_1, cr42_1, Ar42_2, cr42_2, Ar42_3, cr42_3, rfl, r43, r44, r45⟩ := hp42
      have l46 : (rdK (bytesM (nl) (nk) (nv) (nc))).length ≤ 140737488355328 := r43.max
      have l47 : (rdV (bytesM (nl) (nk) (nv) (nc))).length ≤ 140737488355328 := r44.max
      have l48 : (rdC (bytesM (nl) (nk) (nv) (nc))).length ≤ 140737488355328 := r45.max
      refine wpF_seg 3 (by kernel_rfl) ?_
      refine wpF_alloc hM41 #[.bool (false), .slice none 0 0, .slice none 0 0, .slice none 0 0] (h := (by kernel_rfl : opAt _ _ _ _ _ = some (.alloc 25, some 7))) (by kernel_rfl) (fun b49 w50 hM51 => ?_)
      refine wpF_store hM51 0 rfl (h := (by kernel_rfl : opAt _ _ _ _ _ = some (.store 25 (.tmp 7) (.tmp 27), none))) (off := 0) (by kernel_rfl) #[.bool (rdL (bytesM (nl) (nk) (nv) (nc))), .slice Ar42_1 (rdK (bytesM (nl) (nk) (nv) (nc))).length cr42_1, .slice Ar42_2 (rdV (bytesM (nl) (nk) (nv) (nc))).length cr42_2, .slice Ar42_3 (rdC (bytesM (nl) (nk) (nv) (nc))).length cr42_3] (by kernel_rfl) (by kernel_rfl) (by kernel_rfl) (by kernel_rfl) (fun w53 hM52 => ?_)
      have hM54 : Step V w [] V38 _ ([.blk b49 (.cells #[.bool (rdL (bytesM (nl) (nk) (nv) (nc))), .slice Ar42_1 (rdK (bytesM (nl) (nk) (nv) (nc))).length cr42_1, .slice Ar42_2 (rdV (bytesM (nl) (nk) (nv) (nc))).length cr42_2, .slice Ar42_3 (rdC (bytesM (nl) (nk) (nv) (nc))).length cr42_3] 25), .blk b2 (.cells #[.bool (nl), .slice Ank (nk).length cnk, .slice Anv (nv).length cnv, .slice Anc (nc).length cnc] 25)]) := hM52
      refine wpF_seg 1 (by kernel_rfl) ?_
      refine wpF_end _ (by kernel_rfl) (then_n (hK36 _ _ ?_))
      refine wp_seq_k (fun K55 hK55 => ?_)
      refine wp_reg ?_
      refine gF hM54 (.load 25 (.tmp 2)) (some 29) (by kernel_rfl) (Y_load 1 rfl (off := 0) (by kernel_rfl) (.agg #[.bool (nl), .slice Ank (nk).length cnk, .slice Anv (nv).length cnv, .slice Anc (nc).length cnc]) (by kernel_rfl)) ?_
      refine gF hM54 (.load 25 (.tmp 7)) (some 30) (by kernel_rfl) (Y_load 0 rfl (off := 0) (by kernel_rfl) (.agg #[.bool (rdL (bytesM (nl) (nk) (nv) (nc))), .slice Ar42_1 (rdK (bytesM (nl) (nk) (nv) (nc))).length cr42_1, .slice Ar42_2 (rdV (bytesM (nl) (nk) (nv) (nc))).length cr42_2, .slice Ar42_3 (rdC (bytesM (nl) (nk) (nv) (nc))).length cr42_3]) (by kernel_rfl)) ?_
      refine wpF_callP hM54 (f := 21) (caps := #[]) (h := (by kernel_rfl : opAt _ _ _ _ _ = some (.call (.mk (.value (.func 21)) #[(.tmp 29), (.tmp 30)] #[25, 25]), some 31))) (by kernel_rfl) (by kernel_rfl) (by kernel_rfl) (f21 _ _ hM54.inW (nl) Ank cnk (nk) (hnk.up hM54.le) Anv cnv (nv) (hnv.up hM54.le) Anc cnc (nc) (hnc.up hM54.le) (rdL (bytesM (nl) (nk) (nv) (nc))) Ar42_1 cr42_1 (rdK (bytesM (nl) (nk) (nv) (nc))) r43 Ar42_2 cr42_2 (rdV (bytesM (nl) (nk) (nv) (nc))) r44 Ar42_3 cr42_3 (rdC (bytesM (nl) (nk) (nv) (nc))) r45) (fun v56 V57 w58 le59 hM60 hp61 => ?_)
      obtain rfl := hp61
      refine wpF_seg 2 (by kernel_rfl) ?_
      have h62 : (decide ((nl) = (rdL (bytesM (nl) (nk) (nv) (nc))) ∧ (nk) = (rdK (bytesM (nl) (nk) (nv) (nc))) ∧ (nv) = (rdV (bytesM (nl) (nk) (nv) (nc))) ∧ (nc) = (rdC (bytesM (nl) (nk) (nv) (nc))))) = true := by exact decide_eq_true ⟨e2.symm, e3.symm, e4.symm, e5.symm⟩
      refine wpF_slot 33 (.bool (!(decide ((nl) = (rdL (bytesM (nl) (nk) (nv) (nc))) ∧ (nk) = (rdK (bytesM (nl) (nk) (nv) (nc))) ∧ (nv) = (rdV (bytesM (nl) (nk) (nv) (nc))) ∧ (nc) = (rdC (bytesM (nl) (nk) (nv) (nc))))))) (.bool false) (by kernel_rfl) (by kernel_rfl) (by rw [(show (!(decide ((nl) = (rdL (bytesM (nl) (nk) (nv) (nc))) ∧ (nk) = (rdK (bytesM (nl) (nk) (nv) (nc))) ∧ (nv) = (rdV (bytesM (nl) (nk) (nv) (nc))) ∧ (nc) = (rdC (bytesM (nl) (nk) (nv) (nc)))))) = false from by rw [h62]; rfl)]) ?_
      refine wpF_seg 4 (by kernel_rfl) ?_
      have h63 : (decide ((rdE (bytesM (nl) (nk) (nv) (nc))) = (0))) = true := by exact decide_eq_true e1
      refine wpF_slot 37 (.bool (!(decide ((rdE (bytesM (nl) (nk) (nv) (nc))) = (0))))) (.bool false) (by kernel_rfl) (by kernel_rfl) (by rw [(show (!(decide ((rdE (bytesM (nl) (nk) (nv) (nc))) = (0)))) = false from by rw [h63]; rfl)]) ?_
      refine wpF_seg 4 (by kernel_rfl) ?_
      refine wpF_end _ (by kernel_rfl) (then_n (hK55 _ _ ?_))
      have h64 : (decide ((((bytesM (nl) (nk) (nv) (nc)).length : Int)) = (1024))) = true := by exact decide_eq_true (by rw [hbm, hpl]; rfl)
      refine wp_slot 41 (.bool (!(decide ((((bytesM (nl) (nk) (nv) (nc)).length : Int)) = (1024))))) (.bool false) (by kernel_rfl) (by rw [(show (!(decide ((((bytesM (nl) (nk) (nv) (nc)).length : Int)) = (1024)))) = false from by rw [h64]; rfl)]) ?_
      refine wp_cf (by kernel_rfl) ?_
      refine wp_skip (then_n (hK23 _ _ ?_))
      refine wp_seq_k (fun K65 hK65 => ?_)
      refine wp_reg ?_
      refine wpF_seg 1 (by kernel_rfl) ?_
      refine wpF_callP hM60 (f := 23) (caps := #[]) (h := (by kernel_rfl : opAt _ _ _ _ _ = some (.call (.mk (.value (.func 23)) #[(.tmp 52)] #[28]), some 53))) (by kernel_rfl) (by kernel_rfl) (by kernel_rfl) (f23 _ _ hM60.inW Ab cb (b) (hb.up hM60.le)) (fun v66 V67 w68 le69 hM70 hp71 => ?_)
      obtain ⟨Ar71_1, cr71_1, Ar71_2, cr71_2, Ar71_3, cr71_3, rfl, r72, r73, r74⟩ := hp71
      have l75 : (rdK (b)).length ≤ 140737488355328 := r72.max
      have l76 : (rdV (b)).length ≤ 140737488355328 := r73.max
      have l77 : (rdC (b)).length ≤ 140737488355328 := r74.max
      refine wpF_seg 3 (by kernel_rfl) ?_
      refine wpF_alloc hM70 #[.bool (false), .slice none 0 0, .slice none 0 0, .slice none 0 0] (h := (by kernel_rfl : opAt _ _ _ _ _ = some (.alloc 25, some 9))) (by kernel_rfl) (fun b78 w79 hM80 => ?_)
      refine wpF_store hM80 0 rfl (h := (by kernel_rfl : opAt _ _ _ _ _ = some (.store 25 (.tmp 9) (.tmp 54), none))) (off := 0) (by kernel_rfl) #[.bool (rdL (b)), .slice Ar71_1 (rdK (b)).length cr71_1, .slice Ar71_2 (rdV (b)).length cr71_2, .slice Ar71_3 (rdC (b)).length cr71_3] (by kernel_rfl) (by kernel_rfl) (by kernel_rfl) (by kernel_rfl) (fun w82 hM81 => ?_)
      have hM83 : Step V w [] V67 _ ([.blk b78 (.cells #[.bool (rdL (b)), .slice Ar71_1 (rdK (b)).length cr71_1, .slice Ar71_2 (rdV (b)).length cr71_2, .slice Ar71_3 (rdC (b)).length cr71_3] 25), .blk b49 (.cells #[.bool (rdL (bytesM (nl) (nk) (nv) (nc))), .slice Ar42_1 (rdK (bytesM (nl) (nk) (nv) (nc))).length cr42_1, .slice Ar42_2 (rdV (bytesM (nl) (nk) (nv) (nc))).length cr42_2, .slice Ar42_3 (rdC (bytesM (nl) (nk) (nv) (nc))).length cr42_3] 25), .blk b2 (.cells #[.bool (nl), .slice Ank (nk).length cnk, .slice Anv (nv).length cnv, .slice Anc (nc).length cnc] 25)]) := hM81
      refine wpF_seg 1 (by kernel_rfl) ?_
      refine wpF_end _ (by kernel_rfl) (then_n (hK65 _ _ ?_))
      refine wp_seq_k (fun K84 hK84 => ?_)
      refine wp_seq_k (fun K85 hK85 => ?_)
      refine wp_reg ?_
      refine wpF_seg 2 (by kernel_rfl) ?_
      refine wpF_end _ (by kernel_rfl) (then_n (hK85 _ _ ?_))
      refine wp_if (!(decide ((rdE (b)) = (0)))) (by kernel_rfl) (fun h86 => ?_) (fun h86 => ?_)
      · -- ftt
        have h87 : decide ((rdE (b)) = (0)) = false := by rw [← Bool.not_not (decide _), h86]; rfl
        have p88 : ¬ ((rdE (b)) = (0)) := of_decide_eq_false h87
        have hb0 := rd_no (rdE_no (by assumption : ¬ rdE b = 0))
        refine wp_seq_k (fun K89 hK89 => ?_)
        refine wp_reg ?_
        refine gF hM83 (.load 25 (.tmp 9)) (some 58) (by kernel_rfl) (Y_load 0 rfl (off := 0) (by kernel_rfl) (.agg #[.bool (rdL (b)), .slice Ar71_1 (rdK (b)).length cr71_1, .slice Ar71_2 (rdV (b)).length cr71_2, .slice Ar71_3 (rdC (b)).length cr71_3]) (by kernel_rfl)) ?_
        refine wpF_seg 1 (by kernel_rfl) ?_
        refine wpF_callP hM83 (f := 21) (caps := #[]) (h := (by kernel_rfl : opAt _ _ _ _ _ = some (.call (.mk (.value (.func 21)) #[(.tmp 58), (.tmp 59)] #[25, 25]), some 60))) (by kernel_rfl) (by kernel_rfl) (by kernel_rfl) (f21 _ _ hM83.inW (rdL (b)) Ar71_1 cr71_1 (rdK (b)) r72 Ar71_2 cr71_2 (rdV (b)) r73 Ar71_3 cr71_3 (rdC (b)) r74 (false) none 0 ([] : List Str) (Rd.nil _ _) none 0 ([] : List Str) (Rd.nil _ _) none 0 ([] : List Int) (Rd.nil _ _)) (fun v90 V91 w92 le93 hM94 hp95 => ?_)
        obtain rfl := hp95
        refine wpF_seg 1 (by kernel_rfl) ?_
        have h96 : (decide ((rdL (b)) = (false) ∧ (rdK (b)) = ([] : List Str) ∧ (rdV (b)) = ([] : List Str) ∧ (rdC (b)) = ([] : List Int))) = true := by exact decide_eq_true ⟨hb0.2.1, hb0.2.2.1, hb0.2.2.2.1, hb0.2.2.2.2⟩
        refine wpF_slot 61 (.bool (decide ((rdL (b)) = (false) ∧ (rdK (b)) = ([] : List Str) ∧ (rdV (b)) = ([] : List Str) ∧ (rdC (b)) = ([] : List Int)))) (.bool true) (by kernel_rfl) (by kernel_rfl) (by rw [h96]) ?_
        refine wpF_seg 4 (by kernel_rfl) ?_
        have h97 : (decide ((rdE (b)) = (4))) = true := by exact decide_eq_true hb0.1
        refine wpF_slot 65 (.bool (decide ((rdE (b)) = (4)))) (.bool true) (by kernel_rfl) (by kernel_rfl) (by rw [h97]) ?_
        refine wpF_callP hM94 (f := 12) (caps := #[]) (h := (by kernel_rfl : opAt _ _ _ _ _ = some (.call (.mk (.value (.func 12)) #[] #[]), some 66))) (by kernel_rfl) (by kernel_rfl) (by kernel_rfl) (f12 _ _ hM94.inW ) (fun v98 V99 w100 le101 hM102 hp103 => ?_)
        obtain rfl := hp103
        refine wpF_seg 2 (by kernel_rfl) ?_
        refine wpF_end _ (by kernel_rfl) (then_n (hK89 _ _ ?_))
        refine wp_ret (then_r (?_))
        refine retN [.bool (true)] (.bool (true)) Try.results7 (.tmp (by kernel_rfl) (by kernel_rfl) .nil) (by kernel_rfl) (hRet _ _ ⟨_, _, rfl, hM102.clear, ?_⟩)
        -- end ftt
        rfl
      · -- ftf
        have h104 : decide ((rdE (b)) = (0)) = true := by rw [← Bool.not_not (decide _), h86]; rfl
        have p105 : ((rdE (b)) = (0)) := of_decide_eq_true h104
        have hrb := read_back (by assumption : rdE b = 0)
        have hsh := rd_short b
        refine wp_skip (then_n (hK84 _ _ ?_))
        refine wp_seq_k (fun K106 hK106 => ?_)
        refine wp_reg ?_
        refine gF hM83 (.load 25 (.tmp 9)) (some 69) (by kernel_rfl) (Y_load 0 rfl (off := 0) (by kernel_rfl) (.agg #[.bool (rdL (b)), .slice Ar71_1 (rdK (b)).length cr71_1, .slice Ar71_2 (rdV (b)).length cr71_2, .slice Ar71_3 (rdC (b)).length cr71_3]) (by kernel_rfl)) ?_
        refine wpF_callP hM83 (f := 13) (caps := #[]) (h := (by kernel_rfl : opAt _ _ _ _ _ = some (.call (.mk (.value (.func 13)) #[(.tmp 69)] #[25]), some 70))) (by kernel_rfl) (by kernel_rfl) (by kernel_rfl) (f13 _ _ hM83.inW (rdL (b)) Ar71_1 cr71_1 (rdK (b)) r72 Ar71_2 cr71_2 (rdV (b)) r73 Ar71_3 cr71_3 (rdC (b)) r74 (by omega) (by omega)) (fun v107 V108 w109 le110 hM111 hp112 => ?_)
        obtain ⟨Ar112_1, cr112_1, rfl, r113⟩ := hp112
        have l114 : (bytesM (rdL (b)) (rdK (b)) (rdV (b)) (rdC (b))).length ≤ 140737488355328 := r113.max
        refine wpF_seg 5 (by kernel_rfl) ?_
        refine wpF_end _ (by kernel_rfl) (then_n (hK106 _ _ ?_))
        refine wp_seq_k (fun K115 hK115 => ?_)
        refine wp_reg ?_
        refine wpF_seg 1 (by kernel_rfl) ?_
        refine gF hM111 (.convert 28 9 (.tmp 73)) (some 74) (by kernel_rfl) (Y_toStr (A := Ar112_1) (c := cr112_1) r113 (e := 5) (by kernel_rfl) (by kernel_rfl) (by kernel_rfl)) ?_
        refine wpF_seg 1 (by kernel_rfl) ?_
        refine gF hM111 (.convert 28 9 (.tmp 75)) (some 76) (by kernel_rfl) (Y_toStr (A := Ab) (c := cb) (hb.up hM111.le) (e := 5) (by kernel_rfl) (by kernel_rfl) (by kernel_rfl)) ?_
        refine wpF_seg 2 (by kernel_rfl) ?_
        have h116 : (decide ((bytesM (rdL (b)) (rdK (b)) (rdV (b)) (rdC (b))) = (b))) = true := by exact decide_eq_true hrb.2
        refine wpF_slot 78 (.bool (decide ((bytesM (rdL (b)) (rdK (b)) (rdV (b)) (rdC (b))) = (b)))) (.bool true) (by kernel_rfl) (by kernel_rfl) (by rw [h116]) ?_
        refine wpF_seg 4 (by kernel_rfl) ?_
        have h117 : (decide ((checkM (rdL (b)) (rdK (b)) (rdV (b)) (rdC (b))) = (0))) = true := by exact decide_eq_true hrb.1
        refine wpF_slot 82 (.bool (decide ((checkM (rdL (b)) (rdK (b)) (rdV (b)) (rdC (b))) = (0)))) (.bool true) (by kernel_rfl) (by kernel_rfl) (by rw [h117]) ?_
        refine wpF_callP hM111 (f := 12) (caps := #[]) (h := (by kernel_rfl : opAt _ _ _ _ _ = some (.call (.mk (.value (.func 12)) #[] #[]), some 83))) (by kernel_rfl) (by kernel_rfl) (by kernel_rfl) (f12 _ _ hM111.inW ) (fun v118 V119 w120 le121 hM122 hp123 => ?_)
        obtain rfl := hp123
        refine wpF_seg 2 (by kernel_rfl) ?_
        refine wpF_end _ (by kernel_rfl) (then_n (hK115 _ _ ?_))
        refine wp_ret ?_
        refine retN [.bool (true)] (.bool (true)) Try.results7 (.tmp (by kernel_rfl) (by kernel_rfl) .nil) (by kernel_rfl) (hRet _ _ ⟨_, _, rfl, hM122.clear, ?_⟩)
        -- end ftf
        rfl
    · -- ff
      have p124 : ¬ ((checkM (nl) (nk) (nv) (nc)) = (0)) := of_decide_eq_false h34
      refine wp_seq_k (fun K125 hK125 => ?_)
      refine wp_reg ?_
      refine wpF_seg 4 (by kernel_rfl) ?_
      have h126 : (decide ((((bytesM (nl) (nk) (nv) (nc)).length : Int)) = (0))) = true := by exact decide_eq_true (by have hc' : decide (checkM nl nk nv nc = 0) = false := (by assumption); simp only [bytesM, hc', cond_false]; rfl)
      refine wpF_slot 45 (.bool (!(decide ((((bytesM (nl) (nk) (nv) (nc)).length : Int)) = (0))))) (.bool false) (by kernel_rfl) (by kernel_rfl) (by rw [(show (!(decide ((((bytesM (nl) (nk) (nv) (nc)).length : Int)) = (0)))) = false from by rw [h126]; rfl)]) ?_
      refine wpF_seg 1 (by kernel_rfl) ?_
      refine gF hM29 (.load 25 (.tmp 2)) (some 47) (by kernel_rfl) (Y_load 0 rfl (off := 0) (by kernel_rfl) (.agg #[.bool (nl), .slice Ank (nk).length cnk, .slice Anv (nv).length cnv, .slice Anc (nc).length cnc]) (by kernel_rfl)) ?_
      refine wpF_callP hM29 (f := 17) (caps := #[]) (h := (by kernel_rfl : opAt _ _ _ _ _ = some (.call (.mk (.value (.func 17)) #[(.tmp 47)] #[25]), some 48))) (by kernel_rfl) (by kernel_rfl) (by kernel_rfl) (f17 _ _ hM29.inW (nl) Ank cnk (nk) (hnk.up hM29.le) Anv cnv (nv) (hnv.up hM29.le) Anc cnc (nc) (hnc.up hM29.le) (by omega) (by omega)) (fun v127 V128 w129 le130 hM131 hp132 => ?_)
      obtain rfl := hp132
      refine wpF_seg 2 (by kernel_rfl) ?_
      refine wpF_end _ (by kernel_rfl) (then_n (hK125 _ _ ?_))
      refine wp_slot 50 (.bool (!(decide ((checkM (nl) (nk) (nv) (nc)) = (checkM (nl) (nk) (nv) (nc)))))) (.bool false) (by kernel_rfl) (by rw [(show (!(decide ((checkM (nl) (nk) (nv) (nc)) = (checkM (nl) (nk) (nv) (nc))))) = false from by rw [(decide_eq_true rfl : (decide ((checkM (nl) (nk) (nv) (nc)) = (checkM (nl) (nk) (nv) (nc)))) = true)]; rfl)]) ?_
      refine wp_cf (by kernel_rfl) ?_
      refine wp_skip (then_n (hK23 _ _ ?_))
      refine wp_seq_k (fun K133 hK133 => ?_)
      refine wp_reg ?_
      refine wpF_seg 1 (by kernel_rfl) ?_
      refine wpF_callP hM131 (f := 23) (caps := #[]) (h := (by kernel_rfl : opAt _ _ _ _ _ = some (.call (.mk (.value (.func 23)) #[(.tmp 52)] #[28]), some 53))) (by kernel_rfl) (by kernel_rfl) (by kernel_rfl) (f23 _ _ hM131.inW Ab cb (b) (hb.up hM131.le)) (fun v134 V135 w136 le137 hM138 hp139 => ?_)
      obtain ⟨Ar139_1, cr139_1, Ar139_2, cr139_2, Ar139_3, cr139_3, rfl, r140, r141, r142⟩ := hp139
      have l143 : (rdK (b)).length ≤ 140737488355328 := r140.max
      have l144 : (rdV (b)).length ≤ 140737488355328 := r141.max
      have l145 : (rdC (b)).length ≤ 140737488355328 := r142.max
      refine wpF_seg 3 (by kernel_rfl) ?_
      refine wpF_alloc hM138 #[.bool (false), .slice none 0 0, .slice none 0 0, .slice none 0 0] (h := (by kernel_rfl : opAt _ _ _ _ _ = some (.alloc 25, some 9))) (by kernel_rfl) (fun b146 w147 hM148 => ?_)
      refine wpF_store hM148 0 rfl (h := (by kernel_rfl : opAt _ _ _ _ _ = some (.store 25 (.tmp 9) (.tmp 54), none))) (off := 0) (by kernel_rfl) #[.bool (rdL (b)), .slice Ar139_1 (rdK (b)).length cr139_1, .slice Ar139_2 (rdV (b)).length cr139_2, .slice Ar139_3 (rdC (b)).length cr139_3] (by kernel_rfl) (by kernel_rfl) (by kernel_rfl) (by kernel_rfl) (fun w150 hM149 => ?_)
      have hM151 : Step V w [] V135 _ ([.blk b146 (.cells #[.bool (rdL (b)), .slice Ar139_1 (rdK (b)).length cr139_1, .slice Ar139_2 (rdV (b)).length cr139_2, .slice Ar139_3 (rdC (b)).length cr139_3] 25), .blk b2 (.cells #[.bool (nl), .slice Ank (nk).length cnk, .slice Anv (nv).length cnv, .slice Anc (nc).length cnc] 25)]) := hM149
      refine wpF_seg 1 (by kernel_rfl) ?_
      refine wpF_end _ (by kernel_rfl) (then_n (hK133 _ _ ?_))
      refine wp_seq_k (fun K152 hK152 => ?_)
      refine wp_seq_k (fun K153 hK153 => ?_)
      refine wp_reg ?_
      refine wpF_seg 2 (by kernel_rfl) ?_
      refine wpF_end _ (by kernel_rfl) (then_n (hK153 _ _ ?_))
      refine wp_if (!(decide ((rdE (b)) = (0)))) (by kernel_rfl) (fun h154 => ?_) (fun h154 => ?_)
      · -- fft
        have h155 : decide ((rdE (b)) = (0)) = false := by rw [← Bool.not_not (decide _), h154]; rfl
        have p156 : ¬ ((rdE (b)) = (0)) := of_decide_eq_false h155
        have hb0 := rd_no (rdE_no (by assumption : ¬ rdE b = 0))
        refine wp_seq_k (fun K157 hK157 => ?_)
        refine wp_reg ?_
        refine gF hM151 (.load 25 (.tmp 9)) (some 58) (by kernel_rfl) (Y_load 0 rfl (off := 0) (by kernel_rfl) (.agg #[.bool (rdL (b)), .slice Ar139_1 (rdK (b)).length cr139_1, .slice Ar139_2 (rdV (b)).length cr139_2, .slice Ar139_3 (rdC (b)).length cr139_3]) (by kernel_rfl)) ?_
        refine wpF_seg 1 (by kernel_rfl) ?_
        refine wpF_callP hM151 (f := 21) (caps := #[]) (h := (by kernel_rfl : opAt _ _ _ _ _ = some (.call (.mk (.value (.func 21)) #[(.tmp 58), (.tmp 59)] #[25, 25]), some 60))) (by kernel_rfl) (by kernel_rfl) (by kernel_rfl) (f21 _ _ hM151.inW (rdL (b)) Ar139_1 cr139_1 (rdK (b)) r140 Ar139_2 cr139_2 (rdV (b)) r141 Ar139_3 cr139_3 (rdC (b)) r142 (false) none 0 ([] : List Str) (Rd.nil _ _) none 0 ([] : List Str) (Rd.nil _ _) none 0 ([] : List Int) (Rd.nil _ _)) (fun v158 V159 w160 le161 hM162 hp163 => ?_)
        obtain rfl := hp163
        refine wpF_seg 1 (by kernel_rfl) ?_
        have h164 : (decide ((rdL (b)) = (false) ∧ (rdK (b)) = ([] : List Str) ∧ (rdV (b)) = ([] : List Str) ∧ (rdC (b)) = ([] : List Int))) = true := by exact decide_eq_true ⟨hb0.2.1, hb0.2.2.1, hb0.2.2.2.1, hb0.2.2.2.2⟩
        refine wpF_slot 61 (.bool (decide ((rdL (b)) = (false) ∧ (rdK (b)) = ([] : List Str) ∧ (rdV (b)) = ([] : List Str) ∧ (rdC (b)) = ([] : List Int)))) (.bool true) (by kernel_rfl) (by kernel_rfl) (by rw [h164]) ?_
        refine wpF_seg 4 (by kernel_rfl) ?_
        have h165 : (decide ((rdE (b)) = (4))) = true := by exact decide_eq_true hb0.1
        refine wpF_slot 65 (.bool (decide ((rdE (b)) = (4)))) (.bool true) (by kernel_rfl) (by kernel_rfl) (by rw [h165]) ?_
        refine wpF_callP hM162 (f := 12) (caps := #[]) (h := (by kernel_rfl : opAt _ _ _ _ _ = some (.call (.mk (.value (.func 12)) #[] #[]), some 66))) (by kernel_rfl) (by kernel_rfl) (by kernel_rfl) (f12 _ _ hM162.inW ) (fun v166 V167 w168 le169 hM170 hp171 => ?_)
        obtain rfl := hp171
        refine wpF_seg 2 (by kernel_rfl) ?_
        refine wpF_end _ (by kernel_rfl) (then_n (hK157 _ _ ?_))
        refine wp_ret (then_r (?_))
        refine retN [.bool (true)] (.bool (true)) Try.results7 (.tmp (by kernel_rfl) (by kernel_rfl) .nil) (by kernel_rfl) (hRet _ _ ⟨_, _, rfl, hM170.clear, ?_⟩)
        -- end fft
        rfl
      · -- fff
        have h172 : decide ((rdE (b)) = (0)) = true := by rw [← Bool.not_not (decide _), h154]; rfl
        have p173 : ((rdE (b)) = (0)) := of_decide_eq_true h172
        have hrb := read_back (by assumption : rdE b = 0)
        have hsh := rd_short b
        refine wp_skip (then_n (hK152 _ _ ?_))
        refine wp_seq_k (fun K174 hK174 => ?_)
        refine wp_reg ?_
        refine gF hM151 (.load 25 (.tmp 9)) (some 69) (by kernel_rfl) (Y_load 0 rfl (off := 0) (by kernel_rfl) (.agg #[.bool (rdL (b)), .slice Ar139_1 (rdK (b)).length cr139_1, .slice Ar139_2 (rdV (b)).length cr139_2, .slice Ar139_3 (rdC (b)).length cr139_3]) (by kernel_rfl)) ?_
        refine wpF_callP hM151 (f := 13) (caps := #[]) (h := (by kernel_rfl : opAt _ _ _ _ _ = some (.call (.mk (.value (.func 13)) #[(.tmp 69)] #[25]), some 70))) (by kernel_rfl) (by kernel_rfl) (by kernel_rfl) (f13 _ _ hM151.inW (rdL (b)) Ar139_1 cr139_1 (rdK (b)) r140 Ar139_2 cr139_2 (rdV (b)) r141 Ar139_3 cr139_3 (rdC (b)) r142 (by omega) (by omega)) (fun v175 V176 w177 le178 hM179 hp180 => ?_)
        obtain ⟨Ar180_1, cr180_1, rfl, r181⟩ := hp180
        have l182 : (bytesM (rdL (b)) (rdK (b)) (rdV (b)) (rdC (b))).length ≤ 140737488355328 := r181.max
        refine wpF_seg 5 (by kernel_rfl) ?_
        refine wpF_end _ (by kernel_rfl) (then_n (hK174 _ _ ?_))
        refine wp_seq_k (fun K183 hK183 => ?_)
        refine wp_reg ?_
        refine wpF_seg 1 (by kernel_rfl) ?_
        refine gF hM179 (.convert 28 9 (.tmp 73)) (some 74) (by kernel_rfl) (Y_toStr (A := Ar180_1) (c := cr180_1) r181 (e := 5) (by kernel_rfl) (by kernel_rfl) (by kernel_rfl)) ?_
        refine wpF_seg 1 (by kernel_rfl) ?_
        refine gF hM179 (.convert 28 9 (.tmp 75)) (some 76) (by kernel_rfl) (Y_toStr (A := Ab) (c := cb) (hb.up hM179.le) (e := 5) (by kernel_rfl) (by kernel_rfl) (by kernel_rfl)) ?_
        refine wpF_seg 2 (by kernel_rfl) ?_
        have h184 : (decide ((bytesM (rdL (b)) (rdK (b)) (rdV (b)) (rdC (b))) = (b))) = true := by exact decide_eq_true hrb.2
        refine wpF_slot 78 (.bool (decide ((bytesM (rdL (b)) (rdK (b)) (rdV (b)) (rdC (b))) = (b)))) (.bool true) (by kernel_rfl) (by kernel_rfl) (by rw [h184]) ?_
        refine wpF_seg 4 (by kernel_rfl) ?_
        have h185 : (decide ((checkM (rdL (b)) (rdK (b)) (rdV (b)) (rdC (b))) = (0))) = true := by exact decide_eq_true hrb.1
        refine wpF_slot 82 (.bool (decide ((checkM (rdL (b)) (rdK (b)) (rdV (b)) (rdC (b))) = (0)))) (.bool true) (by kernel_rfl) (by kernel_rfl) (by rw [h185]) ?_
        refine wpF_callP hM179 (f := 12) (caps := #[]) (h := (by kernel_rfl : opAt _ _ _ _ _ = some (.call (.mk (.value (.func 12)) #[] #[]), some 83))) (by kernel_rfl) (by kernel_rfl) (by kernel_rfl) (f12 _ _ hM179.inW ) (fun v186 V187 w188 le189 hM190 hp191 => ?_)
        obtain rfl := hp191
        refine wpF_seg 2 (by kernel_rfl) ?_
        refine wpF_end _ (by kernel_rfl) (then_n (hK183 _ _ ?_))
        refine wp_ret ?_
        refine retN [.bool (true)] (.bool (true)) Try.results7 (.tmp (by kernel_rfl) (by kernel_rfl) .nil) (by kernel_rfl) (hRet _ _ ⟨_, _, rfl, hM190.clear, ?_⟩)
        -- end fff
        rfl

end Go.Vk
