/- Contracts of the page's functions, part AB: printed by wip/tools/p8.py. -/
import Derived.Test.YtpaljghjoajhfaaRC
import Derived.Test.YtpaljghjoajhfaaRD
import Derived.Test.YtpaljghjoajhfaaRH
import Derived.Test.YtpaljghjoajhfaaRN
import Derived.Test.YtpaljghjoajhfaaRW
set_option linter.unusedVariables false
set_option linter.unusedSimpArgs false
namespace Go.Vk
open Go.Proofs
set_option maxHeartbeats 4000000 in
set_option maxRecDepth 100000 in
theorem f9 (V : VT) (w : World) (hV : V.inW w) (nl : Bool) (Ank : Option Addr) (cnk : Nat) (nk : List Str) (hnk : Rd strK V Ank cnk nk) (Anv : Option Addr) (cnv : Nat) (nv : List Str) (hnv : Rd strK V Anv cnv nv) (Anc : Option Addr) (cnc : Nat) (nc : List Int) (hnc : Rd (intK .i64) V Anc cnc nc) (y : Str) (hy : y.length ≤ maxL) (u : Str) (hu : u.length ≤ maxL) (z : Str) (hz : z.length ≤ maxL) :
    Calls Try.prog 9 #[.agg #[.bool (nl), .slice Ank (nk).length cnk, .slice Anv (nv).length cnv, .slice Anc (nc).length cnc], bs (y), bs (u), bs (z)] w (RetP V w fun rv V' => rv = .bool (true)) := by
  have mxnk : nk.length ≤ 140737488355328 := hnk.max
  have mxnv : nv.length ≤ 140737488355328 := hnv.max
  have mxnc : nc.length ≤ 140737488355328 := hnc.max
  have mxy : y.length ≤ 140737488355328 := hy
  have mxu : u.length ≤ 140737488355328 := hu
  have mxz : z.length ≤ 140737488355328 := hz
  refine calls_env (n := 180) Try.func9 (c := _) rfl Try.ntmps9 (by kernel_rfl) (fun R hRet => ?_)
  have hM0 : Step V w [] V w [] := Step.refl (St.nilE hV)
  refine wp_seq_k (fun K1 hK1 => ?_)
  refine wp_reg ?_
  refine wpF_box hM0 #[.bool (nl), .slice Ank (nk).length cnk, .slice Anv (nv).length cnv, .slice Anc (nc).length cnc] (h := (by kernel_rfl : opAt _ _ _ _ _ = some (.box 25 (.tmp 0), some 4))) (by kernel_rfl) (fun b2 w3 hM4 => ?_)
  obtain ⟨V5, le6, hM7, hc8⟩ := hM4.settle 0 rfl
  have hM9 : Step V w [] V5 _ ([]) := hM7
  refine wpF_seg 1 (by kernel_rfl) ?_
  refine wpF_end _ (by kernel_rfl) (then_n (hK1 _ _ ?_))
  refine wp_seq_k (fun K10 hK10 => ?_)
  refine wp_seq_k (fun K11 hK11 => ?_)
  refine wp_reg ?_
  refine gF hM9 (.load 25 (.tmp 4)) (some 23) (by kernel_rfl) (Y_loadB #[.bool (nl), .slice Ank (nk).length cnk, .slice Anv (nv).length cnv, .slice Anc (nc).length cnc] hc8 (off := 0) (by kernel_rfl) (.agg #[.bool (nl), .slice Ank (nk).length cnk, .slice Anv (nv).length cnv, .slice Anc (nc).length cnc]) (by kernel_rfl)) ?_
  refine wpF_callP hM9 (f := 11) (caps := #[]) (h := (by kernel_rfl : opAt _ _ _ _ _ = some (.call (.mk (.value (.func 11)) #[(.tmp 23)] #[25]), some 24))) (by kernel_rfl) (by kernel_rfl) (by kernel_rfl) (f11 _ _ hM9.inW (nl) Ank cnk (nk) (hnk.up hM9.le) Anv cnv (nv) (hnv.up hM9.le) Anc cnc (nc) (hnc.up hM9.le)) (fun v12 V13 w14 le15 hM16 hp17 => ?_)
  obtain rfl := hp17
  refine wpF_seg 1 (by kernel_rfl) ?_
  refine wpF_end _ (by kernel_rfl) (then_n (hK11 _ _ ?_))
  refine wp_if (!(fewM (nk) (nv) (nc))) (by kernel_rfl) (fun h18 => ?_) (fun h18 => ?_)
  · -- t
    have h19 : (fewM (nk) (nv) (nc)) = false := by simpa using h18
    skip
    refine wp_seq_k (fun K20 hK20 => ?_)
    refine wp_reg ?_
    refine wpF_callP hM16 (f := 12) (caps := #[]) (h := (by kernel_rfl : opAt _ _ _ _ _ = some (.call (.mk (.value (.func 12)) #[] #[]), some 26))) (by kernel_rfl) (by kernel_rfl) (by kernel_rfl) (f12 _ _ hM16.inW ) (fun v21 V22 w23 le24 hM25 hp26 => ?_)
    obtain rfl := hp26
    refine wpF_seg 1 (by kernel_rfl) ?_
    refine wpF_end _ (by kernel_rfl) (then_n (hK20 _ _ ?_))
    refine wp_ret (then_r (?_))
    refine retN [.bool (true)] (.bool (true)) Try.results9 (.tmp (by kernel_rfl) (by kernel_rfl) .nil) (by kernel_rfl) (hRet _ _ ⟨_, _, rfl, hM25.clear, ?_⟩)
    -- end t
    rfl
  · -- f
    have h27 : (fewM (nk) (nv) (nc)) = true := by simpa using h18
    have hf := few_le (by assumption : fewM nk nv nc = true)
    refine wp_skip (then_n (hK10 _ _ ?_))
    refine wp_seq_k (fun K28 hK28 => ?_)
    refine wp_reg ?_
    refine gF hM16 (.load 25 (.tmp 4)) (some 28) (by kernel_rfl) (Y_loadB #[.bool (nl), .slice Ank (nk).length cnk, .slice Anv (nv).length cnv, .slice Anc (nc).length cnc] (fun i v hi => le15 _ _ _ (hc8 i v hi)) (off := 0) (by kernel_rfl) (.agg #[.bool (nl), .slice Ank (nk).length cnk, .slice Anv (nv).length cnv, .slice Anc (nc).length cnc]) (by kernel_rfl)) ?_
    refine wpF_seg 2 (by kernel_rfl) ?_
    refine wpF_callP hM16 (f := 26) (caps := #[]) (h := (by kernel_rfl : opAt _ _ _ _ _ = some (.call (.mk (.value (.func 26)) #[(.tmp 28), (.tmp 29), (.tmp 30)] #[25, 9, 9]), some 31))) (by kernel_rfl) (by kernel_rfl) (by kernel_rfl) (f26 _ _ hM16.inW (nl) Ank cnk (nk) (hnk.up hM16.le) Anv cnv (nv) (hnv.up hM16.le) Anc cnc (nc) (hnc.up hM16.le) (y) (hy) (u) (hu) (by omega) (by omega)) (fun v29 V30 w31 le32 hM33 hp34 => ?_)
    obtain ⟨Ar34_1, cr34_1, Ar34_2, cr34_2, Ar34_3, cr34_3, rfl, r35, r36, r37⟩ := hp34
    have l38 : (putK (nl) (nk) (nv) (nc) (y) (u)).length ≤ 140737488355328 := r35.max
    have l39 : (putV (nl) (nk) (nv) (nc) (y) (u)).length ≤ 140737488355328 := r36.max
    have l40 : (([] : List Int)).length ≤ 140737488355328 := r37.max
    refine wpF_seg 3 (by kernel_rfl) ?_
    refine wpF_alloc hM33 #[.bool (false), .slice none 0 0, .slice none 0 0, .slice none 0 0] (h := (by kernel_rfl : opAt _ _ _ _ _ = some (.alloc 25, some 9))) (by kernel_rfl) (fun b41 w42 hM43 => ?_)
    refine wpF_store hM43 0 rfl (h := (by kernel_rfl : opAt _ _ _ _ _ = some (.store 25 (.tmp 9) (.tmp 32), none))) (off := 0) (by kernel_rfl) #[.bool (putOk (nl) (nk) (nv) (nc) (y) (u)), .slice Ar34_1 (putK (nl) (nk) (nv) (nc) (y) (u)).length cr34_1, .slice Ar34_2 (putV (nl) (nk) (nv) (nc) (y) (u)).length cr34_2, .slice Ar34_3 (([] : List Int)).length cr34_3] (by kernel_rfl) (by kernel_rfl) (by kernel_rfl) (by kernel_rfl) (fun w45 hM44 => ?_)
    have hM46 : Step V w [] V30 _ ([.blk b41 (.cells #[.bool (putOk (nl) (nk) (nv) (nc) (y) (u)), .slice Ar34_1 (putK (nl) (nk) (nv) (nc) (y) (u)).length cr34_1, .slice Ar34_2 (putV (nl) (nk) (nv) (nc) (y) (u)).length cr34_2, .slice Ar34_3 (([] : List Int)).length cr34_3] 25)]) := hM44
    refine wpF_seg 1 (by kernel_rfl) ?_
    refine wpF_end _ (by kernel_rfl) (then_n (hK28 _ _ ?_))
    refine wp_seq_k (fun K47 hK47 => ?_)
    refine wp_seq_k (fun K48 hK48 => ?_)
    refine wp_reg ?_
    refine wpF_seg 2 (by kernel_rfl) ?_
    refine wpF_end _ (by kernel_rfl) (then_n (hK48 _ _ ?_))
    refine wp_if (!(decide ((putE (nl) (nk) (nv) (nc) (y) (u)) = (0)))) (by kernel_rfl) (fun h49 => ?_) (fun h49 => ?_)
    · -- ft
      have h50 : decide ((putE (nl) (nk) (nv) (nc) (y) (u)) = (0)) = false := by rw [← Bool.not_not (decide _), h49]; rfl
      have p51 : ¬ ((putE (nl) (nk) (nv) (nc) (y) (u)) = (0)) := of_decide_eq_false h50
      refine wp_seq_k (fun K52 hK52 => ?_)
      refine wp_reg ?_
      refine gF hM46 (.load 25 (.tmp 9)) (some 36) (by kernel_rfl) (Y_load 0 rfl (off := 0) (by kernel_rfl) (.agg #[.bool (putOk (nl) (nk) (nv) (nc) (y) (u)), .slice Ar34_1 (putK (nl) (nk) (nv) (nc) (y) (u)).length cr34_1, .slice Ar34_2 (putV (nl) (nk) (nv) (nc) (y) (u)).length cr34_2, .slice Ar34_3 (([] : List Int)).length cr34_3]) (by kernel_rfl)) ?_
      refine wpF_seg 1 (by kernel_rfl) ?_
      refine wpF_callP hM46 (f := 21) (caps := #[]) (h := (by kernel_rfl : opAt _ _ _ _ _ = some (.call (.mk (.value (.func 21)) #[(.tmp 36), (.tmp 37)] #[25, 25]), some 38))) (by kernel_rfl) (by kernel_rfl) (by kernel_rfl) (f21 _ _ hM46.inW (putOk (nl) (nk) (nv) (nc) (y) (u)) Ar34_1 cr34_1 (putK (nl) (nk) (nv) (nc) (y) (u)) r35 Ar34_2 cr34_2 (putV (nl) (nk) (nv) (nc) (y) (u)) r36 Ar34_3 cr34_3 (([] : List Int)) r37 (false) none 0 ([] : List Str) (Rd.nil _ _) none 0 ([] : List Str) (Rd.nil _ _) none 0 ([] : List Int) (Rd.nil _ _)) (fun v53 V54 w55 le56 hM57 hp58 => ?_)
      obtain rfl := hp58
      refine wpF_seg 1 (by kernel_rfl) ?_
      have h59 : (decide ((putOk (nl) (nk) (nv) (nc) (y) (u)) = (false) ∧ (putK (nl) (nk) (nv) (nc) (y) (u)) = ([] : List Str) ∧ (putV (nl) (nk) (nv) (nc) (y) (u)) = ([] : List Str) ∧ (([] : List Int)) = ([] : List Int))) = true := by exact decide_eq_true ⟨putE_n (by assumption), (put_no (putE_n (by assumption))).1, (put_no (putE_n (by assumption))).2.1, rfl⟩
      have p60 : ((putOk (nl) (nk) (nv) (nc) (y) (u)) = (false) ∧ (putK (nl) (nk) (nv) (nc) (y) (u)) = ([] : List Str) ∧ (putV (nl) (nk) (nv) (nc) (y) (u)) = ([] : List Str) ∧ (([] : List Int)) = ([] : List Int)) := of_decide_eq_true h59
      refine wpF_slot 39 (.bool (decide ((putOk (nl) (nk) (nv) (nc) (y) (u)) = (false) ∧ (putK (nl) (nk) (nv) (nc) (y) (u)) = ([] : List Str) ∧ (putV (nl) (nk) (nv) (nc) (y) (u)) = ([] : List Str) ∧ (([] : List Int)) = ([] : List Int)))) (.bool true) (by kernel_rfl) (by kernel_rfl) (by rw [h59]) ?_
      refine wpF_callP hM57 (f := 12) (caps := #[]) (h := (by kernel_rfl : opAt _ _ _ _ _ = some (.call (.mk (.value (.func 12)) #[] #[]), some 40))) (by kernel_rfl) (by kernel_rfl) (by kernel_rfl) (f12 _ _ hM57.inW ) (fun v61 V62 w63 le64 hM65 hp66 => ?_)
      obtain rfl := hp66
      refine wpF_seg 2 (by kernel_rfl) ?_
      refine wpF_end _ (by kernel_rfl) (then_n (hK52 _ _ ?_))
      refine wp_ret (then_r (?_))
      refine retN [.bool (true)] (.bool (true)) Try.results9 (.tmp (by kernel_rfl) (by kernel_rfl) .nil) (by kernel_rfl) (hRet _ _ ⟨_, _, rfl, hM65.clear, ?_⟩)
      -- end ft
      rfl
    · -- ff
      have h67 : decide ((putE (nl) (nk) (nv) (nc) (y) (u)) = (0)) = true := by rw [← Bool.not_not (decide _), h49]; rfl
      have p68 : ((putE (nl) (nk) (nv) (nc) (y) (u)) = (0)) := of_decide_eq_true h67
      have hok := putE_0 (by assumption : putE nl nk nv nc y u = 0)
      have hpf := put_facts hok
      have hpd := put_drop hok
      have hs := (putOk_yes hok).2.1
      have hlv := (stands_fit hs).1 (putOk_yes hok).1
      refine wp_skip (then_n (hK47 _ _ ?_))
      refine wp_seq_k (fun K69 hK69 => ?_)
      refine wp_reg ?_
      refine gF hM46 (.load 25 (.tmp 9)) (some 43) (by kernel_rfl) (Y_load 0 rfl (off := 0) (by kernel_rfl) (.agg #[.bool (putOk (nl) (nk) (nv) (nc) (y) (u)), .slice Ar34_1 (putK (nl) (nk) (nv) (nc) (y) (u)).length cr34_1, .slice Ar34_2 (putV (nl) (nk) (nv) (nc) (y) (u)).length cr34_2, .slice Ar34_3 (([] : List Int)).length cr34_3]) (by kernel_rfl)) ?_
      refine wpF_seg 1 (by kernel_rfl) ?_
      refine wpF_callP hM46 (f := 22) (caps := #[]) (h := (by kernel_rfl : opAt _ _ _ _ _ = some (.call (.mk (.value (.func 22)) #[(.tmp 43), (.tmp 44)] #[25, 9]), some 45))) (by kernel_rfl) (by kernel_rfl) (by kernel_rfl) (f22 _ _ hM46.inW (putOk (nl) (nk) (nv) (nc) (y) (u)) Ar34_1 cr34_1 (putK (nl) (nk) (nv) (nc) (y) (u)) r35 Ar34_2 cr34_2 (putV (nl) (nk) (nv) (nc) (y) (u)) r36 Ar34_3 cr34_3 (([] : List Int)) r37 (y) (hy)) (fun v70 V71 w72 le73 hM74 hp75 => ?_)
      obtain rfl := hp75
      refine wpF_seg 2 (by kernel_rfl) ?_
      refine wpF_slot 46 (.int .i64 (findI (putOk (nl) (nk) (nv) (nc) (y) (u)) (putK (nl) (nk) (nv) (nc) (y) (u)) (putV (nl) (nk) (nv) (nc) (y) (u)) (([] : List Int)) (y))) (.int .i64 (((findN nl nk y : Nat) : Int))) (by kernel_rfl) (by kernel_rfl) (by exact congrArg (Value.int .i64) (put_find hok).2) ?_
      refine wpF_seg 3 (by kernel_rfl) ?_
      refine wpF_end _ (by kernel_rfl) (then_n (hK69 _ _ ?_))
      refine wp_seq_k (fun K76 hK76 => ?_)
      refine wp_seq_k (fun K77 hK77 => ?_)
      refine wp_reg ?_
      refine wpF_seg 3 (by kernel_rfl) ?_
      have h78 : (findB (putOk (nl) (nk) (nv) (nc) (y) (u)) (putK (nl) (nk) (nv) (nc) (y) (u)) (putV (nl) (nk) (nv) (nc) (y) (u)) (([] : List Int)) (y)) = true := by exact (put_find hok).1
      refine wpF_slot 50 (.bool (!(findB (putOk (nl) (nk) (nv) (nc) (y) (u)) (putK (nl) (nk) (nv) (nc) (y) (u)) (putV (nl) (nk) (nv) (nc) (y) (u)) (([] : List Int)) (y)))) (.bool false) (by kernel_rfl) (by kernel_rfl) (by rw [(show (!(findB (putOk (nl) (nk) (nv) (nc) (y) (u)) (putK (nl) (nk) (nv) (nc) (y) (u)) (putV (nl) (nk) (nv) (nc) (y) (u)) (([] : List Int)) (y))) = false from by rw [h78]; rfl)]) ?_
      refine wpF_seg 4 (by kernel_rfl) ?_
      have h79 : (decide ((((findN nl nk y : Nat) : Int)) < (0))) = false := by exact decide_eq_false (by omega)
      have p80 : ¬ ((((findN nl nk y : Nat) : Int)) < (0)) := of_decide_eq_false h79
      refine wpF_slot 54 (.bool (decide ((((findN nl nk y : Nat) : Int)) < (0)))) (.bool false) (by kernel_rfl) (by kernel_rfl) (by rw [h79]) ?_
      refine wpF_seg 2 (by kernel_rfl) ?_
      refine gF hM74 (.load 22 (.tmp 56)) (some 57) (by kernel_rfl) (Y_load 0 rfl (off := 1) (by kernel_rfl) (.slice Ar34_1 (putK (nl) (nk) (nv) (nc) (y) (u)).length cr34_1) (by kernel_rfl)) ?_
      refine wpF_seg 4 (by kernel_rfl) ?_
      have h81 : (decide ((((putK (nl) (nk) (nv) (nc) (y) (u)).length : Int)) ≤ (((findN nl nk y : Nat) : Int)))) = false := by exact decide_eq_false (by omega)
      have p82 : ¬ ((((putK (nl) (nk) (nv) (nc) (y) (u)).length : Int)) ≤ (((findN nl nk y : Nat) : Int))) := of_decide_eq_false h81
      refine wpF_slot 61 (.bool (decide ((((putK (nl) (nk) (nv) (nc) (y) (u)).length : Int)) ≤ (((findN nl nk y : Nat) : Int))))) (.bool false) (by kernel_rfl) (by kernel_rfl) (by rw [h81]) ?_
      refine wpF_seg 2 (by kernel_rfl) ?_
      refine gF hM74 (.load 22 (.tmp 63)) (some 64) (by kernel_rfl) (Y_load 0 rfl (off := 2) (by kernel_rfl) (.slice Ar34_2 (putV (nl) (nk) (nv) (nc) (y) (u)).length cr34_2) (by kernel_rfl)) ?_
      refine wpF_seg 4 (by kernel_rfl) ?_
      have h83 : (decide ((((putV (nl) (nk) (nv) (nc) (y) (u)).length : Int)) ≤ (((findN nl nk y : Nat) : Int)))) = false := by exact decide_eq_false (by omega)
      have p84 : ¬ ((((putV (nl) (nk) (nv) (nc) (y) (u)).length : Int)) ≤ (((findN nl nk y : Nat) : Int))) := of_decide_eq_false h83
      refine wpF_slot 68 (.bool (decide ((((putV (nl) (nk) (nv) (nc) (y) (u)).length : Int)) ≤ (((findN nl nk y : Nat) : Int))))) (.bool false) (by kernel_rfl) (by kernel_rfl) (by rw [h83]) ?_
      refine wpF_seg 1 (by kernel_rfl) ?_
      refine gF hM74 (.load 22 (.tmp 69)) (some 70) (by kernel_rfl) (Y_load 0 rfl (off := 1) (by kernel_rfl) (.slice Ar34_1 (putK (nl) (nk) (nv) (nc) (y) (u)).length cr34_1) (by kernel_rfl)) ?_
      refine wpF_seg 1 (by kernel_rfl) ?_
      refine gF_index (A := Ar34_1) (c := cr34_1) (r35.up le73) .i64 (((findN nl nk y : Nat) : Int)) (h := (by kernel_rfl : opAt _ _ _ _ _ = some (.indexAddr 22 (.tmp 70) (.tmp 71), some 72))) (e := 9) (by kernel_rfl) (by kernel_rfl) (by kernel_rfl) ((findN nl nk y)) (by omega) (by omega) (fun b85 o86 at_b85 => ?_)
      have c87 : V71 b85 o86 = some (bs ((putK (nl) (nk) (nv) (nc) (y) (u)).getD ((findN nl nk y)) [])) := (At.str at_b85).1
      have l88 : ((putK (nl) (nk) (nv) (nc) (y) (u)).getD ((findN nl nk y)) []).length ≤ 140737488355328 := (At.str at_b85).2
      refine gF hM74 (.load 9 (.tmp 72)) (some 73) (by kernel_rfl) (Y_loadV c87 (by kernel_rfl) (by kernel_rfl)) ?_
      refine wpF_seg 4 (by kernel_rfl) ?_
      have h89 : (decide ((((putK (nl) (nk) (nv) (nc) (y) (u)).getD ((findN nl nk y)) [])) = (y))) = true := by exact decide_eq_true hpf.2.2.2.2.2.1
      have p90 : ((((putK (nl) (nk) (nv) (nc) (y) (u)).getD ((findN nl nk y)) [])) = (y)) := of_decide_eq_true h89
      refine wpF_slot 77 (.bool (!(decide ((((putK (nl) (nk) (nv) (nc) (y) (u)).getD ((findN nl nk y)) [])) = (y))))) (.bool false) (by kernel_rfl) (by kernel_rfl) (by rw [(show (!(decide ((((putK (nl) (nk) (nv) (nc) (y) (u)).getD ((findN nl nk y)) [])) = (y)))) = false from by rw [h89]; rfl)]) ?_
      refine wpF_seg 1 (by kernel_rfl) ?_
      refine gF hM74 (.load 22 (.tmp 78)) (some 79) (by kernel_rfl) (Y_load 0 rfl (off := 2) (by kernel_rfl) (.slice Ar34_2 (putV (nl) (nk) (nv) (nc) (y) (u)).length cr34_2) (by kernel_rfl)) ?_
      refine wpF_seg 1 (by kernel_rfl) ?_
      refine gF_index (A := Ar34_2) (c := cr34_2) (r36.up le73) .i64 (((findN nl nk y : Nat) : Int)) (h := (by kernel_rfl : opAt _ _ _ _ _ = some (.indexAddr 22 (.tmp 79) (.tmp 80), some 81))) (e := 9) (by kernel_rfl) (by kernel_rfl) (by kernel_rfl) ((findN nl nk y)) (by omega) (by omega) (fun b91 o92 at_b91 => ?_)
      have c93 : V71 b91 o92 = some (bs ((putV (nl) (nk) (nv) (nc) (y) (u)).getD ((findN nl nk y)) [])) := (At.str at_b91).1
      have l94 : ((putV (nl) (nk) (nv) (nc) (y) (u)).getD ((findN nl nk y)) []).length ≤ 140737488355328 := (At.str at_b91).2
      refine gF hM74 (.load 9 (.tmp 81)) (some 82) (by kernel_rfl) (Y_loadV c93 (by kernel_rfl) (by kernel_rfl)) ?_
      refine wpF_seg 3 (by kernel_rfl) ?_
      refine wpF_end _ (by kernel_rfl) (then_n (hK77 _ _ ?_))
      have h95 : (decide ((((putV (nl) (nk) (nv) (nc) (y) (u)).getD ((findN nl nk y)) [])) = (u))) = true := by exact decide_eq_true hpf.2.2.2.2.2.2.1
      have p96 : ((((putV (nl) (nk) (nv) (nc) (y) (u)).getD ((findN nl nk y)) [])) = (u)) := of_decide_eq_true h95
      refine wp_slot 85 (.bool (!(decide ((((putV (nl) (nk) (nv) (nc) (y) (u)).getD ((findN nl nk y)) [])) = (u))))) (.bool false) (by kernel_rfl) (by rw [(show (!(decide ((((putV (nl) (nk) (nv) (nc) (y) (u)).getD ((findN nl nk y)) [])) = (u)))) = false from by rw [h95]; rfl)]) ?_
      refine wp_cf (by kernel_rfl) ?_
      refine wp_skip (then_n (hK76 _ _ ?_))
      refine wp_seq_k (fun K97 hK97 => ?_)
      refine wp_seq_k (fun K98 hK98 => ?_)
      refine wp_reg ?_
      refine wpF_seg 3 (by kernel_rfl) ?_
      refine wpF_end _ (by kernel_rfl) (then_n (hK98 _ _ ?_))
      refine wp_if (!(decide ((y) = (z)))) (by kernel_rfl) (fun h99 => ?_) (fun h99 => ?_)
      · -- fft
        have h100 : decide ((y) = (z)) = false := by rw [← Bool.not_not (decide _), h99]; rfl
        have p101 : ¬ ((y) = (z)) := of_decide_eq_false h100
        have hpo := put_other hok (by assumption : ¬ y = z)
        refine wp_seq_k (fun K102 hK102 => ?_)
        refine wp_reg ?_
        refine gF hM74 (.load 25 (.tmp 4)) (some 90) (by kernel_rfl) (Y_loadB #[.bool (nl), .slice Ank (nk).length cnk, .slice Anv (nv).length cnv, .slice Anc (nc).length cnc] (fun i v hi => ((le15.trans le32).trans le73) _ _ _ (hc8 i v hi)) (off := 0) (by kernel_rfl) (.agg #[.bool (nl), .slice Ank (nk).length cnk, .slice Anv (nv).length cnv, .slice Anc (nc).length cnc]) (by kernel_rfl)) ?_
        refine wpF_seg 1 (by kernel_rfl) ?_
        refine wpF_callP hM74 (f := 22) (caps := #[]) (h := (by kernel_rfl : opAt _ _ _ _ _ = some (.call (.mk (.value (.func 22)) #[(.tmp 90), (.tmp 91)] #[25, 9]), some 92))) (by kernel_rfl) (by kernel_rfl) (by kernel_rfl) (f22 _ _ hM74.inW (nl) Ank cnk (nk) (hnk.up hM74.le) Anv cnv (nv) (hnv.up hM74.le) Anc cnc (nc) (hnc.up hM74.le) (z) (hz)) (fun v103 V104 w105 le106 hM107 hp108 => ?_)
        obtain rfl := hp108
        refine wpF_seg 2 (by kernel_rfl) ?_
        refine wpF_slot 93 (.int .i64 (findI (nl) (nk) (nv) (nc) (z))) (.int .i64 (((findN nl nk z : Nat) : Int))) (by kernel_rfl) (by kernel_rfl) (by rw [findI_st hs]) ?_
        refine wpF_seg 3 (by kernel_rfl) ?_
        refine wpF_end _ (by kernel_rfl) (then_n (hK102 _ _ ?_))
        refine wp_seq_k (fun K109 hK109 => ?_)
        refine wp_reg ?_
        refine gF hM107 (.load 25 (.tmp 9)) (some 96) (by kernel_rfl) (Y_load 0 rfl (off := 0) (by kernel_rfl) (.agg #[.bool (putOk (nl) (nk) (nv) (nc) (y) (u)), .slice Ar34_1 (putK (nl) (nk) (nv) (nc) (y) (u)).length cr34_1, .slice Ar34_2 (putV (nl) (nk) (nv) (nc) (y) (u)).length cr34_2, .slice Ar34_3 (([] : List Int)).length cr34_3]) (by kernel_rfl)) ?_
        refine wpF_seg 1 (by kernel_rfl) ?_
        refine wpF_callP hM107 (f := 22) (caps := #[]) (h := (by kernel_rfl : opAt _ _ _ _ _ = some (.call (.mk (.value (.func 22)) #[(.tmp 96), (.tmp 97)] #[25, 9]), some 98))) (by kernel_rfl) (by kernel_rfl) (by kernel_rfl) (f22 _ _ hM107.inW (putOk (nl) (nk) (nv) (nc) (y) (u)) Ar34_1 cr34_1 (putK (nl) (nk) (nv) (nc) (y) (u)) (r35.up (le73.trans le106)) Ar34_2 cr34_2 (putV (nl) (nk) (nv) (nc) (y) (u)) (r36.up (le73.trans le106)) Ar34_3 cr34_3 (([] : List Int)) (r37.up (le73.trans le106)) (z) (hz)) (fun v110 V111 w112 le113 hM114 hp115 => ?_)
        obtain rfl := hp115
        refine wpF_seg 2 (by kernel_rfl) ?_
        refine wpF_slot 99 (.int .i64 (findI (putOk (nl) (nk) (nv) (nc) (y) (u)) (putK (nl) (nk) (nv) (nc) (y) (u)) (putV (nl) (nk) (nv) (nc) (y) (u)) (([] : List Int)) (z))) (.int .i64 (((findN true (putK nl nk nv nc y u) z : Nat) : Int))) (by kernel_rfl) (by kernel_rfl) (by exact congrArg (Value.int .i64) (put_findI hok z)) ?_
        refine wpF_seg 3 (by kernel_rfl) ?_
        refine wpF_end _ (by kernel_rfl) (then_n (hK109 _ _ ?_))
        refine wp_seq_k (fun K116 hK116 => ?_)
        refine wp_base [(0, .agg #[.bool (nl), .slice Ank (nk).length cnk, .slice Anv (nv).length cnv, .slice Anc (nc).length cnc]), (1, bs (y)), (2, bs (u)), (4, .pointer (some ⟨b2, 0, none⟩)), (8, .bool (false)), (9, .pointer (some ⟨b41, 0, none⟩)), (13, .int .i64 (((findN nl nk z : Nat) : Int))), (14, .bool (findB (nl) (nk) (nv) (nc) (z))), (15, .int .i64 (((findN true (putK nl nk nv nc y u) z : Nat) : Int))), (16, .bool (findB (putOk (nl) (nk) (nv) (nc) (y) (u)) (putK (nl) (nk) (nv) (nc) (y) (u)) (putV (nl) (nk) (nv) (nc) (y) (u)) (([] : List Int)) (z)))] (by kernel_rfl) (fun g117 => ?_)
        refine wp_drawN hM114 [(.blk b41 (.cells #[.bool (putOk (nl) (nk) (nv) (nc) (y) (u)), .slice Ar34_1 (putK (nl) (nk) (nv) (nc) (y) (u)).length cr34_1, .slice Ar34_2 (putV (nl) (nk) (nv) (nc) (y) (u)).length cr34_2, .slice Ar34_3 (([] : List Int)).length cr34_3] 25), 9999)] (and_held 0 rfl no_held) [] [0, 1, 2, 3, 4, 5, 6, 7, 8, 9, 10, 11, 12, 13, 14, 15, 16, 17, 18, 19, 20, 21, 22, 23, 24, 25, 26, 27, 28, 29, 30, 31, 32, 33, 34, 35, 36, 37, 38, 39, 40] [] [.p 0, .p 1, .p 2, .p 3, .p 4, .p 5, .p 6, .p 7, .p 8, .p 9, .p 10, .p 11, .p 12, .p 13, .p 14, .p 15, .p 16, .p 17, .p 18, .p 19, .p 20, .p 21, .p 22, .p 23, .p 24, .p 25, .p 26, .p 27, .p 28, .p 29, .p 30, .p 31, .p 32, .p 33, .p 34, .p 35, .p 36, .p 37, .p 38, .p 39, .p 40, .s] rfl (by kernel_rfl) (by kernel_rfl) ?_
        refine h_seg 2 (by kernel_rfl) ?_
        refine gH (.binOp .neq 4 (.tmp 101) (.tmp 102) 4) (some 103) (by kernel_rfl) (Y_neq (.bool (findB (nl) (nk) (nv) (nc) (z))) (.bool (findB (putOk (nl) (nk) (nv) (nc) (y) (u)) (putK (nl) (nk) (nv) (nc) (y) (u)) (putV (nl) (nk) (nv) (nc) (y) (u)) (([] : List Int)) (z))) ((findB (nl) (nk) (nv) (nc) (z)) == (findB (putOk (nl) (nk) (nv) (nc) (y) (u)) (putK (nl) (nk) (nv) (nc) (y) (u)) (putV (nl) (nk) (nv) (nc) (y) (u)) (([] : List Int)) (z))) (by kernel_rfl) (by kernel_rfl) (by kernel_rfl)) ?_
        refine h_seg 1 (by kernel_rfl) ?_
        have h118 : ((findB (nl) (nk) (nv) (nc) (z)) == (findB (putOk (nl) (nk) (nv) (nc) (y) (u)) (putK (nl) (nk) (nv) (nc) (y) (u)) (putV (nl) (nk) (nv) (nc) (y) (u)) (([] : List Int)) (z))) = true := by rw [hpo.1]; exact beq_self_eq_true _
        have p119 : ((findB (nl) (nk) (nv) (nc) (z)) = (findB (putOk (nl) (nk) (nv) (nc) (y) (u)) (putK (nl) (nk) (nv) (nc) (y) (u)) (putV (nl) (nk) (nv) (nc) (y) (u)) (([] : List Int)) (z))) := by simpa using h118
        refine h_slot 104 (.bool (!((findB (nl) (nk) (nv) (nc) (z)) == (findB (putOk (nl) (nk) (nv) (nc) (y) (u)) (putK (nl) (nk) (nv) (nc) (y) (u)) (putV (nl) (nk) (nv) (nc) (y) (u)) (([] : List Int)) (z))))) (.bool false) (by kernel_rfl) (by kernel_rfl) (by rw [(show (!((findB (nl) (nk) (nv) (nc) (z)) == (findB (putOk (nl) (nk) (nv) (nc) (y) (u)) (putK (nl) (nk) (nv) (nc) (y) (u)) (putV (nl) (nk) (nv) (nc) (y) (u)) (([] : List Int)) (z)))) = false from by rw [h118]; rfl)]) ?_
        refine h_seg 2 (by kernel_rfl) ?_
        refine h_caseB 106 (findB (nl) (nk) (nv) (nc) (z)) (by kernel_rfl) (by kernel_rfl) (fun h120 => ?_) (fun h120 => ?_)
        · -- fftt
          have hpz := hpo.2 (by assumption : findB nl nk nv nc z = true)
          refine h_seg 3 (by kernel_rfl) ?_
          have h121 : (decide ((((findN nl nk z : Nat) : Int)) < (0))) = false := by exact decide_eq_false (by omega)
          have p122 : ¬ ((((findN nl nk z : Nat) : Int)) < (0)) := of_decide_eq_false h121
          refine h_slot 109 (.bool (decide ((((findN nl nk z : Nat) : Int)) < (0)))) (.bool false) (by kernel_rfl) (by kernel_rfl) (by rw [h121]) ?_
          refine h_seg 2 (by kernel_rfl) ?_
          refine gH (.load 22 (.tmp 111)) (some 112) (by kernel_rfl) (Y_loadB #[.bool (nl), .slice Ank (nk).length cnk, .slice Anv (nv).length cnv, .slice Anc (nc).length cnc] (fun i v hi => ((((le15.trans le32).trans le73).trans le106).trans le113) _ _ _ (hc8 i v hi)) (off := 2) (by kernel_rfl) (.slice Anv (nv).length cnv) (by kernel_rfl)) ?_
          refine h_seg 4 (by kernel_rfl) ?_
          have h123 : (decide (((nv.length : Int)) ≤ (((findN nl nk z : Nat) : Int)))) = false := by exact decide_eq_false (by omega)
          have p124 : ¬ (((nv.length : Int)) ≤ (((findN nl nk z : Nat) : Int))) := of_decide_eq_false h123
          refine h_slot 116 (.bool (decide (((nv.length : Int)) ≤ (((findN nl nk z : Nat) : Int))))) (.bool false) (by kernel_rfl) (by kernel_rfl) (by rw [h123]) ?_
          refine h_seg 4 (by kernel_rfl) ?_
          have h125 : (decide ((((findN true (putK nl nk nv nc y u) z : Nat) : Int)) < (0))) = false := by exact decide_eq_false (by omega)
          have p126 : ¬ ((((findN true (putK nl nk nv nc y u) z : Nat) : Int)) < (0)) := of_decide_eq_false h125
          refine h_slot 120 (.bool (decide ((((findN true (putK nl nk nv nc y u) z : Nat) : Int)) < (0)))) (.bool false) (by kernel_rfl) (by kernel_rfl) (by rw [h125]) ?_
          refine h_seg 2 (by kernel_rfl) ?_
          refine gH (.load 22 (.tmp 122)) (some 123) (by kernel_rfl) (Y_load 0 (by kernel_rfl : (FOf _ _ _)[0]? = some (.blk b41 (.cells #[.bool (putOk (nl) (nk) (nv) (nc) (y) (u)), .slice Ar34_1 (putK (nl) (nk) (nv) (nc) (y) (u)).length cr34_1, .slice Ar34_2 (putV (nl) (nk) (nv) (nc) (y) (u)).length cr34_2, .slice Ar34_3 (([] : List Int)).length cr34_3] 25))) (off := 2) (by kernel_rfl) (.slice Ar34_2 (putV (nl) (nk) (nv) (nc) (y) (u)).length cr34_2) (by kernel_rfl)) ?_
          refine h_seg 4 (by kernel_rfl) ?_
          have h127 : (decide ((((putV (nl) (nk) (nv) (nc) (y) (u)).length : Int)) ≤ (((findN true (putK nl nk nv nc y u) z : Nat) : Int)))) = false := by exact decide_eq_false (by omega)
          have p128 : ¬ ((((putV (nl) (nk) (nv) (nc) (y) (u)).length : Int)) ≤ (((findN true (putK nl nk nv nc y u) z : Nat) : Int))) := of_decide_eq_false h127
          refine h_slot 127 (.bool (decide ((((putV (nl) (nk) (nv) (nc) (y) (u)).length : Int)) ≤ (((findN true (putK nl nk nv nc y u) z : Nat) : Int))))) (.bool false) (by kernel_rfl) (by kernel_rfl) (by rw [h127]) ?_
          refine h_seg 1 (by kernel_rfl) ?_
          refine gH (.load 22 (.tmp 128)) (some 129) (by kernel_rfl) (Y_loadB #[.bool (nl), .slice Ank (nk).length cnk, .slice Anv (nv).length cnv, .slice Anc (nc).length cnc] (fun i v hi => ((((le15.trans le32).trans le73).trans le106).trans le113) _ _ _ (hc8 i v hi)) (off := 2) (by kernel_rfl) (.slice Anv (nv).length cnv) (by kernel_rfl)) ?_
          refine h_seg 1 (by kernel_rfl) ?_
          refine gH_index (A := Anv) (c := cnv) (hnv.up hM114.le) .i64 (((findN nl nk z : Nat) : Int)) (h := (by kernel_rfl : opAt _ _ _ _ _ = some (.indexAddr 22 (.tmp 129) (.tmp 130), some 131))) (e := 9) (by kernel_rfl) (by kernel_rfl) (by kernel_rfl) ((findN nl nk z)) (by omega) (by omega) (fun b129 o130 at_b129 => ?_)
          have c131 : V111 b129 o130 = some (bs (nv.getD ((findN nl nk z)) [])) := (At.str at_b129).1
          have l132 : (nv.getD ((findN nl nk z)) []).length ≤ 140737488355328 := (At.str at_b129).2
          refine gH (.load 9 (.tmp 131)) (some 132) (by kernel_rfl) (Y_loadV c131 (by kernel_rfl) (by kernel_rfl)) ?_
          refine h_seg 1 (by kernel_rfl) ?_
          refine gH (.load 22 (.tmp 133)) (some 134) (by kernel_rfl) (Y_load 0 (by kernel_rfl : (FOf _ _ _)[0]? = some (.blk b41 (.cells #[.bool (putOk (nl) (nk) (nv) (nc) (y) (u)), .slice Ar34_1 (putK (nl) (nk) (nv) (nc) (y) (u)).length cr34_1, .slice Ar34_2 (putV (nl) (nk) (nv) (nc) (y) (u)).length cr34_2, .slice Ar34_3 (([] : List Int)).length cr34_3] 25))) (off := 2) (by kernel_rfl) (.slice Ar34_2 (putV (nl) (nk) (nv) (nc) (y) (u)).length cr34_2) (by kernel_rfl)) ?_
          refine h_seg 1 (by kernel_rfl) ?_
          refine gH_index (A := Ar34_2) (c := cr34_2) (r36.up ((le73.trans le106).trans le113)) .i64 (((findN true (putK nl nk nv nc y u) z : Nat) : Int)) (h := (by kernel_rfl : opAt _ _ _ _ _ = some (.indexAddr 22 (.tmp 134) (.tmp 135), some 136))) (e := 9) (by kernel_rfl) (by kernel_rfl) (by kernel_rfl) ((findN true (putK nl nk nv nc y u) z)) (by omega) (by omega) (fun b133 o134 at_b133 => ?_)
          have c135 : V111 b133 o134 = some (bs ((putV (nl) (nk) (nv) (nc) (y) (u)).getD ((findN true (putK nl nk nv nc y u) z)) [])) := (At.str at_b133).1
          have l136 : ((putV (nl) (nk) (nv) (nc) (y) (u)).getD ((findN true (putK nl nk nv nc y u) z)) []).length ≤ 140737488355328 := (At.str at_b133).2
          refine gH (.load 9 (.tmp 136)) (some 137) (by kernel_rfl) (Y_loadV c135 (by kernel_rfl) (by kernel_rfl)) ?_
          refine h_seg 4 (by kernel_rfl) ?_
          refine h_s no_fs ?_
          refine h_n (fun w137 hM138 => ?_)
          refine  (then_n (hK116 _ _ ?_))
          have h139 : (decide (((nv.getD ((findN nl nk z)) [])) = (((putV (nl) (nk) (nv) (nc) (y) (u)).getD ((findN true (putK nl nk nv nc y u) z)) [])))) = true := by exact decide_eq_true hpz.2.2
          have p140 : (((nv.getD ((findN nl nk z)) [])) = (((putV (nl) (nk) (nv) (nc) (y) (u)).getD ((findN true (putK nl nk nv nc y u) z)) []))) := of_decide_eq_true h139
          refine wp_slot 141 (.bool (!(decide (((nv.getD ((findN nl nk z)) [])) = (((putV (nl) (nk) (nv) (nc) (y) (u)).getD ((findN true (putK nl nk nv nc y u) z)) [])))))) (.bool false) (by kernel_rfl) (by rw [(show (!(decide (((nv.getD ((findN nl nk z)) [])) = (((putV (nl) (nk) (nv) (nc) (y) (u)).getD ((findN true (putK nl nk nv nc y u) z)) []))))) = false from by rw [h139]; rfl)]) ?_
          refine wp_cf (by kernel_rfl) ?_
          refine wp_skip (then_n (hK97 _ _ ?_))
          refine wp_seq_k (fun K141 hK141 => ?_)
          refine wp_reg ?_
          refine gF hM138 (.load 25 (.tmp 9)) (some 143) (by kernel_rfl) (Y_load 0 rfl (off := 0) (by kernel_rfl) (.agg #[.bool (putOk (nl) (nk) (nv) (nc) (y) (u)), .slice Ar34_1 (putK (nl) (nk) (nv) (nc) (y) (u)).length cr34_1, .slice Ar34_2 (putV (nl) (nk) (nv) (nc) (y) (u)).length cr34_2, .slice Ar34_3 (([] : List Int)).length cr34_3]) (by kernel_rfl)) ?_
          refine wpF_seg 1 (by kernel_rfl) ?_
          refine wpF_callP hM138 (f := 28) (caps := #[]) (h := (by kernel_rfl : opAt _ _ _ _ _ = some (.call (.mk (.value (.func 28)) #[(.tmp 143), (.tmp 144)] #[25, 9]), some 145))) (by kernel_rfl) (by kernel_rfl) (by kernel_rfl) (f28 _ _ hM138.inW (putOk (nl) (nk) (nv) (nc) (y) (u)) Ar34_1 cr34_1 (putK (nl) (nk) (nv) (nc) (y) (u)) (r35.up ((le73.trans le106).trans le113)) Ar34_2 cr34_2 (putV (nl) (nk) (nv) (nc) (y) (u)) (r36.up ((le73.trans le106).trans le113)) Ar34_3 cr34_3 (([] : List Int)) (r37.up ((le73.trans le106).trans le113)) (y) (hy) (by omega) (by omega)) (fun v142 V143 w144 le145 hM146 hp147 => ?_)
          obtain ⟨Ar147_1, cr147_1, Ar147_2, cr147_2, Ar147_3, cr147_3, rfl, r148, r149, r150⟩ := hp147
          have l151 : (drK (putOk (nl) (nk) (nv) (nc) (y) (u)) (putK (nl) (nk) (nv) (nc) (y) (u)) (putV (nl) (nk) (nv) (nc) (y) (u)) (([] : List Int)) (y)).length ≤ 140737488355328 := r148.max
          have l152 : (drV (putOk (nl) (nk) (nv) (nc) (y) (u)) (putK (nl) (nk) (nv) (nc) (y) (u)) (putV (nl) (nk) (nv) (nc) (y) (u)) (([] : List Int)) (y)).length ≤ 140737488355328 := r149.max
          have l153 : (([] : List Int)).length ≤ 140737488355328 := r150.max
          refine wpF_seg 3 (by kernel_rfl) ?_
          refine wpF_alloc hM146 #[.bool (false), .slice none 0 0, .slice none 0 0, .slice none 0 0] (h := (by kernel_rfl : opAt _ _ _ _ _ = some (.alloc 25, some 17))) (by kernel_rfl) (fun b154 w155 hM156 => ?_)
          refine wpF_store hM156 0 rfl (h := (by kernel_rfl : opAt _ _ _ _ _ = some (.store 25 (.tmp 17) (.tmp 146), none))) (off := 0) (by kernel_rfl) #[.bool (findB (putOk (nl) (nk) (nv) (nc) (y) (u)) (putK (nl) (nk) (nv) (nc) (y) (u)) (putV (nl) (nk) (nv) (nc) (y) (u)) (([] : List Int)) (y)), .slice Ar147_1 (drK (putOk (nl) (nk) (nv) (nc) (y) (u)) (putK (nl) (nk) (nv) (nc) (y) (u)) (putV (nl) (nk) (nv) (nc) (y) (u)) (([] : List Int)) (y)).length cr147_1, .slice Ar147_2 (drV (putOk (nl) (nk) (nv) (nc) (y) (u)) (putK (nl) (nk) (nv) (nc) (y) (u)) (putV (nl) (nk) (nv) (nc) (y) (u)) (([] : List Int)) (y)).length cr147_2, .slice Ar147_3 (([] : List Int)).length cr147_3] (by kernel_rfl) (by kernel_rfl) (by kernel_rfl) (by kernel_rfl) (fun w158 hM157 => ?_)
          have hM159 : Step V w [] V143 _ ([.blk b154 (.cells #[.bool (findB (putOk (nl) (nk) (nv) (nc) (y) (u)) (putK (nl) (nk) (nv) (nc) (y) (u)) (putV (nl) (nk) (nv) (nc) (y) (u)) (([] : List Int)) (y)), .slice Ar147_1 (drK (putOk (nl) (nk) (nv) (nc) (y) (u)) (putK (nl) (nk) (nv) (nc) (y) (u)) (putV (nl) (nk) (nv) (nc) (y) (u)) (([] : List Int)) (y)).length cr147_1, .slice Ar147_2 (drV (putOk (nl) (nk) (nv) (nc) (y) (u)) (putK (nl) (nk) (nv) (nc) (y) (u)) (putV (nl) (nk) (nv) (nc) (y) (u)) (([] : List Int)) (y)).length cr147_2, .slice Ar147_3 (([] : List Int)).length cr147_3] 25), .blk b41 (.cells #[.bool (putOk (nl) (nk) (nv) (nc) (y) (u)), .slice Ar34_1 (putK (nl) (nk) (nv) (nc) (y) (u)).length cr34_1, .slice Ar34_2 (putV (nl) (nk) (nv) (nc) (y) (u)).length cr34_2, .slice Ar34_3 (([] : List Int)).length cr34_3] 25)]) := hM157
          refine wpF_seg 1 (by kernel_rfl) ?_
          refine wpF_end _ (by kernel_rfl) (then_n (hK141 _ _ ?_))
          refine wp_seq_k (fun K160 hK160 => ?_)
          refine wp_reg ?_
          refine gF hM159 (.load 25 (.tmp 17)) (some 149) (by kernel_rfl) (Y_load 0 rfl (off := 0) (by kernel_rfl) (.agg #[.bool (findB (putOk (nl) (nk) (nv) (nc) (y) (u)) (putK (nl) (nk) (nv) (nc) (y) (u)) (putV (nl) (nk) (nv) (nc) (y) (u)) (([] : List Int)) (y)), .slice Ar147_1 (drK (putOk (nl) (nk) (nv) (nc) (y) (u)) (putK (nl) (nk) (nv) (nc) (y) (u)) (putV (nl) (nk) (nv) (nc) (y) (u)) (([] : List Int)) (y)).length cr147_1, .slice Ar147_2 (drV (putOk (nl) (nk) (nv) (nc) (y) (u)) (putK (nl) (nk) (nv) (nc) (y) (u)) (putV (nl) (nk) (nv) (nc) (y) (u)) (([] : List Int)) (y)).length cr147_2, .slice Ar147_3 (([] : List Int)).length cr147_3]) (by kernel_rfl)) ?_
          refine wpF_seg 1 (by kernel_rfl) ?_
          refine wpF_callP hM159 (f := 22) (caps := #[]) (h := (by kernel_rfl : opAt _ _ _ _ _ = some (.call (.mk (.value (.func 22)) #[(.tmp 149), (.tmp 150)] #[25, 9]), some 151))) (by kernel_rfl) (by kernel_rfl) (by kernel_rfl) (f22 _ _ hM159.inW (findB (putOk (nl) (nk) (nv) (nc) (y) (u)) (putK (nl) (nk) (nv) (nc) (y) (u)) (putV (nl) (nk) (nv) (nc) (y) (u)) (([] : List Int)) (y)) Ar147_1 cr147_1 (drK (putOk (nl) (nk) (nv) (nc) (y) (u)) (putK (nl) (nk) (nv) (nc) (y) (u)) (putV (nl) (nk) (nv) (nc) (y) (u)) (([] : List Int)) (y)) r148 Ar147_2 cr147_2 (drV (putOk (nl) (nk) (nv) (nc) (y) (u)) (putK (nl) (nk) (nv) (nc) (y) (u)) (putV (nl) (nk) (nv) (nc) (y) (u)) (([] : List Int)) (y)) r149 Ar147_3 cr147_3 (([] : List Int)) r150 (y) (hy)) (fun v161 V162 w163 le164 hM165 hp166 => ?_)
          obtain rfl := hp166
          refine wpF_seg 5 (by kernel_rfl) ?_
          refine wpF_end _ (by kernel_rfl) (then_n (hK160 _ _ ?_))
          refine wp_seq_k (fun K167 hK167 => ?_)
          refine wp_reg ?_
          refine gF hM165 (.load 25 (.tmp 4)) (some 155) (by kernel_rfl) (Y_loadB #[.bool (nl), .slice Ank (nk).length cnk, .slice Anv (nv).length cnv, .slice Anc (nc).length cnc] (fun i v hi => ((((((le15.trans le32).trans le73).trans le106).trans le113).trans le145).trans le164) _ _ _ (hc8 i v hi)) (off := 0) (by kernel_rfl) (.agg #[.bool (nl), .slice Ank (nk).length cnk, .slice Anv (nv).length cnv, .slice Anc (nc).length cnc]) (by kernel_rfl)) ?_
          refine wpF_seg 1 (by kernel_rfl) ?_
          refine wpF_callP hM165 (f := 28) (caps := #[]) (h := (by kernel_rfl : opAt _ _ _ _ _ = some (.call (.mk (.value (.func 28)) #[(.tmp 155), (.tmp 156)] #[25, 9]), some 157))) (by kernel_rfl) (by kernel_rfl) (by kernel_rfl) (f28 _ _ hM165.inW (nl) Ank cnk (nk) (hnk.up hM165.le) Anv cnv (nv) (hnv.up hM165.le) Anc cnc (nc) (hnc.up hM165.le) (y) (hy) (by omega) (by omega)) (fun v168 V169 w170 le171 hM172 hp173 => ?_)
          obtain ⟨Ar173_1, cr173_1, Ar173_2, cr173_2, Ar173_3, cr173_3, rfl, r174, r175, r176⟩ := hp173
          have l177 : (drK (nl) (nk) (nv) (nc) (y)).length ≤ 140737488355328 := r174.max
          have l178 : (drV (nl) (nk) (nv) (nc) (y)).length ≤ 140737488355328 := r175.max
          have l179 : (([] : List Int)).length ≤ 140737488355328 := r176.max
          refine wpF_seg 3 (by kernel_rfl) ?_
          refine wpF_alloc hM172 #[.bool (false), .slice none 0 0, .slice none 0 0, .slice none 0 0] (h := (by kernel_rfl : opAt _ _ _ _ _ = some (.alloc 25, some 21))) (by kernel_rfl) (fun b180 w181 hM182 => ?_)
          refine wpF_store hM182 0 rfl (h := (by kernel_rfl : opAt _ _ _ _ _ = some (.store 25 (.tmp 21) (.tmp 158), none))) (off := 0) (by kernel_rfl) #[.bool (findB (nl) (nk) (nv) (nc) (y)), .slice Ar173_1 (drK (nl) (nk) (nv) (nc) (y)).length cr173_1, .slice Ar173_2 (drV (nl) (nk) (nv) (nc) (y)).length cr173_2, .slice Ar173_3 (([] : List Int)).length cr173_3] (by kernel_rfl) (by kernel_rfl) (by kernel_rfl) (by kernel_rfl) (fun w184 hM183 => ?_)
          have hM185 : Step V w [] V169 _ ([.blk b180 (.cells #[.bool (findB (nl) (nk) (nv) (nc) (y)), .slice Ar173_1 (drK (nl) (nk) (nv) (nc) (y)).length cr173_1, .slice Ar173_2 (drV (nl) (nk) (nv) (nc) (y)).length cr173_2, .slice Ar173_3 (([] : List Int)).length cr173_3] 25), .blk b154 (.cells #[.bool (findB (putOk (nl) (nk) (nv) (nc) (y) (u)) (putK (nl) (nk) (nv) (nc) (y) (u)) (putV (nl) (nk) (nv) (nc) (y) (u)) (([] : List Int)) (y)), .slice Ar147_1 (drK (putOk (nl) (nk) (nv) (nc) (y) (u)) (putK (nl) (nk) (nv) (nc) (y) (u)) (putV (nl) (nk) (nv) (nc) (y) (u)) (([] : List Int)) (y)).length cr147_1, .slice Ar147_2 (drV (putOk (nl) (nk) (nv) (nc) (y) (u)) (putK (nl) (nk) (nv) (nc) (y) (u)) (putV (nl) (nk) (nv) (nc) (y) (u)) (([] : List Int)) (y)).length cr147_2, .slice Ar147_3 (([] : List Int)).length cr147_3] 25), .blk b41 (.cells #[.bool (putOk (nl) (nk) (nv) (nc) (y) (u)), .slice Ar34_1 (putK (nl) (nk) (nv) (nc) (y) (u)).length cr34_1, .slice Ar34_2 (putV (nl) (nk) (nv) (nc) (y) (u)).length cr34_2, .slice Ar34_3 (([] : List Int)).length cr34_3] 25)]) := hM183
          refine wpF_seg 1 (by kernel_rfl) ?_
          refine wpF_end _ (by kernel_rfl) (then_n (hK167 _ _ ?_))
          refine wp_seq_k (fun K186 hK186 => ?_)
          refine wp_seq_k (fun K187 hK187 => ?_)
          refine wp_reg ?_
          refine wpF_seg 2 (by kernel_rfl) ?_
          refine wpF_end _ (by kernel_rfl) (then_n (hK187 _ _ ?_))
          refine wp_if (!(findB (nl) (nk) (nv) (nc) (y))) (by kernel_rfl) (fun h188 => ?_) (fun h188 => ?_)
          · -- ffttt
            have h189 : (findB (nl) (nk) (nv) (nc) (y)) = false := by simpa using h188
            refine wp_reg ?_
            refine gF hM185 (.load 25 (.tmp 4)) (some 162) (by kernel_rfl) (Y_loadB #[.bool (nl), .slice Ank (nk).length cnk, .slice Anv (nv).length cnv, .slice Anc (nc).length cnc] (fun i v hi => (((((((le15.trans le32).trans le73).trans le106).trans le113).trans le145).trans le164).trans le171) _ _ _ (hc8 i v hi)) (off := 0) (by kernel_rfl) (.agg #[.bool (nl), .slice Ank (nk).length cnk, .slice Anv (nv).length cnv, .slice Anc (nc).length cnc]) (by kernel_rfl)) ?_
            refine wpF_store hM185 0 rfl (h := (by kernel_rfl : opAt _ _ _ _ _ = some (.store 25 (.tmp 21) (.tmp 162), none))) (off := 0) (by kernel_rfl) #[.bool (nl), .slice Ank (nk).length cnk, .slice Anv (nv).length cnv, .slice Anc (nc).length cnc] (by kernel_rfl) (by kernel_rfl) (by kernel_rfl) (by kernel_rfl) (fun w191 hM190 => ?_)
            have hM192 : Step V w [] V169 _ ([.blk b180 (.cells #[.bool (nl), .slice Ank (nk).length cnk, .slice Anv (nv).length cnv, .slice Anc (nc).length cnc] 25), .blk b154 (.cells #[.bool (findB (putOk (nl) (nk) (nv) (nc) (y) (u)) (putK (nl) (nk) (nv) (nc) (y) (u)) (putV (nl) (nk) (nv) (nc) (y) (u)) (([] : List Int)) (y)), .slice Ar147_1 (drK (putOk (nl) (nk) (nv) (nc) (y) (u)) (putK (nl) (nk) (nv) (nc) (y) (u)) (putV (nl) (nk) (nv) (nc) (y) (u)) (([] : List Int)) (y)).length cr147_1, .slice Ar147_2 (drV (putOk (nl) (nk) (nv) (nc) (y) (u)) (putK (nl) (nk) (nv) (nc) (y) (u)) (putV (nl) (nk) (nv) (nc) (y) (u)) (([] : List Int)) (y)).length cr147_2, .slice Ar147_3 (([] : List Int)).length cr147_3] 25), .blk b41 (.cells #[.bool (putOk (nl) (nk) (nv) (nc) (y) (u)), .slice Ar34_1 (putK (nl) (nk) (nv) (nc) (y) (u)).length cr34_1, .slice Ar34_2 (putV (nl) (nk) (nv) (nc) (y) (u)).length cr34_2, .slice Ar34_3 (([] : List Int)).length cr34_3] 25)]) := hM190
            refine wpF_end _ (by kernel_rfl) (then_n (hK186 _ _ ?_))
            refine wp_seq_k (fun K193 hK193 => ?_)
            refine wp_reg ?_
            refine wpF_seg 2 (by kernel_rfl) ?_
            refine wpF_slot 164 (.bool (findB (putOk (nl) (nk) (nv) (nc) (y) (u)) (putK (nl) (nk) (nv) (nc) (y) (u)) (putV (nl) (nk) (nv) (nc) (y) (u)) (([] : List Int)) (y))) (.bool true) (by kernel_rfl) (by kernel_rfl) (by rw [h78]) ?_
            refine wpF_seg 4 (by kernel_rfl) ?_
            have h194 : (findB (findB (putOk (nl) (nk) (nv) (nc) (y) (u)) (putK (nl) (nk) (nv) (nc) (y) (u)) (putV (nl) (nk) (nv) (nc) (y) (u)) (([] : List Int)) (y)) (drK (putOk (nl) (nk) (nv) (nc) (y) (u)) (putK (nl) (nk) (nv) (nc) (y) (u)) (putV (nl) (nk) (nv) (nc) (y) (u)) (([] : List Int)) (y)) (drV (putOk (nl) (nk) (nv) (nc) (y) (u)) (putK (nl) (nk) (nv) (nc) (y) (u)) (putV (nl) (nk) (nv) (nc) (y) (u)) (([] : List Int)) (y)) (([] : List Int)) (y)) = false := by exact hpd.1
            refine wpF_slot 168 (.bool (!(findB (findB (putOk (nl) (nk) (nv) (nc) (y) (u)) (putK (nl) (nk) (nv) (nc) (y) (u)) (putV (nl) (nk) (nv) (nc) (y) (u)) (([] : List Int)) (y)) (drK (putOk (nl) (nk) (nv) (nc) (y) (u)) (putK (nl) (nk) (nv) (nc) (y) (u)) (putV (nl) (nk) (nv) (nc) (y) (u)) (([] : List Int)) (y)) (drV (putOk (nl) (nk) (nv) (nc) (y) (u)) (putK (nl) (nk) (nv) (nc) (y) (u)) (putV (nl) (nk) (nv) (nc) (y) (u)) (([] : List Int)) (y)) (([] : List Int)) (y)))) (.bool true) (by kernel_rfl) (by kernel_rfl) (by rw [(show (!(findB (findB (putOk (nl) (nk) (nv) (nc) (y) (u)) (putK (nl) (nk) (nv) (nc) (y) (u)) (putV (nl) (nk) (nv) (nc) (y) (u)) (([] : List Int)) (y)) (drK (putOk (nl) (nk) (nv) (nc) (y) (u)) (putK (nl) (nk) (nv) (nc) (y) (u)) (putV (nl) (nk) (nv) (nc) (y) (u)) (([] : List Int)) (y)) (drV (putOk (nl) (nk) (nv) (nc) (y) (u)) (putK (nl) (nk) (nv) (nc) (y) (u)) (putV (nl) (nk) (nv) (nc) (y) (u)) (([] : List Int)) (y)) (([] : List Int)) (y))) = true from by rw [h194]; rfl)]) ?_
            refine wpF_seg 1 (by kernel_rfl) ?_
            refine gF hM192 (.load 22 (.tmp 169)) (some 170) (by kernel_rfl) (Y_load 1 rfl (off := 1) (by kernel_rfl) (.slice Ar147_1 (drK (putOk (nl) (nk) (nv) (nc) (y) (u)) (putK (nl) (nk) (nv) (nc) (y) (u)) (putV (nl) (nk) (nv) (nc) (y) (u)) (([] : List Int)) (y)).length cr147_1) (by kernel_rfl)) ?_
            refine wpF_seg 2 (by kernel_rfl) ?_
            refine gF hM192 (.load 22 (.tmp 172)) (some 173) (by kernel_rfl) (Y_load 0 rfl (off := 1) (by kernel_rfl) (.slice Ank (nk).length cnk) (by kernel_rfl)) ?_
            refine wpF_seg 4 (by kernel_rfl) ?_
            have h195 : (decide ((((drK (putOk (nl) (nk) (nv) (nc) (y) (u)) (putK (nl) (nk) (nv) (nc) (y) (u)) (putV (nl) (nk) (nv) (nc) (y) (u)) (([] : List Int)) (y)).length : Int)) = ((nk.length : Int)))) = true := by exact decide_eq_true (by have hd := hpd.2; first | (rw [(by assumption : findB nl nk nv nc y = false)] at hd; simp only [cond_false] at hd; omega) | (have hd2 := dr_len (by assumption : findB nl nk nv nc y = true); rw [(by assumption : findB nl nk nv nc y = true)] at hd; simp only [cond_true] at hd; omega))
            have p196 : ((((drK (putOk (nl) (nk) (nv) (nc) (y) (u)) (putK (nl) (nk) (nv) (nc) (y) (u)) (putV (nl) (nk) (nv) (nc) (y) (u)) (([] : List Int)) (y)).length : Int)) = ((nk.length : Int))) := of_decide_eq_true h195
            refine wpF_slot 177 (.bool (decide ((((drK (putOk (nl) (nk) (nv) (nc) (y) (u)) (putK (nl) (nk) (nv) (nc) (y) (u)) (putV (nl) (nk) (nv) (nc) (y) (u)) (([] : List Int)) (y)).length : Int)) = ((nk.length : Int))))) (.bool true) (by kernel_rfl) (by kernel_rfl) (by rw [h195]) ?_
            refine wpF_callP hM192 (f := 12) (caps := #[]) (h := (by kernel_rfl : opAt _ _ _ _ _ = some (.call (.mk (.value (.func 12)) #[] #[]), some 178))) (by kernel_rfl) (by kernel_rfl) (by kernel_rfl) (f12 _ _ hM192.inW ) (fun v197 V198 w199 le200 hM201 hp202 => ?_)
            obtain rfl := hp202
            refine wpF_seg 2 (by kernel_rfl) ?_
            refine wpF_end _ (by kernel_rfl) (then_n (hK193 _ _ ?_))
            refine wp_ret ?_
            refine retN [.bool (true)] (.bool (true)) Try.results9 (.tmp (by kernel_rfl) (by kernel_rfl) .nil) (by kernel_rfl) (hRet _ _ ⟨_, _, rfl, hM201.clear, ?_⟩)
            -- end ffttt
            rfl
          · -- ffttf
            have h203 : (findB (nl) (nk) (nv) (nc) (y)) = true := by simpa using h188
            refine wp_skip (then_n (hK186 _ _ ?_))
            refine wp_seq_k (fun K204 hK204 => ?_)
            refine wp_reg ?_
            refine wpF_seg 2 (by kernel_rfl) ?_
            refine wpF_slot 164 (.bool (findB (putOk (nl) (nk) (nv) (nc) (y) (u)) (putK (nl) (nk) (nv) (nc) (y) (u)) (putV (nl) (nk) (nv) (nc) (y) (u)) (([] : List Int)) (y))) (.bool true) (by kernel_rfl) (by kernel_rfl) (by rw [h78]) ?_
            refine wpF_seg 4 (by kernel_rfl) ?_
            have h205 : (findB (findB (putOk (nl) (nk) (nv) (nc) (y) (u)) (putK (nl) (nk) (nv) (nc) (y) (u)) (putV (nl) (nk) (nv) (nc) (y) (u)) (([] : List Int)) (y)) (drK (putOk (nl) (nk) (nv) (nc) (y) (u)) (putK (nl) (nk) (nv) (nc) (y) (u)) (putV (nl) (nk) (nv) (nc) (y) (u)) (([] : List Int)) (y)) (drV (putOk (nl) (nk) (nv) (nc) (y) (u)) (putK (nl) (nk) (nv) (nc) (y) (u)) (putV (nl) (nk) (nv) (nc) (y) (u)) (([] : List Int)) (y)) (([] : List Int)) (y)) = false := by exact hpd.1
            refine wpF_slot 168 (.bool (!(findB (findB (putOk (nl) (nk) (nv) (nc) (y) (u)) (putK (nl) (nk) (nv) (nc) (y) (u)) (putV (nl) (nk) (nv) (nc) (y) (u)) (([] : List Int)) (y)) (drK (putOk (nl) (nk) (nv) (nc) (y) (u)) (putK (nl) (nk) (nv) (nc) (y) (u)) (putV (nl) (nk) (nv) (nc) (y) (u)) (([] : List Int)) (y)) (drV (putOk (nl) (nk) (nv) (nc) (y) (u)) (putK (nl) (nk) (nv) (nc) (y) (u)) (putV (nl) (nk) (nv) (nc) (y) (u)) (([] : List Int)) (y)) (([] : List Int)) (y)))) (.bool true) (by kernel_rfl) (by kernel_rfl) (by rw [(show (!(findB (findB (putOk (nl) (nk) (nv) (nc) (y) (u)) (putK (nl) (nk) (nv) (nc) (y) (u)) (putV (nl) (nk) (nv) (nc) (y) (u)) (([] : List Int)) (y)) (drK (putOk (nl) (nk) (nv) (nc) (y) (u)) (putK (nl) (nk) (nv) (nc) (y) (u)) (putV (nl) (nk) (nv) (nc) (y) (u)) (([] : List Int)) (y)) (drV (putOk (nl) (nk) (nv) (nc) (y) (u)) (putK (nl) (nk) (nv) (nc) (y) (u)) (putV (nl) (nk) (nv) (nc) (y) (u)) (([] : List Int)) (y)) (([] : List Int)) (y))) = true from by rw [h205]; rfl)]) ?_
            refine wpF_seg 1 (by kernel_rfl) ?_
            refine gF hM185 (.load 22 (.tmp 169)) (some 170) (by kernel_rfl) (Y_load 1 rfl (off := 1) (by kernel_rfl) (.slice Ar147_1 (drK (putOk (nl) (nk) (nv) (nc) (y) (u)) (putK (nl) (nk) (nv) (nc) (y) (u)) (putV (nl) (nk) (nv) (nc) (y) (u)) (([] : List Int)) (y)).length cr147_1) (by kernel_rfl)) ?_
            refine wpF_seg 2 (by kernel_rfl) ?_
            refine gF hM185 (.load 22 (.tmp 172)) (some 173) (by kernel_rfl) (Y_load 0 rfl (off := 1) (by kernel_rfl) (.slice Ar173_1 (drK (nl) (nk) (nv) (nc) (y)).length cr173_1) (by kernel_rfl)) ?_
            refine wpF_seg 4 (by kernel_rfl) ?_
            have h206 : (decide ((((drK (putOk (nl) (nk) (nv) (nc) (y) (u)) (putK (nl) (nk) (nv) (nc) (y) (u)) (putV (nl) (nk) (nv) (nc) (y) (u)) (([] : List Int)) (y)).length : Int)) = (((drK (nl) (nk) (nv) (nc) (y)).length : Int)))) = true := by exact decide_eq_true (by have hd := hpd.2; first | (rw [(by assumption : findB nl nk nv nc y = false)] at hd; simp only [cond_false] at hd; omega) | (have hd2 := dr_len (by assumption : findB nl nk nv nc y = true); rw [(by assumption : findB nl nk nv nc y = true)] at hd; simp only [cond_true] at hd; omega))
            have p207 : ((((drK (putOk (nl) (nk) (nv) (nc) (y) (u)) (putK (nl) (nk) (nv) (nc) (y) (u)) (putV (nl) (nk) (nv) (nc) (y) (u)) (([] : List Int)) (y)).length : Int)) = (((drK (nl) (nk) (nv) (nc) (y)).length : Int))) := of_decide_eq_true h206
            refine wpF_slot 177 (.bool (decide ((((drK (putOk (nl) (nk) (nv) (nc) (y) (u)) (putK (nl) (nk) (nv) (nc) (y) (u)) (putV (nl) (nk) (nv) (nc) (y) (u)) (([] : List Int)) (y)).length : Int)) = (((drK (nl) (nk) (nv) (nc) (y)).length : Int))))) (.bool true) (by kernel_rfl) (by kernel_rfl) (by rw [h206]) ?_
            refine wpF_callP hM185 (f := 12) (caps := #[]) (h := (by kernel_rfl : opAt _ _ _ _ _ = some (.call (.mk (.value (.func 12)) #[] #[]), some 178))) (by kernel_rfl) (by kernel_rfl) (by kernel_rfl) (f12 _ _ hM185.inW ) (fun v208 V209 w210 le211 hM212 hp213 => ?_)
            obtain rfl := hp213
            refine wpF_seg 2 (by kernel_rfl) ?_
            refine wpF_end _ (by kernel_rfl) (then_n (hK204 _ _ ?_))
            refine wp_ret ?_
            refine retN [.bool (true)] (.bool (true)) Try.results9 (.tmp (by kernel_rfl) (by kernel_rfl) .nil) (by kernel_rfl) (hRet _ _ ⟨_, _, rfl, hM212.clear, ?_⟩)
            -- end ffttf
            rfl
        · -- fftf
          refine h_seg 35 (by kernel_rfl) ?_
          refine h_s no_fs ?_
          refine h_n (fun w214 hM215 => ?_)
          refine  (then_n (hK116 _ _ ?_))
          refine wp_cf (by kernel_rfl) ?_
          refine wp_skip (then_n (hK97 _ _ ?_))
          refine wp_seq_k (fun K216 hK216 => ?_)
          refine wp_reg ?_
          refine gF hM215 (.load 25 (.tmp 9)) (some 143) (by kernel_rfl) (Y_load 0 rfl (off := 0) (by kernel_rfl) (.agg #[.bool (putOk (nl) (nk) (nv) (nc) (y) (u)), .slice Ar34_1 (putK (nl) (nk) (nv) (nc) (y) (u)).length cr34_1, .slice Ar34_2 (putV (nl) (nk) (nv) (nc) (y) (u)).length cr34_2, .slice Ar34_3 (([] : List Int)).length cr34_3]) (by kernel_rfl)) ?_
          refine wpF_seg 1 (by kernel_rfl) ?_
          refine wpF_callP hM215 (f := 28) (caps := #[]) (h := (by kernel_rfl : opAt _ _ _ _ _ = some (.call (.mk (.value (.func 28)) #[(.tmp 143), (.tmp 144)] #[25, 9]), some 145))) (by kernel_rfl) (by kernel_rfl) (by kernel_rfl) (f28 _ _ hM215.inW (putOk (nl) (nk) (nv) (nc) (y) (u)) Ar34_1 cr34_1 (putK (nl) (nk) (nv) (nc) (y) (u)) (r35.up ((le73.trans le106).trans le113)) Ar34_2 cr34_2 (putV (nl) (nk) (nv) (nc) (y) (u)) (r36.up ((le73.trans le106).trans le113)) Ar34_3 cr34_3 (([] : List Int)) (r37.up ((le73.trans le106).trans le113)) (y) (hy) (by omega) (by omega)) (fun v217 V218 w219 le220 hM221 hp222 => ?_)
          obtain ⟨Ar222_1, cr222_1, Ar222_2, cr222_2, Ar222_3, cr222_3, rfl, r223, r224, r225⟩ := hp222
          have l226 : (drK (putOk (nl) (nk) (nv) (nc) (y) (u)) (putK (nl) (nk) (nv) (nc) (y) (u)) (putV (nl) (nk) (nv) (nc) (y) (u)) (([] : List Int)) (y)).length ≤ 140737488355328 := r223.max
          have l227 : (drV (putOk (nl) (nk) (nv) (nc) (y) (u)) (putK (nl) (nk) (nv) (nc) (y) (u)) (putV (nl) (nk) (nv) (nc) (y) (u)) (([] : List Int)) (y)).length ≤ 140737488355328 := r224.max
          have l228 : (([] : List Int)).length ≤ 140737488355328 := r225.max
          refine wpF_seg 3 (by kernel_rfl) ?_
          refine wpF_alloc hM221 #[.bool (false), .slice none 0 0, .slice none 0 0, .slice none 0 0] (h := (by kernel_rfl : opAt _ _ _ _ _ = some (.alloc 25, some 17))) (by kernel_rfl) (fun b229 w230 hM231 => ?_)
          refine wpF_store hM231 0 rfl (h := (by kernel_rfl : opAt _ _ _ _ _ = some (.store 25 (.tmp 17) (.tmp 146), none))) (off := 0) (by kernel_rfl) #[.bool (findB (putOk (nl) (nk) (nv) (nc) (y) (u)) (putK (nl) (nk) (nv) (nc) (y) (u)) (putV (nl) (nk) (nv) (nc) (y) (u)) (([] : List Int)) (y)), .slice Ar222_1 (drK (putOk (nl) (nk) (nv) (nc) (y) (u)) (putK (nl) (nk) (nv) (nc) (y) (u)) (putV (nl) (nk) (nv) (nc) (y) (u)) (([] : List Int)) (y)).length cr222_1, .slice Ar222_2 (drV (putOk (nl) (nk) (nv) (nc) (y) (u)) (putK (nl) (nk) (nv) (nc) (y) (u)) (putV (nl) (nk) (nv) (nc) (y) (u)) (([] : List Int)) (y)).length cr222_2, .slice Ar222_3 (([] : List Int)).length cr222_3] (by kernel_rfl) (by kernel_rfl) (by kernel_rfl) (by kernel_rfl) (fun w233 hM232 => ?_)
          have hM234 : Step V w [] V218 _ ([.blk b229 (.cells #[.bool (findB (putOk (nl) (nk) (nv) (nc) (y) (u)) (putK (nl) (nk) (nv) (nc) (y) (u)) (putV (nl) (nk) (nv) (nc) (y) (u)) (([] : List Int)) (y)), .slice Ar222_1 (drK (putOk (nl) (nk) (nv) (nc) (y) (u)) (putK (nl) (nk) (nv) (nc) (y) (u)) (putV (nl) (nk) (nv) (nc) (y) (u)) (([] : List Int)) (y)).length cr222_1, .slice Ar222_2 (drV (putOk (nl) (nk) (nv) (nc) (y) (u)) (putK (nl) (nk) (nv) (nc) (y) (u)) (putV (nl) (nk) (nv) (nc) (y) (u)) (([] : List Int)) (y)).length cr222_2, .slice Ar222_3 (([] : List Int)).length cr222_3] 25), .blk b41 (.cells #[.bool (putOk (nl) (nk) (nv) (nc) (y) (u)), .slice Ar34_1 (putK (nl) (nk) (nv) (nc) (y) (u)).length cr34_1, .slice Ar34_2 (putV (nl) (nk) (nv) (nc) (y) (u)).length cr34_2, .slice Ar34_3 (([] : List Int)).length cr34_3] 25)]) := hM232
          refine wpF_seg 1 (by kernel_rfl) ?_
          refine wpF_end _ (by kernel_rfl) (then_n (hK216 _ _ ?_))
          refine wp_seq_k (fun K235 hK235 => ?_)
          refine wp_reg ?_
          refine gF hM234 (.load 25 (.tmp 17)) (some 149) (by kernel_rfl) (Y_load 0 rfl (off := 0) (by kernel_rfl) (.agg #[.bool (findB (putOk (nl) (nk) (nv) (nc) (y) (u)) (putK (nl) (nk) (nv) (nc) (y) (u)) (putV (nl) (nk) (nv) (nc) (y) (u)) (([] : List Int)) (y)), .slice Ar222_1 (drK (putOk (nl) (nk) (nv) (nc) (y) (u)) (putK (nl) (nk) (nv) (nc) (y) (u)) (putV (nl) (nk) (nv) (nc) (y) (u)) (([] : List Int)) (y)).length cr222_1, .slice Ar222_2 (drV (putOk (nl) (nk) (nv) (nc) (y) (u)) (putK (nl) (nk) (nv) (nc) (y) (u)) (putV (nl) (nk) (nv) (nc) (y) (u)) (([] : List Int)) (y)).length cr222_2, .slice Ar222_3 (([] : List Int)).length cr222_3]) (by kernel_rfl)) ?_
          refine wpF_seg 1 (by kernel_rfl) ?_
          refine wpF_callP hM234 (f := 22) (caps := #[]) (h := (by kernel_rfl : opAt _ _ _ _ _ = some (.call (.mk (.value (.func 22)) #[(.tmp 149), (.tmp 150)] #[25, 9]), some 151))) (by kernel_rfl) (by kernel_rfl) (by kernel_rfl) (f22 _ _ hM234.inW (findB (putOk (nl) (nk) (nv) (nc) (y) (u)) (putK (nl) (nk) (nv) (nc) (y) (u)) (putV (nl) (nk) (nv) (nc) (y) (u)) (([] : List Int)) (y)) Ar222_1 cr222_1 (drK (putOk (nl) (nk) (nv) (nc) (y) (u)) (putK (nl) (nk) (nv) (nc) (y) (u)) (putV (nl) (nk) (nv) (nc) (y) (u)) (([] : List Int)) (y)) r223 Ar222_2 cr222_2 (drV (putOk (nl) (nk) (nv) (nc) (y) (u)) (putK (nl) (nk) (nv) (nc) (y) (u)) (putV (nl) (nk) (nv) (nc) (y) (u)) (([] : List Int)) (y)) r224 Ar222_3 cr222_3 (([] : List Int)) r225 (y) (hy)) (fun v236 V237 w238 le239 hM240 hp241 => ?_)
          obtain rfl := hp241
          refine wpF_seg 5 (by kernel_rfl) ?_
          refine wpF_end _ (by kernel_rfl) (then_n (hK235 _ _ ?_))
          refine wp_seq_k (fun K242 hK242 => ?_)
          refine wp_reg ?_
          refine gF hM240 (.load 25 (.tmp 4)) (some 155) (by kernel_rfl) (Y_loadB #[.bool (nl), .slice Ank (nk).length cnk, .slice Anv (nv).length cnv, .slice Anc (nc).length cnc] (fun i v hi => ((((((le15.trans le32).trans le73).trans le106).trans le113).trans le220).trans le239) _ _ _ (hc8 i v hi)) (off := 0) (by kernel_rfl) (.agg #[.bool (nl), .slice Ank (nk).length cnk, .slice Anv (nv).length cnv, .slice Anc (nc).length cnc]) (by kernel_rfl)) ?_
          refine wpF_seg 1 (by kernel_rfl) ?_
          refine wpF_callP hM240 (f := 28) (caps := #[]) (h := (by kernel_rfl : opAt _ _ _ _ _ = some (.call (.mk (.value (.func 28)) #[(.tmp 155), (.tmp 156)] #[25, 9]), some 157))) (by kernel_rfl) (by kernel_rfl) (by kernel_rfl) (f28 _ _ hM240.inW (nl) Ank cnk (nk) (hnk.up hM240.le) Anv cnv (nv) (hnv.up hM240.le) Anc cnc (nc) (hnc.up hM240.le) (y) (hy) (by omega) (by omega)) (fun v243 V244 w245 le246 hM247 hp248 => ?_)
          obtain ⟨Ar248_1, cr248_1, Ar248_2, cr248_2, Ar248_3, cr248_3, rfl, r249, r250, r251⟩ := hp248
          have l252 : (drK (nl) (nk) (nv) (nc) (y)).length ≤ 140737488355328 := r249.max
          have l253 : (drV (nl) (nk) (nv) (nc) (y)).length ≤ 140737488355328 := r250.max
          have l254 : (([] : List Int)).length ≤ 140737488355328 := r251.max
          refine wpF_seg 3 (by kernel_rfl) ?_
          refine wpF_alloc hM247 #[.bool (false), .slice none 0 0, .slice none 0 0, .slice none 0 0] (h := (by kernel_rfl : opAt _ _ _ _ _ = some (.alloc 25, some 21))) (by kernel_rfl) (fun b255 w256 hM257 => ?_)
          refine wpF_store hM257 0 rfl (h := (by kernel_rfl : opAt _ _ _ _ _ = some (.store 25 (.tmp 21) (.tmp 158), none))) (off := 0) (by kernel_rfl) #[.bool (findB (nl) (nk) (nv) (nc) (y)), .slice Ar248_1 (drK (nl) (nk) (nv) (nc) (y)).length cr248_1, .slice Ar248_2 (drV (nl) (nk) (nv) (nc) (y)).length cr248_2, .slice Ar248_3 (([] : List Int)).length cr248_3] (by kernel_rfl) (by kernel_rfl) (by kernel_rfl) (by kernel_rfl) (fun w259 hM258 => ?_)
          have hM260 : Step V w [] V244 _ ([.blk b255 (.cells #[.bool (findB (nl) (nk) (nv) (nc) (y)), .slice Ar248_1 (drK (nl) (nk) (nv) (nc) (y)).length cr248_1, .slice Ar248_2 (drV (nl) (nk) (nv) (nc) (y)).length cr248_2, .slice Ar248_3 (([] : List Int)).length cr248_3] 25), .blk b229 (.cells #[.bool (findB (putOk (nl) (nk) (nv) (nc) (y) (u)) (putK (nl) (nk) (nv) (nc) (y) (u)) (putV (nl) (nk) (nv) (nc) (y) (u)) (([] : List Int)) (y)), .slice Ar222_1 (drK (putOk (nl) (nk) (nv) (nc) (y) (u)) (putK (nl) (nk) (nv) (nc) (y) (u)) (putV (nl) (nk) (nv) (nc) (y) (u)) (([] : List Int)) (y)).length cr222_1, .slice Ar222_2 (drV (putOk (nl) (nk) (nv) (nc) (y) (u)) (putK (nl) (nk) (nv) (nc) (y) (u)) (putV (nl) (nk) (nv) (nc) (y) (u)) (([] : List Int)) (y)).length cr222_2, .slice Ar222_3 (([] : List Int)).length cr222_3] 25), .blk b41 (.cells #[.bool (putOk (nl) (nk) (nv) (nc) (y) (u)), .slice Ar34_1 (putK (nl) (nk) (nv) (nc) (y) (u)).length cr34_1, .slice Ar34_2 (putV (nl) (nk) (nv) (nc) (y) (u)).length cr34_2, .slice Ar34_3 (([] : List Int)).length cr34_3] 25)]) := hM258
          refine wpF_seg 1 (by kernel_rfl) ?_
          refine wpF_end _ (by kernel_rfl) (then_n (hK242 _ _ ?_))
          refine wp_seq_k (fun K261 hK261 => ?_)
          refine wp_seq_k (fun K262 hK262 => ?_)
          refine wp_reg ?_
          refine wpF_seg 2 (by kernel_rfl) ?_
          refine wpF_end _ (by kernel_rfl) (then_n (hK262 _ _ ?_))
          refine wp_if (!(findB (nl) (nk) (nv) (nc) (y))) (by kernel_rfl) (fun h263 => ?_) (fun h263 => ?_)
          · -- fftft
            have h264 : (findB (nl) (nk) (nv) (nc) (y)) = false := by simpa using h263
            refine wp_reg ?_
            refine gF hM260 (.load 25 (.tmp 4)) (some 162) (by kernel_rfl) (Y_loadB #[.bool (nl), .slice Ank (nk).length cnk, .slice Anv (nv).length cnv, .slice Anc (nc).length cnc] (fun i v hi => (((((((le15.trans le32).trans le73).trans le106).trans le113).trans le220).trans le239).trans le246) _ _ _ (hc8 i v hi)) (off := 0) (by kernel_rfl) (.agg #[.bool (nl), .slice Ank (nk).length cnk, .slice Anv (nv).length cnv, .slice Anc (nc).length cnc]) (by kernel_rfl)) ?_
            refine wpF_store hM260 0 rfl (h := (by kernel_rfl : opAt _ _ _ _ _ = some (.store 25 (.tmp 21) (.tmp 162), none))) (off := 0) (by kernel_rfl) #[.bool (nl), .slice Ank (nk).length cnk, .slice Anv (nv).length cnv, .slice Anc (nc).length cnc] (by kernel_rfl) (by kernel_rfl) (by kernel_rfl) (by kernel_rfl) (fun w266 hM265 => ?_)
            have hM267 : Step V w [] V244 _ ([.blk b255 (.cells #[.bool (nl), .slice Ank (nk).length cnk, .slice Anv (nv).length cnv, .slice Anc (nc).length cnc] 25), .blk b229 (.cells #[.bool (findB (putOk (nl) (nk) (nv) (nc) (y) (u)) (putK (nl) (nk) (nv) (nc) (y) (u)) (putV (nl) (nk) (nv) (nc) (y) (u)) (([] : List Int)) (y)), .slice Ar222_1 (drK (putOk (nl) (nk) (nv) (nc) (y) (u)) (putK (nl) (nk) (nv) (nc) (y) (u)) (putV (nl) (nk) (nv) (nc) (y) (u)) (([] : List Int)) (y)).length cr222_1, .slice Ar222_2 (drV (putOk (nl) (nk) (nv) (nc) (y) (u)) (putK (nl) (nk) (nv) (nc) (y) (u)) (putV (nl) (nk) (nv) (nc) (y) (u)) (([] : List Int)) (y)).length cr222_2, .slice Ar222_3 (([] : List Int)).length cr222_3] 25), .blk b41 (.cells #[.bool (putOk (nl) (nk) (nv) (nc) (y) (u)), .slice Ar34_1 (putK (nl) (nk) (nv) (nc) (y) (u)).length cr34_1, .slice Ar34_2 (putV (nl) (nk) (nv) (nc) (y) (u)).length cr34_2, .slice Ar34_3 (([] : List Int)).length cr34_3] 25)]) := hM265
            refine wpF_end _ (by kernel_rfl) (then_n (hK261 _ _ ?_))
            refine wp_seq_k (fun K268 hK268 => ?_)
            refine wp_reg ?_
            refine wpF_seg 2 (by kernel_rfl) ?_
            refine wpF_slot 164 (.bool (findB (putOk (nl) (nk) (nv) (nc) (y) (u)) (putK (nl) (nk) (nv) (nc) (y) (u)) (putV (nl) (nk) (nv) (nc) (y) (u)) (([] : List Int)) (y))) (.bool true) (by kernel_rfl) (by kernel_rfl) (by rw [h78]) ?_
            refine wpF_seg 4 (by kernel_rfl) ?_
            have h269 : (findB (findB (putOk (nl) (nk) (nv) (nc) (y) (u)) (putK (nl) (nk) (nv) (nc) (y) (u)) (putV (nl) (nk) (nv) (nc) (y) (u)) (([] : List Int)) (y)) (drK (putOk (nl) (nk) (nv) (nc) (y) (u)) (putK (nl) (nk) (nv) (nc) (y) (u)) (putV (nl) (nk) (nv) (nc) (y) (u)) (([] : List Int)) (y)) (drV (putOk (nl) (nk) (nv) (nc) (y) (u)) (putK (nl) (nk) (nv) (nc) (y) (u)) (putV (nl) (nk) (nv) (nc) (y) (u)) (([] : List Int)) (y)) (([] : List Int)) (y)) = false := by exact hpd.1
            refine wpF_slot 168 (.bool (!(findB (findB (putOk (nl) (nk) (nv) (nc) (y) (u)) (putK (nl) (nk) (nv) (nc) (y) (u)) (putV (nl) (nk) (nv) (nc) (y) (u)) (([] : List Int)) (y)) (drK (putOk (nl) (nk) (nv) (nc) (y) (u)) (putK (nl) (nk) (nv) (nc) (y) (u)) (putV (nl) (nk) (nv) (nc) (y) (u)) (([] : List Int)) (y)) (drV (putOk (nl) (nk) (nv) (nc) (y) (u)) (putK (nl) (nk) (nv) (nc) (y) (u)) (putV (nl) (nk) (nv) (nc) (y) (u)) (([] : List Int)) (y)) (([] : List Int)) (y)))) (.bool true) (by kernel_rfl) (by kernel_rfl) (by rw [(show (!(findB (findB (putOk (nl) (nk) (nv) (nc) (y) (u)) (putK (nl) (nk) (nv) (nc) (y) (u)) (putV (nl) (nk) (nv) (nc) (y) (u)) (([] : List Int)) (y)) (drK (putOk (nl) (nk) (nv) (nc) (y) (u)) (putK (nl) (nk) (nv) (nc) (y) (u)) (putV (nl) (nk) (nv) (nc) (y) (u)) (([] : List Int)) (y)) (drV (putOk (nl) (nk) (nv) (nc) (y) (u)) (putK (nl) (nk) (nv) (nc) (y) (u)) (putV (nl) (nk) (nv) (nc) (y) (u)) (([] : List Int)) (y)) (([] : List Int)) (y))) = true from by rw [h269]; rfl)]) ?_
            refine wpF_seg 1 (by kernel_rfl) ?_
            refine gF hM267 (.load 22 (.tmp 169)) (some 170) (by kernel_rfl) (Y_load 1 rfl (off := 1) (by kernel_rfl) (.slice Ar222_1 (drK (putOk (nl) (nk) (nv) (nc) (y) (u)) (putK (nl) (nk) (nv) (nc) (y) (u)) (putV (nl) (nk) (nv) (nc) (y) (u)) (([] : List Int)) (y)).length cr222_1) (by kernel_rfl)) ?_
            refine wpF_seg 2 (by kernel_rfl) ?_
            refine gF hM267 (.load 22 (.tmp 172)) (some 173) (by kernel_rfl) (Y_load 0 rfl (off := 1) (by kernel_rfl) (.slice Ank (nk).length cnk) (by kernel_rfl)) ?_
            refine wpF_seg 4 (by kernel_rfl) ?_
            have h270 : (decide ((((drK (putOk (nl) (nk) (nv) (nc) (y) (u)) (putK (nl) (nk) (nv) (nc) (y) (u)) (putV (nl) (nk) (nv) (nc) (y) (u)) (([] : List Int)) (y)).length : Int)) = ((nk.length : Int)))) = true := by exact decide_eq_true (by have hd := hpd.2; first | (rw [(by assumption : findB nl nk nv nc y = false)] at hd; simp only [cond_false] at hd; omega) | (have hd2 := dr_len (by assumption : findB nl nk nv nc y = true); rw [(by assumption : findB nl nk nv nc y = true)] at hd; simp only [cond_true] at hd; omega))
            have p271 : ((((drK (putOk (nl) (nk) (nv) (nc) (y) (u)) (putK (nl) (nk) (nv) (nc) (y) (u)) (putV (nl) (nk) (nv) (nc) (y) (u)) (([] : List Int)) (y)).length : Int)) = ((nk.length : Int))) := of_decide_eq_true h270
            refine wpF_slot 177 (.bool (decide ((((drK (putOk (nl) (nk) (nv) (nc) (y) (u)) (putK (nl) (nk) (nv) (nc) (y) (u)) (putV (nl) (nk) (nv) (nc) (y) (u)) (([] : List Int)) (y)).length : Int)) = ((nk.length : Int))))) (.bool true) (by kernel_rfl) (by kernel_rfl) (by rw [h270]) ?_
            refine wpF_callP hM267 (f := 12) (caps := #[]) (h := (by kernel_rfl : opAt _ _ _ _ _ = some (.call (.mk (.value (.func 12)) #[] #[]), some 178))) (by kernel_rfl) (by kernel_rfl) (by kernel_rfl) (f12 _ _ hM267.inW ) (fun v272 V273 w274 le275 hM276 hp277 => ?_)
            obtain rfl := hp277
            refine wpF_seg 2 (by kernel_rfl) ?_
            refine wpF_end _ (by kernel_rfl) (then_n (hK268 _ _ ?_))
            refine wp_ret ?_
            refine retN [.bool (true)] (.bool (true)) Try.results9 (.tmp (by kernel_rfl) (by kernel_rfl) .nil) (by kernel_rfl) (hRet _ _ ⟨_, _, rfl, hM276.clear, ?_⟩)
            -- end fftft
            rfl
          · -- fftff
            have h278 : (findB (nl) (nk) (nv) (nc) (y)) = true := by simpa using h263
            refine wp_skip (then_n (hK261 _ _ ?_))
            refine wp_seq_k (fun K279 hK279 => ?_)
            refine wp_reg ?_
            refine wpF_seg 2 (by kernel_rfl) ?_
            refine wpF_slot 164 (.bool (findB (putOk (nl) (nk) (nv) (nc) (y) (u)) (putK (nl) (nk) (nv) (nc) (y) (u)) (putV (nl) (nk) (nv) (nc) (y) (u)) (([] : List Int)) (y))) (.bool true) (by kernel_rfl) (by kernel_rfl) (by rw [h78]) ?_
            refine wpF_seg 4 (by kernel_rfl) ?_
            have h280 : (findB (findB (putOk (nl) (nk) (nv) (nc) (y) (u)) (putK (nl) (nk) (nv) (nc) (y) (u)) (putV (nl) (nk) (nv) (nc) (y) (u)) (([] : List Int)) (y)) (drK (putOk (nl) (nk) (nv) (nc) (y) (u)) (putK (nl) (nk) (nv) (nc) (y) (u)) (putV (nl) (nk) (nv) (nc) (y) (u)) (([] : List Int)) (y)) (drV (putOk (nl) (nk) (nv) (nc) (y) (u)) (putK (nl) (nk) (nv) (nc) (y) (u)) (putV (nl) (nk) (nv) (nc) (y) (u)) (([] : List Int)) (y)) (([] : List Int)) (y)) = false := by exact hpd.1
            refine wpF_slot 168 (.bool (!(findB (findB (putOk (nl) (nk) (nv) (nc) (y) (u)) (putK (nl) (nk) (nv) (nc) (y) (u)) (putV (nl) (nk) (nv) (nc) (y) (u)) (([] : List Int)) (y)) (drK (putOk (nl) (nk) (nv) (nc) (y) (u)) (putK (nl) (nk) (nv) (nc) (y) (u)) (putV (nl) (nk) (nv) (nc) (y) (u)) (([] : List Int)) (y)) (drV (putOk (nl) (nk) (nv) (nc) (y) (u)) (putK (nl) (nk) (nv) (nc) (y) (u)) (putV (nl) (nk) (nv) (nc) (y) (u)) (([] : List Int)) (y)) (([] : List Int)) (y)))) (.bool true) (by kernel_rfl) (by kernel_rfl) (by rw [(show (!(findB (findB (putOk (nl) (nk) (nv) (nc) (y) (u)) (putK (nl) (nk) (nv) (nc) (y) (u)) (putV (nl) (nk) (nv) (nc) (y) (u)) (([] : List Int)) (y)) (drK (putOk (nl) (nk) (nv) (nc) (y) (u)) (putK (nl) (nk) (nv) (nc) (y) (u)) (putV (nl) (nk) (nv) (nc) (y) (u)) (([] : List Int)) (y)) (drV (putOk (nl) (nk) (nv) (nc) (y) (u)) (putK (nl) (nk) (nv) (nc) (y) (u)) (putV (nl) (nk) (nv) (nc) (y) (u)) (([] : List Int)) (y)) (([] : List Int)) (y))) = true from by rw [h280]; rfl)]) ?_
            refine wpF_seg 1 (by kernel_rfl) ?_
            refine gF hM260 (.load 22 (.tmp 169)) (some 170) (by kernel_rfl) (Y_load 1 rfl (off := 1) (by kernel_rfl) (.slice Ar222_1 (drK (putOk (nl) (nk) (nv) (nc) (y) (u)) (putK (nl) (nk) (nv) (nc) (y) (u)) (putV (nl) (nk) (nv) (nc) (y) (u)) (([] : List Int)) (y)).length cr222_1) (by kernel_rfl)) ?_
            refine wpF_seg 2 (by kernel_rfl) ?_
            refine gF hM260 (.load 22 (.tmp 172)) (some 173) (by kernel_rfl) (Y_load 0 rfl (off := 1) (by kernel_rfl) (.slice Ar248_1 (drK (nl) (nk) (nv) (nc) (y)).length cr248_1) (by kernel_rfl)) ?_
            refine wpF_seg 4 (by kernel_rfl) ?_
            have h281 : (decide ((((drK (putOk (nl) (nk) (nv) (nc) (y) (u)) (putK (nl) (nk) (nv) (nc) (y) (u)) (putV (nl) (nk) (nv) (nc) (y) (u)) (([] : List Int)) (y)).length : Int)) = (((drK (nl) (nk) (nv) (nc) (y)).length : Int)))) = true := by exact decide_eq_true (by have hd := hpd.2; first | (rw [(by assumption : findB nl nk nv nc y = false)] at hd; simp only [cond_false] at hd; omega) | (have hd2 := dr_len (by assumption : findB nl nk nv nc y = true); rw [(by assumption : findB nl nk nv nc y = true)] at hd; simp only [cond_true] at hd; omega))
            have p282 : ((((drK (putOk (nl) (nk) (nv) (nc) (y) (u)) (putK (nl) (nk) (nv) (nc) (y) (u)) (putV (nl) (nk) (nv) (nc) (y) (u)) (([] : List Int)) (y)).length : Int)) = (((drK (nl) (nk) (nv) (nc) (y)).length : Int))) := of_decide_eq_true h281
            refine wpF_slot 177 (.bool (decide ((((drK (putOk (nl) (nk) (nv) (nc) (y) (u)) (putK (nl) (nk) (nv) (nc) (y) (u)) (putV (nl) (nk) (nv) (nc) (y) (u)) (([] : List Int)) (y)).length : Int)) = (((drK (nl) (nk) (nv) (nc) (y)).length : Int))))) (.bool true) (by kernel_rfl) (by kernel_rfl) (by rw [h281]) ?_
            refine wpF_callP hM260 (f := 12) (caps := #[]) (h := (by kernel_rfl : opAt _ _ _ _ _ = some (.call (.mk (.value (.func 12)) #[] #[]), some 178))) (by kernel_rfl) (by kernel_rfl) (by kernel_rfl) (f12 _ _ hM260.inW ) (fun v283 V284 w285 le286 hM287 hp288 => ?_)
            obtain rfl := hp288
            refine wpF_seg 2 (by kernel_rfl) ?_
            refine wpF_end _ (by kernel_rfl) (then_n (hK279 _ _ ?_))
            refine wp_ret ?_
            refine retN [.bool (true)] (.bool (true)) Try.results9 (.tmp (by kernel_rfl) (by kernel_rfl) .nil) (by kernel_rfl) (hRet _ _ ⟨_, _, rfl, hM287.clear, ?_⟩)
            -- end fftff
            rfl
      · -- fff
        have h289 : decide ((y) = (z)) = true := by rw [← Bool.not_not (decide _), h99]; rfl
        have p290 : ((y) = (z)) := of_decide_eq_true h289
        refine wp_skip (then_n (hK97 _ _ ?_))
        refine wp_seq_k (fun K291 hK291 => ?_)
        refine wp_reg ?_
        refine gF hM74 (.load 25 (.tmp 9)) (some 143) (by kernel_rfl) (Y_load 0 rfl (off := 0) (by kernel_rfl) (.agg #[.bool (putOk (nl) (nk) (nv) (nc) (y) (u)), .slice Ar34_1 (putK (nl) (nk) (nv) (nc) (y) (u)).length cr34_1, .slice Ar34_2 (putV (nl) (nk) (nv) (nc) (y) (u)).length cr34_2, .slice Ar34_3 (([] : List Int)).length cr34_3]) (by kernel_rfl)) ?_
        refine wpF_seg 1 (by kernel_rfl) ?_
        refine wpF_callP hM74 (f := 28) (caps := #[]) (h := (by kernel_rfl : opAt _ _ _ _ _ = some (.call (.mk (.value (.func 28)) #[(.tmp 143), (.tmp 144)] #[25, 9]), some 145))) (by kernel_rfl) (by kernel_rfl) (by kernel_rfl) (f28 _ _ hM74.inW (putOk (nl) (nk) (nv) (nc) (y) (u)) Ar34_1 cr34_1 (putK (nl) (nk) (nv) (nc) (y) (u)) (r35.up le73) Ar34_2 cr34_2 (putV (nl) (nk) (nv) (nc) (y) (u)) (r36.up le73) Ar34_3 cr34_3 (([] : List Int)) (r37.up le73) (y) (hy) (by omega) (by omega)) (fun v292 V293 w294 le295 hM296 hp297 => ?_)
        obtain ⟨Ar297_1, cr297_1, Ar297_2, cr297_2, Ar297_3, cr297_3, rfl, r298, r299, r300⟩ := hp297
        have l301 : (drK (putOk (nl) (nk) (nv) (nc) (y) (u)) (putK (nl) (nk) (nv) (nc) (y) (u)) (putV (nl) (nk) (nv) (nc) (y) (u)) (([] : List Int)) (y)).length ≤ 140737488355328 := r298.max
        have l302 : (drV (putOk (nl) (nk) (nv) (nc) (y) (u)) (putK (nl) (nk) (nv) (nc) (y) (u)) (putV (nl) (nk) (nv) (nc) (y) (u)) (([] : List Int)) (y)).length ≤ 140737488355328 := r299.max
        have l303 : (([] : List Int)).length ≤ 140737488355328 := r300.max
        refine wpF_seg 3 (by kernel_rfl) ?_
        refine wpF_alloc hM296 #[.bool (false), .slice none 0 0, .slice none 0 0, .slice none 0 0] (h := (by kernel_rfl : opAt _ _ _ _ _ = some (.alloc 25, some 17))) (by kernel_rfl) (fun b304 w305 hM306 => ?_)
        refine wpF_store hM306 0 rfl (h := (by kernel_rfl : opAt _ _ _ _ _ = some (.store 25 (.tmp 17) (.tmp 146), none))) (off := 0) (by kernel_rfl) #[.bool (findB (putOk (nl) (nk) (nv) (nc) (y) (u)) (putK (nl) (nk) (nv) (nc) (y) (u)) (putV (nl) (nk) (nv) (nc) (y) (u)) (([] : List Int)) (y)), .slice Ar297_1 (drK (putOk (nl) (nk) (nv) (nc) (y) (u)) (putK (nl) (nk) (nv) (nc) (y) (u)) (putV (nl) (nk) (nv) (nc) (y) (u)) (([] : List Int)) (y)).length cr297_1, .slice Ar297_2 (drV (putOk (nl) (nk) (nv) (nc) (y) (u)) (putK (nl) (nk) (nv) (nc) (y) (u)) (putV (nl) (nk) (nv) (nc) (y) (u)) (([] : List Int)) (y)).length cr297_2, .slice Ar297_3 (([] : List Int)).length cr297_3] (by kernel_rfl) (by kernel_rfl) (by kernel_rfl) (by kernel_rfl) (fun w308 hM307 => ?_)
        have hM309 : Step V w [] V293 _ ([.blk b304 (.cells #[.bool (findB (putOk (nl) (nk) (nv) (nc) (y) (u)) (putK (nl) (nk) (nv) (nc) (y) (u)) (putV (nl) (nk) (nv) (nc) (y) (u)) (([] : List Int)) (y)), .slice Ar297_1 (drK (putOk (nl) (nk) (nv) (nc) (y) (u)) (putK (nl) (nk) (nv) (nc) (y) (u)) (putV (nl) (nk) (nv) (nc) (y) (u)) (([] : List Int)) (y)).length cr297_1, .slice Ar297_2 (drV (putOk (nl) (nk) (nv) (nc) (y) (u)) (putK (nl) (nk) (nv) (nc) (y) (u)) (putV (nl) (nk) (nv) (nc) (y) (u)) (([] : List Int)) (y)).length cr297_2, .slice Ar297_3 (([] : List Int)).length cr297_3] 25), .blk b41 (.cells #[.bool (putOk (nl) (nk) (nv) (nc) (y) (u)), .slice Ar34_1 (putK (nl) (nk) (nv) (nc) (y) (u)).length cr34_1, .slice Ar34_2 (putV (nl) (nk) (nv) (nc) (y) (u)).length cr34_2, .slice Ar34_3 (([] : List Int)).length cr34_3] 25)]) := hM307
        refine wpF_seg 1 (by kernel_rfl) ?_
        refine wpF_end _ (by kernel_rfl) (then_n (hK291 _ _ ?_))
        refine wp_seq_k (fun K310 hK310 => ?_)
        refine wp_reg ?_
        refine gF hM309 (.load 25 (.tmp 17)) (some 149) (by kernel_rfl) (Y_load 0 rfl (off := 0) (by kernel_rfl) (.agg #[.bool (findB (putOk (nl) (nk) (nv) (nc) (y) (u)) (putK (nl) (nk) (nv) (nc) (y) (u)) (putV (nl) (nk) (nv) (nc) (y) (u)) (([] : List Int)) (y)), .slice Ar297_1 (drK (putOk (nl) (nk) (nv) (nc) (y) (u)) (putK (nl) (nk) (nv) (nc) (y) (u)) (putV (nl) (nk) (nv) (nc) (y) (u)) (([] : List Int)) (y)).length cr297_1, .slice Ar297_2 (drV (putOk (nl) (nk) (nv) (nc) (y) (u)) (putK (nl) (nk) (nv) (nc) (y) (u)) (putV (nl) (nk) (nv) (nc) (y) (u)) (([] : List Int)) (y)).length cr297_2, .slice Ar297_3 (([] : List Int)).length cr297_3]) (by kernel_rfl)) ?_
        refine wpF_seg 1 (by kernel_rfl) ?_
        refine wpF_callP hM309 (f := 22) (caps := #[]) (h := (by kernel_rfl : opAt _ _ _ _ _ = some (.call (.mk (.value (.func 22)) #[(.tmp 149), (.tmp 150)] #[25, 9]), some 151))) (by kernel_rfl) (by kernel_rfl) (by kernel_rfl) (f22 _ _ hM309.inW (findB (putOk (nl) (nk) (nv) (nc) (y) (u)) (putK (nl) (nk) (nv) (nc) (y) (u)) (putV (nl) (nk) (nv) (nc) (y) (u)) (([] : List Int)) (y)) Ar297_1 cr297_1 (drK (putOk (nl) (nk) (nv) (nc) (y) (u)) (putK (nl) (nk) (nv) (nc) (y) (u)) (putV (nl) (nk) (nv) (nc) (y) (u)) (([] : List Int)) (y)) r298 Ar297_2 cr297_2 (drV (putOk (nl) (nk) (nv) (nc) (y) (u)) (putK (nl) (nk) (nv) (nc) (y) (u)) (putV (nl) (nk) (nv) (nc) (y) (u)) (([] : List Int)) (y)) r299 Ar297_3 cr297_3 (([] : List Int)) r300 (y) (hy)) (fun v311 V312 w313 le314 hM315 hp316 => ?_)
        obtain rfl := hp316
        refine wpF_seg 5 (by kernel_rfl) ?_
        refine wpF_end _ (by kernel_rfl) (then_n (hK310 _ _ ?_))
        refine wp_seq_k (fun K317 hK317 => ?_)
        refine wp_reg ?_
        refine gF hM315 (.load 25 (.tmp 4)) (some 155) (by kernel_rfl) (Y_loadB #[.bool (nl), .slice Ank (nk).length cnk, .slice Anv (nv).length cnv, .slice Anc (nc).length cnc] (fun i v hi => ((((le15.trans le32).trans le73).trans le295).trans le314) _ _ _ (hc8 i v hi)) (off := 0) (by kernel_rfl) (.agg #[.bool (nl), .slice Ank (nk).length cnk, .slice Anv (nv).length cnv, .slice Anc (nc).length cnc]) (by kernel_rfl)) ?_
        refine wpF_seg 1 (by kernel_rfl) ?_
        refine wpF_callP hM315 (f := 28) (caps := #[]) (h := (by kernel_rfl : opAt _ _ _ _ _ = some (.call (.mk (.value (.func 28)) #[(.tmp 155), (.tmp 156)] #[25, 9]), some 157))) (by kernel_rfl) (by kernel_rfl) (by kernel_rfl) (f28 _ _ hM315.inW (nl) Ank cnk (nk) (hnk.up hM315.le) Anv cnv (nv) (hnv.up hM315.le) Anc cnc (nc) (hnc.up hM315.le) (y) (hy) (by omega) (by omega)) (fun v318 V319 w320 le321 hM322 hp323 => ?_)
        obtain ⟨Ar323_1, cr323_1, Ar323_2, cr323_2, Ar323_3, cr323_3, rfl, r324, r325, r326⟩ := hp323
        have l327 : (drK (nl) (nk) (nv) (nc) (y)).length ≤ 140737488355328 := r324.max
        have l328 : (drV (nl) (nk) (nv) (nc) (y)).length ≤ 140737488355328 := r325.max
        have l329 : (([] : List Int)).length ≤ 140737488355328 := r326.max
        refine wpF_seg 3 (by kernel_rfl) ?_
        refine wpF_alloc hM322 #[.bool (false), .slice none 0 0, .slice none 0 0, .slice none 0 0] (h := (by kernel_rfl : opAt _ _ _ _ _ = some (.alloc 25, some 21))) (by kernel_rfl) (fun b330 w331 hM332 => ?_)
        refine wpF_store hM332 0 rfl (h := (by kernel_rfl : opAt _ _ _ _ _ = some (.store 25 (.tmp 21) (.tmp 158), none))) (off := 0) (by kernel_rfl) #[.bool (findB (nl) (nk) (nv) (nc) (y)), .slice Ar323_1 (drK (nl) (nk) (nv) (nc) (y)).length cr323_1, .slice Ar323_2 (drV (nl) (nk) (nv) (nc) (y)).length cr323_2, .slice Ar323_3 (([] : List Int)).length cr323_3] (by kernel_rfl) (by kernel_rfl) (by kernel_rfl) (by kernel_rfl) (fun w334 hM333 => ?_)
        have hM335 : Step V w [] V319 _ ([.blk b330 (.cells #[.bool (findB (nl) (nk) (nv) (nc) (y)), .slice Ar323_1 (drK (nl) (nk) (nv) (nc) (y)).length cr323_1, .slice Ar323_2 (drV (nl) (nk) (nv) (nc) (y)).length cr323_2, .slice Ar323_3 (([] : List Int)).length cr323_3] 25), .blk b304 (.cells #[.bool (findB (putOk (nl) (nk) (nv) (nc) (y) (u)) (putK (nl) (nk) (nv) (nc) (y) (u)) (putV (nl) (nk) (nv) (nc) (y) (u)) (([] : List Int)) (y)), .slice Ar297_1 (drK (putOk (nl) (nk) (nv) (nc) (y) (u)) (putK (nl) (nk) (nv) (nc) (y) (u)) (putV (nl) (nk) (nv) (nc) (y) (u)) (([] : List Int)) (y)).length cr297_1, .slice Ar297_2 (drV (putOk (nl) (nk) (nv) (nc) (y) (u)) (putK (nl) (nk) (nv) (nc) (y) (u)) (putV (nl) (nk) (nv) (nc) (y) (u)) (([] : List Int)) (y)).length cr297_2, .slice Ar297_3 (([] : List Int)).length cr297_3] 25), .blk b41 (.cells #[.bool (putOk (nl) (nk) (nv) (nc) (y) (u)), .slice Ar34_1 (putK (nl) (nk) (nv) (nc) (y) (u)).length cr34_1, .slice Ar34_2 (putV (nl) (nk) (nv) (nc) (y) (u)).length cr34_2, .slice Ar34_3 (([] : List Int)).length cr34_3] 25)]) := hM333
        refine wpF_seg 1 (by kernel_rfl) ?_
        refine wpF_end _ (by kernel_rfl) (then_n (hK317 _ _ ?_))
        refine wp_seq_k (fun K336 hK336 => ?_)
        refine wp_seq_k (fun K337 hK337 => ?_)
        refine wp_reg ?_
        refine wpF_seg 2 (by kernel_rfl) ?_
        refine wpF_end _ (by kernel_rfl) (then_n (hK337 _ _ ?_))
        refine wp_if (!(findB (nl) (nk) (nv) (nc) (y))) (by kernel_rfl) (fun h338 => ?_) (fun h338 => ?_)
        · -- ffft
          have h339 : (findB (nl) (nk) (nv) (nc) (y)) = false := by simpa using h338
          refine wp_reg ?_
          refine gF hM335 (.load 25 (.tmp 4)) (some 162) (by kernel_rfl) (Y_loadB #[.bool (nl), .slice Ank (nk).length cnk, .slice Anv (nv).length cnv, .slice Anc (nc).length cnc] (fun i v hi => (((((le15.trans le32).trans le73).trans le295).trans le314).trans le321) _ _ _ (hc8 i v hi)) (off := 0) (by kernel_rfl) (.agg #[.bool (nl), .slice Ank (nk).length cnk, .slice Anv (nv).length cnv, .slice Anc (nc).length cnc]) (by kernel_rfl)) ?_
          refine wpF_store hM335 0 rfl (h := (by kernel_rfl : opAt _ _ _ _ _ = some (.store 25 (.tmp 21) (.tmp 162), none))) (off := 0) (by kernel_rfl) #[.bool (nl), .slice Ank (nk).length cnk, .slice Anv (nv).length cnv, .slice Anc (nc).length cnc] (by kernel_rfl) (by kernel_rfl) (by kernel_rfl) (by kernel_rfl) (fun w341 hM340 => ?_)
          have hM342 : Step V w [] V319 _ ([.blk b330 (.cells #[.bool (nl), .slice Ank (nk).length cnk, .slice Anv (nv).length cnv, .slice Anc (nc).length cnc] 25), .blk b304 (.cells #[.bool (findB (putOk (nl) (nk) (nv) (nc) (y) (u)) (putK (nl) (nk) (nv) (nc) (y) (u)) (putV (nl) (nk) (nv) (nc) (y) (u)) (([] : List Int)) (y)), .slice Ar297_1 (drK (putOk (nl) (nk) (nv) (nc) (y) (u)) (putK (nl) (nk) (nv) (nc) (y) (u)) (putV (nl) (nk) (nv) (nc) (y) (u)) (([] : List Int)) (y)).length cr297_1, .slice Ar297_2 (drV (putOk (nl) (nk) (nv) (nc) (y) (u)) (putK (nl) (nk) (nv) (nc) (y) (u)) (putV (nl) (nk) (nv) (nc) (y) (u)) (([] : List Int)) (y)).length cr297_2, .slice Ar297_3 (([] : List Int)).length cr297_3] 25), .blk b41 (.cells #[.bool (putOk (nl) (nk) (nv) (nc) (y) (u)), .slice Ar34_1 (putK (nl) (nk) (nv) (nc) (y) (u)).length cr34_1, .slice Ar34_2 (putV (nl) (nk) (nv) (nc) (y) (u)).length cr34_2, .slice Ar34_3 (([] : List Int)).length cr34_3] 25)]) := hM340
          refine wpF_end _ (by kernel_rfl) (then_n (hK336 _ _ ?_))
          refine wp_seq_k (fun K343 hK343 => ?_)
          refine wp_reg ?_
          refine wpF_seg 2 (by kernel_rfl) ?_
          refine wpF_slot 164 (.bool (findB (putOk (nl) (nk) (nv) (nc) (y) (u)) (putK (nl) (nk) (nv) (nc) (y) (u)) (putV (nl) (nk) (nv) (nc) (y) (u)) (([] : List Int)) (y))) (.bool true) (by kernel_rfl) (by kernel_rfl) (by rw [h78]) ?_
          refine wpF_seg 4 (by kernel_rfl) ?_
          have h344 : (findB (findB (putOk (nl) (nk) (nv) (nc) (y) (u)) (putK (nl) (nk) (nv) (nc) (y) (u)) (putV (nl) (nk) (nv) (nc) (y) (u)) (([] : List Int)) (y)) (drK (putOk (nl) (nk) (nv) (nc) (y) (u)) (putK (nl) (nk) (nv) (nc) (y) (u)) (putV (nl) (nk) (nv) (nc) (y) (u)) (([] : List Int)) (y)) (drV (putOk (nl) (nk) (nv) (nc) (y) (u)) (putK (nl) (nk) (nv) (nc) (y) (u)) (putV (nl) (nk) (nv) (nc) (y) (u)) (([] : List Int)) (y)) (([] : List Int)) (y)) = false := by exact hpd.1
          refine wpF_slot 168 (.bool (!(findB (findB (putOk (nl) (nk) (nv) (nc) (y) (u)) (putK (nl) (nk) (nv) (nc) (y) (u)) (putV (nl) (nk) (nv) (nc) (y) (u)) (([] : List Int)) (y)) (drK (putOk (nl) (nk) (nv) (nc) (y) (u)) (putK (nl) (nk) (nv) (nc) (y) (u)) (putV (nl) (nk) (nv) (nc) (y) (u)) (([] : List Int)) (y)) (drV (putOk (nl) (nk) (nv) (nc) (y) (u)) (putK (nl) (nk) (nv) (nc) (y) (u)) (putV (nl) (nk) (nv) (nc) (y) (u)) (([] : List Int)) (y)) (([] : List Int)) (y)))) (.bool true) (by kernel_rfl) (by kernel_rfl) (by rw [(show (!(findB (findB (putOk (nl) (nk) (nv) (nc) (y) (u)) (putK (nl) (nk) (nv) (nc) (y) (u)) (putV (nl) (nk) (nv) (nc) (y) (u)) (([] : List Int)) (y)) (drK (putOk (nl) (nk) (nv) (nc) (y) (u)) (putK (nl) (nk) (nv) (nc) (y) (u)) (putV (nl) (nk) (nv) (nc) (y) (u)) (([] : List Int)) (y)) (drV (putOk (nl) (nk) (nv) (nc) (y) (u)) (putK (nl) (nk) (nv) (nc) (y) (u)) (putV (nl) (nk) (nv) (nc) (y) (u)) (([] : List Int)) (y)) (([] : List Int)) (y))) = true from by rw [h344]; rfl)]) ?_
          refine wpF_seg 1 (by kernel_rfl) ?_
          refine gF hM342 (.load 22 (.tmp 169)) (some 170) (by kernel_rfl) (Y_load 1 rfl (off := 1) (by kernel_rfl) (.slice Ar297_1 (drK (putOk (nl) (nk) (nv) (nc) (y) (u)) (putK (nl) (nk) (nv) (nc) (y) (u)) (putV (nl) (nk) (nv) (nc) (y) (u)) (([] : List Int)) (y)).length cr297_1) (by kernel_rfl)) ?_
          refine wpF_seg 2 (by kernel_rfl) ?_
          refine gF hM342 (.load 22 (.tmp 172)) (some 173) (by kernel_rfl) (Y_load 0 rfl (off := 1) (by kernel_rfl) (.slice Ank (nk).length cnk) (by kernel_rfl)) ?_
          refine wpF_seg 4 (by kernel_rfl) ?_
          have h345 : (decide ((((drK (putOk (nl) (nk) (nv) (nc) (y) (u)) (putK (nl) (nk) (nv) (nc) (y) (u)) (putV (nl) (nk) (nv) (nc) (y) (u)) (([] : List Int)) (y)).length : Int)) = ((nk.length : Int)))) = true := by exact decide_eq_true (by have hd := hpd.2; first | (rw [(by assumption : findB nl nk nv nc y = false)] at hd; simp only [cond_false] at hd; omega) | (have hd2 := dr_len (by assumption : findB nl nk nv nc y = true); rw [(by assumption : findB nl nk nv nc y = true)] at hd; simp only [cond_true] at hd; omega))
          have p346 : ((((drK (putOk (nl) (nk) (nv) (nc) (y) (u)) (putK (nl) (nk) (nv) (nc) (y) (u)) (putV (nl) (nk) (nv) (nc) (y) (u)) (([] : List Int)) (y)).length : Int)) = ((nk.length : Int))) := of_decide_eq_true h345
          refine wpF_slot 177 (.bool (decide ((((drK (putOk (nl) (nk) (nv) (nc) (y) (u)) (putK (nl) (nk) (nv) (nc) (y) (u)) (putV (nl) (nk) (nv) (nc) (y) (u)) (([] : List Int)) (y)).length : Int)) = ((nk.length : Int))))) (.bool true) (by kernel_rfl) (by kernel_rfl) (by rw [h345]) ?_
          refine wpF_callP hM342 (f := 12) (caps := #[]) (h := (by kernel_rfl : opAt _ _ _ _ _ = some (.call (.mk (.value (.func 12)) #[] #[]), some 178))) (by kernel_rfl) (by kernel_rfl) (by kernel_rfl) (f12 _ _ hM342.inW ) (fun v347 V348 w349 le350 hM351 hp352 => ?_)
          obtain rfl := hp352
          refine wpF_seg 2 (by kernel_rfl) ?_
          refine wpF_end _ (by kernel_rfl) (then_n (hK343 _ _ ?_))
          refine wp_ret ?_
          refine retN [.bool (true)] (.bool (true)) Try.results9 (.tmp (by kernel_rfl) (by kernel_rfl) .nil) (by kernel_rfl) (hRet _ _ ⟨_, _, rfl, hM351.clear, ?_⟩)
          -- end ffft
          rfl
        · -- ffff
          have h353 : (findB (nl) (nk) (nv) (nc) (y)) = true := by simpa using h338
          refine wp_skip (then_n (hK336 _ _ ?_))
          refine wp_seq_k (fun K354 hK354 => ?_)
          refine wp_reg ?_
          refine wpF_seg 2 (by kernel_rfl) ?_
          refine wpF_slot 164 (.bool (findB (putOk (nl) (nk) (nv) (nc) (y) (u)) (putK (nl) (nk) (nv) (nc) (y) (u)) (putV (nl) (nk) (nv) (nc) (y) (u)) (([] : List Int)) (y))) (.bool true) (by kernel_rfl) (by kernel_rfl) (by rw [h78]) ?_
          refine wpF_seg 4 (by kernel_rfl) ?_
          have h355 : (findB (findB (putOk (nl) (nk) (nv) (nc) (y) (u)) (putK (nl) (nk) (nv) (nc) (y) (u)) (putV (nl) (nk) (nv) (nc) (y) (u)) (([] : List Int)) (y)) (drK (putOk (nl) (nk) (nv) (nc) (y) (u)) (putK (nl) (nk) (nv) (nc) (y) (u)) (putV (nl) (nk) (nv) (nc) (y) (u)) (([] : List Int)) (y)) (drV (putOk (nl) (nk) (nv) (nc) (y) (u)) (putK (nl) (nk) (nv) (nc) (y) (u)) (putV (nl) (nk) (nv) (nc) (y) (u)) (([] : List Int)) (y)) (([] : List Int)) (y)) = false := by exact hpd.1
          refine wpF_slot 168 (.bool (!(findB (findB (putOk (nl) (nk) (nv) (nc) (y) (u)) (putK (nl) (nk) (nv) (nc) (y) (u)) (putV (nl) (nk) (nv) (nc) (y) (u)) (([] : List Int)) (y)) (drK (putOk (nl) (nk) (nv) (nc) (y) (u)) (putK (nl) (nk) (nv) (nc) (y) (u)) (putV (nl) (nk) (nv) (nc) (y) (u)) (([] : List Int)) (y)) (drV (putOk (nl) (nk) (nv) (nc) (y) (u)) (putK (nl) (nk) (nv) (nc) (y) (u)) (putV (nl) (nk) (nv) (nc) (y) (u)) (([] : List Int)) (y)) (([] : List Int)) (y)))) (.bool true) (by kernel_rfl) (by kernel_rfl) (by rw [(show (!(findB (findB (putOk (nl) (nk) (nv) (nc) (y) (u)) (putK (nl) (nk) (nv) (nc) (y) (u)) (putV (nl) (nk) (nv) (nc) (y) (u)) (([] : List Int)) (y)) (drK (putOk (nl) (nk) (nv) (nc) (y) (u)) (putK (nl) (nk) (nv) (nc) (y) (u)) (putV (nl) (nk) (nv) (nc) (y) (u)) (([] : List Int)) (y)) (drV (putOk (nl) (nk) (nv) (nc) (y) (u)) (putK (nl) (nk) (nv) (nc) (y) (u)) (putV (nl) (nk) (nv) (nc) (y) (u)) (([] : List Int)) (y)) (([] : List Int)) (y))) = true from by rw [h355]; rfl)]) ?_
          refine wpF_seg 1 (by kernel_rfl) ?_
          refine gF hM335 (.load 22 (.tmp 169)) (some 170) (by kernel_rfl) (Y_load 1 rfl (off := 1) (by kernel_rfl) (.slice Ar297_1 (drK (putOk (nl) (nk) (nv) (nc) (y) (u)) (putK (nl) (nk) (nv) (nc) (y) (u)) (putV (nl) (nk) (nv) (nc) (y) (u)) (([] : List Int)) (y)).length cr297_1) (by kernel_rfl)) ?_
          refine wpF_seg 2 (by kernel_rfl) ?_
          refine gF hM335 (.load 22 (.tmp 172)) (some 173) (by kernel_rfl) (Y_load 0 rfl (off := 1) (by kernel_rfl) (.slice Ar323_1 (drK (nl) (nk) (nv) (nc) (y)).length cr323_1) (by kernel_rfl)) ?_
          refine wpF_seg 4 (by kernel_rfl) ?_
          have h356 : (decide ((((drK (putOk (nl) (nk) (nv) (nc) (y) (u)) (putK (nl) (nk) (nv) (nc) (y) (u)) (putV (nl) (nk) (nv) (nc) (y) (u)) (([] : List Int)) (y)).length : Int)) = (((drK (nl) (nk) (nv) (nc) (y)).length : Int)))) = true := by exact decide_eq_true (by have hd := hpd.2; first | (rw [(by assumption : findB nl nk nv nc y = false)] at hd; simp only [cond_false] at hd; omega) | (have hd2 := dr_len (by assumption : findB nl nk nv nc y = true); rw [(by assumption : findB nl nk nv nc y = true)] at hd; simp only [cond_true] at hd; omega))
          have p357 : ((((drK (putOk (nl) (nk) (nv) (nc) (y) (u)) (putK (nl) (nk) (nv) (nc) (y) (u)) (putV (nl) (nk) (nv) (nc) (y) (u)) (([] : List Int)) (y)).length : Int)) = (((drK (nl) (nk) (nv) (nc) (y)).length : Int))) := of_decide_eq_true h356
          refine wpF_slot 177 (.bool (decide ((((drK (putOk (nl) (nk) (nv) (nc) (y) (u)) (putK (nl) (nk) (nv) (nc) (y) (u)) (putV (nl) (nk) (nv) (nc) (y) (u)) (([] : List Int)) (y)).length : Int)) = (((drK (nl) (nk) (nv) (nc) (y)).length : Int))))) (.bool true) (by kernel_rfl) (by kernel_rfl) (by rw [h356]) ?_
          refine wpF_callP hM335 (f := 12) (caps := #[]) (h := (by kernel_rfl : opAt _ _ _ _ _ = some (.call (.mk (.value (.func 12)) #[] #[]), some 178))) (by kernel_rfl) (by kernel_rfl) (by kernel_rfl) (f12 _ _ hM335.inW ) (fun v358 V359 w360 le361 hM362 hp363 => ?_)
          obtain rfl := hp363
          refine wpF_seg 2 (by kernel_rfl) ?_
          refine wpF_end _ (by kernel_rfl) (then_n (hK354 _ _ ?_))
          refine wp_ret ?_
          refine retN [.bool (true)] (.bool (true)) Try.results9 (.tmp (by kernel_rfl) (by kernel_rfl) .nil) (by kernel_rfl) (hRet _ _ ⟨_, _, rfl, hM362.clear, ?_⟩)
          -- end ffff
          rfl

end Go.Vk
