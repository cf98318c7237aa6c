/- Contracts of the page's functions, part U: printed by wip/tools/p8.py. -/
import Derived.Test.YtpaljghjoajhfaaRH
import Derived.Test.YtpaljghjoajhfaaRL
set_option linter.unusedVariables false
set_option linter.unusedSimpArgs false
namespace Go.Vk
open Go.Proofs
set_option maxHeartbeats 4000000 in
set_option maxRecDepth 100000 in
theorem f46 (V : VT) (w : World) (hV : V.inW w) (s : Str) (hs : s.length ≤ maxL) (ad : Nat) (wd : Nat) (h1 : ad + wd ≤ s.length) (h2 : s.length ≤ 1024) (h3 : wd ≤ 4) :
    Calls Try.prog 46 #[bs (s), .int .i64 ((ad : Int)), .int .i64 ((wd : Int))] w (RetP V w fun rv V' => rv = .int .i64 (((beA s ad wd : Nat) : Int))) := by
  have mxs : s.length ≤ 140737488355328 := hs
  refine calls_env (n := 25) Try.func46 (c := _) rfl Try.ntmps46 (by kernel_rfl) (fun R hRet => ?_)
  have hM0 : Step V w [] V w [] := Step.refl (St.nilE hV)
  refine wp_seq_k (fun K1 hK1 => ?_)
  refine wp_reg ?_
  refine wpF_seg 1 (by kernel_rfl) ?_
  refine wpF_end _ (by kernel_rfl) (then_n (hK1 _ _ ?_))
  refine wp_seq_k (fun K2 hK2 => ?_)
  refine wp_reg ?_
  refine wpF_seg 1 (by kernel_rfl) ?_
  refine wpF_end _ (by kernel_rfl) (then_n (hK2 _ _ ?_))
  refine wp_seq_k (fun K3 hK3 => ?_)
  refine wp_seq_k (fun K4 hK4 => ?_)
  refine wp_reg ?_
  refine wpF_seg 1 (by kernel_rfl) ?_
  refine wpF_end _ (by kernel_rfl) (then_n (hK4 _ _ ?_))
  refine wp_block ?_
  refine wp_base [(0, bs (s)), (1, .int .i64 ((ad : Int))), (2, .int .i64 ((wd : Int))), (6, .int .i64 (0)), (7, .int .u64 (((beA s ad (0) : Nat) : Int))), (8, .int .i64 ((0 : Int)))] (by kernel_rfl) (fun g6 => ?_)
  refine wp_loopX (fun (x_ : Nat) a_ w_ => ∃ (g : Nat → Value) (V_ : VT), a_ = env 25 [(0, bs (s)), (1, .int .i64 ((ad : Int))), (2, .int .i64 ((wd : Int))), (6, .int .i64 (0)), (7, .int .u64 (((beA s ad (x_) : Nat) : Int))), (8, .int .i64 ((x_ : Int)))] g ∧ Step V w [] V_ w_ [] ∧ VT.le V V_ ∧ (x_ ≤ wd)) (fun (x_ : Nat) => wd - x_) (0) ⟨g6, V, rfl, hM0, VT.le.refl _, by omega⟩ ?_
  rintro k a_ w8 ⟨g7, Vl5, rfl, hM9, le10, hi11_0⟩ K11 hK11
  refine wp_seq_k (fun K12 hK12 => ?_)
  refine wp_seq_k (fun K13 hK13 => ?_)
  refine wp_reg ?_
  refine wpF_seg 3 (by kernel_rfl) ?_
  refine wpF_end _ (by kernel_rfl) (then_n (hK13 _ _ ?_))
  refine wp_if (decide (((k : Int)) < ((wd : Int)))) (by kernel_rfl) (fun h14 => ?_) (fun h14 => ?_)
  · -- Lt
    have p15 : (((k : Int)) < ((wd : Int))) := of_decide_eq_true h14
    refine wp_skip (then_n (hK12 _ _ ?_))
    refine wp_seq_k (fun K16 hK16 => ?_)
    refine wp_block ?_
    refine wp_reg ?_
    refine wpF_seg 1 (by kernel_rfl) ?_
    refine gF hM9 (.binOp .shl 86 (.tmp 14) (.const (.int .u64 8)) 83) (some 15) (by kernel_rfl) (Y_shl .u64 .u64 (((beA s ad (k) : Nat) : Int)) (8) (((beA s ad k * 256 : Nat) : Int)) (by kernel_rfl) (by kernel_rfl) (by omega) (shl8u (beA_4 _ _ _ (by omega)))) ?_
    refine wpF_seg 3 (by kernel_rfl) ?_
    refine gF hM9 (.binOp .add 3 (.tmp 17) (.tmp 18) 3) (some 19) (by kernel_rfl) (Y_add .i64 ((ad : Int)) ((k : Int)) ((ad : Int) + (k : Int)) (by kernel_rfl) (by kernel_rfl) (wrap64_ok _ (by omega))) ?_
    refine gF hM9 (.index 9 (.tmp 16) (.tmp 19)) (some 20) (by kernel_rfl) (Y_strIndex (s) .i64 ((ad : Int) + (k : Int)) (by kernel_rfl) (by kernel_rfl) (by kernel_rfl) (ad + k) (by omega) (by omega)) ?_
    refine gF hM9 (.convert 5 86 (.tmp 20)) (some 21) (by kernel_rfl) (Y_conv .u8 .u8 .u64 (((s.getD (ad + k) 0).toNat : Int)) (((s.getD (ad + k) 0).toNat : Int)) (by kernel_rfl) (by kernel_rfl) (by kernel_rfl) (wrapu64_ok _ (by have : (s.getD (ad + k) 0).toNat < 256 := UInt8.toNat_lt _; omega))) ?_
    refine gF hM9 (.binOp .or 86 (.tmp 15) (.tmp 21) 86) (some 22) (by kernel_rfl) (Y_or .u64 (((beA s ad k * 256 : Nat) : Int)) (((s.getD (ad + k) 0).toNat : Int)) (((beA s ad (k + 1) : Nat) : Int)) (by kernel_rfl) (by kernel_rfl) (or8u (beA_4 _ _ _ (by omega)) (UInt8.toNat_lt _))) ?_
    refine wpF_seg 1 (by kernel_rfl) ?_
    refine wpF_end _ (by kernel_rfl) (blk_n (then_n (hK16 _ _ ?_)))
    refine wp_reg ?_
    refine wpF_seg 1 (by kernel_rfl) ?_
    refine gF hM9 (.binOp .add 3 (.tmp 12) (.const (.int .i64 1)) 3) (some 13) (by kernel_rfl) (Y_add .i64 ((k : Int)) (1) ((k : Int) + 1) (by kernel_rfl) (by kernel_rfl) (wrap64_ok _ (by omega))) ?_
    refine wpF_seg 1 (by kernel_rfl) ?_
    refine wpF_base [(0, bs (s)), (1, .int .i64 ((ad : Int))), (2, .int .i64 ((wd : Int))), (6, .int .i64 (0)), (7, .int .u64 (((beA s ad (k + 1) : Nat) : Int))), (8, .int .i64 ((k + 1 : Int)))] (by kernel_rfl) (fun g17 => ?_)
    refine wpF_end _ (by kernel_rfl) (then_n (hK11 _ _ (k + 1) (by omega) ?_))
    refine ⟨g17, Vl5, rfl, hM9, hM9.le, ?_⟩
    · -- Lt inv 0
      omega
  · -- Lf
    have p18 : ¬ (((k : Int)) < ((wd : Int))) := of_decide_eq_false h14
    refine wp_exit (then_x (then_x (blk_hit (then_n (hK3 _ _ ?_)))))
    obtain rfl : wd = k := by omega
    refine wp_seq_k (fun K19 hK19 => ?_)
    refine wp_reg ?_
    refine wpF_seg 1 (by kernel_rfl) ?_
    refine gF hM9 (.convert 86 3 (.tmp 23)) (some 24) (by kernel_rfl) (Y_conv .u64 .u64 .i64 (((beA s ad ((wd)) : Nat) : Int)) (((beA s ad wd : Nat) : Int)) (by kernel_rfl) (by kernel_rfl) (by kernel_rfl) (wrap64_ok _ (by have := beA_4 s ad wd h3; omega))) ?_
    refine wpF_seg 1 (by kernel_rfl) ?_
    refine wpF_end _ (by kernel_rfl) (then_n (hK19 _ _ ?_))
    refine wp_ret ?_
    refine retN [.int .i64 (((beA s ad wd : Nat) : Int))] (.int .i64 (((beA s ad wd : Nat) : Int))) Try.results46 (.tmp (by kernel_rfl) (by kernel_rfl) .nil) (by kernel_rfl) (hRet _ _ ⟨_, _, rfl, hM9.clear, ?_⟩)
    -- end Lf
    rfl

set_option maxHeartbeats 4000000 in
set_option maxRecDepth 100000 in
theorem f47 (V : VT) (w : World) (hV : V.inW w) (s : Str) (hs : s.length ≤ maxL) (ad : Nat) (ok : Bool) (h1 : ad ≤ s.length) (h2 : s.length ≤ 1024) :
    Calls Try.prog 47 #[bs (s), .int .i64 ((bif ok then ((ad : Nat) : Int) else -1))] w (RetP V w fun rv V' => rv = .tuple #[.int .i64 (((numS s ad ok 4 : Nat) : Int)), .int .i64 ((bif okS s ad ok 4 then ((atS s ad ok 4 : Nat) : Int) else -1))]) := by
  have mxs : s.length ≤ 140737488355328 := hs
  refine calls_env (n := 20) Try.func47 (c := _) rfl Try.ntmps47 (by kernel_rfl) (fun R hRet => ?_)
  have hM0 : Step V w [] V w [] := Step.refl (St.nilE hV)
  cases ok with
  | false =>
    refine wp_seq_k (fun K1 hK1 => ?_)
    refine wp_reg ?_
    refine wpF_seg 2 (by kernel_rfl) ?_
    refine wpF_end _ (by kernel_rfl) (then_n (hK1 _ _ ?_))
    refine wp_seq_k (fun K2 hK2 => ?_)
    refine wp_seq_k (fun K3 hK3 => ?_)
    refine wp_reg ?_
    refine wpF_seg 3 (by kernel_rfl) ?_
    refine wpF_caseB 8 (decide (((-1 : Int)) < (0))) (by kernel_rfl) (by kernel_rfl) (fun h4 => ?_) (fun h4 => ?_)
    · -- Ft
      have p5 : (((-1 : Int)) < (0)) := of_decide_eq_true h4
      refine wpF_seg 6 (by kernel_rfl) ?_
      refine wpF_end _ (by kernel_rfl) (then_n (hK3 _ _ ?_))
      refine wp_ct (by kernel_rfl) ?_
      refine wp_seq_k (fun K6 hK6 => ?_)
      refine wp_reg ?_
      refine wpF_seg 2 (by kernel_rfl) ?_
      refine wpF_end _ (by kernel_rfl) (then_n (hK6 _ _ ?_))
      refine wp_ret (then_r (?_))
      refine retN [.int .i64 (0), .int .i64 (-1)] (.tuple #[.int .i64 (0), .int .i64 (-1)]) Try.results47 (.tmp (by kernel_rfl) (by kernel_rfl) (.tmp (by kernel_rfl) (by kernel_rfl) .nil)) (by kernel_rfl) (hRet _ _ ⟨_, _, rfl, hM0.clear, ?_⟩)
      -- end Ft
      have hok : okS s ad false 4 = false := rfl
      (simp only [numS, atS, hok, cond_true, cond_false]) <;> rfl
    · -- Ff
      have p7 : ¬ (((-1 : Int)) < (0)) := of_decide_eq_false h4
      exfalso; omega
  | true =>
    refine wp_seq_k (fun K8 hK8 => ?_)
    refine wp_reg ?_
    refine wpF_seg 2 (by kernel_rfl) ?_
    refine wpF_end _ (by kernel_rfl) (then_n (hK8 _ _ ?_))
    refine wp_seq_k (fun K9 hK9 => ?_)
    refine wp_seq_k (fun K10 hK10 => ?_)
    refine wp_reg ?_
    refine wpF_seg 3 (by kernel_rfl) ?_
    refine wpF_caseB 8 (decide ((((ad : Nat) : Int)) < (0))) (by kernel_rfl) (by kernel_rfl) (fun h11 => ?_) (fun h11 => ?_)
    · -- Tt
      have p12 : ((((ad : Nat) : Int)) < (0)) := of_decide_eq_true h11
      exfalso; omega
    · -- Tf
      have p13 : ¬ ((((ad : Nat) : Int)) < (0)) := of_decide_eq_false h11
      refine wpF_seg 3 (by kernel_rfl) ?_
      refine gF hM0 (.binOp .sub 3 (.tmp 10) (.tmp 11) 3) (some 12) (by kernel_rfl) (Y_sub .i64 ((s.length : Int)) (((ad : Nat) : Int)) ((s.length : Int) - ((ad : Nat) : Int)) (by kernel_rfl) (by kernel_rfl) (wrap64_ok _ (by omega))) ?_
      refine wpF_seg 2 (by kernel_rfl) ?_
      refine wpF_end _ (by kernel_rfl) (then_n (hK10 _ _ ?_))
      refine wp_if (decide (((s.length : Int) - ((ad : Nat) : Int)) < (4))) (by kernel_rfl) (fun h14 => ?_) (fun h14 => ?_)
      · -- Tft
        have p15 : (((s.length : Int) - ((ad : Nat) : Int)) < (4)) := of_decide_eq_true h14
        refine wp_seq_k (fun K16 hK16 => ?_)
        refine wp_reg ?_
        refine wpF_seg 2 (by kernel_rfl) ?_
        refine wpF_end _ (by kernel_rfl) (then_n (hK16 _ _ ?_))
        refine wp_ret (then_r (?_))
        refine retN [.int .i64 (0), .int .i64 (-1)] (.tuple #[.int .i64 (0), .int .i64 (-1)]) Try.results47 (.tmp (by kernel_rfl) (by kernel_rfl) (.tmp (by kernel_rfl) (by kernel_rfl) .nil)) (by kernel_rfl) (hRet _ _ ⟨_, _, rfl, hM0.clear, ?_⟩)
        -- end Tft
        have hok : okS s ad true 4 = false := okS_out (by omega)
        (simp only [numS, atS, hok, cond_true, cond_false]) <;> rfl
      · -- Tff
        have p17 : ¬ (((s.length : Int) - ((ad : Nat) : Int)) < (4)) := of_decide_eq_false h14
        refine wp_skip (then_n (hK9 _ _ ?_))
        refine wp_seq_k (fun K18 hK18 => ?_)
        refine wp_reg ?_
        refine wpF_seg 2 (by kernel_rfl) ?_
        refine wpF_callP hM0 (f := 46) (caps := #[]) (h := (by kernel_rfl : opAt _ _ _ _ _ = some (.call (.mk (.value (.func 46)) #[(.tmp 15), (.tmp 16), (.const (.int .i64 4))] #[9, 3, 3]), some 17))) (by kernel_rfl) (by kernel_rfl) (by kernel_rfl) (f46 _ _ hM0.inW (s) (hs) ((ad)) (4) (by omega) (by omega) (by omega)) (fun v19 V20 w21 le22 hM23 hp24 => ?_)
        obtain rfl := hp24
        refine wpF_seg 1 (by kernel_rfl) ?_
        refine gF hM23 (.binOp .add 3 (.tmp 18) (.const (.int .i64 4)) 3) (some 19) (by kernel_rfl) (Y_add .i64 (((ad : Nat) : Int)) (4) (((ad : Nat) : Int) + 4) (by kernel_rfl) (by kernel_rfl) (wrap64_ok _ (by omega))) ?_
        refine wpF_seg 2 (by kernel_rfl) ?_
        refine wpF_end _ (by kernel_rfl) (then_n (hK18 _ _ ?_))
        refine wp_ret ?_
        refine retN [.int .i64 (((beA (s) ((ad)) (4) : Nat) : Int)), .int .i64 (((ad : Nat) : Int) + 4)] (.tuple #[.int .i64 (((beA (s) ((ad)) (4) : Nat) : Int)), .int .i64 (((ad : Nat) : Int) + 4)]) Try.results47 (.tmp (by kernel_rfl) (by kernel_rfl) (.tmp (by kernel_rfl) (by kernel_rfl) .nil)) (by kernel_rfl) (hRet _ _ ⟨_, _, rfl, hM23.clear, ?_⟩)
        -- end Tff
        have hok : okS s ad true 4 = true := okS_in (by omega)
        (simp only [numS, atS, hok, cond_true, cond_false]) <;> rfl

set_option maxHeartbeats 4000000 in
set_option maxRecDepth 100000 in
theorem f48 (V : VT) (w : World) (hV : V.inW w) (s : Str) (hs : s.length ≤ maxL) (ad : Nat) (ok : Bool) (wd : Nat) (h1 : ad ≤ s.length) (h2 : s.length ≤ 1024) (h3 : wd ≤ 2) :
    Calls Try.prog 48 #[bs (s), .int .i64 ((bif ok then ((ad : Nat) : Int) else -1)), .int .i64 ((wd : Int))] w (RetP V w fun rv V' => rv = .tuple #[bs (strP s ad ok wd), .int .i64 ((bif okP s ad ok wd then ((atP s ad ok wd : Nat) : Int) else -1))] ∧ (strP s ad ok wd).length ≤ 4096) := by
  have mxs : s.length ≤ 140737488355328 := hs
  refine calls_env (n := 46) Try.func48 (c := _) rfl Try.ntmps48 (by kernel_rfl) (fun R hRet => ?_)
  have hM0 : Step V w [] V w [] := Step.refl (St.nilE hV)
  cases ok with
  | false =>
    refine wp_seq_k (fun K1 hK1 => ?_)
    refine wp_reg ?_
    refine wpF_seg 2 (by kernel_rfl) ?_
    refine wpF_end _ (by kernel_rfl) (then_n (hK1 _ _ ?_))
    refine wp_seq_k (fun K2 hK2 => ?_)
    refine wp_seq_k (fun K3 hK3 => ?_)
    refine wp_reg ?_
    refine wpF_seg 3 (by kernel_rfl) ?_
    refine wpF_caseB 11 (decide (((-1 : Int)) < (0))) (by kernel_rfl) (by kernel_rfl) (fun h4 => ?_) (fun h4 => ?_)
    · -- Ft
      have p5 : (((-1 : Int)) < (0)) := of_decide_eq_true h4
      refine wpF_seg 7 (by kernel_rfl) ?_
      refine wpF_end _ (by kernel_rfl) (then_n (hK3 _ _ ?_))
      refine wp_ct (by kernel_rfl) ?_
      refine wp_seq_k (fun K6 hK6 => ?_)
      refine wp_reg ?_
      refine wpF_seg 2 (by kernel_rfl) ?_
      refine wpF_end _ (by kernel_rfl) (then_n (hK6 _ _ ?_))
      refine wp_ret (then_r (?_))
      refine retN [bs ([]), .int .i64 (-1)] (.tuple #[bs ([]), .int .i64 (-1)]) Try.results48 (.tmp (by kernel_rfl) (by kernel_rfl) (.tmp (by kernel_rfl) (by kernel_rfl) .nil)) (by kernel_rfl) (hRet _ _ ⟨_, _, rfl, hM0.clear, ?_⟩)
      -- end Ft
      have hp : okP s ad false wd = false := rfl
      refine ⟨?_, ?_⟩
      · first | (simp only [strP, hp, cond_false] <;> rfl) | (obtain ⟨_, _, e1, e2⟩ := okP_le hp; rw [hp, e1, e2]; rfl)
      · exact Nat.le_trans (strP_len _ _ _ _) (by omega)
    · -- Ff
      have p7 : ¬ (((-1 : Int)) < (0)) := of_decide_eq_false h4
      exfalso; omega
  | true =>
    refine wp_seq_k (fun K8 hK8 => ?_)
    refine wp_reg ?_
    refine wpF_seg 2 (by kernel_rfl) ?_
    refine wpF_end _ (by kernel_rfl) (then_n (hK8 _ _ ?_))
    refine wp_seq_k (fun K9 hK9 => ?_)
    refine wp_seq_k (fun K10 hK10 => ?_)
    refine wp_reg ?_
    refine wpF_seg 3 (by kernel_rfl) ?_
    refine wpF_caseB 11 (decide ((((ad : Nat) : Int)) < (0))) (by kernel_rfl) (by kernel_rfl) (fun h11 => ?_) (fun h11 => ?_)
    · -- Tt
      have p12 : ((((ad : Nat) : Int)) < (0)) := of_decide_eq_true h11
      exfalso; omega
    · -- Tf
      have p13 : ¬ ((((ad : Nat) : Int)) < (0)) := of_decide_eq_false h11
      refine wpF_seg 3 (by kernel_rfl) ?_
      refine gF hM0 (.binOp .sub 3 (.tmp 13) (.tmp 14) 3) (some 15) (by kernel_rfl) (Y_sub .i64 ((s.length : Int)) (((ad : Nat) : Int)) ((s.length : Int) - ((ad : Nat) : Int)) (by kernel_rfl) (by kernel_rfl) (wrap64_ok _ (by omega))) ?_
      refine wpF_seg 3 (by kernel_rfl) ?_
      refine wpF_end _ (by kernel_rfl) (then_n (hK10 _ _ ?_))
      refine wp_if (decide (((s.length : Int) - ((ad : Nat) : Int)) < ((wd : Int)))) (by kernel_rfl) (fun h14 => ?_) (fun h14 => ?_)
      · -- Tft
        have p15 : (((s.length : Int) - ((ad : Nat) : Int)) < ((wd : Int))) := of_decide_eq_true h14
        refine wp_seq_k (fun K16 hK16 => ?_)
        refine wp_reg ?_
        refine wpF_seg 2 (by kernel_rfl) ?_
        refine wpF_end _ (by kernel_rfl) (then_n (hK16 _ _ ?_))
        refine wp_ret (then_r (?_))
        refine retN [bs ([]), .int .i64 (-1)] (.tuple #[bs ([]), .int .i64 (-1)]) Try.results48 (.tmp (by kernel_rfl) (by kernel_rfl) (.tmp (by kernel_rfl) (by kernel_rfl) .nil)) (by kernel_rfl) (hRet _ _ ⟨_, _, rfl, hM0.clear, ?_⟩)
        -- end Tft
        have hp := okP_f1 (okS_out (b := s) (a := ad) (w := wd) (by omega))
        refine ⟨?_, ?_⟩
        · first | (simp only [strP, hp, cond_false] <;> rfl) | (obtain ⟨_, _, e1, e2⟩ := okP_le hp; rw [hp, e1, e2]; rfl)
        · exact Nat.le_trans (strP_len _ _ _ _) (by omega)
      · -- Tff
        have p17 : ¬ (((s.length : Int) - ((ad : Nat) : Int)) < ((wd : Int))) := of_decide_eq_false h14
        have hok : okS s ad true wd = true := okS_in (by omega)
        have hb4 := beA_4 s ad wd (by omega)
        refine wp_skip (then_n (hK9 _ _ ?_))
        refine wp_seq_k (fun K18 hK18 => ?_)
        refine wp_reg ?_
        refine wpF_seg 3 (by kernel_rfl) ?_
        refine wpF_callP hM0 (f := 46) (caps := #[]) (h := (by kernel_rfl : opAt _ _ _ _ _ = some (.call (.mk (.value (.func 46)) #[(.tmp 19), (.tmp 20), (.tmp 21)] #[9, 3, 3]), some 22))) (by kernel_rfl) (by kernel_rfl) (by kernel_rfl) (f46 _ _ hM0.inW (s) (hs) ((ad)) (wd) (by omega) (by omega) (by omega)) (fun v19 V20 w21 le22 hM23 hp24 => ?_)
        obtain rfl := hp24
        refine wpF_seg 1 (by kernel_rfl) ?_
        refine wpF_end _ (by kernel_rfl) (then_n (hK18 _ _ ?_))
        refine wp_seq_k (fun K25 hK25 => ?_)
        refine wp_seq_k (fun K26 hK26 => ?_)
        refine wp_reg ?_
        refine wpF_seg 4 (by kernel_rfl) ?_
        refine gF hM23 (.binOp .sub 3 (.tmp 25) (.tmp 26) 3) (some 27) (by kernel_rfl) (Y_sub .i64 ((s.length : Int)) (((ad : Nat) : Int)) ((s.length : Int) - ((ad : Nat) : Int)) (by kernel_rfl) (by kernel_rfl) (wrap64_ok _ (by omega))) ?_
        refine wpF_seg 1 (by kernel_rfl) ?_
        refine gF hM23 (.binOp .sub 3 (.tmp 27) (.tmp 28) 3) (some 29) (by kernel_rfl) (Y_sub .i64 ((s.length : Int) - ((ad : Nat) : Int)) ((wd : Int)) (((s.length : Int) - ((ad : Nat) : Int)) - (wd : Int)) (by kernel_rfl) (by kernel_rfl) (wrap64_ok _ (by omega))) ?_
        refine wpF_seg 1 (by kernel_rfl) ?_
        refine wpF_end _ (by kernel_rfl) (then_n (hK26 _ _ ?_))
        refine wp_if (decide ((((s.length : Int) - ((ad : Nat) : Int)) - (wd : Int)) < (((beA (s) ((ad)) (wd) : Nat) : Int)))) (by kernel_rfl) (fun h27 => ?_) (fun h27 => ?_)
        · -- Tfft
          have p28 : ((((s.length : Int) - ((ad : Nat) : Int)) - (wd : Int)) < (((beA (s) ((ad)) (wd) : Nat) : Int))) := of_decide_eq_true h27
          refine wp_seq_k (fun K29 hK29 => ?_)
          refine wp_reg ?_
          refine wpF_seg 2 (by kernel_rfl) ?_
          refine wpF_end _ (by kernel_rfl) (then_n (hK29 _ _ ?_))
          refine wp_ret (then_r (?_))
          refine retN [bs ([]), .int .i64 (-1)] (.tuple #[bs ([]), .int .i64 (-1)]) Try.results48 (.tmp (by kernel_rfl) (by kernel_rfl) (.tmp (by kernel_rfl) (by kernel_rfl) .nil)) (by kernel_rfl) (hRet _ _ ⟨_, _, rfl, hM23.clear, ?_⟩)
          -- end Tfft
          have hp := okP_out hok (by omega)
          refine ⟨?_, ?_⟩
          · first | (simp only [strP, hp, cond_false] <;> rfl) | (obtain ⟨_, _, e1, e2⟩ := okP_le hp; rw [hp, e1, e2]; rfl)
          · exact Nat.le_trans (strP_len _ _ _ _) (by omega)
        · -- Tfff
          have p30 : ¬ ((((s.length : Int) - ((ad : Nat) : Int)) - (wd : Int)) < (((beA (s) ((ad)) (wd) : Nat) : Int))) := of_decide_eq_false h27
          refine wp_skip (then_n (hK25 _ _ ?_))
          refine wp_seq_k (fun K31 hK31 => ?_)
          refine wp_reg ?_
          refine wpF_seg 3 (by kernel_rfl) ?_
          refine gF hM23 (.binOp .add 3 (.tmp 32) (.tmp 33) 3) (some 34) (by kernel_rfl) (Y_add .i64 (((ad : Nat) : Int)) ((wd : Int)) (((ad : Nat) : Int) + (wd : Int)) (by kernel_rfl) (by kernel_rfl) (wrap64_ok _ (by omega))) ?_
          refine wpF_seg 2 (by kernel_rfl) ?_
          refine gF hM23 (.binOp .add 3 (.tmp 35) (.tmp 36) 3) (some 37) (by kernel_rfl) (Y_add .i64 (((ad : Nat) : Int)) ((wd : Int)) (((ad : Nat) : Int) + (wd : Int)) (by kernel_rfl) (by kernel_rfl) (wrap64_ok _ (by omega))) ?_
          refine wpF_seg 1 (by kernel_rfl) ?_
          refine gF hM23 (.binOp .add 3 (.tmp 37) (.tmp 38) 3) (some 39) (by kernel_rfl) (Y_add .i64 (((ad : Nat) : Int) + (wd : Int)) (((beA (s) ((ad)) (wd) : Nat) : Int)) ((((ad : Nat) : Int) + (wd : Int)) + (((beA (s) ((ad)) (wd) : Nat) : Int))) (by kernel_rfl) (by kernel_rfl) (wrap64_ok _ (by omega))) ?_
          refine gF hM23 (.slice 9 (.tmp 31) (some (.tmp 34)) (some (.tmp 39)) none) (some 40) (by kernel_rfl) (Y_strSlice (lo := some (.tmp 34)) (hi := some (.tmp 39)) (s) (by kernel_rfl) (by kernel_rfl) ((ad : Nat) + wd) (((((ad : Nat) : Int) + (wd : Int)) + (((beA (s) ((ad)) (wd) : Nat) : Int))).toNat) ⟨.i64, by rw [show (((ad : Nat) + wd : Nat) : Int) = ((ad : Nat) : Int) + (wd : Int) from by omega]; kernel_rfl⟩ ⟨.i64, by rw [show ((((((ad : Nat) : Int) + (wd : Int)) + (((beA (s) ((ad)) (wd) : Nat) : Int))).toNat : Nat) : Int) = (((ad : Nat) : Int) + (wd : Int)) + (((beA (s) ((ad)) (wd) : Nat) : Int)) from by omega]; kernel_rfl⟩ (by omega) (by omega) ((s.take (((((ad : Nat) : Int) + (wd : Int)) + (((beA (s) ((ad)) (wd) : Nat) : Int))).toNat)).drop ((ad : Nat) + wd)) rfl) ?_
          refine wpF_seg 2 (by kernel_rfl) ?_
          refine gF hM23 (.binOp .add 3 (.tmp 41) (.tmp 42) 3) (some 43) (by kernel_rfl) (Y_add .i64 (((ad : Nat) : Int)) ((wd : Int)) (((ad : Nat) : Int) + (wd : Int)) (by kernel_rfl) (by kernel_rfl) (wrap64_ok _ (by omega))) ?_
          refine wpF_seg 1 (by kernel_rfl) ?_
          refine gF hM23 (.binOp .add 3 (.tmp 43) (.tmp 44) 3) (some 45) (by kernel_rfl) (Y_add .i64 (((ad : Nat) : Int) + (wd : Int)) (((beA (s) ((ad)) (wd) : Nat) : Int)) ((((ad : Nat) : Int) + (wd : Int)) + (((beA (s) ((ad)) (wd) : Nat) : Int))) (by kernel_rfl) (by kernel_rfl) (wrap64_ok _ (by omega))) ?_
          refine wpF_seg 2 (by kernel_rfl) ?_
          refine wpF_end _ (by kernel_rfl) (then_n (hK31 _ _ ?_))
          refine wp_ret ?_
          refine retN [bs ((s.take (((((ad : Nat) : Int) + (wd : Int)) + (((beA (s) ((ad)) (wd) : Nat) : Int))).toNat)).drop ((ad : Nat) + wd)), .int .i64 ((((ad : Nat) : Int) + (wd : Int)) + (((beA (s) ((ad)) (wd) : Nat) : Int)))] (.tuple #[bs ((s.take (((((ad : Nat) : Int) + (wd : Int)) + (((beA (s) ((ad)) (wd) : Nat) : Int))).toNat)).drop ((ad : Nat) + wd)), .int .i64 ((((ad : Nat) : Int) + (wd : Int)) + (((beA (s) ((ad)) (wd) : Nat) : Int)))]) Try.results48 (.tmp (by kernel_rfl) (by kernel_rfl) (.tmp (by kernel_rfl) (by kernel_rfl) .nil)) (by kernel_rfl) (hRet _ _ ⟨_, _, rfl, hM23.clear, ?_⟩)
          -- end Tfff
          have hp := okP_in hok (by omega)
          refine ⟨?_, ?_⟩
          · first | (simp only [strP, hp, cond_false] <;> rfl) | (obtain ⟨_, _, e1, e2⟩ := okP_le hp; rw [hp, e1, e2]; rfl)
          · exact Nat.le_trans (strP_len _ _ _ _) (by omega)

set_option maxHeartbeats 4000000 in
set_option maxRecDepth 100000 in
theorem f24 (V : VT) (w : World) (hV : V.inW w) (b : Str) (hb : b.length ≤ maxL) :
    Calls Try.prog 24 #[bs (b)] w (RetP V w fun rv V' => ∃ (A1 : Option Addr), ∃ (c1 : Nat), ∃ (A2 : Option Addr), ∃ (c2 : Nat), ∃ (A3 : Option Addr), ∃ (c3 : Nat), rv = .tuple #[.agg #[.bool (rdL b), .slice A1 (rdK b).length c1, .slice A2 (rdV b).length c2, .slice A3 (rdC b).length c3], .int .i64 (rdE b)] ∧ Rd strK V' A1 c1 (rdK b) ∧ Rd strK V' A2 c2 (rdV b) ∧ Rd (intK .i64) V' A3 c3 (rdC b)) := by
  have mxb : b.length ≤ 140737488355328 := hb
  refine calls_env (n := 104) Try.func24 (c := _) rfl Try.ntmps24 (by kernel_rfl) (fun R hRet => ?_)
  have hM0 : Step V w [] V w [] := Step.refl (St.nilE hV)
  refine wp_seq_k (fun K1 hK1 => ?_)
  refine wp_reg ?_
  refine wpF_alloc hM0 #[.bool (false), .slice none 0 0, .slice none 0 0, .slice none 0 0] (h := (by kernel_rfl : opAt _ _ _ _ _ = some (.alloc 25, some 2))) (by kernel_rfl) (fun b2 w3 hM4 => ?_)
  refine wpF_seg 1 (by kernel_rfl) ?_
  refine wpF_end _ (by kernel_rfl) (then_n (hK1 _ _ ?_))
  refine wp_seq_k (fun K5 hK5 => ?_)
  refine wp_seq_k (fun K6 hK6 => ?_)
  refine wp_reg ?_
  refine wpF_seg 3 (by kernel_rfl) ?_
  refine wpF_end _ (by kernel_rfl) (then_n (hK6 _ _ ?_))
  refine wp_if (!(decide (((b.length : Int)) = (1024)))) (by kernel_rfl) (fun h7 => ?_) (fun h7 => ?_)
  · -- t
    have h8 : decide (((b.length : Int)) = (1024)) = false := by rw [← Bool.not_not (decide _), h7]; rfl
    have p9 : ¬ (((b.length : Int)) = (1024)) := of_decide_eq_false h8
    refine wp_seq_k (fun K10 hK10 => ?_)
    refine wp_reg ?_
    refine wpF_seg 1 (by kernel_rfl) ?_
    refine wpF_store hM4 0 rfl (h := (by kernel_rfl : opAt _ _ _ _ _ = some (.store 25 (.tmp 2) (.tmp 19), none))) (off := 0) (by kernel_rfl) #[.bool (false), .slice none 0 0, .slice none 0 0, .slice none 0 0] (by kernel_rfl) (by kernel_rfl) (by kernel_rfl) (by kernel_rfl) (fun w12 hM11 => ?_)
    have hM13 : Step V w [] V _ ([.blk b2 (.cells #[.bool (false), .slice none 0 0, .slice none 0 0, .slice none 0 0] 25)]) := hM11
    refine wpF_seg 1 (by kernel_rfl) ?_
    refine wpF_end _ (by kernel_rfl) (then_n (hK10 _ _ ?_))
    refine wp_ret (then_r (?_))
    refine retN [.agg #[.bool (false), .slice none 0 0, .slice none 0 0, .slice none 0 0], .int .i64 (4)] (.tuple #[.agg #[.bool (false), .slice none 0 0, .slice none 0 0, .slice none 0 0], .int .i64 (4)]) Try.results24 (.cell (by kernel_rfl) (by kernel_rfl) hM13 0 rfl (by kernel_rfl) (.tmp (by kernel_rfl) (by kernel_rfl) .nil)) (by kernel_rfl) (hRet _ _ ⟨_, _, rfl, hM13.clear, ?_⟩)
    -- end t
    obtain ⟨e1, e2, e3, e4, e5⟩ := rd_no (by first | exact rd_no1 (by assumption) | exact rd_no2 (by assumption) (by assumption))
    refine ⟨none, 0, none, 0, none, 0, ?_, ?_, ?_, ?_⟩
    · simp only [e1, e2, e3, e4, e5] <;> rfl
    · first | exact (Rd.nil _ _) | (exact Rd.eq (Rd.nil _ _) (by first | exact e3.symm | exact e4.symm | exact e5.symm))
    · first | exact (Rd.nil _ _) | (exact Rd.eq (Rd.nil _ _) (by first | exact e3.symm | exact e4.symm | exact e5.symm))
    · first | exact (Rd.nil _ _) | (exact Rd.eq (Rd.nil _ _) (by first | exact e3.symm | exact e4.symm | exact e5.symm))
  · -- f
    have h14 : decide (((b.length : Int)) = (1024)) = true := by rw [← Bool.not_not (decide _), h7]; rfl
    have p15 : (((b.length : Int)) = (1024)) := of_decide_eq_true h14
    refine wp_skip (then_n (hK5 _ _ ?_))
    refine wp_seq_k (fun K16 hK16 => ?_)
    refine wp_reg ?_
    refine wpF_seg 1 (by kernel_rfl) ?_
    refine gF hM4 (.index 9 (.tmp 20) (.const (.int .i64 0))) (some 21) (by kernel_rfl) (Y_strIndex (b) .i64 (0) (by kernel_rfl) (by kernel_rfl) (by kernel_rfl) (0) (by omega) (by omega)) ?_
    refine wpF_seg 2 (by kernel_rfl) ?_
    refine wpF_alloc hM4 #[.bool (false), .slice none 0 0, .slice none 0 0, .slice none 0 0] (h := (by kernel_rfl : opAt _ _ _ _ _ = some (.alloc 25, some 4))) (by kernel_rfl) (fun b17 w18 hM19 => ?_)
    refine wpF_store hM19 0 rfl (h := (by kernel_rfl : opAt _ _ _ _ _ = some (.store 25 (.tmp 4) (.tmp 23), none))) (off := 0) (by kernel_rfl) #[.bool (decide ((((b.getD (0) 0).toNat : Int)) = (76))), .slice none 0 0, .slice none 0 0, .slice none 0 0] (by kernel_rfl) (by kernel_rfl) (by kernel_rfl) (by kernel_rfl) (fun w21 hM20 => ?_)
    have hM22 : Step V w [] V _ ([.blk b17 (.cells #[.bool (decide ((((b.getD (0) 0).toNat : Int)) = (76))), .slice none 0 0, .slice none 0 0, .slice none 0 0] 25), .blk b2 (.cells #[.bool (false), .slice none 0 0, .slice none 0 0, .slice none 0 0] 25)]) := hM20
    refine wpF_end _ (by kernel_rfl) (then_n (hK16 _ _ ?_))
    refine wp_seq_k (fun K23 hK23 => ?_)
    refine wp_reg ?_
    refine wpF_seg 1 (by kernel_rfl) ?_
    refine wpF_callP hM22 (f := 46) (caps := #[]) (h := (by kernel_rfl : opAt _ _ _ _ _ = some (.call (.mk (.value (.func 46)) #[(.tmp 24), (.const (.int .i64 1)), (.const (.int .i64 2))] #[9, 3, 3]), some 25))) (by kernel_rfl) (by kernel_rfl) (by kernel_rfl) (f46 _ _ hM22.inW (b) (hb) (1) (2) (by omega) (by omega) (by omega)) (fun v24 V25 w26 le27 hM28 hp29 => ?_)
    obtain rfl := hp29
    refine wpF_seg 2 (by kernel_rfl) ?_
    refine wpF_end _ (by kernel_rfl) (then_n (hK23 _ _ ?_))
    refine wp_seq_k (fun K30 hK30 => ?_)
    refine wp_seq_k (fun K31 hK31 => ?_)
    refine wp_reg ?_
    refine wpF_seg 1 (by kernel_rfl) ?_
    refine gF hM28 (.load 4 (.tmp 26)) (some 27) (by kernel_rfl) (Y_load 0 rfl (off := 0) (by kernel_rfl) (.bool (decide ((((b.getD (0) 0).toNat : Int)) = (76)))) (by kernel_rfl)) ?_
    refine wpF_seg 1 (by kernel_rfl) ?_
    refine wpF_end _ (by kernel_rfl) (then_n (hK31 _ _ ?_))
    refine wp_if (!(decide ((((b.getD (0) 0).toNat : Int)) = (76)))) (by kernel_rfl) (fun h32 => ?_) (fun h32 => ?_)
    · -- ft
      have h33 : decide ((((b.getD (0) 0).toNat : Int)) = (76)) = false := by rw [← Bool.not_not (decide _), h32]; rfl
      have p34 : ¬ ((((b.getD (0) 0).toNat : Int)) = (76)) := of_decide_eq_false h33
      refine wp_slot 6 (.int .i64 (3)) (.int .i64 ((bif okS b 1 true 2 then ((atS b 1 true 2 : Nat) : Int) else -1))) (by kernel_rfl) (by exact congrArg (Value.int .i64) (start_at (by omega))) ?_
      refine wp_slot 5 (.int .i64 (((beA (b) (1) (2) : Nat) : Int))) (.int .i64 (((cntR b : Nat) : Int))) (by kernel_rfl) (by exact congrArg (Value.int .i64) (start_cnt (by omega))) ?_
      have hM35 := hM28
      rw [h33] at hM35
      have hM36 : Step V w [] V25 _ ([.blk b17 (.cells #[.bool (false), .slice none 0 0, .slice none 0 0, .slice none 0 0] 25), .blk b2 (.cells #[.bool (false), .slice none 0 0, .slice none 0 0, .slice none 0 0] 25)]) := hM35
      have hq := atS_le b 1 true 2 (by omega)
      have hcnt : cntR b < 4294967296 := numS_4 b 1 true 2 (by omega)
      refine wp_seq_k (fun K37 hK37 => ?_)
      refine wp_reg ?_
      refine wpF_seg 2 (by kernel_rfl) ?_
      refine wpF_callP hM36 (f := 47) (caps := #[]) (h := (by kernel_rfl : opAt _ _ _ _ _ = some (.call (.mk (.value (.func 47)) #[(.tmp 30), (.tmp 31)] #[9, 3]), some 32))) (by kernel_rfl) (by kernel_rfl) (by kernel_rfl) (f47 _ _ hM36.inW (b) (hb) (atS b 1 true 2) (okS b 1 true 2) (by omega) (by omega)) (fun v38 V39 w40 le41 hM42 hp43 => ?_)
      obtain rfl := hp43
      refine wpF_seg 5 (by kernel_rfl) ?_
      refine wpF_end _ (by kernel_rfl) (then_n (hK37 _ _ ?_))
      refine wp_reg ?_
      refine wpF_seg 1 (by kernel_rfl) ?_
      refine wpF_litW (intK .i64) hM42 #[.int .i64 (((numS (b) (atS b 1 true 2) (okS b 1 true 2) 4 : Nat) : Int))] (h := (by kernel_rfl : opAt _ _ _ _ _ = some (.buildSlice 23 1 #[(0, (.tmp 35))], some 36))) (e := 3) (by kernel_rfl) (([((numS (b) (atS b 1 true 2) (okS b 1 true 2) 4 : Nat) : Int)] : List Int)) (Reps.one_int (by exact i64_range (numS_4 _ _ _ _ (by omega)))) rfl (by simp [maxL]) (fun A44 c45 w46 hM47 => ?_)
      refine wpF_seg 2 (by kernel_rfl) ?_
      refine wpF_store hM47 1 rfl (h := (by kernel_rfl : opAt _ _ _ _ _ = some (.store 23 (.tmp 38) (.tmp 36), none))) (off := 3) (by kernel_rfl) #[.slice A44 (([((numS (b) (atS b 1 true 2) (okS b 1 true 2) 4 : Nat) : Int)] : List Int)).length c45] (by kernel_rfl) (by kernel_rfl) (by kernel_rfl) (by kernel_rfl) (fun w49 hM48 => ?_)
      have hM50 : Step V w [] V39 _ ([.row (intK .i64) 3 A44 c45 (([((numS (b) (atS b 1 true 2) (okS b 1 true 2) 4 : Nat) : Int)] : List Int)), .blk b17 (.cells #[.bool (false), .slice none 0 0, .slice none 0 0, .slice A44 (([((numS (b) (atS b 1 true 2) (okS b 1 true 2) 4 : Nat) : Int)] : List Int)).length c45] 25), .blk b2 (.cells #[.bool (false), .slice none 0 0, .slice none 0 0, .slice none 0 0] 25)]) := hM48
      refine wpF_seg 1 (by kernel_rfl) ?_
      refine wpF_end _ (by kernel_rfl) (then_n (hK30 _ _ ?_))
      refine wp_seq_k (fun K51 hK51 => ?_)
      refine wp_seq_k (fun K52 hK52 => ?_)
      refine wp_reg ?_
      refine wpF_seg 1 (by kernel_rfl) ?_
      refine wpF_end _ (by kernel_rfl) (then_n (hK52 _ _ ?_))
      refine wp_block ?_
      have hM54 := hM50.nilrow strK 9
      have hM55 : Step V w [] V39 _ ([.row strK 9 none 0 (([] : List Str)), .row (intK .i64) 3 A44 c45 (([((numS (b) (atS b 1 true 2) (okS b 1 true 2) 4 : Nat) : Int)] : List Int)), .blk b17 (.cells #[.bool (false), .slice none 0 0, .slice none 0 0, .slice A44 (([((numS (b) (atS b 1 true 2) (okS b 1 true 2) 4 : Nat) : Int)] : List Int)).length c45] 25), .blk b2 (.cells #[.bool (false), .slice none 0 0, .slice none 0 0, .slice none 0 0] 25)]) := hM54
      refine wp_base [(0, bs (b)), (2, .pointer (some ⟨b2, 0, none⟩)), (3, .int .i64 (0)), (4, .pointer (some ⟨b17, 0, none⟩)), (5, .int .i64 (((cntR b : Nat) : Int))), (6, .int .i64 ((bif (rsN b false (0)).ok then (((rsN b false (0)).ad : Nat) : Int) else -1))), (9, .int .i64 ((0 : Int)))] (by kernel_rfl) (fun g56 => ?_)
      refine wp_loopX (fun (x_ : Nat) a_ w_ => ∃ (g : Nat → Value) (V_ : VT), ∃ (Arc4_1 : Option Addr) (crc4_1 : Nat), ∃ (Arc4_3 : Option Addr) (crc4_3 : Nat), a_ = env 104 [(0, bs (b)), (2, .pointer (some ⟨b2, 0, none⟩)), (3, .int .i64 (0)), (4, .pointer (some ⟨b17, 0, none⟩)), (5, .int .i64 (((cntR b : Nat) : Int))), (6, .int .i64 ((bif (rsN b false (x_)).ok then (((rsN b false (x_)).ad : Nat) : Int) else -1))), (9, .int .i64 ((x_ : Int)))] g ∧ Step V w [] V_ w_ [.row strK 9 Arc4_1 crc4_1 ((rsN b false (x_)).ks), .row (intK .i64) 3 Arc4_3 crc4_3 ((rsN b false (x_)).cs), .blk b17 (.cells #[.bool (false), .slice Arc4_1 ((rsN b false (x_)).ks).length crc4_1, .slice none 0 0, .slice Arc4_3 ((rsN b false (x_)).cs).length crc4_3] 25), .blk b2 (.cells #[.bool (false), .slice none 0 0, .slice none 0 0, .slice none 0 0] 25)] ∧ VT.le V39 V_ ∧ (x_ ≤ cntR b)) (fun (x_ : Nat) => cntR b - x_) (0) ⟨g56, V39, none, 0, A44, c45, rfl, hM55, VT.le.refl _, by omega⟩ ?_
      rintro k a_ w58 ⟨g57, Vl53, Ar_61c4_1, cr_61c4_1, Ar_61c4_3, cr_61c4_3, rfl, hM59, le60, hi61_0⟩ K61 hK61
      have hin := rsN_inv (b := b) false (by omega) k
      simp only [cond_true, cond_false] at hin
      have ha1 := atP_le b (rsN b false k).ad (rsN b false k).ok 1 (by omega)
      refine wp_seq_k (fun K62 hK62 => ?_)
      refine wp_seq_k (fun K63 hK63 => ?_)
      refine wp_reg ?_
      refine wpF_seg 4 (by kernel_rfl) ?_
      refine wpF_caseB 42 (decide (((k : Int)) < (((cntR b : Nat) : Int)))) (by kernel_rfl) (by kernel_rfl) (fun h64 => ?_) (fun h64 => ?_)
      · -- ftLt
        have p65 : (((k : Int)) < (((cntR b : Nat) : Int))) := of_decide_eq_true h64
        refine wpF_seg 3 (by kernel_rfl) ?_
        refine wpF_end _ (by kernel_rfl) (then_n (hK63 _ _ ?_))
        refine wp_if (decide ((0) ≤ ((bif (rsN b false (k)).ok then (((rsN b false (k)).ad : Nat) : Int) else -1)))) (by kernel_rfl) (fun h66 => ?_) (fun h66 => ?_)
        · -- ftLtt
          have p67 : ((0) ≤ ((bif (rsN b false (k)).ok then (((rsN b false (k)).ad : Nat) : Int) else -1))) := of_decide_eq_true h66
          have h5_ := hin.2.2.2.2 (at_ge (by assumption))
          refine wp_skip (then_n (hK62 _ _ ?_))
          refine wp_seq_k (fun K68 hK68 => ?_)
          refine wp_block ?_
          refine wp_seq_k (fun K69 hK69 => ?_)
          refine wp_reg ?_
          refine wpF_seg 2 (by kernel_rfl) ?_
          refine wpF_callP hM59 (f := 48) (caps := #[]) (h := (by kernel_rfl : opAt _ _ _ _ _ = some (.call (.mk (.value (.func 48)) #[(.tmp 49), (.tmp 50), (.const (.int .i64 1))] #[9, 3, 3]), some 51))) (by kernel_rfl) (by kernel_rfl) (by kernel_rfl) (f48 _ _ hM59.inW (b) (hb) ((rsN b false (k)).ad) ((rsN b false (k)).ok) (1) (by omega) (by omega) (by omega)) (fun v70 V71 w72 le73 hM74 hp75 => ?_)
          obtain ⟨rfl, x76⟩ := hp75
          have x76 : (strP (b) ((rsN b false (k)).ad) ((rsN b false (k)).ok) (1)).length ≤ 4096 := x76
          refine wpF_seg 5 (by kernel_rfl) ?_
          refine wpF_end _ (by kernel_rfl) (then_n (hK69 _ _ ?_))
          refine wp_seq_k (fun K77 hK77 => ?_)
          refine wp_reg ?_
          refine wpF_seg 1 (by kernel_rfl) ?_
          refine gF hM74 (.load 22 (.tmp 54)) (some 55) (by kernel_rfl) (Y_load 2 rfl (off := 1) (by kernel_rfl) (.slice Ar_61c4_1 ((rsN b false (k)).ks).length cr_61c4_1) (by kernel_rfl)) ?_
          refine wpF_seg 1 (by kernel_rfl) ?_
          refine wpF_litR strK hM74 #[bs (strP (b) ((rsN b false (k)).ad) ((rsN b false (k)).ok) (1))] (h := (by kernel_rfl : opAt _ _ _ _ _ = some (.buildSlice 22 1 #[(0, (.tmp 56))], some 57))) (e := 9) (by kernel_rfl) (([strP (b) ((rsN b false (k)).ad) ((rsN b false (k)).ok) (1)] : List Str)) (Reps.one_str (by first | decide | (simp only [maxL, List.length_append, List.length_cons, List.length_nil]; omega))) rfl (by simp [maxL]) (fun A78 c79 V82 w80 le83 hM81 r84 => ?_)
          refine wpF_append (by_ := 16) hM81 0 rfl (h := (by kernel_rfl : opAt _ _ _ _ _ = some (.call (.mk (.builtin .append) #[(.tmp 55), (.tmp 57)] #[22, 22]), some 58))) (by kernel_rfl) (by kernel_rfl) (by kernel_rfl) (by kernel_rfl) (by kernel_rfl) (by kernel_rfl) (by kernel_rfl) (Src.rd r84) (by first | omega | (simp only [List.length_append, List.length_cons, List.length_nil]; omega)) (fun A85 c86 w87 hM88 => ?_)
          have hM89 : Step V w [] V82 _ ([.row strK 9 A85 c86 ((rsN b false (k)).ks ++ ([strP (b) ((rsN b false (k)).ad) ((rsN b false (k)).ok) (1)] : List Str)), .row (intK .i64) 3 Ar_61c4_3 cr_61c4_3 ((rsN b false (k)).cs), .blk b17 (.cells #[.bool (false), .slice Ar_61c4_1 ((rsN b false (k)).ks).length cr_61c4_1, .slice none 0 0, .slice Ar_61c4_3 ((rsN b false (k)).cs).length cr_61c4_3] 25), .blk b2 (.cells #[.bool (false), .slice none 0 0, .slice none 0 0, .slice none 0 0] 25)]) := hM88
          refine wpF_seg 2 (by kernel_rfl) ?_
          refine wpF_store hM89 2 rfl (h := (by kernel_rfl : opAt _ _ _ _ _ = some (.store 22 (.tmp 60) (.tmp 58), none))) (off := 1) (by kernel_rfl) #[.slice A85 ((rsN b false (k)).ks ++ ([strP (b) ((rsN b false (k)).ad) ((rsN b false (k)).ok) (1)] : List Str)).length c86] (by kernel_rfl) (by kernel_rfl) (by kernel_rfl) (by kernel_rfl) (fun w91 hM90 => ?_)
          have hM92 : Step V w [] V82 _ ([.row strK 9 A85 c86 ((rsN b false (k)).ks ++ ([strP (b) ((rsN b false (k)).ad) ((rsN b false (k)).ok) (1)] : List Str)), .row (intK .i64) 3 Ar_61c4_3 cr_61c4_3 ((rsN b false (k)).cs), .blk b17 (.cells #[.bool (false), .slice A85 ((rsN b false (k)).ks ++ ([strP (b) ((rsN b false (k)).ad) ((rsN b false (k)).ok) (1)] : List Str)).length c86, .slice none 0 0, .slice Ar_61c4_3 ((rsN b false (k)).cs).length cr_61c4_3] 25), .blk b2 (.cells #[.bool (false), .slice none 0 0, .slice none 0 0, .slice none 0 0] 25)]) := hM90
          refine wpF_seg 1 (by kernel_rfl) ?_
          refine wpF_end _ (by kernel_rfl) (then_n (hK77 _ _ ?_))
          refine wp_seq_k (fun K93 hK93 => ?_)
          refine wp_reg ?_
          refine wpF_seg 1 (by kernel_rfl) ?_
          refine gF hM92 (.load 4 (.tmp 61)) (some 62) (by kernel_rfl) (Y_load 2 rfl (off := 0) (by kernel_rfl) (.bool (false)) (by kernel_rfl)) ?_
          refine wpF_end _ (by kernel_rfl) (then_n (hK93 _ _ ?_))
          refine wp_cf (by kernel_rfl) ?_
          refine wp_seq_k (fun K94 hK94 => ?_)
          refine wp_reg ?_
          refine wpF_seg 2 (by kernel_rfl) ?_
          refine wpF_callP hM92 (f := 47) (caps := #[]) (h := (by kernel_rfl : opAt _ _ _ _ _ = some (.call (.mk (.value (.func 47)) #[(.tmp 77), (.tmp 78)] #[9, 3]), some 79))) (by kernel_rfl) (by kernel_rfl) (by kernel_rfl) (f47 _ _ hM92.inW (b) (hb) (atP (b) ((rsN b false (k)).ad) ((rsN b false (k)).ok) (1)) (okP (b) ((rsN b false (k)).ad) ((rsN b false (k)).ok) (1)) (by omega) (by omega)) (fun v95 V96 w97 le98 hM99 hp100 => ?_)
          obtain rfl := hp100
          refine wpF_seg 5 (by kernel_rfl) ?_
          refine wpF_end _ (by kernel_rfl) (then_n (hK94 _ _ ?_))
          refine wp_reg ?_
          refine wpF_seg 1 (by kernel_rfl) ?_
          refine gF hM99 (.load 23 (.tmp 82)) (some 83) (by kernel_rfl) (Y_load 2 rfl (off := 3) (by kernel_rfl) (.slice Ar_61c4_3 ((rsN b false (k)).cs).length cr_61c4_3) (by kernel_rfl)) ?_
          refine wpF_seg 1 (by kernel_rfl) ?_
          refine wpF_litR (intK .i64) hM99 #[.int .i64 (((numS (b) (atP (b) ((rsN b false (k)).ad) ((rsN b false (k)).ok) (1)) (okP (b) ((rsN b false (k)).ad) ((rsN b false (k)).ok) (1)) 4 : Nat) : Int))] (h := (by kernel_rfl : opAt _ _ _ _ _ = some (.buildSlice 23 1 #[(0, (.tmp 84))], some 85))) (e := 3) (by kernel_rfl) (([((numS (b) (atP (b) ((rsN b false (k)).ad) ((rsN b false (k)).ok) (1)) (okP (b) ((rsN b false (k)).ad) ((rsN b false (k)).ok) (1)) 4 : Nat) : Int)] : List Int)) (Reps.one_int (by exact i64_range (numS_4 _ _ _ _ (by omega)))) rfl (by simp [maxL]) (fun A101 c102 V105 w103 le106 hM104 r107 => ?_)
          refine wpF_append (by_ := 8) hM104 1 rfl (h := (by kernel_rfl : opAt _ _ _ _ _ = some (.call (.mk (.builtin .append) #[(.tmp 83), (.tmp 85)] #[23, 23]), some 86))) (by kernel_rfl) (by kernel_rfl) (by kernel_rfl) (by kernel_rfl) (by kernel_rfl) (by kernel_rfl) (by kernel_rfl) (Src.rd r107) (by first | omega | (simp only [List.length_append, List.length_cons, List.length_nil]; omega)) (fun A108 c109 w110 hM111 => ?_)
          have hM112 : Step V w [] V105 _ ([.row (intK .i64) 3 A108 c109 ((rsN b false (k)).cs ++ ([((numS (b) (atP (b) ((rsN b false (k)).ad) ((rsN b false (k)).ok) (1)) (okP (b) ((rsN b false (k)).ad) ((rsN b false (k)).ok) (1)) 4 : Nat) : Int)] : List Int)), .row strK 9 A85 c86 ((rsN b false (k)).ks ++ ([strP (b) ((rsN b false (k)).ad) ((rsN b false (k)).ok) (1)] : List Str)), .blk b17 (.cells #[.bool (false), .slice A85 ((rsN b false (k)).ks ++ ([strP (b) ((rsN b false (k)).ad) ((rsN b false (k)).ok) (1)] : List Str)).length c86, .slice none 0 0, .slice Ar_61c4_3 ((rsN b false (k)).cs).length cr_61c4_3] 25), .blk b2 (.cells #[.bool (false), .slice none 0 0, .slice none 0 0, .slice none 0 0] 25)]) := hM111
          refine wpF_seg 2 (by kernel_rfl) ?_
          refine wpF_store hM112 2 rfl (h := (by kernel_rfl : opAt _ _ _ _ _ = some (.store 23 (.tmp 88) (.tmp 86), none))) (off := 3) (by kernel_rfl) #[.slice A108 ((rsN b false (k)).cs ++ ([((numS (b) (atP (b) ((rsN b false (k)).ad) ((rsN b false (k)).ok) (1)) (okP (b) ((rsN b false (k)).ad) ((rsN b false (k)).ok) (1)) 4 : Nat) : Int)] : List Int)).length c109] (by kernel_rfl) (by kernel_rfl) (by kernel_rfl) (by kernel_rfl) (fun w114 hM113 => ?_)
          have hM115 : Step V w [] V105 _ ([.row (intK .i64) 3 A108 c109 ((rsN b false (k)).cs ++ ([((numS (b) (atP (b) ((rsN b false (k)).ad) ((rsN b false (k)).ok) (1)) (okP (b) ((rsN b false (k)).ad) ((rsN b false (k)).ok) (1)) 4 : Nat) : Int)] : List Int)), .row strK 9 A85 c86 ((rsN b false (k)).ks ++ ([strP (b) ((rsN b false (k)).ad) ((rsN b false (k)).ok) (1)] : List Str)), .blk b17 (.cells #[.bool (false), .slice A85 ((rsN b false (k)).ks ++ ([strP (b) ((rsN b false (k)).ad) ((rsN b false (k)).ok) (1)] : List Str)).length c86, .slice none 0 0, .slice A108 ((rsN b false (k)).cs ++ ([((numS (b) (atP (b) ((rsN b false (k)).ad) ((rsN b false (k)).ok) (1)) (okP (b) ((rsN b false (k)).ad) ((rsN b false (k)).ok) (1)) 4 : Nat) : Int)] : List Int)).length c109] 25), .blk b2 (.cells #[.bool (false), .slice none 0 0, .slice none 0 0, .slice none 0 0] 25)]) := hM113
          refine wpF_seg 1 (by kernel_rfl) ?_
          refine wpF_end _ (by kernel_rfl) (blk_n (then_n (hK68 _ _ ?_)))
          refine wp_reg ?_
          refine wpF_seg 1 (by kernel_rfl) ?_
          refine gF hM115 (.binOp .add 3 (.tmp 46) (.const (.int .i64 1)) 3) (some 47) (by kernel_rfl) (Y_add .i64 ((k : Int)) (1) ((k : Int) + 1) (by kernel_rfl) (by kernel_rfl) (wrap64_ok _ (by omega))) ?_
          refine wpF_seg 1 (by kernel_rfl) ?_
          refine wpF_base [(0, bs (b)), (2, .pointer (some ⟨b2, 0, none⟩)), (3, .int .i64 (0)), (4, .pointer (some ⟨b17, 0, none⟩)), (5, .int .i64 (((cntR b : Nat) : Int))), (6, .int .i64 ((bif (rsN b false (k + 1)).ok then (((rsN b false (k + 1)).ad : Nat) : Int) else -1))), (9, .int .i64 ((k + 1 : Int)))] (by kernel_rfl) (fun g116 => ?_)
          have hM117 := hM115.front 3 rfl
          have hM118 := hM117.front 3 rfl
          have hM119 := hM118.front 2 rfl
          have hM120 := hM119.front 3 rfl
          refine wpF_end _ (by kernel_rfl) (then_n (hK61 _ _ (k + 1) (by omega) ?_))
          refine ⟨g116, V105, A85, c86, A108, c109, rfl, hM120, ((((le60.trans le73).trans le83).trans le98).trans le106), ?_⟩
          · -- ftLtt inv 0
            omega
        · -- ftLtf
          have p121 : ¬ ((0) ≤ ((bif (rsN b false (k)).ok then (((rsN b false (k)).ad : Nat) : Int) else -1))) := of_decide_eq_false h66
          refine wp_exit (then_x (then_x (blk_hit (then_n (hK51 _ _ ?_)))))
          refine wp_seq_k (fun K122 hK122 => ?_)
          refine wp_seq_k (fun K123 hK123 => ?_)
          refine wp_reg ?_
          refine wpF_seg 3 (by kernel_rfl) ?_
          refine wpF_caseB 91 (decide (((bif (rsN b false (k)).ok then (((rsN b false (k)).ad : Nat) : Int) else -1)) < (0))) (by kernel_rfl) (by kernel_rfl) (fun h124 => ?_) (fun h124 => ?_)
          · -- ftLtft
            have p125 : (((bif (rsN b false (k)).ok then (((rsN b false (k)).ad : Nat) : Int) else -1)) < (0)) := of_decide_eq_true h124
            refine wpF_seg 10 (by kernel_rfl) ?_
            refine wpF_end _ (by kernel_rfl) (then_n (hK123 _ _ ?_))
            refine wp_ct (by kernel_rfl) ?_
            refine wp_seq_k (fun K126 hK126 => ?_)
            refine wp_reg ?_
            refine wpF_seg 1 (by kernel_rfl) ?_
            refine wpF_store hM59 3 rfl (h := (by kernel_rfl : opAt _ _ _ _ _ = some (.store 25 (.tmp 2) (.tmp 102), none))) (off := 0) (by kernel_rfl) #[.bool (false), .slice none 0 0, .slice none 0 0, .slice none 0 0] (by kernel_rfl) (by kernel_rfl) (by kernel_rfl) (by kernel_rfl) (fun w128 hM127 => ?_)
            have hM129 : Step V w [] Vl53 _ ([.row strK 9 Ar_61c4_1 cr_61c4_1 ((rsN b false (k)).ks), .row (intK .i64) 3 Ar_61c4_3 cr_61c4_3 ((rsN b false (k)).cs), .blk b17 (.cells #[.bool (false), .slice Ar_61c4_1 ((rsN b false (k)).ks).length cr_61c4_1, .slice none 0 0, .slice Ar_61c4_3 ((rsN b false (k)).cs).length cr_61c4_3] 25), .blk b2 (.cells #[.bool (false), .slice none 0 0, .slice none 0 0, .slice none 0 0] 25)]) := hM127
            refine wpF_seg 1 (by kernel_rfl) ?_
            refine wpF_end _ (by kernel_rfl) (then_n (hK126 _ _ ?_))
            refine wp_ret (then_r (?_))
            refine retN [.agg #[.bool (false), .slice none 0 0, .slice none 0 0, .slice none 0 0], .int .i64 (4)] (.tuple #[.agg #[.bool (false), .slice none 0 0, .slice none 0 0, .slice none 0 0], .int .i64 (4)]) Try.results24 (.cell (by kernel_rfl) (by kernel_rfl) hM129 3 rfl (by kernel_rfl) (.tmp (by kernel_rfl) (by kernel_rfl) .nil)) (by kernel_rfl) (hRet _ _ ⟨_, _, rfl, hM129.clear, ?_⟩)
            -- end ftLtft
            obtain ⟨e1, e2, e3, e4, e5⟩ := rd_no (rd_no3 (b := b) (leaf := false) (k := k) (by assumption) (by omega) (at_neg (by assumption)))
            refine ⟨none, 0, none, 0, none, 0, ?_, ?_, ?_, ?_⟩
            · simp only [e1, e2, e3, e4, e5] <;> rfl
            · first | exact (Rd.nil _ _) | (exact Rd.eq (Rd.nil _ _) (by first | exact e3.symm | exact e4.symm | exact e5.symm))
            · first | exact (Rd.nil _ _) | (exact Rd.eq (Rd.nil _ _) (by first | exact e3.symm | exact e4.symm | exact e5.symm))
            · first | exact (Rd.nil _ _) | (exact Rd.eq (Rd.nil _ _) (by first | exact e3.symm | exact e4.symm | exact e5.symm))
          · -- ftLtff
            have p130 : ¬ (((bif (rsN b false (k)).ok then (((rsN b false (k)).ad : Nat) : Int) else -1)) < (0)) := of_decide_eq_false h124
            exfalso; omega
      · -- ftLf
        have p131 : ¬ (((k : Int)) < (((cntR b : Nat) : Int))) := of_decide_eq_false h64
        refine wpF_seg 3 (by kernel_rfl) ?_
        refine wpF_end _ (by kernel_rfl) (then_n (hK63 _ _ ?_))
        refine wp_cf (by kernel_rfl) ?_
        refine wp_exit (then_x (then_x (blk_hit (then_n (hK51 _ _ ?_)))))
        refine wp_seq_k (fun K132 hK132 => ?_)
        refine wp_seq_k (fun K133 hK133 => ?_)
        refine wp_reg ?_
        refine wpF_seg 3 (by kernel_rfl) ?_
        refine wpF_caseB 91 (decide (((bif (rsN b false (k)).ok then (((rsN b false (k)).ad : Nat) : Int) else -1)) < (0))) (by kernel_rfl) (by kernel_rfl) (fun h134 => ?_) (fun h134 => ?_)
        · -- ftLft
          have p135 : (((bif (rsN b false (k)).ok then (((rsN b false (k)).ad : Nat) : Int) else -1)) < (0)) := of_decide_eq_true h134
          refine wpF_seg 10 (by kernel_rfl) ?_
          refine wpF_end _ (by kernel_rfl) (then_n (hK133 _ _ ?_))
          refine wp_ct (by kernel_rfl) ?_
          refine wp_seq_k (fun K136 hK136 => ?_)
          refine wp_reg ?_
          refine wpF_seg 1 (by kernel_rfl) ?_
          refine wpF_store hM59 3 rfl (h := (by kernel_rfl : opAt _ _ _ _ _ = some (.store 25 (.tmp 2) (.tmp 102), none))) (off := 0) (by kernel_rfl) #[.bool (false), .slice none 0 0, .slice none 0 0, .slice none 0 0] (by kernel_rfl) (by kernel_rfl) (by kernel_rfl) (by kernel_rfl) (fun w138 hM137 => ?_)
          have hM139 : Step V w [] Vl53 _ ([.row strK 9 Ar_61c4_1 cr_61c4_1 ((rsN b false (k)).ks), .row (intK .i64) 3 Ar_61c4_3 cr_61c4_3 ((rsN b false (k)).cs), .blk b17 (.cells #[.bool (false), .slice Ar_61c4_1 ((rsN b false (k)).ks).length cr_61c4_1, .slice none 0 0, .slice Ar_61c4_3 ((rsN b false (k)).cs).length cr_61c4_3] 25), .blk b2 (.cells #[.bool (false), .slice none 0 0, .slice none 0 0, .slice none 0 0] 25)]) := hM137
          refine wpF_seg 1 (by kernel_rfl) ?_
          refine wpF_end _ (by kernel_rfl) (then_n (hK136 _ _ ?_))
          refine wp_ret (then_r (?_))
          refine retN [.agg #[.bool (false), .slice none 0 0, .slice none 0 0, .slice none 0 0], .int .i64 (4)] (.tuple #[.agg #[.bool (false), .slice none 0 0, .slice none 0 0, .slice none 0 0], .int .i64 (4)]) Try.results24 (.cell (by kernel_rfl) (by kernel_rfl) hM139 3 rfl (by kernel_rfl) (.tmp (by kernel_rfl) (by kernel_rfl) .nil)) (by kernel_rfl) (hRet _ _ ⟨_, _, rfl, hM139.clear, ?_⟩)
          -- end ftLft
          obtain ⟨e1, e2, e3, e4, e5⟩ := rd_no (rd_no3 (b := b) (leaf := false) (k := k) (by assumption) (by omega) (at_neg (by assumption)))
          refine ⟨none, 0, none, 0, none, 0, ?_, ?_, ?_, ?_⟩
          · simp only [e1, e2, e3, e4, e5] <;> rfl
          · first | exact (Rd.nil _ _) | (exact Rd.eq (Rd.nil _ _) (by first | exact e3.symm | exact e4.symm | exact e5.symm))
          · first | exact (Rd.nil _ _) | (exact Rd.eq (Rd.nil _ _) (by first | exact e3.symm | exact e4.symm | exact e5.symm))
          · first | exact (Rd.nil _ _) | (exact Rd.eq (Rd.nil _ _) (by first | exact e3.symm | exact e4.symm | exact e5.symm))
        · -- ftLff
          have p140 : ¬ (((bif (rsN b false (k)).ok then (((rsN b false (k)).ad : Nat) : Int) else -1)) < (0)) := of_decide_eq_false h134
          have h5_ := hin.2.2.2.2 (at_pos (by assumption))
          refine gF hM59 (.load 25 (.tmp 4)) (some 92) (by kernel_rfl) (Y_load 2 rfl (off := 0) (by kernel_rfl) (.agg #[.bool (false), .slice Ar_61c4_1 ((rsN b false (k)).ks).length cr_61c4_1, .slice none 0 0, .slice Ar_61c4_3 ((rsN b false (k)).cs).length cr_61c4_3]) (by kernel_rfl)) ?_
          obtain ⟨V141, le142, hM143, r144⟩ := hM59.settleRow 0 rfl
          have hM145 : Step V w [] V141 _ ([.row (intK .i64) 3 Ar_61c4_3 cr_61c4_3 ((rsN b false (k)).cs), .blk b17 (.cells #[.bool (false), .slice Ar_61c4_1 ((rsN b false (k)).ks).length cr_61c4_1, .slice none 0 0, .slice Ar_61c4_3 ((rsN b false (k)).cs).length cr_61c4_3] 25), .blk b2 (.cells #[.bool (false), .slice none 0 0, .slice none 0 0, .slice none 0 0] 25)]) := hM143
          obtain ⟨V146, le147, hM148, r149⟩ := hM145.settleRow 0 rfl
          have hM150 : Step V w [] V146 _ ([.blk b17 (.cells #[.bool (false), .slice Ar_61c4_1 ((rsN b false (k)).ks).length cr_61c4_1, .slice none 0 0, .slice Ar_61c4_3 ((rsN b false (k)).cs).length cr_61c4_3] 25), .blk b2 (.cells #[.bool (false), .slice none 0 0, .slice none 0 0, .slice none 0 0] 25)]) := hM148
          refine wpF_callP hM150 (f := 18) (caps := #[]) (h := (by kernel_rfl : opAt _ _ _ _ _ = some (.call (.mk (.value (.func 18)) #[(.tmp 92)] #[25]), some 93))) (by kernel_rfl) (by kernel_rfl) (by kernel_rfl) (f18 _ _ hM150.inW (false) Ar_61c4_1 cr_61c4_1 ((rsN b false (k)).ks) (r144.up le147) none 0 ([] : List Str) (Rd.nil _ _) Ar_61c4_3 cr_61c4_3 ((rsN b false (k)).cs) r149 (by first | omega | (simp only [List.length_nil]; omega)) (by first | omega | (simp only [List.length_nil]; omega))) (fun v151 V152 w153 le154 hM155 hp156 => ?_)
          obtain rfl := hp156
          refine wpF_seg 3 (by kernel_rfl) ?_
          refine wpF_caseB 96 (!(decide ((checkM (false) ((rsN b false (k)).ks) ([] : List Str) ((rsN b false (k)).cs)) = (0)))) (by kernel_rfl) (by kernel_rfl) (fun h157 => ?_) (fun h157 => ?_)
          · -- ftLfft
            have h158 : decide ((checkM (false) ((rsN b false (k)).ks) ([] : List Str) ((rsN b false (k)).cs)) = (0)) = false := by rw [← Bool.not_not (decide _), h157]; rfl
            have p159 : ¬ ((checkM (false) ((rsN b false (k)).ks) ([] : List Str) ((rsN b false (k)).cs)) = (0)) := of_decide_eq_false h158
            refine wpF_seg 5 (by kernel_rfl) ?_
            refine wpF_end _ (by kernel_rfl) (then_n (hK133 _ _ ?_))
            refine wp_ct (by kernel_rfl) ?_
            refine wp_seq_k (fun K160 hK160 => ?_)
            refine wp_reg ?_
            refine wpF_seg 1 (by kernel_rfl) ?_
            refine wpF_store hM155 1 rfl (h := (by kernel_rfl : opAt _ _ _ _ _ = some (.store 25 (.tmp 2) (.tmp 102), none))) (off := 0) (by kernel_rfl) #[.bool (false), .slice none 0 0, .slice none 0 0, .slice none 0 0] (by kernel_rfl) (by kernel_rfl) (by kernel_rfl) (by kernel_rfl) (fun w162 hM161 => ?_)
            have hM163 : Step V w [] V152 _ ([.blk b17 (.cells #[.bool (false), .slice Ar_61c4_1 ((rsN b false (k)).ks).length cr_61c4_1, .slice none 0 0, .slice Ar_61c4_3 ((rsN b false (k)).cs).length cr_61c4_3] 25), .blk b2 (.cells #[.bool (false), .slice none 0 0, .slice none 0 0, .slice none 0 0] 25)]) := hM161
            refine wpF_seg 1 (by kernel_rfl) ?_
            refine wpF_end _ (by kernel_rfl) (then_n (hK160 _ _ ?_))
            refine wp_ret (then_r (?_))
            refine retN [.agg #[.bool (false), .slice none 0 0, .slice none 0 0, .slice none 0 0], .int .i64 (4)] (.tuple #[.agg #[.bool (false), .slice none 0 0, .slice none 0 0, .slice none 0 0], .int .i64 (4)]) Try.results24 (.cell (by kernel_rfl) (by kernel_rfl) hM163 1 rfl (by kernel_rfl) (.tmp (by kernel_rfl) (by kernel_rfl) .nil)) (by kernel_rfl) (hRet _ _ ⟨_, _, rfl, hM163.clear, ?_⟩)
            -- end ftLfft
            obtain ⟨e1, e2, e3, e4, e5⟩ := rd_no (rd_no4 (b := b) (leaf := false) (k := k) (by assumption) (by omega) (by first | assumption | (rw [rsN_leafc]; assumption) | (rw [rsN_innv]; assumption)))
            refine ⟨none, 0, none, 0, none, 0, ?_, ?_, ?_, ?_⟩
            · simp only [e1, e2, e3, e4, e5] <;> rfl
            · first | exact (Rd.nil _ _) | (exact Rd.eq (Rd.nil _ _) (by first | exact e3.symm | exact e4.symm | exact e5.symm))
            · first | exact (Rd.nil _ _) | (exact Rd.eq (Rd.nil _ _) (by first | exact e3.symm | exact e4.symm | exact e5.symm))
            · first | exact (Rd.nil _ _) | (exact Rd.eq (Rd.nil _ _) (by first | exact e3.symm | exact e4.symm | exact e5.symm))
          · -- ftLfff
            have h164 : decide ((checkM (false) ((rsN b false (k)).ks) ([] : List Str) ((rsN b false (k)).cs)) = (0)) = true := by rw [← Bool.not_not (decide _), h157]; rfl
            have p165 : ((checkM (false) ((rsN b false (k)).ks) ([] : List Str) ((rsN b false (k)).cs)) = (0)) := of_decide_eq_true h164
            refine gF hM155 (.load 25 (.tmp 4)) (some 97) (by kernel_rfl) (Y_load 0 rfl (off := 0) (by kernel_rfl) (.agg #[.bool (false), .slice Ar_61c4_1 ((rsN b false (k)).ks).length cr_61c4_1, .slice none 0 0, .slice Ar_61c4_3 ((rsN b false (k)).cs).length cr_61c4_3]) (by kernel_rfl)) ?_
            refine wpF_callP hM155 (f := 33) (caps := #[]) (h := (by kernel_rfl : opAt _ _ _ _ _ = some (.call (.mk (.value (.func 33)) #[(.tmp 97)] #[25]), some 98))) (by kernel_rfl) (by kernel_rfl) (by kernel_rfl) (f33 _ _ hM155.inW (false) Ar_61c4_1 cr_61c4_1 ((rsN b false (k)).ks) (r144.up (le147.trans le154)) none 0 ([] : List Str) (Rd.nil _ _) Ar_61c4_3 cr_61c4_3 ((rsN b false (k)).cs) (r149.up le154) (by exact check_stands (by assumption)) (by exact check_size (by assumption)) (by omega)) (fun v166 V167 w168 le169 hM170 hp171 => ?_)
            obtain ⟨rfl, x172⟩ := hp171
            have x172 : (pageM (false) ((rsN b false (k)).ks) ([] : List Str) ((rsN b false (k)).cs)).length = 1024 := x172
            refine wpF_seg 3 (by kernel_rfl) ?_
            refine wpF_end _ (by kernel_rfl) (then_n (hK133 _ _ ?_))
            refine wp_if (!(decide ((pageM (false) ((rsN b false (k)).ks) ([] : List Str) ((rsN b false (k)).cs)) = (b)))) (by kernel_rfl) (fun h173 => ?_) (fun h173 => ?_)
            · -- ftLffft
              have h174 : decide ((pageM (false) ((rsN b false (k)).ks) ([] : List Str) ((rsN b false (k)).cs)) = (b)) = false := by rw [← Bool.not_not (decide _), h173]; rfl
              have p175 : ¬ ((pageM (false) ((rsN b false (k)).ks) ([] : List Str) ((rsN b false (k)).cs)) = (b)) := of_decide_eq_false h174
              refine wp_seq_k (fun K176 hK176 => ?_)
              refine wp_reg ?_
              refine wpF_seg 1 (by kernel_rfl) ?_
              refine wpF_store hM170 1 rfl (h := (by kernel_rfl : opAt _ _ _ _ _ = some (.store 25 (.tmp 2) (.tmp 102), none))) (off := 0) (by kernel_rfl) #[.bool (false), .slice none 0 0, .slice none 0 0, .slice none 0 0] (by kernel_rfl) (by kernel_rfl) (by kernel_rfl) (by kernel_rfl) (fun w178 hM177 => ?_)
              have hM179 : Step V w [] V167 _ ([.blk b17 (.cells #[.bool (false), .slice Ar_61c4_1 ((rsN b false (k)).ks).length cr_61c4_1, .slice none 0 0, .slice Ar_61c4_3 ((rsN b false (k)).cs).length cr_61c4_3] 25), .blk b2 (.cells #[.bool (false), .slice none 0 0, .slice none 0 0, .slice none 0 0] 25)]) := hM177
              refine wpF_seg 1 (by kernel_rfl) ?_
              refine wpF_end _ (by kernel_rfl) (then_n (hK176 _ _ ?_))
              refine wp_ret (then_r (?_))
              refine retN [.agg #[.bool (false), .slice none 0 0, .slice none 0 0, .slice none 0 0], .int .i64 (4)] (.tuple #[.agg #[.bool (false), .slice none 0 0, .slice none 0 0, .slice none 0 0], .int .i64 (4)]) Try.results24 (.cell (by kernel_rfl) (by kernel_rfl) hM179 1 rfl (by kernel_rfl) (.tmp (by kernel_rfl) (by kernel_rfl) .nil)) (by kernel_rfl) (hRet _ _ ⟨_, _, rfl, hM179.clear, ?_⟩)
              -- end ftLffft
              have hrr := rd_ref (b := b) (leaf := false) (k := k) (by assumption) (by assumption) (by omega) (at_pos (by assumption)) (by first | assumption | (rw [rsN_leafc]; assumption) | (rw [rsN_innv]; assumption))
              rw [rsN_innv] at hrr
              rw [(by assumption : decide (pageM _ _ _ _ = b) = false)] at hrr
              obtain ⟨e1, e2, e3, e4, e5⟩ := rd_no hrr
              refine ⟨none, 0, none, 0, none, 0, ?_, ?_, ?_, ?_⟩
              · simp only [e1, e2, e3, e4, e5] <;> rfl
              · first | exact (Rd.nil _ _) | (exact Rd.eq (Rd.nil _ _) (by first | exact e3.symm | exact e4.symm | exact e5.symm))
              · first | exact (Rd.nil _ _) | (exact Rd.eq (Rd.nil _ _) (by first | exact e3.symm | exact e4.symm | exact e5.symm))
              · first | exact (Rd.nil _ _) | (exact Rd.eq (Rd.nil _ _) (by first | exact e3.symm | exact e4.symm | exact e5.symm))
            · -- ftLffff
              have h180 : decide ((pageM (false) ((rsN b false (k)).ks) ([] : List Str) ((rsN b false (k)).cs)) = (b)) = true := by rw [← Bool.not_not (decide _), h173]; rfl
              have p181 : ((pageM (false) ((rsN b false (k)).ks) ([] : List Str) ((rsN b false (k)).cs)) = (b)) := of_decide_eq_true h180
              refine wp_skip (then_n (hK132 _ _ ?_))
              refine wp_seq_k (fun K182 hK182 => ?_)
              refine wp_reg ?_
              refine gF hM170 (.load 25 (.tmp 4)) (some 103) (by kernel_rfl) (Y_load 0 rfl (off := 0) (by kernel_rfl) (.agg #[.bool (false), .slice Ar_61c4_1 ((rsN b false (k)).ks).length cr_61c4_1, .slice none 0 0, .slice Ar_61c4_3 ((rsN b false (k)).cs).length cr_61c4_3]) (by kernel_rfl)) ?_
              refine wpF_store hM170 1 rfl (h := (by kernel_rfl : opAt _ _ _ _ _ = some (.store 25 (.tmp 2) (.tmp 103), none))) (off := 0) (by kernel_rfl) #[.bool (false), .slice Ar_61c4_1 ((rsN b false (k)).ks).length cr_61c4_1, .slice none 0 0, .slice Ar_61c4_3 ((rsN b false (k)).cs).length cr_61c4_3] (by kernel_rfl) (by kernel_rfl) (by kernel_rfl) (by kernel_rfl) (fun w184 hM183 => ?_)
              have hM185 : Step V w [] V167 _ ([.blk b17 (.cells #[.bool (false), .slice Ar_61c4_1 ((rsN b false (k)).ks).length cr_61c4_1, .slice none 0 0, .slice Ar_61c4_3 ((rsN b false (k)).cs).length cr_61c4_3] 25), .blk b2 (.cells #[.bool (false), .slice Ar_61c4_1 ((rsN b false (k)).ks).length cr_61c4_1, .slice none 0 0, .slice Ar_61c4_3 ((rsN b false (k)).cs).length cr_61c4_3] 25)]) := hM183
              refine wpF_seg 1 (by kernel_rfl) ?_
              refine wpF_end _ (by kernel_rfl) (then_n (hK182 _ _ ?_))
              refine wp_ret ?_
              refine retN [.agg #[.bool (false), .slice Ar_61c4_1 ((rsN b false (k)).ks).length cr_61c4_1, .slice none 0 0, .slice Ar_61c4_3 ((rsN b false (k)).cs).length cr_61c4_3], .int .i64 (0)] (.tuple #[.agg #[.bool (false), .slice Ar_61c4_1 ((rsN b false (k)).ks).length cr_61c4_1, .slice none 0 0, .slice Ar_61c4_3 ((rsN b false (k)).cs).length cr_61c4_3], .int .i64 (0)]) Try.results24 (.cell (by kernel_rfl) (by kernel_rfl) hM185 1 rfl (by kernel_rfl) (.tmp (by kernel_rfl) (by kernel_rfl) .nil)) (by kernel_rfl) (hRet _ _ ⟨_, _, rfl, hM185.clear, ?_⟩)
              -- end ftLffff
              have hrr := rd_ref (b := b) (leaf := false) (k := k) (by assumption) (by assumption) (by omega) (at_pos (by assumption)) (by first | assumption | (rw [rsN_leafc]; assumption) | (rw [rsN_innv]; assumption))
              rw [rsN_innv] at hrr
              rw [(by assumption : decide (pageM _ _ _ _ = b) = true)] at hrr
              obtain ⟨e1, e2, e3, e4, e5⟩ := rd_yes2 (b := b) (leaf := false) (k := k) (by assumption) (by omega) hrr
              rw [rsN_innv] at e4
              refine ⟨Ar_61c4_1, cr_61c4_1, none, 0, Ar_61c4_3, cr_61c4_3, ?_, ?_, ?_, ?_⟩
              · simp only [e1, e2, e3, e4, e5] <;> rfl
              · first | exact (r144.up ((le147.trans le154).trans le169)) | (exact Rd.eq (r144.up ((le147.trans le154).trans le169)) (by first | exact e3.symm | exact e4.symm | exact e5.symm))
              · first | exact (Rd.nil _ _) | (exact Rd.eq (Rd.nil _ _) (by first | exact e3.symm | exact e4.symm | exact e5.symm))
              · first | exact (r149.up (le154.trans le169)) | (exact Rd.eq (r149.up (le154.trans le169)) (by first | exact e3.symm | exact e4.symm | exact e5.symm))
    · -- ff
      have h186 : decide ((((b.getD (0) 0).toNat : Int)) = (76)) = true := by rw [← Bool.not_not (decide _), h32]; rfl
      have p187 : ((((b.getD (0) 0).toNat : Int)) = (76)) := of_decide_eq_true h186
      refine wp_slot 6 (.int .i64 (3)) (.int .i64 ((bif okS b 1 true 2 then ((atS b 1 true 2 : Nat) : Int) else -1))) (by kernel_rfl) (by exact congrArg (Value.int .i64) (start_at (by omega))) ?_
      refine wp_slot 5 (.int .i64 (((beA (b) (1) (2) : Nat) : Int))) (.int .i64 (((cntR b : Nat) : Int))) (by kernel_rfl) (by exact congrArg (Value.int .i64) (start_cnt (by omega))) ?_
      have hM188 := hM28
      rw [h186] at hM188
      have hM189 : Step V w [] V25 _ ([.blk b17 (.cells #[.bool (true), .slice none 0 0, .slice none 0 0, .slice none 0 0] 25), .blk b2 (.cells #[.bool (false), .slice none 0 0, .slice none 0 0, .slice none 0 0] 25)]) := hM188
      have hq := atS_le b 1 true 2 (by omega)
      have hcnt : cntR b < 4294967296 := numS_4 b 1 true 2 (by omega)
      refine wp_skip (then_n (hK30 _ _ ?_))
      refine wp_seq_k (fun K190 hK190 => ?_)
      refine wp_seq_k (fun K191 hK191 => ?_)
      refine wp_reg ?_
      refine wpF_seg 1 (by kernel_rfl) ?_
      refine wpF_end _ (by kernel_rfl) (then_n (hK191 _ _ ?_))
      refine wp_block ?_
      have hM193 := hM189.nilrow strK 9
      have hM194 : Step V w [] V25 _ ([.row strK 9 none 0 (([] : List Str)), .blk b17 (.cells #[.bool (true), .slice none 0 0, .slice none 0 0, .slice none 0 0] 25), .blk b2 (.cells #[.bool (false), .slice none 0 0, .slice none 0 0, .slice none 0 0] 25)]) := hM193
      have hM195 := hM194.nilrow strK 9
      have hM196 : Step V w [] V25 _ ([.row strK 9 none 0 (([] : List Str)), .row strK 9 none 0 (([] : List Str)), .blk b17 (.cells #[.bool (true), .slice none (([] : List Str)).length 0, .slice none 0 0, .slice none 0 0] 25), .blk b2 (.cells #[.bool (false), .slice none 0 0, .slice none 0 0, .slice none 0 0] 25)]) := hM195
      refine wp_base [(0, bs (b)), (2, .pointer (some ⟨b2, 0, none⟩)), (3, .int .i64 (0)), (4, .pointer (some ⟨b17, 0, none⟩)), (5, .int .i64 (((cntR b : Nat) : Int))), (6, .int .i64 ((bif (rsN b true (0)).ok then (((rsN b true (0)).ad : Nat) : Int) else -1))), (9, .int .i64 ((0 : Int)))] (by kernel_rfl) (fun g197 => ?_)
      refine wp_loopX (fun (x_ : Nat) a_ w_ => ∃ (g : Nat → Value) (V_ : VT), ∃ (Arc4_1 : Option Addr) (crc4_1 : Nat), ∃ (Arc4_2 : Option Addr) (crc4_2 : Nat), a_ = env 104 [(0, bs (b)), (2, .pointer (some ⟨b2, 0, none⟩)), (3, .int .i64 (0)), (4, .pointer (some ⟨b17, 0, none⟩)), (5, .int .i64 (((cntR b : Nat) : Int))), (6, .int .i64 ((bif (rsN b true (x_)).ok then (((rsN b true (x_)).ad : Nat) : Int) else -1))), (9, .int .i64 ((x_ : Int)))] g ∧ Step V w [] V_ w_ [.row strK 9 Arc4_2 crc4_2 ((rsN b true (x_)).vs), .row strK 9 Arc4_1 crc4_1 ((rsN b true (x_)).ks), .blk b17 (.cells #[.bool (true), .slice Arc4_1 ((rsN b true (x_)).ks).length crc4_1, .slice Arc4_2 ((rsN b true (x_)).vs).length crc4_2, .slice none 0 0] 25), .blk b2 (.cells #[.bool (false), .slice none 0 0, .slice none 0 0, .slice none 0 0] 25)] ∧ VT.le V25 V_ ∧ (x_ ≤ cntR b)) (fun (x_ : Nat) => cntR b - x_) (0) ⟨g197, V25, none, 0, none, 0, rfl, hM196, VT.le.refl _, by omega⟩ ?_
      rintro k a_ w199 ⟨g198, Vl192, Ar_202c4_1, cr_202c4_1, Ar_202c4_2, cr_202c4_2, rfl, hM200, le201, hi202_0⟩ K202 hK202
      have hin := rsN_inv (b := b) true (by omega) k
      simp only [cond_true, cond_false] at hin
      have ha1 := atP_le b (rsN b true k).ad (rsN b true k).ok 1 (by omega)
      refine wp_seq_k (fun K203 hK203 => ?_)
      refine wp_seq_k (fun K204 hK204 => ?_)
      refine wp_reg ?_
      refine wpF_seg 4 (by kernel_rfl) ?_
      refine wpF_caseB 42 (decide (((k : Int)) < (((cntR b : Nat) : Int)))) (by kernel_rfl) (by kernel_rfl) (fun h205 => ?_) (fun h205 => ?_)
      · -- ffLt
        have p206 : (((k : Int)) < (((cntR b : Nat) : Int))) := of_decide_eq_true h205
        refine wpF_seg 3 (by kernel_rfl) ?_
        refine wpF_end _ (by kernel_rfl) (then_n (hK204 _ _ ?_))
        refine wp_if (decide ((0) ≤ ((bif (rsN b true (k)).ok then (((rsN b true (k)).ad : Nat) : Int) else -1)))) (by kernel_rfl) (fun h207 => ?_) (fun h207 => ?_)
        · -- ffLtt
          have p208 : ((0) ≤ ((bif (rsN b true (k)).ok then (((rsN b true (k)).ad : Nat) : Int) else -1))) := of_decide_eq_true h207
          have h5_ := hin.2.2.2.2 (at_ge (by assumption))
          refine wp_skip (then_n (hK203 _ _ ?_))
          refine wp_seq_k (fun K209 hK209 => ?_)
          refine wp_block ?_
          refine wp_seq_k (fun K210 hK210 => ?_)
          refine wp_reg ?_
          refine wpF_seg 2 (by kernel_rfl) ?_
          refine wpF_callP hM200 (f := 48) (caps := #[]) (h := (by kernel_rfl : opAt _ _ _ _ _ = some (.call (.mk (.value (.func 48)) #[(.tmp 49), (.tmp 50), (.const (.int .i64 1))] #[9, 3, 3]), some 51))) (by kernel_rfl) (by kernel_rfl) (by kernel_rfl) (f48 _ _ hM200.inW (b) (hb) ((rsN b true (k)).ad) ((rsN b true (k)).ok) (1) (by omega) (by omega) (by omega)) (fun v211 V212 w213 le214 hM215 hp216 => ?_)
          obtain ⟨rfl, x217⟩ := hp216
          have x217 : (strP (b) ((rsN b true (k)).ad) ((rsN b true (k)).ok) (1)).length ≤ 4096 := x217
          refine wpF_seg 5 (by kernel_rfl) ?_
          refine wpF_end _ (by kernel_rfl) (then_n (hK210 _ _ ?_))
          refine wp_seq_k (fun K218 hK218 => ?_)
          refine wp_reg ?_
          refine wpF_seg 1 (by kernel_rfl) ?_
          refine gF hM215 (.load 22 (.tmp 54)) (some 55) (by kernel_rfl) (Y_load 2 rfl (off := 1) (by kernel_rfl) (.slice Ar_202c4_1 ((rsN b true (k)).ks).length cr_202c4_1) (by kernel_rfl)) ?_
          refine wpF_seg 1 (by kernel_rfl) ?_
          refine wpF_litR strK hM215 #[bs (strP (b) ((rsN b true (k)).ad) ((rsN b true (k)).ok) (1))] (h := (by kernel_rfl : opAt _ _ _ _ _ = some (.buildSlice 22 1 #[(0, (.tmp 56))], some 57))) (e := 9) (by kernel_rfl) (([strP (b) ((rsN b true (k)).ad) ((rsN b true (k)).ok) (1)] : List Str)) (Reps.one_str (by first | decide | (simp only [maxL, List.length_append, List.length_cons, List.length_nil]; omega))) rfl (by simp [maxL]) (fun A219 c220 V223 w221 le224 hM222 r225 => ?_)
          refine wpF_append (by_ := 16) hM222 1 rfl (h := (by kernel_rfl : opAt _ _ _ _ _ = some (.call (.mk (.builtin .append) #[(.tmp 55), (.tmp 57)] #[22, 22]), some 58))) (by kernel_rfl) (by kernel_rfl) (by kernel_rfl) (by kernel_rfl) (by kernel_rfl) (by kernel_rfl) (by kernel_rfl) (Src.rd r225) (by first | omega | (simp only [List.length_append, List.length_cons, List.length_nil]; omega)) (fun A226 c227 w228 hM229 => ?_)
          have hM230 : Step V w [] V223 _ ([.row strK 9 A226 c227 ((rsN b true (k)).ks ++ ([strP (b) ((rsN b true (k)).ad) ((rsN b true (k)).ok) (1)] : List Str)), .row strK 9 Ar_202c4_2 cr_202c4_2 ((rsN b true (k)).vs), .blk b17 (.cells #[.bool (true), .slice Ar_202c4_1 ((rsN b true (k)).ks).length cr_202c4_1, .slice Ar_202c4_2 ((rsN b true (k)).vs).length cr_202c4_2, .slice none 0 0] 25), .blk b2 (.cells #[.bool (false), .slice none 0 0, .slice none 0 0, .slice none 0 0] 25)]) := hM229
          refine wpF_seg 2 (by kernel_rfl) ?_
          refine wpF_store hM230 2 rfl (h := (by kernel_rfl : opAt _ _ _ _ _ = some (.store 22 (.tmp 60) (.tmp 58), none))) (off := 1) (by kernel_rfl) #[.slice A226 ((rsN b true (k)).ks ++ ([strP (b) ((rsN b true (k)).ad) ((rsN b true (k)).ok) (1)] : List Str)).length c227] (by kernel_rfl) (by kernel_rfl) (by kernel_rfl) (by kernel_rfl) (fun w232 hM231 => ?_)
          have hM233 : Step V w [] V223 _ ([.row strK 9 A226 c227 ((rsN b true (k)).ks ++ ([strP (b) ((rsN b true (k)).ad) ((rsN b true (k)).ok) (1)] : List Str)), .row strK 9 Ar_202c4_2 cr_202c4_2 ((rsN b true (k)).vs), .blk b17 (.cells #[.bool (true), .slice A226 ((rsN b true (k)).ks ++ ([strP (b) ((rsN b true (k)).ad) ((rsN b true (k)).ok) (1)] : List Str)).length c227, .slice Ar_202c4_2 ((rsN b true (k)).vs).length cr_202c4_2, .slice none 0 0] 25), .blk b2 (.cells #[.bool (false), .slice none 0 0, .slice none 0 0, .slice none 0 0] 25)]) := hM231
          refine wpF_seg 1 (by kernel_rfl) ?_
          refine wpF_end _ (by kernel_rfl) (then_n (hK218 _ _ ?_))
          refine wp_seq_k (fun K234 hK234 => ?_)
          refine wp_reg ?_
          refine wpF_seg 1 (by kernel_rfl) ?_
          refine gF hM233 (.load 4 (.tmp 61)) (some 62) (by kernel_rfl) (Y_load 2 rfl (off := 0) (by kernel_rfl) (.bool (true)) (by kernel_rfl)) ?_
          refine wpF_end _ (by kernel_rfl) (then_n (hK234 _ _ ?_))
          refine wp_ct (by kernel_rfl) ?_
          refine wp_seq_k (fun K235 hK235 => ?_)
          refine wp_reg ?_
          refine wpF_seg 2 (by kernel_rfl) ?_
          refine wpF_callP hM233 (f := 48) (caps := #[]) (h := (by kernel_rfl : opAt _ _ _ _ _ = some (.call (.mk (.value (.func 48)) #[(.tmp 64), (.tmp 65), (.const (.int .i64 2))] #[9, 3, 3]), some 66))) (by kernel_rfl) (by kernel_rfl) (by kernel_rfl) (f48 _ _ hM233.inW (b) (hb) (atP (b) ((rsN b true (k)).ad) ((rsN b true (k)).ok) (1)) (okP (b) ((rsN b true (k)).ad) ((rsN b true (k)).ok) (1)) (2) (by omega) (by omega) (by omega)) (fun v236 V237 w238 le239 hM240 hp241 => ?_)
          obtain ⟨rfl, x242⟩ := hp241
          have x242 : (strP (b) (atP (b) ((rsN b true (k)).ad) ((rsN b true (k)).ok) (1)) (okP (b) ((rsN b true (k)).ad) ((rsN b true (k)).ok) (1)) (2)).length ≤ 4096 := x242
          refine wpF_seg 5 (by kernel_rfl) ?_
          refine wpF_end _ (by kernel_rfl) (then_n (hK235 _ _ ?_))
          refine wp_reg ?_
          refine wpF_seg 1 (by kernel_rfl) ?_
          refine gF hM240 (.load 22 (.tmp 69)) (some 70) (by kernel_rfl) (Y_load 2 rfl (off := 2) (by kernel_rfl) (.slice Ar_202c4_2 ((rsN b true (k)).vs).length cr_202c4_2) (by kernel_rfl)) ?_
          refine wpF_seg 1 (by kernel_rfl) ?_
          refine wpF_litR strK hM240 #[bs (strP (b) (atP (b) ((rsN b true (k)).ad) ((rsN b true (k)).ok) (1)) (okP (b) ((rsN b true (k)).ad) ((rsN b true (k)).ok) (1)) (2))] (h := (by kernel_rfl : opAt _ _ _ _ _ = some (.buildSlice 22 1 #[(0, (.tmp 71))], some 72))) (e := 9) (by kernel_rfl) (([strP (b) (atP (b) ((rsN b true (k)).ad) ((rsN b true (k)).ok) (1)) (okP (b) ((rsN b true (k)).ad) ((rsN b true (k)).ok) (1)) (2)] : List Str)) (Reps.one_str (by first | decide | (simp only [maxL, List.length_append, List.length_cons, List.length_nil]; omega))) rfl (by simp [maxL]) (fun A243 c244 V247 w245 le248 hM246 r249 => ?_)
          refine wpF_append (by_ := 16) hM246 1 rfl (h := (by kernel_rfl : opAt _ _ _ _ _ = some (.call (.mk (.builtin .append) #[(.tmp 70), (.tmp 72)] #[22, 22]), some 73))) (by kernel_rfl) (by kernel_rfl) (by kernel_rfl) (by kernel_rfl) (by kernel_rfl) (by kernel_rfl) (by kernel_rfl) (Src.rd r249) (by first | omega | (simp only [List.length_append, List.length_cons, List.length_nil]; omega)) (fun A250 c251 w252 hM253 => ?_)
          have hM254 : Step V w [] V247 _ ([.row strK 9 A250 c251 ((rsN b true (k)).vs ++ ([strP (b) (atP (b) ((rsN b true (k)).ad) ((rsN b true (k)).ok) (1)) (okP (b) ((rsN b true (k)).ad) ((rsN b true (k)).ok) (1)) (2)] : List Str)), .row strK 9 A226 c227 ((rsN b true (k)).ks ++ ([strP (b) ((rsN b true (k)).ad) ((rsN b true (k)).ok) (1)] : List Str)), .blk b17 (.cells #[.bool (true), .slice A226 ((rsN b true (k)).ks ++ ([strP (b) ((rsN b true (k)).ad) ((rsN b true (k)).ok) (1)] : List Str)).length c227, .slice Ar_202c4_2 ((rsN b true (k)).vs).length cr_202c4_2, .slice none 0 0] 25), .blk b2 (.cells #[.bool (false), .slice none 0 0, .slice none 0 0, .slice none 0 0] 25)]) := hM253
          refine wpF_seg 2 (by kernel_rfl) ?_
          refine wpF_store hM254 2 rfl (h := (by kernel_rfl : opAt _ _ _ _ _ = some (.store 22 (.tmp 75) (.tmp 73), none))) (off := 2) (by kernel_rfl) #[.slice A250 ((rsN b true (k)).vs ++ ([strP (b) (atP (b) ((rsN b true (k)).ad) ((rsN b true (k)).ok) (1)) (okP (b) ((rsN b true (k)).ad) ((rsN b true (k)).ok) (1)) (2)] : List Str)).length c251] (by kernel_rfl) (by kernel_rfl) (by kernel_rfl) (by kernel_rfl) (fun w256 hM255 => ?_)
          have hM257 : Step V w [] V247 _ ([.row strK 9 A250 c251 ((rsN b true (k)).vs ++ ([strP (b) (atP (b) ((rsN b true (k)).ad) ((rsN b true (k)).ok) (1)) (okP (b) ((rsN b true (k)).ad) ((rsN b true (k)).ok) (1)) (2)] : List Str)), .row strK 9 A226 c227 ((rsN b true (k)).ks ++ ([strP (b) ((rsN b true (k)).ad) ((rsN b true (k)).ok) (1)] : List Str)), .blk b17 (.cells #[.bool (true), .slice A226 ((rsN b true (k)).ks ++ ([strP (b) ((rsN b true (k)).ad) ((rsN b true (k)).ok) (1)] : List Str)).length c227, .slice A250 ((rsN b true (k)).vs ++ ([strP (b) (atP (b) ((rsN b true (k)).ad) ((rsN b true (k)).ok) (1)) (okP (b) ((rsN b true (k)).ad) ((rsN b true (k)).ok) (1)) (2)] : List Str)).length c251, .slice none 0 0] 25), .blk b2 (.cells #[.bool (false), .slice none 0 0, .slice none 0 0, .slice none 0 0] 25)]) := hM255
          refine wpF_seg 1 (by kernel_rfl) ?_
          refine wpF_end _ (by kernel_rfl) (blk_n (then_n (hK209 _ _ ?_)))
          refine wp_reg ?_
          refine wpF_seg 1 (by kernel_rfl) ?_
          refine gF hM257 (.binOp .add 3 (.tmp 46) (.const (.int .i64 1)) 3) (some 47) (by kernel_rfl) (Y_add .i64 ((k : Int)) (1) ((k : Int) + 1) (by kernel_rfl) (by kernel_rfl) (wrap64_ok _ (by omega))) ?_
          refine wpF_seg 1 (by kernel_rfl) ?_
          refine wpF_base [(0, bs (b)), (2, .pointer (some ⟨b2, 0, none⟩)), (3, .int .i64 (0)), (4, .pointer (some ⟨b17, 0, none⟩)), (5, .int .i64 (((cntR b : Nat) : Int))), (6, .int .i64 ((bif (rsN b true (k + 1)).ok then (((rsN b true (k + 1)).ad : Nat) : Int) else -1))), (9, .int .i64 ((k + 1 : Int)))] (by kernel_rfl) (fun g258 => ?_)
          refine wpF_end _ (by kernel_rfl) (then_n (hK202 _ _ (k + 1) (by omega) ?_))
          refine ⟨g258, V247, A226, c227, A250, c251, rfl, hM257, ((((le201.trans le214).trans le224).trans le239).trans le248), ?_⟩
          · -- ffLtt inv 0
            omega
        · -- ffLtf
          have p259 : ¬ ((0) ≤ ((bif (rsN b true (k)).ok then (((rsN b true (k)).ad : Nat) : Int) else -1))) := of_decide_eq_false h207
          refine wp_exit (then_x (then_x (blk_hit (then_n (hK190 _ _ ?_)))))
          refine wp_seq_k (fun K260 hK260 => ?_)
          refine wp_seq_k (fun K261 hK261 => ?_)
          refine wp_reg ?_
          refine wpF_seg 3 (by kernel_rfl) ?_
          refine wpF_caseB 91 (decide (((bif (rsN b true (k)).ok then (((rsN b true (k)).ad : Nat) : Int) else -1)) < (0))) (by kernel_rfl) (by kernel_rfl) (fun h262 => ?_) (fun h262 => ?_)
          · -- ffLtft
            have p263 : (((bif (rsN b true (k)).ok then (((rsN b true (k)).ad : Nat) : Int) else -1)) < (0)) := of_decide_eq_true h262
            refine wpF_seg 10 (by kernel_rfl) ?_
            refine wpF_end _ (by kernel_rfl) (then_n (hK261 _ _ ?_))
            refine wp_ct (by kernel_rfl) ?_
            refine wp_seq_k (fun K264 hK264 => ?_)
            refine wp_reg ?_
            refine wpF_seg 1 (by kernel_rfl) ?_
            refine wpF_store hM200 3 rfl (h := (by kernel_rfl : opAt _ _ _ _ _ = some (.store 25 (.tmp 2) (.tmp 102), none))) (off := 0) (by kernel_rfl) #[.bool (false), .slice none 0 0, .slice none 0 0, .slice none 0 0] (by kernel_rfl) (by kernel_rfl) (by kernel_rfl) (by kernel_rfl) (fun w266 hM265 => ?_)
            have hM267 : Step V w [] Vl192 _ ([.row strK 9 Ar_202c4_2 cr_202c4_2 ((rsN b true (k)).vs), .row strK 9 Ar_202c4_1 cr_202c4_1 ((rsN b true (k)).ks), .blk b17 (.cells #[.bool (true), .slice Ar_202c4_1 ((rsN b true (k)).ks).length cr_202c4_1, .slice Ar_202c4_2 ((rsN b true (k)).vs).length cr_202c4_2, .slice none 0 0] 25), .blk b2 (.cells #[.bool (false), .slice none 0 0, .slice none 0 0, .slice none 0 0] 25)]) := hM265
            refine wpF_seg 1 (by kernel_rfl) ?_
            refine wpF_end _ (by kernel_rfl) (then_n (hK264 _ _ ?_))
            refine wp_ret (then_r (?_))
            refine retN [.agg #[.bool (false), .slice none 0 0, .slice none 0 0, .slice none 0 0], .int .i64 (4)] (.tuple #[.agg #[.bool (false), .slice none 0 0, .slice none 0 0, .slice none 0 0], .int .i64 (4)]) Try.results24 (.cell (by kernel_rfl) (by kernel_rfl) hM267 3 rfl (by kernel_rfl) (.tmp (by kernel_rfl) (by kernel_rfl) .nil)) (by kernel_rfl) (hRet _ _ ⟨_, _, rfl, hM267.clear, ?_⟩)
            -- end ffLtft
            obtain ⟨e1, e2, e3, e4, e5⟩ := rd_no (rd_no3 (b := b) (leaf := true) (k := k) (by assumption) (by omega) (at_neg (by assumption)))
            refine ⟨none, 0, none, 0, none, 0, ?_, ?_, ?_, ?_⟩
            · simp only [e1, e2, e3, e4, e5] <;> rfl
            · first | exact (Rd.nil _ _) | (exact Rd.eq (Rd.nil _ _) (by first | exact e3.symm | exact e4.symm | exact e5.symm))
            · first | exact (Rd.nil _ _) | (exact Rd.eq (Rd.nil _ _) (by first | exact e3.symm | exact e4.symm | exact e5.symm))
            · first | exact (Rd.nil _ _) | (exact Rd.eq (Rd.nil _ _) (by first | exact e3.symm | exact e4.symm | exact e5.symm))
          · -- ffLtff
            have p268 : ¬ (((bif (rsN b true (k)).ok then (((rsN b true (k)).ad : Nat) : Int) else -1)) < (0)) := of_decide_eq_false h262
            exfalso; omega
      · -- ffLf
        have p269 : ¬ (((k : Int)) < (((cntR b : Nat) : Int))) := of_decide_eq_false h205
        refine wpF_seg 3 (by kernel_rfl) ?_
        refine wpF_end _ (by kernel_rfl) (then_n (hK204 _ _ ?_))
        refine wp_cf (by kernel_rfl) ?_
        refine wp_exit (then_x (then_x (blk_hit (then_n (hK190 _ _ ?_)))))
        refine wp_seq_k (fun K270 hK270 => ?_)
        refine wp_seq_k (fun K271 hK271 => ?_)
        refine wp_reg ?_
        refine wpF_seg 3 (by kernel_rfl) ?_
        refine wpF_caseB 91 (decide (((bif (rsN b true (k)).ok then (((rsN b true (k)).ad : Nat) : Int) else -1)) < (0))) (by kernel_rfl) (by kernel_rfl) (fun h272 => ?_) (fun h272 => ?_)
        · -- ffLft
          have p273 : (((bif (rsN b true (k)).ok then (((rsN b true (k)).ad : Nat) : Int) else -1)) < (0)) := of_decide_eq_true h272
          refine wpF_seg 10 (by kernel_rfl) ?_
          refine wpF_end _ (by kernel_rfl) (then_n (hK271 _ _ ?_))
          refine wp_ct (by kernel_rfl) ?_
          refine wp_seq_k (fun K274 hK274 => ?_)
          refine wp_reg ?_
          refine wpF_seg 1 (by kernel_rfl) ?_
          refine wpF_store hM200 3 rfl (h := (by kernel_rfl : opAt _ _ _ _ _ = some (.store 25 (.tmp 2) (.tmp 102), none))) (off := 0) (by kernel_rfl) #[.bool (false), .slice none 0 0, .slice none 0 0, .slice none 0 0] (by kernel_rfl) (by kernel_rfl) (by kernel_rfl) (by kernel_rfl) (fun w276 hM275 => ?_)
          have hM277 : Step V w [] Vl192 _ ([.row strK 9 Ar_202c4_2 cr_202c4_2 ((rsN b true (k)).vs), .row strK 9 Ar_202c4_1 cr_202c4_1 ((rsN b true (k)).ks), .blk b17 (.cells #[.bool (true), .slice Ar_202c4_1 ((rsN b true (k)).ks).length cr_202c4_1, .slice Ar_202c4_2 ((rsN b true (k)).vs).length cr_202c4_2, .slice none 0 0] 25), .blk b2 (.cells #[.bool (false), .slice none 0 0, .slice none 0 0, .slice none 0 0] 25)]) := hM275
          refine wpF_seg 1 (by kernel_rfl) ?_
          refine wpF_end _ (by kernel_rfl) (then_n (hK274 _ _ ?_))
          refine wp_ret (then_r (?_))
          refine retN [.agg #[.bool (false), .slice none 0 0, .slice none 0 0, .slice none 0 0], .int .i64 (4)] (.tuple #[.agg #[.bool (false), .slice none 0 0, .slice none 0 0, .slice none 0 0], .int .i64 (4)]) Try.results24 (.cell (by kernel_rfl) (by kernel_rfl) hM277 3 rfl (by kernel_rfl) (.tmp (by kernel_rfl) (by kernel_rfl) .nil)) (by kernel_rfl) (hRet _ _ ⟨_, _, rfl, hM277.clear, ?_⟩)
          -- end ffLft
          obtain ⟨e1, e2, e3, e4, e5⟩ := rd_no (rd_no3 (b := b) (leaf := true) (k := k) (by assumption) (by omega) (at_neg (by assumption)))
          refine ⟨none, 0, none, 0, none, 0, ?_, ?_, ?_, ?_⟩
          · simp only [e1, e2, e3, e4, e5] <;> rfl
          · first | exact (Rd.nil _ _) | (exact Rd.eq (Rd.nil _ _) (by first | exact e3.symm | exact e4.symm | exact e5.symm))
          · first | exact (Rd.nil _ _) | (exact Rd.eq (Rd.nil _ _) (by first | exact e3.symm | exact e4.symm | exact e5.symm))
          · first | exact (Rd.nil _ _) | (exact Rd.eq (Rd.nil _ _) (by first | exact e3.symm | exact e4.symm | exact e5.symm))
        · -- ffLff
          have p278 : ¬ (((bif (rsN b true (k)).ok then (((rsN b true (k)).ad : Nat) : Int) else -1)) < (0)) := of_decide_eq_false h272
          have h5_ := hin.2.2.2.2 (at_pos (by assumption))
          refine gF hM200 (.load 25 (.tmp 4)) (some 92) (by kernel_rfl) (Y_load 2 rfl (off := 0) (by kernel_rfl) (.agg #[.bool (true), .slice Ar_202c4_1 ((rsN b true (k)).ks).length cr_202c4_1, .slice Ar_202c4_2 ((rsN b true (k)).vs).length cr_202c4_2, .slice none 0 0]) (by kernel_rfl)) ?_
          obtain ⟨V279, le280, hM281, r282⟩ := hM200.settleRow 1 rfl
          have hM283 : Step V w [] V279 _ ([.row strK 9 Ar_202c4_2 cr_202c4_2 ((rsN b true (k)).vs), .blk b17 (.cells #[.bool (true), .slice Ar_202c4_1 ((rsN b true (k)).ks).length cr_202c4_1, .slice Ar_202c4_2 ((rsN b true (k)).vs).length cr_202c4_2, .slice none 0 0] 25), .blk b2 (.cells #[.bool (false), .slice none 0 0, .slice none 0 0, .slice none 0 0] 25)]) := hM281
          obtain ⟨V284, le285, hM286, r287⟩ := hM283.settleRow 0 rfl
          have hM288 : Step V w [] V284 _ ([.blk b17 (.cells #[.bool (true), .slice Ar_202c4_1 ((rsN b true (k)).ks).length cr_202c4_1, .slice Ar_202c4_2 ((rsN b true (k)).vs).length cr_202c4_2, .slice none 0 0] 25), .blk b2 (.cells #[.bool (false), .slice none 0 0, .slice none 0 0, .slice none 0 0] 25)]) := hM286
          refine wpF_callP hM288 (f := 18) (caps := #[]) (h := (by kernel_rfl : opAt _ _ _ _ _ = some (.call (.mk (.value (.func 18)) #[(.tmp 92)] #[25]), some 93))) (by kernel_rfl) (by kernel_rfl) (by kernel_rfl) (f18 _ _ hM288.inW (true) Ar_202c4_1 cr_202c4_1 ((rsN b true (k)).ks) (r282.up le285) Ar_202c4_2 cr_202c4_2 ((rsN b true (k)).vs) r287 none 0 ([] : List Int) (Rd.nil _ _) (by first | omega | (simp only [List.length_nil]; omega)) (by first | omega | (simp only [List.length_nil]; omega))) (fun v289 V290 w291 le292 hM293 hp294 => ?_)
          obtain rfl := hp294
          refine wpF_seg 3 (by kernel_rfl) ?_
          refine wpF_caseB 96 (!(decide ((checkM (true) ((rsN b true (k)).ks) ((rsN b true (k)).vs) ([] : List Int)) = (0)))) (by kernel_rfl) (by kernel_rfl) (fun h295 => ?_) (fun h295 => ?_)
          · -- ffLfft
            have h296 : decide ((checkM (true) ((rsN b true (k)).ks) ((rsN b true (k)).vs) ([] : List Int)) = (0)) = false := by rw [← Bool.not_not (decide _), h295]; rfl
            have p297 : ¬ ((checkM (true) ((rsN b true (k)).ks) ((rsN b true (k)).vs) ([] : List Int)) = (0)) := of_decide_eq_false h296
            refine wpF_seg 5 (by kernel_rfl) ?_
            refine wpF_end _ (by kernel_rfl) (then_n (hK271 _ _ ?_))
            refine wp_ct (by kernel_rfl) ?_
            refine wp_seq_k (fun K298 hK298 => ?_)
            refine wp_reg ?_
            refine wpF_seg 1 (by kernel_rfl) ?_
            refine wpF_store hM293 1 rfl (h := (by kernel_rfl : opAt _ _ _ _ _ = some (.store 25 (.tmp 2) (.tmp 102), none))) (off := 0) (by kernel_rfl) #[.bool (false), .slice none 0 0, .slice none 0 0, .slice none 0 0] (by kernel_rfl) (by kernel_rfl) (by kernel_rfl) (by kernel_rfl) (fun w300 hM299 => ?_)
            have hM301 : Step V w [] V290 _ ([.blk b17 (.cells #[.bool (true), .slice Ar_202c4_1 ((rsN b true (k)).ks).length cr_202c4_1, .slice Ar_202c4_2 ((rsN b true (k)).vs).length cr_202c4_2, .slice none 0 0] 25), .blk b2 (.cells #[.bool (false), .slice none 0 0, .slice none 0 0, .slice none 0 0] 25)]) := hM299
            refine wpF_seg 1 (by kernel_rfl) ?_
            refine wpF_end _ (by kernel_rfl) (then_n (hK298 _ _ ?_))
            refine wp_ret (then_r (?_))
            refine retN [.agg #[.bool (false), .slice none 0 0, .slice none 0 0, .slice none 0 0], .int .i64 (4)] (.tuple #[.agg #[.bool (false), .slice none 0 0, .slice none 0 0, .slice none 0 0], .int .i64 (4)]) Try.results24 (.cell (by kernel_rfl) (by kernel_rfl) hM301 1 rfl (by kernel_rfl) (.tmp (by kernel_rfl) (by kernel_rfl) .nil)) (by kernel_rfl) (hRet _ _ ⟨_, _, rfl, hM301.clear, ?_⟩)
            -- end ffLfft
            obtain ⟨e1, e2, e3, e4, e5⟩ := rd_no (rd_no4 (b := b) (leaf := true) (k := k) (by assumption) (by omega) (by first | assumption | (rw [rsN_leafc]; assumption) | (rw [rsN_innv]; assumption)))
            refine ⟨none, 0, none, 0, none, 0, ?_, ?_, ?_, ?_⟩
            · simp only [e1, e2, e3, e4, e5] <;> rfl
            · first | exact (Rd.nil _ _) | (exact Rd.eq (Rd.nil _ _) (by first | exact e3.symm | exact e4.symm | exact e5.symm))
            · first | exact (Rd.nil _ _) | (exact Rd.eq (Rd.nil _ _) (by first | exact e3.symm | exact e4.symm | exact e5.symm))
            · first | exact (Rd.nil _ _) | (exact Rd.eq (Rd.nil _ _) (by first | exact e3.symm | exact e4.symm | exact e5.symm))
          · -- ffLfff
            have h302 : decide ((checkM (true) ((rsN b true (k)).ks) ((rsN b true (k)).vs) ([] : List Int)) = (0)) = true := by rw [← Bool.not_not (decide _), h295]; rfl
            have p303 : ((checkM (true) ((rsN b true (k)).ks) ((rsN b true (k)).vs) ([] : List Int)) = (0)) := of_decide_eq_true h302
            refine gF hM293 (.load 25 (.tmp 4)) (some 97) (by kernel_rfl) (Y_load 0 rfl (off := 0) (by kernel_rfl) (.agg #[.bool (true), .slice Ar_202c4_1 ((rsN b true (k)).ks).length cr_202c4_1, .slice Ar_202c4_2 ((rsN b true (k)).vs).length cr_202c4_2, .slice none 0 0]) (by kernel_rfl)) ?_
            refine wpF_callP hM293 (f := 33) (caps := #[]) (h := (by kernel_rfl : opAt _ _ _ _ _ = some (.call (.mk (.value (.func 33)) #[(.tmp 97)] #[25]), some 98))) (by kernel_rfl) (by kernel_rfl) (by kernel_rfl) (f33 _ _ hM293.inW (true) Ar_202c4_1 cr_202c4_1 ((rsN b true (k)).ks) (r282.up (le285.trans le292)) Ar_202c4_2 cr_202c4_2 ((rsN b true (k)).vs) (r287.up le292) none 0 ([] : List Int) (Rd.nil _ _) (by exact check_stands (by assumption)) (by exact check_size (by assumption)) (by omega)) (fun v304 V305 w306 le307 hM308 hp309 => ?_)
            obtain ⟨rfl, x310⟩ := hp309
            have x310 : (pageM (true) ((rsN b true (k)).ks) ((rsN b true (k)).vs) ([] : List Int)).length = 1024 := x310
            refine wpF_seg 3 (by kernel_rfl) ?_
            refine wpF_end _ (by kernel_rfl) (then_n (hK271 _ _ ?_))
            refine wp_if (!(decide ((pageM (true) ((rsN b true (k)).ks) ((rsN b true (k)).vs) ([] : List Int)) = (b)))) (by kernel_rfl) (fun h311 => ?_) (fun h311 => ?_)
            · -- ffLffft
              have h312 : decide ((pageM (true) ((rsN b true (k)).ks) ((rsN b true (k)).vs) ([] : List Int)) = (b)) = false := by rw [← Bool.not_not (decide _), h311]; rfl
              have p313 : ¬ ((pageM (true) ((rsN b true (k)).ks) ((rsN b true (k)).vs) ([] : List Int)) = (b)) := of_decide_eq_false h312
              refine wp_seq_k (fun K314 hK314 => ?_)
              refine wp_reg ?_
              refine wpF_seg 1 (by kernel_rfl) ?_
              refine wpF_store hM308 1 rfl (h := (by kernel_rfl : opAt _ _ _ _ _ = some (.store 25 (.tmp 2) (.tmp 102), none))) (off := 0) (by kernel_rfl) #[.bool (false), .slice none 0 0, .slice none 0 0, .slice none 0 0] (by kernel_rfl) (by kernel_rfl) (by kernel_rfl) (by kernel_rfl) (fun w316 hM315 => ?_)
              have hM317 : Step V w [] V305 _ ([.blk b17 (.cells #[.bool (true), .slice Ar_202c4_1 ((rsN b true (k)).ks).length cr_202c4_1, .slice Ar_202c4_2 ((rsN b true (k)).vs).length cr_202c4_2, .slice none 0 0] 25), .blk b2 (.cells #[.bool (false), .slice none 0 0, .slice none 0 0, .slice none 0 0] 25)]) := hM315
              refine wpF_seg 1 (by kernel_rfl) ?_
              refine wpF_end _ (by kernel_rfl) (then_n (hK314 _ _ ?_))
              refine wp_ret (then_r (?_))
              refine retN [.agg #[.bool (false), .slice none 0 0, .slice none 0 0, .slice none 0 0], .int .i64 (4)] (.tuple #[.agg #[.bool (false), .slice none 0 0, .slice none 0 0, .slice none 0 0], .int .i64 (4)]) Try.results24 (.cell (by kernel_rfl) (by kernel_rfl) hM317 1 rfl (by kernel_rfl) (.tmp (by kernel_rfl) (by kernel_rfl) .nil)) (by kernel_rfl) (hRet _ _ ⟨_, _, rfl, hM317.clear, ?_⟩)
              -- end ffLffft
              have hrr := rd_ref (b := b) (leaf := true) (k := k) (by assumption) (by assumption) (by omega) (at_pos (by assumption)) (by first | assumption | (rw [rsN_leafc]; assumption) | (rw [rsN_innv]; assumption))
              rw [rsN_leafc] at hrr
              rw [(by assumption : decide (pageM _ _ _ _ = b) = false)] at hrr
              obtain ⟨e1, e2, e3, e4, e5⟩ := rd_no hrr
              refine ⟨none, 0, none, 0, none, 0, ?_, ?_, ?_, ?_⟩
              · simp only [e1, e2, e3, e4, e5] <;> rfl
              · first | exact (Rd.nil _ _) | (exact Rd.eq (Rd.nil _ _) (by first | exact e3.symm | exact e4.symm | exact e5.symm))
              · first | exact (Rd.nil _ _) | (exact Rd.eq (Rd.nil _ _) (by first | exact e3.symm | exact e4.symm | exact e5.symm))
              · first | exact (Rd.nil _ _) | (exact Rd.eq (Rd.nil _ _) (by first | exact e3.symm | exact e4.symm | exact e5.symm))
            · -- ffLffff
              have h318 : decide ((pageM (true) ((rsN b true (k)).ks) ((rsN b true (k)).vs) ([] : List Int)) = (b)) = true := by rw [← Bool.not_not (decide _), h311]; rfl
              have p319 : ((pageM (true) ((rsN b true (k)).ks) ((rsN b true (k)).vs) ([] : List Int)) = (b)) := of_decide_eq_true h318
              refine wp_skip (then_n (hK270 _ _ ?_))
              refine wp_seq_k (fun K320 hK320 => ?_)
              refine wp_reg ?_
              refine gF hM308 (.load 25 (.tmp 4)) (some 103) (by kernel_rfl) (Y_load 0 rfl (off := 0) (by kernel_rfl) (.agg #[.bool (true), .slice Ar_202c4_1 ((rsN b true (k)).ks).length cr_202c4_1, .slice Ar_202c4_2 ((rsN b true (k)).vs).length cr_202c4_2, .slice none 0 0]) (by kernel_rfl)) ?_
              refine wpF_store hM308 1 rfl (h := (by kernel_rfl : opAt _ _ _ _ _ = some (.store 25 (.tmp 2) (.tmp 103), none))) (off := 0) (by kernel_rfl) #[.bool (true), .slice Ar_202c4_1 ((rsN b true (k)).ks).length cr_202c4_1, .slice Ar_202c4_2 ((rsN b true (k)).vs).length cr_202c4_2, .slice none 0 0] (by kernel_rfl) (by kernel_rfl) (by kernel_rfl) (by kernel_rfl) (fun w322 hM321 => ?_)
              have hM323 : Step V w [] V305 _ ([.blk b17 (.cells #[.bool (true), .slice Ar_202c4_1 ((rsN b true (k)).ks).length cr_202c4_1, .slice Ar_202c4_2 ((rsN b true (k)).vs).length cr_202c4_2, .slice none 0 0] 25), .blk b2 (.cells #[.bool (true), .slice Ar_202c4_1 ((rsN b true (k)).ks).length cr_202c4_1, .slice Ar_202c4_2 ((rsN b true (k)).vs).length cr_202c4_2, .slice none 0 0] 25)]) := hM321
              refine wpF_seg 1 (by kernel_rfl) ?_
              refine wpF_end _ (by kernel_rfl) (then_n (hK320 _ _ ?_))
              refine wp_ret ?_
              refine retN [.agg #[.bool (true), .slice Ar_202c4_1 ((rsN b true (k)).ks).length cr_202c4_1, .slice Ar_202c4_2 ((rsN b true (k)).vs).length cr_202c4_2, .slice none 0 0], .int .i64 (0)] (.tuple #[.agg #[.bool (true), .slice Ar_202c4_1 ((rsN b true (k)).ks).length cr_202c4_1, .slice Ar_202c4_2 ((rsN b true (k)).vs).length cr_202c4_2, .slice none 0 0], .int .i64 (0)]) Try.results24 (.cell (by kernel_rfl) (by kernel_rfl) hM323 1 rfl (by kernel_rfl) (.tmp (by kernel_rfl) (by kernel_rfl) .nil)) (by kernel_rfl) (hRet _ _ ⟨_, _, rfl, hM323.clear, ?_⟩)
              -- end ffLffff
              have hrr := rd_ref (b := b) (leaf := true) (k := k) (by assumption) (by assumption) (by omega) (at_pos (by assumption)) (by first | assumption | (rw [rsN_leafc]; assumption) | (rw [rsN_innv]; assumption))
              rw [rsN_leafc] at hrr
              rw [(by assumption : decide (pageM _ _ _ _ = b) = true)] at hrr
              obtain ⟨e1, e2, e3, e4, e5⟩ := rd_yes2 (b := b) (leaf := true) (k := k) (by assumption) (by omega) hrr
              rw [rsN_leafc] at e5
              refine ⟨Ar_202c4_1, cr_202c4_1, Ar_202c4_2, cr_202c4_2, none, 0, ?_, ?_, ?_, ?_⟩
              · simp only [e1, e2, e3, e4, e5] <;> rfl
              · first | exact (r282.up ((le285.trans le292).trans le307)) | (exact Rd.eq (r282.up ((le285.trans le292).trans le307)) (by first | exact e3.symm | exact e4.symm | exact e5.symm))
              · first | exact (r287.up (le292.trans le307)) | (exact Rd.eq (r287.up (le292.trans le307)) (by first | exact e3.symm | exact e4.symm | exact e5.symm))
              · first | exact (Rd.nil _ _) | (exact Rd.eq (Rd.nil _ _) (by first | exact e3.symm | exact e4.symm | exact e5.symm))

end Go.Vk
