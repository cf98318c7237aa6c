/- Contracts of the page's functions, part T: printed by wip/tools/p8.py. -/
import Derived.Test.YtpaljghjoajhfaaRA
import Derived.Test.YtpaljghjoajhfaaRH
set_option linter.unusedVariables false
set_option linter.unusedSimpArgs false
namespace Go.Vk
open Go.Proofs
set_option maxHeartbeats 4000000 in
set_option maxRecDepth 100000 in
theorem f42 (V : VT) (w : World) (Ab : Option Addr) (cb : Nat) (b : List UInt8) (hb : Rd byteK V Ab cb b) (ad : Nat) (ok : Bool) (bsc : Nat) (wd : Nat) (hS : St V w [.blk bsc (.cells #[.slice Ab (b).length cb, .int .i64 ((ad : Int)), .bool (ok)] 61)]) (h1 : ad ≤ 4096) (h2 : b.length ≤ 4096) (h3 : wd ≤ 4) :
    Calls Try.prog 42 #[.pointer (some ⟨bsc, 0, none⟩), .int .i64 ((wd : Int))] w (Ret V w [.blk bsc (.cells #[.slice Ab (b).length cb, .int .i64 ((ad : Int)), .bool (ok)] 61)] fun rv V' E' => rv = .int .i64 (((numS b ad ok wd : Nat) : Int)) ∧ E' = [.blk bsc (.cells #[.slice Ab (b).length cb, .int .i64 (((atS b ad ok wd : Nat) : Int)), .bool (okS b ad ok wd)] 61)]) := by
  refine calls_env (n := 69) Try.func42 (c := _) rfl Try.ntmps42 (by kernel_rfl) (fun R hRet => ?_)
  have hV := hS.inW
  have hM0 : Step V w [.blk bsc (.cells #[.slice Ab (b).length cb, .int .i64 ((ad : Int)), .bool (ok)] 61)] V w [.blk bsc (.cells #[.slice Ab (b).length cb, .int .i64 ((ad : Int)), .bool (ok)] 61)] := Step.refl hS
  refine wp_seq_k (fun K1 hK1 => ?_)
  refine wp_reg ?_
  refine wpF_seg 1 (by kernel_rfl) ?_
  refine wpF_end _ (by kernel_rfl) (then_n (hK1 _ _ ?_))
  refine wp_seq_k (fun K2 hK2 => ?_)
  refine wp_seq_k (fun K3 hK3 => ?_)
  refine wp_base [(0, .pointer (some ⟨bsc, 0, none⟩)), (1, .int .i64 ((wd : Int))), (4, .int .i64 (0))] (by kernel_rfl) (fun g4 => ?_)
  refine wp_drawN hM0 [(.blk bsc (.cells #[.slice Ab (b).length cb, .int .i64 ((ad : Int)), .bool (ok)] 61), 21)] (and_held 0 rfl no_held) [] [0, 1, 2, 3, 4, 5, 6, 7, 8, 9, 10, 11, 12, 13, 14, 15, 16, 17, 18, 19, 20] [.a 21] [.p 0, .p 1, .p 2, .p 3, .p 4, .p 5, .p 6, .p 7, .p 8, .p 9, .p 10, .p 11, .p 12, .p 13, .p 14, .p 15, .p 16, .p 17, .p 18, .p 19, .p 20, .s, .a 21] rfl (by kernel_rfl) (by kernel_rfl) ?_
  refine h_seg 4 (by kernel_rfl) ?_
  refine gH (.load 4 (.tmp 11)) (some 12) (by kernel_rfl) (Y_load 0 (by kernel_rfl : (FOf _ _ _)[0]? = some (.blk bsc (.cells #[.slice Ab (b).length cb, .int .i64 ((ad : Int)), .bool (ok)] 61))) (off := 2) (by kernel_rfl) (.bool (ok)) (by kernel_rfl)) ?_
  refine h_seg 1 (by kernel_rfl) ?_
  refine h_caseB 13 (ok) (by kernel_rfl) (by kernel_rfl) (fun h5 => ?_) (fun h5 => ?_)
  · -- t
    refine h_seg 3 (by kernel_rfl) ?_
    refine gH (.load 28 (.tmp 16)) (some 17) (by kernel_rfl) (Y_load 0 (by kernel_rfl : (FOf _ _ _)[0]? = some (.blk bsc (.cells #[.slice Ab (b).length cb, .int .i64 ((ad : Int)), .bool (ok)] 61))) (off := 0) (by kernel_rfl) (.slice Ab (b).length cb) (by kernel_rfl)) ?_
    refine h_seg 4 (by kernel_rfl) ?_
    refine gH (.load 3 (.tmp 21)) (some 22) (by kernel_rfl) (Y_load 0 (by kernel_rfl : (FOf _ _ _)[0]? = some (.blk bsc (.cells #[.slice Ab (b).length cb, .int .i64 ((ad : Int)), .bool (ok)] 61))) (off := 1) (by kernel_rfl) (.int .i64 ((ad : Int))) (by kernel_rfl)) ?_
    refine gH (.binOp .sub 3 (.tmp 18) (.tmp 22) 3) (some 23) (by kernel_rfl) (Y_sub .i64 ((b.length : Int)) ((ad : Int)) ((b.length : Int) - (ad : Int)) (by kernel_rfl) (by kernel_rfl) (wrap64_ok _ (by omega))) ?_
    refine h_seg 5 (by kernel_rfl) ?_
    refine h_s no_fs ?_
    refine h_a (by kernel_rfl) (by kernel_rfl) (fun w6 X7 hM8 => ?_)
    refine wpF_store hM8 0 rfl (h := (by kernel_rfl : opAt _ _ _ _ _ = some (.store 4 (.tmp 28) (.tmp 26), none))) (off := 2) (by kernel_rfl) #[.bool (decide (((wd : Int)) ≤ ((b.length : Int) - (ad : Int))))] (by kernel_rfl) (by kernel_rfl) (by kernel_rfl) (by kernel_rfl) (fun w10 hM9 => ?_)
    have hM11 : Step V w [.blk bsc (.cells #[.slice Ab (b).length cb, .int .i64 ((ad : Int)), .bool (ok)] 61)] V _ ([.blk bsc (.cells #[.slice Ab (b).length cb, .int .i64 ((ad : Int)), .bool (decide (((wd : Int)) ≤ ((b.length : Int) - (ad : Int))))] 61)] ++ X7) := hM9
    refine wpF_end _ (by kernel_rfl) (then_n (h_d [] (by kernel_rfl) [.blk bsc (.cells #[.slice Ab (b).length cb, .int .i64 ((ad : Int)), .bool (decide (((wd : Int)) ≤ ((b.length : Int) - (ad : Int))))] 61)] hM11 no_held (VT.le.refl _) ?_))
    refine h_n (fun w12 hM13 => ?_)
    refine  (then_n (hK3 _ _ ?_))
    refine wp_seq_k (fun K14 hK14 => ?_)
    refine wp_reg ?_
    refine wpF_seg 3 (by kernel_rfl) ?_
    refine gF hM13 (.load 4 (.tmp 31)) (some 32) (by kernel_rfl) (Y_load 0 rfl (off := 2) (by kernel_rfl) (.bool (decide (((wd : Int)) ≤ ((b.length : Int) - (ad : Int))))) (by kernel_rfl)) ?_
    refine wpF_seg 1 (by kernel_rfl) ?_
    refine wpF_end _ (by kernel_rfl) (then_n (hK14 _ _ ?_))
    refine wp_if (!(decide (((wd : Int)) ≤ ((b.length : Int) - (ad : Int))))) (by kernel_rfl) (fun h15 => ?_) (fun h15 => ?_)
    · -- tt
      have h16 : decide (((wd : Int)) ≤ ((b.length : Int) - (ad : Int))) = false := by rw [← Bool.not_not (decide _), h15]; rfl
      have p17 : ¬ (((wd : Int)) ≤ ((b.length : Int) - (ad : Int))) := of_decide_eq_false h16
      refine wp_seq_k (fun K18 hK18 => ?_)
      refine wp_reg ?_
      refine wpF_seg 1 (by kernel_rfl) ?_
      refine wpF_end _ (by kernel_rfl) (then_n (hK18 _ _ ?_))
      refine wp_ret (then_r (?_))
      have hM19 := hM13.front 0 rfl
      have hM20 : Step V w [.blk bsc (.cells #[.slice Ab (b).length cb, .int .i64 ((ad : Int)), .bool (ok)] 61)] V _ ([.blk bsc (.cells #[.slice Ab (b).length cb, .int .i64 ((ad : Int)), .bool (decide (((wd : Int)) ≤ ((b.length : Int) - (ad : Int))))] 61)]) := hM19
      refine retN [.int .i64 (0)] (.int .i64 (0)) Try.results42 (.tmp (by kernel_rfl) (by kernel_rfl) .nil) (by kernel_rfl) (hRet _ _ ⟨_, _, _, rfl, hM20, ?_⟩)
      -- end tt
      have hok : okS b ad ok wd = false := by simp only [okS, h15, h16, h5, Bool.true_and, Bool.false_and]
      refine ⟨?_, ?_⟩
      · simp only [numS, hok, cond_true, cond_false] <;> rfl
      · (simp only [atS, hok, cond_true, cond_false]) <;> (try simp only [h15, h16, h5]) <;> rfl
    · -- tf
      have h21 : decide (((wd : Int)) ≤ ((b.length : Int) - (ad : Int))) = true := by rw [← Bool.not_not (decide _), h15]; rfl
      have p22 : (((wd : Int)) ≤ ((b.length : Int) - (ad : Int))) := of_decide_eq_true h21
      have hl : ((b.take (ad + wd)).drop ad).length = wd := by simp; omega
      refine wp_skip (then_n (hK2 _ _ ?_))
      refine wp_seq_k (fun K23 hK23 => ?_)
      refine wp_reg ?_
      refine wpF_seg 1 (by kernel_rfl) ?_
      refine wpF_end _ (by kernel_rfl) (then_n (hK23 _ _ ?_))
      refine wp_seq_k (fun K24 hK24 => ?_)
      refine wp_seq_k (fun K25 hK25 => ?_)
      refine wp_base [(0, .pointer (some ⟨bsc, 0, none⟩)), (1, .int .i64 ((wd : Int))), (4, .int .i64 (0)), (5, .int .i64 (0))] (by kernel_rfl) (fun g26 => ?_)
      refine wp_drawN hM13 [(.blk bsc (.cells #[.slice Ab (b).length cb, .int .i64 ((ad : Int)), .bool (decide (((wd : Int)) ≤ ((b.length : Int) - (ad : Int))))] 61), 9999)] (and_held 0 rfl no_held) [] [0, 1, 2, 3, 4, 5, 6, 7, 8, 9, 10, 11, 12, 13, 14, 15, 16] [] [.p 0, .p 1, .p 2, .p 3, .p 4, .p 5, .p 6, .p 7, .p 8, .p 9, .p 10, .p 11, .p 12, .p 13, .p 14, .p 15, .p 16, .s] rfl (by kernel_rfl) (by kernel_rfl) ?_
      refine h_seg 3 (by kernel_rfl) ?_
      refine gH (.load 28 (.tmp 36)) (some 37) (by kernel_rfl) (Y_load 0 (by kernel_rfl : (FOf _ _ _)[0]? = some (.blk bsc (.cells #[.slice Ab (b).length cb, .int .i64 ((ad : Int)), .bool (decide (((wd : Int)) ≤ ((b.length : Int) - (ad : Int))))] 61))) (off := 0) (by kernel_rfl) (.slice Ab (b).length cb) (by kernel_rfl)) ?_
      refine h_seg 3 (by kernel_rfl) ?_
      refine gH (.load 3 (.tmp 40)) (some 41) (by kernel_rfl) (Y_load 0 (by kernel_rfl : (FOf _ _ _)[0]? = some (.blk bsc (.cells #[.slice Ab (b).length cb, .int .i64 ((ad : Int)), .bool (decide (((wd : Int)) ≤ ((b.length : Int) - (ad : Int))))] 61))) (off := 1) (by kernel_rfl) (.int .i64 ((ad : Int))) (by kernel_rfl)) ?_
      refine h_seg 3 (by kernel_rfl) ?_
      refine gH (.load 3 (.tmp 44)) (some 45) (by kernel_rfl) (Y_load 0 (by kernel_rfl : (FOf _ _ _)[0]? = some (.blk bsc (.cells #[.slice Ab (b).length cb, .int .i64 ((ad : Int)), .bool (decide (((wd : Int)) ≤ ((b.length : Int) - (ad : Int))))] 61))) (off := 1) (by kernel_rfl) (.int .i64 ((ad : Int))) (by kernel_rfl)) ?_
      refine h_seg 1 (by kernel_rfl) ?_
      refine gH (.binOp .add 3 (.tmp 45) (.tmp 46) 3) (some 47) (by kernel_rfl) (Y_add .i64 ((ad : Int)) ((wd : Int)) ((ad : Int) + (wd : Int)) (by kernel_rfl) (by kernel_rfl) (wrap64_ok _ (by omega))) ?_
      refine gH_slice (A := Ab) (c := cb) hb (h := (by kernel_rfl : opAt _ _ _ _ _ = some (.slice 28 (.tmp 37) (some (.tmp 41)) (some (.tmp 47)) none, some 48))) (e := 5) (by kernel_rfl) (by kernel_rfl) (ad) (ad + wd) ⟨.i64, by kernel_rfl⟩ ⟨.i64, by rw [show ((ad + wd : Nat) : Int) = (ad : Int) + (wd : Int) from by omega]; kernel_rfl⟩ (by omega) (by omega) ((b.take (ad + wd)).drop (ad)) rfl (fun A27 c28 r29 => ?_)
      refine h_seg 2 (by kernel_rfl) ?_
      refine h_s no_fs ?_
      refine h_n (fun w30 hM31 => ?_)
      refine  (then_n (hK25 _ _ ?_))
      refine wp_block ?_
      refine wp_base [(0, .pointer (some ⟨bsc, 0, none⟩)), (1, .int .i64 ((wd : Int))), (4, .int .i64 (0)), (5, .int .i64 (((beA b ad (0) : Nat) : Int))), (48, .slice A27 ((b.take (ad + wd)).drop (ad)).length c28), (49, .int .i64 ((((b.take (ad + wd)).drop (ad)).length : Int))), (50, .int .i64 ((0 : Int)))] (by kernel_rfl) (fun g33 => ?_)
      refine wp_loopX (fun (x_ : Nat) a_ w_ => ∃ (g : Nat → Value) (V_ : VT), a_ = env 69 [(0, .pointer (some ⟨bsc, 0, none⟩)), (1, .int .i64 ((wd : Int))), (4, .int .i64 (0)), (5, .int .i64 (((beA b ad (x_) : Nat) : Int))), (48, .slice A27 ((b.take (ad + wd)).drop (ad)).length c28), (49, .int .i64 ((((b.take (ad + wd)).drop (ad)).length : Int))), (50, .int .i64 ((x_ : Int)))] g ∧ Step V w [.blk bsc (.cells #[.slice Ab (b).length cb, .int .i64 ((ad : Int)), .bool (ok)] 61)] V_ w_ [.blk bsc (.cells #[.slice Ab (b).length cb, .int .i64 ((ad : Int)), .bool (decide (((wd : Int)) ≤ ((b.length : Int) - (ad : Int))))] 61)] ∧ VT.le V V_ ∧ (x_ ≤ wd)) (fun (x_ : Nat) => wd - x_) (0) ⟨g33, V, rfl, hM31, VT.le.refl _, by omega⟩ ?_
      rintro k a_ w35 ⟨g34, Vl32, rfl, hM36, le37, hi38_0⟩ K38 hK38
      refine wp_seq_k (fun K39 hK39 => ?_)
      refine wp_reg ?_
      refine wpF_seg 1 (by kernel_rfl) ?_
      refine wpF_end _ (by kernel_rfl) (then_n (hK39 _ _ ?_))
      refine wp_seq_k (fun K40 hK40 => ?_)
      refine wp_if (decide (((k : Int)) < ((((b.take (ad + wd)).drop (ad)).length : Int)))) (by kernel_rfl) (fun h41 => ?_) (fun h41 => ?_)
      · -- tfLt
        have p42 : (((k : Int)) < ((((b.take (ad + wd)).drop (ad)).length : Int))) := of_decide_eq_true h41
        refine wp_skip (then_n (hK40 _ _ ?_))
        refine wp_seq_k (fun K43 hK43 => ?_)
        refine wp_block ?_
        refine wp_seq_k (fun K44 hK44 => ?_)
        refine wp_reg ?_
        refine gF_index (A := A27) (c := c28) (r29.up hM36.le) .i64 ((k : Int)) (h := (by kernel_rfl : opAt _ _ _ _ _ = some (.indexAddr 28 (.tmp 48) (.tmp 50), some 52))) (e := 5) (by kernel_rfl) (by kernel_rfl) (by kernel_rfl) (k) rfl (by omega) (fun b45 o46 at_b45 => ?_)
        have c47 : Vl32 b45 o46 = some (.int .u8 ((((b.take (ad + wd)).drop (ad)).getD (k) 0).toNat : Int)) := At.byte at_b45
        have l48 : (((b.take (ad + wd)).drop (ad)).getD (k) 0).toNat < 256 := UInt8.toNat_lt _
        refine gF hM36 (.load 5 (.tmp 52)) (some 53) (by kernel_rfl) (Y_loadV c47 (by kernel_rfl) (by kernel_rfl)) ?_
        refine wpF_seg 1 (by kernel_rfl) ?_
        refine wpF_end _ (by kernel_rfl) (then_n (hK44 _ _ ?_))
        refine wp_reg ?_
        refine wpF_seg 1 (by kernel_rfl) ?_
        refine gF hM36 (.binOp .shl 3 (.tmp 54) (.const (.int .u64 8)) 83) (some 55) (by kernel_rfl) (Y_shl .i64 .u64 (((beA b ad (k) : Nat) : Int)) (8) (((beA b ad k * 256 : Nat) : Int)) (by kernel_rfl) (by kernel_rfl) (by omega) (shl8 (beA_4 _ _ _ (by omega)))) ?_
        refine wpF_seg 1 (by kernel_rfl) ?_
        refine gF hM36 (.convert 5 3 (.tmp 56)) (some 57) (by kernel_rfl) (Y_conv .u8 .u8 .i64 (((((b.take (ad + wd)).drop (ad)).getD (k) 0).toNat : Int)) (((((b.take (ad + wd)).drop (ad)).getD (k) 0).toNat : Int)) (by kernel_rfl) (by kernel_rfl) (by kernel_rfl) (wrap64_ok _ (by omega))) ?_
        refine gF hM36 (.binOp .or 3 (.tmp 55) (.tmp 57) 3) (some 58) (by kernel_rfl) (Y_or .i64 (((beA b ad k * 256 : Nat) : Int)) (((((b.take (ad + wd)).drop (ad)).getD (k) 0).toNat : Int)) (((beA b ad (k + 1) : Nat) : Int)) (by kernel_rfl) (by kernel_rfl) (by rw [getD_cut (by omega)]; exact or8 (beA_4 _ _ _ (by omega)) (UInt8.toNat_lt _))) ?_
        refine wpF_seg 1 (by kernel_rfl) ?_
        refine wpF_end _ (by kernel_rfl) (blk_n (then_n (hK43 _ _ ?_)))
        refine wp_reg ?_
        refine gF hM36 (.binOp .add 3 (.tmp 50) (.const (.int .i64 1)) 3) (some 59) (by kernel_rfl) (Y_add .i64 ((k : Int)) (1) ((k : Int) + 1) (by kernel_rfl) (by kernel_rfl) (wrap64_ok _ (by omega))) ?_
        refine wpF_seg 1 (by kernel_rfl) ?_
        refine wpF_base [(0, .pointer (some ⟨bsc, 0, none⟩)), (1, .int .i64 ((wd : Int))), (4, .int .i64 (0)), (5, .int .i64 (((beA b ad (k + 1) : Nat) : Int))), (48, .slice A27 ((b.take (ad + wd)).drop (ad)).length c28), (49, .int .i64 ((((b.take (ad + wd)).drop (ad)).length : Int))), (50, .int .i64 ((k + 1 : Int)))] (by kernel_rfl) (fun g49 => ?_)
        refine wpF_end _ (by kernel_rfl) (then_n (hK38 _ _ (k + 1) (by omega) ?_))
        refine ⟨g49, Vl32, rfl, hM36, hM36.le, ?_⟩
        · -- tfLt inv 0
          omega
      · -- tfLf
        have p50 : ¬ (((k : Int)) < ((((b.take (ad + wd)).drop (ad)).length : Int))) := of_decide_eq_false h41
        refine wp_exit (then_x (then_x (blk_hit (then_n (hK24 _ _ ?_)))))
        obtain rfl : wd = k := by omega
        refine wp_seq_k (fun K51 hK51 => ?_)
        refine wp_reg ?_
        refine wpF_seg 3 (by kernel_rfl) ?_
        refine gF hM36 (.load 3 (.tmp 62)) (some 63) (by kernel_rfl) (Y_load 0 rfl (off := 1) (by kernel_rfl) (.int .i64 ((ad : Int))) (by kernel_rfl)) ?_
        refine wpF_seg 1 (by kernel_rfl) ?_
        refine gF hM36 (.binOp .add 3 (.tmp 63) (.tmp 64) 3) (some 65) (by kernel_rfl) (Y_add .i64 ((ad : Int)) ((wd : Int)) ((ad : Int) + (wd : Int)) (by kernel_rfl) (by kernel_rfl) (wrap64_ok _ (by omega))) ?_
        refine wpF_seg 2 (by kernel_rfl) ?_
        refine wpF_store hM36 0 rfl (h := (by kernel_rfl : opAt _ _ _ _ _ = some (.store 3 (.tmp 67) (.tmp 65), none))) (off := 1) (by kernel_rfl) #[.int .i64 ((ad : Int) + (wd : Int))] (by kernel_rfl) (by kernel_rfl) (by kernel_rfl) (by kernel_rfl) (fun w53 hM52 => ?_)
        have hM54 : Step V w [.blk bsc (.cells #[.slice Ab (b).length cb, .int .i64 ((ad : Int)), .bool (ok)] 61)] Vl32 _ ([.blk bsc (.cells #[.slice Ab (b).length cb, .int .i64 ((ad : Int) + (wd : Int)), .bool (decide (((wd : Int)) ≤ ((b.length : Int) - (ad : Int))))] 61)]) := hM52
        refine wpF_end _ (by kernel_rfl) (then_n (hK51 _ _ ?_))
        refine wp_seq_k (fun K55 hK55 => ?_)
        refine wp_reg ?_
        refine wpF_seg 2 (by kernel_rfl) ?_
        refine wpF_end _ (by kernel_rfl) (then_n (hK55 _ _ ?_))
        refine wp_ret ?_
        have hM56 := hM54.front 0 rfl
        have hM57 : Step V w [.blk bsc (.cells #[.slice Ab (b).length cb, .int .i64 ((ad : Int)), .bool (ok)] 61)] Vl32 _ ([.blk bsc (.cells #[.slice Ab (b).length cb, .int .i64 ((ad : Int) + (wd : Int)), .bool (decide (((wd : Int)) ≤ ((b.length : Int) - (ad : Int))))] 61)]) := hM56
        refine retN [.int .i64 (((beA b ad ((wd)) : Nat) : Int))] (.int .i64 (((beA b ad ((wd)) : Nat) : Int))) Try.results42 (.tmp (by kernel_rfl) (by kernel_rfl) .nil) (by kernel_rfl) (hRet _ _ ⟨_, _, _, rfl, hM57, ?_⟩)
        -- end tfLf
        have hok : okS b ad ok wd = true := by simp only [okS, h15, h21, h41, h5, Bool.true_and]
        refine ⟨?_, ?_⟩
        · simp only [numS, hok, cond_true, cond_false] <;> rfl
        · (simp only [atS, hok, cond_true, cond_false]) <;> (try simp only [h15, h21, h41, h5]) <;> rfl
  · -- f
    refine h_seg 15 (by kernel_rfl) ?_
    refine h_s no_fs ?_
    refine h_a (by kernel_rfl) (by kernel_rfl) (fun w58 X59 hM60 => ?_)
    refine wpF_store hM60 0 rfl (h := (by kernel_rfl : opAt _ _ _ _ _ = some (.store 4 (.tmp 28) (.tmp 26), none))) (off := 2) (by kernel_rfl) #[.bool (false)] (by kernel_rfl) (by kernel_rfl) (by kernel_rfl) (by kernel_rfl) (fun w62 hM61 => ?_)
    have hM63 : Step V w [.blk bsc (.cells #[.slice Ab (b).length cb, .int .i64 ((ad : Int)), .bool (ok)] 61)] V _ ([.blk bsc (.cells #[.slice Ab (b).length cb, .int .i64 ((ad : Int)), .bool (false)] 61)] ++ X59) := hM61
    refine wpF_end _ (by kernel_rfl) (then_n (h_d [] (by kernel_rfl) [.blk bsc (.cells #[.slice Ab (b).length cb, .int .i64 ((ad : Int)), .bool (false)] 61)] hM63 no_held (VT.le.refl _) ?_))
    refine h_n (fun w64 hM65 => ?_)
    refine  (then_n (hK3 _ _ ?_))
    refine wp_seq_k (fun K66 hK66 => ?_)
    refine wp_reg ?_
    refine wpF_seg 3 (by kernel_rfl) ?_
    refine gF hM65 (.load 4 (.tmp 31)) (some 32) (by kernel_rfl) (Y_load 0 rfl (off := 2) (by kernel_rfl) (.bool (false)) (by kernel_rfl)) ?_
    refine wpF_seg 1 (by kernel_rfl) ?_
    refine wpF_end _ (by kernel_rfl) (then_n (hK66 _ _ ?_))
    refine wp_ct (by kernel_rfl) ?_
    refine wp_seq_k (fun K67 hK67 => ?_)
    refine wp_reg ?_
    refine wpF_seg 1 (by kernel_rfl) ?_
    refine wpF_end _ (by kernel_rfl) (then_n (hK67 _ _ ?_))
    refine wp_ret (then_r (?_))
    have hM68 := hM65.front 0 rfl
    have hM69 : Step V w [.blk bsc (.cells #[.slice Ab (b).length cb, .int .i64 ((ad : Int)), .bool (ok)] 61)] V _ ([.blk bsc (.cells #[.slice Ab (b).length cb, .int .i64 ((ad : Int)), .bool (false)] 61)]) := hM68
    refine retN [.int .i64 (0)] (.int .i64 (0)) Try.results42 (.tmp (by kernel_rfl) (by kernel_rfl) .nil) (by kernel_rfl) (hRet _ _ ⟨_, _, _, rfl, hM69, ?_⟩)
    -- end f
    have hok : okS b ad ok wd = false := by simp only [okS, h5, Bool.true_and, Bool.false_and]
    refine ⟨?_, ?_⟩
    · simp only [numS, hok, cond_true, cond_false] <;> rfl
    · (simp only [atS, hok, cond_true, cond_false]) <;> (try simp only [h5]) <;> rfl

set_option maxHeartbeats 4000000 in
set_option maxRecDepth 100000 in
theorem f43 (V : VT) (w : World) (Ab : Option Addr) (cb : Nat) (b : List UInt8) (hb : Rd byteK V Ab cb b) (ad : Nat) (ok : Bool) (bsc : Nat) (wd : Nat) (hS : St V w [.blk bsc (.cells #[.slice Ab (b).length cb, .int .i64 ((ad : Int)), .bool (ok)] 61)]) (h1 : ad ≤ b.length) (h2 : b.length ≤ 1024) (h3 : wd ≤ 2) :
    Calls Try.prog 43 #[.pointer (some ⟨bsc, 0, none⟩), .int .i64 ((wd : Int))] w (Ret V w [.blk bsc (.cells #[.slice Ab (b).length cb, .int .i64 ((ad : Int)), .bool (ok)] 61)] fun rv V' E' => rv = bs (strP b ad ok wd) ∧ E' = [.blk bsc (.cells #[.slice Ab (b).length cb, .int .i64 (((atP b ad ok wd : Nat) : Int)), .bool (okP b ad ok wd)] 61)] ∧ (strP b ad ok wd).length ≤ 4096) := by
  have hnum := numS_4 b ad ok wd (by omega)
  have hat := atS_le b ad ok wd h1
  refine calls_env (n := 59) Try.func43 (c := _) rfl Try.ntmps43 (by kernel_rfl) (fun R hRet => ?_)
  have hV := hS.inW
  have hM0 : Step V w [.blk bsc (.cells #[.slice Ab (b).length cb, .int .i64 ((ad : Int)), .bool (ok)] 61)] V w [.blk bsc (.cells #[.slice Ab (b).length cb, .int .i64 ((ad : Int)), .bool (ok)] 61)] := Step.refl hS
  refine wp_seq_k (fun K1 hK1 => ?_)
  refine wp_reg ?_
  refine wpF_seg 1 (by kernel_rfl) ?_
  refine wpF_end _ (by kernel_rfl) (then_n (hK1 _ _ ?_))
  refine wp_seq_k (fun K2 hK2 => ?_)
  refine wp_reg ?_
  refine wpF_seg 2 (by kernel_rfl) ?_
  have hM3 := hM0.front 0 rfl
  have hM11 : Step V w [.blk bsc (.cells #[.slice Ab (b).length cb, .int .i64 ((ad : Int)), .bool (ok)] 61)] V _ ([.blk bsc (.cells #[.slice Ab (b).length cb, .int .i64 ((ad : Int)), .bool (ok)] 61)]) := hM3
  refine wpF_callE [.blk bsc (.cells #[.slice Ab (b).length cb, .int .i64 ((ad : Int)), .bool (ok)] 61)] ([]) hM11 (f := 42) (caps := #[]) (h := (by kernel_rfl : opAt _ _ _ _ _ = some (.call (.mk (.value (.func 42)) #[(.tmp 6), (.tmp 7)] #[59, 3]), some 8))) (by kernel_rfl) (by kernel_rfl) (by kernel_rfl) (f42 _ _ Ab cb (b) hb (ad) (ok) bsc (wd) (St.part (E := [.blk bsc (.cells #[.slice Ab (b).length cb, .int .i64 ((ad : Int)), .bool (ok)] 61)]) (F := ([])) hM11.ok) (by omega) (by omega) (by omega)) (fun v4 V5 w6 Eo7 le8 hM9 hp10 => ?_)
  obtain ⟨rfl, rfl⟩ := hp10
  have hM12 : Step V w [.blk bsc (.cells #[.slice Ab (b).length cb, .int .i64 ((ad : Int)), .bool (ok)] 61)] V5 _ ([.blk bsc (.cells #[.slice Ab ((b)).length cb, .int .i64 (((atS (b) (ad) (ok) (wd) : Nat) : Int)), .bool (okS (b) (ad) (ok) (wd))] 61)]) := hM9
  refine wpF_seg 1 (by kernel_rfl) ?_
  refine wpF_end _ (by kernel_rfl) (then_n (hK2 _ _ ?_))
  refine wp_seq_k (fun K13 hK13 => ?_)
  refine wp_seq_k (fun K14 hK14 => ?_)
  refine wp_base [(0, .pointer (some ⟨bsc, 0, none⟩)), (4, bs ([])), (5, .int .i64 (((numS (b) (ad) (ok) (wd) : Nat) : Int)))] (by kernel_rfl) (fun g15 => ?_)
  refine wp_drawN hM12 [(.blk bsc (.cells #[.slice Ab ((b)).length cb, .int .i64 (((atS (b) (ad) (ok) (wd) : Nat) : Int)), .bool (okS (b) (ad) (ok) (wd))] 61), 21)] (and_held 0 rfl no_held) [] [0, 1, 2, 3, 4, 5, 6, 7, 8, 9, 10, 11, 12, 13, 14, 15, 16, 17, 18, 19, 20] [.a 21] [.p 0, .p 1, .p 2, .p 3, .p 4, .p 5, .p 6, .p 7, .p 8, .p 9, .p 10, .p 11, .p 12, .p 13, .p 14, .p 15, .p 16, .p 17, .p 18, .p 19, .p 20, .s, .a 21] rfl (by kernel_rfl) (by kernel_rfl) ?_
  refine h_seg 4 (by kernel_rfl) ?_
  refine gH (.load 4 (.tmp 12)) (some 13) (by kernel_rfl) (Y_load 0 (by kernel_rfl : (FOf _ _ _)[0]? = some (.blk bsc (.cells #[.slice Ab ((b)).length cb, .int .i64 (((atS (b) (ad) (ok) (wd) : Nat) : Int)), .bool (okS (b) (ad) (ok) (wd))] 61))) (off := 2) (by kernel_rfl) (.bool (okS (b) (ad) (ok) (wd))) (by kernel_rfl)) ?_
  refine h_seg 1 (by kernel_rfl) ?_
  refine h_caseB 14 (okS (b) (ad) (ok) (wd)) (by kernel_rfl) (by kernel_rfl) (fun h16 => ?_) (fun h16 => ?_)
  · -- t
    refine h_seg 3 (by kernel_rfl) ?_
    refine gH (.load 28 (.tmp 17)) (some 18) (by kernel_rfl) (Y_load 0 (by kernel_rfl : (FOf _ _ _)[0]? = some (.blk bsc (.cells #[.slice Ab ((b)).length cb, .int .i64 (((atS (b) (ad) (ok) (wd) : Nat) : Int)), .bool (okS (b) (ad) (ok) (wd))] 61))) (off := 0) (by kernel_rfl) (.slice Ab ((b)).length cb) (by kernel_rfl)) ?_
    refine h_seg 4 (by kernel_rfl) ?_
    refine gH (.load 3 (.tmp 22)) (some 23) (by kernel_rfl) (Y_load 0 (by kernel_rfl : (FOf _ _ _)[0]? = some (.blk bsc (.cells #[.slice Ab ((b)).length cb, .int .i64 (((atS (b) (ad) (ok) (wd) : Nat) : Int)), .bool (okS (b) (ad) (ok) (wd))] 61))) (off := 1) (by kernel_rfl) (.int .i64 (((atS (b) (ad) (ok) (wd) : Nat) : Int))) (by kernel_rfl)) ?_
    refine gH (.binOp .sub 3 (.tmp 19) (.tmp 23) 3) (some 24) (by kernel_rfl) (Y_sub .i64 ((((b)).length : Int)) (((atS (b) (ad) (ok) (wd) : Nat) : Int)) (((((b)).length : Int)) - (((atS (b) (ad) (ok) (wd) : Nat) : Int))) (by kernel_rfl) (by kernel_rfl) (wrap64_ok _ (by omega))) ?_
    refine h_seg 5 (by kernel_rfl) ?_
    refine h_s no_fs ?_
    refine h_a (by kernel_rfl) (by kernel_rfl) (fun w17 X18 hM19 => ?_)
    refine wpF_store hM19 0 rfl (h := (by kernel_rfl : opAt _ _ _ _ _ = some (.store 4 (.tmp 29) (.tmp 27), none))) (off := 2) (by kernel_rfl) #[.bool (decide ((((numS (b) (ad) (ok) (wd) : Nat) : Int)) ≤ (((((b)).length : Int)) - (((atS (b) (ad) (ok) (wd) : Nat) : Int)))))] (by kernel_rfl) (by kernel_rfl) (by kernel_rfl) (by kernel_rfl) (fun w21 hM20 => ?_)
    have hM22 : Step V w [.blk bsc (.cells #[.slice Ab (b).length cb, .int .i64 ((ad : Int)), .bool (ok)] 61)] V5 _ ([.blk bsc (.cells #[.slice Ab ((b)).length cb, .int .i64 (((atS (b) (ad) (ok) (wd) : Nat) : Int)), .bool (decide ((((numS (b) (ad) (ok) (wd) : Nat) : Int)) ≤ (((((b)).length : Int)) - (((atS (b) (ad) (ok) (wd) : Nat) : Int)))))] 61)] ++ X18) := hM20
    refine wpF_end _ (by kernel_rfl) (then_n (h_d [] (by kernel_rfl) [.blk bsc (.cells #[.slice Ab ((b)).length cb, .int .i64 (((atS (b) (ad) (ok) (wd) : Nat) : Int)), .bool (decide ((((numS (b) (ad) (ok) (wd) : Nat) : Int)) ≤ (((((b)).length : Int)) - (((atS (b) (ad) (ok) (wd) : Nat) : Int)))))] 61)] hM22 no_held (VT.le.refl _) ?_))
    refine h_n (fun w23 hM24 => ?_)
    refine  (then_n (hK14 _ _ ?_))
    refine wp_seq_k (fun K25 hK25 => ?_)
    refine wp_reg ?_
    refine wpF_seg 3 (by kernel_rfl) ?_
    refine gF hM24 (.load 4 (.tmp 32)) (some 33) (by kernel_rfl) (Y_load 0 rfl (off := 2) (by kernel_rfl) (.bool (decide ((((numS (b) (ad) (ok) (wd) : Nat) : Int)) ≤ (((((b)).length : Int)) - (((atS (b) (ad) (ok) (wd) : Nat) : Int)))))) (by kernel_rfl)) ?_
    refine wpF_seg 1 (by kernel_rfl) ?_
    refine wpF_end _ (by kernel_rfl) (then_n (hK25 _ _ ?_))
    refine wp_if (!(decide ((((numS (b) (ad) (ok) (wd) : Nat) : Int)) ≤ (((((b)).length : Int)) - (((atS (b) (ad) (ok) (wd) : Nat) : Int)))))) (by kernel_rfl) (fun h26 => ?_) (fun h26 => ?_)
    · -- tt
      have h27 : decide ((((numS (b) (ad) (ok) (wd) : Nat) : Int)) ≤ (((((b)).length : Int)) - (((atS (b) (ad) (ok) (wd) : Nat) : Int)))) = false := by rw [← Bool.not_not (decide _), h26]; rfl
      have p28 : ¬ ((((numS (b) (ad) (ok) (wd) : Nat) : Int)) ≤ (((((b)).length : Int)) - (((atS (b) (ad) (ok) (wd) : Nat) : Int)))) := of_decide_eq_false h27
      refine wp_seq_k (fun K29 hK29 => ?_)
      refine wp_reg ?_
      refine wpF_seg 1 (by kernel_rfl) ?_
      refine wpF_end _ (by kernel_rfl) (then_n (hK29 _ _ ?_))
      refine wp_ret (then_r (?_))
      have hM30 := hM24.front 0 rfl
      have hM31 : Step V w [.blk bsc (.cells #[.slice Ab (b).length cb, .int .i64 ((ad : Int)), .bool (ok)] 61)] V5 _ ([.blk bsc (.cells #[.slice Ab ((b)).length cb, .int .i64 (((atS (b) (ad) (ok) (wd) : Nat) : Int)), .bool (decide ((((numS (b) (ad) (ok) (wd) : Nat) : Int)) ≤ (((((b)).length : Int)) - (((atS (b) (ad) (ok) (wd) : Nat) : Int)))))] 61)]) := hM30
      refine retN [bs ([])] (bs ([])) Try.results43 (.tmp (by kernel_rfl) (by kernel_rfl) .nil) (by kernel_rfl) (hRet _ _ ⟨_, _, _, rfl, hM31, ?_⟩)
      -- end tt
      have hok := okP_f2 (b := b) (a := ad) (ok := ok) (w := wd) (by assumption)
      have hap := atP_f hok
      refine ⟨?_, ?_, ?_⟩
      · first | (simp only [strP, hok, cond_false]; done) | (simp only [strP, hok, cond_true]; exact congrArg bs (cut_eq (by omega) (by omega)))
      · first | (rw [hap, hok]; done) | (rw [hap, hok]; simp only [h16, h26, h27]; done) | (rw [hap, hok]; simp only [h16, h26, h27]; rfl)
      · exact Nat.le_trans (strP_len _ _ _ _) (by omega)
    · -- tf
      have h32 : decide ((((numS (b) (ad) (ok) (wd) : Nat) : Int)) ≤ (((((b)).length : Int)) - (((atS (b) (ad) (ok) (wd) : Nat) : Int)))) = true := by rw [← Bool.not_not (decide _), h26]; rfl
      have p33 : ((((numS (b) (ad) (ok) (wd) : Nat) : Int)) ≤ (((((b)).length : Int)) - (((atS (b) (ad) (ok) (wd) : Nat) : Int)))) := of_decide_eq_true h32
      refine wp_skip (then_n (hK13 _ _ ?_))
      refine wp_seq_k (fun K34 hK34 => ?_)
      refine wp_reg ?_
      refine wpF_seg 3 (by kernel_rfl) ?_
      refine gF hM24 (.load 3 (.tmp 37)) (some 38) (by kernel_rfl) (Y_load 0 rfl (off := 1) (by kernel_rfl) (.int .i64 (((atS (b) (ad) (ok) (wd) : Nat) : Int))) (by kernel_rfl)) ?_
      refine wpF_seg 1 (by kernel_rfl) ?_
      refine gF hM24 (.binOp .add 3 (.tmp 38) (.tmp 39) 3) (some 40) (by kernel_rfl) (Y_add .i64 (((atS (b) (ad) (ok) (wd) : Nat) : Int)) (((numS (b) (ad) (ok) (wd) : Nat) : Int)) ((((atS (b) (ad) (ok) (wd) : Nat) : Int)) + (((numS (b) (ad) (ok) (wd) : Nat) : Int))) (by kernel_rfl) (by kernel_rfl) (wrap64_ok _ (by omega))) ?_
      refine wpF_seg 2 (by kernel_rfl) ?_
      refine wpF_store hM24 0 rfl (h := (by kernel_rfl : opAt _ _ _ _ _ = some (.store 3 (.tmp 42) (.tmp 40), none))) (off := 1) (by kernel_rfl) #[.int .i64 ((((atS (b) (ad) (ok) (wd) : Nat) : Int)) + (((numS (b) (ad) (ok) (wd) : Nat) : Int)))] (by kernel_rfl) (by kernel_rfl) (by kernel_rfl) (by kernel_rfl) (fun w36 hM35 => ?_)
      have hM37 : Step V w [.blk bsc (.cells #[.slice Ab (b).length cb, .int .i64 ((ad : Int)), .bool (ok)] 61)] V5 _ ([.blk bsc (.cells #[.slice Ab ((b)).length cb, .int .i64 ((((atS (b) (ad) (ok) (wd) : Nat) : Int)) + (((numS (b) (ad) (ok) (wd) : Nat) : Int))), .bool (decide ((((numS (b) (ad) (ok) (wd) : Nat) : Int)) ≤ (((((b)).length : Int)) - (((atS (b) (ad) (ok) (wd) : Nat) : Int)))))] 61)]) := hM35
      refine wpF_end _ (by kernel_rfl) (then_n (hK34 _ _ ?_))
      refine wp_seq_k (fun K38 hK38 => ?_)
      refine wp_base [(0, .pointer (some ⟨bsc, 0, none⟩)), (4, bs ([])), (5, .int .i64 (((numS (b) (ad) (ok) (wd) : Nat) : Int)))] (by kernel_rfl) (fun g39 => ?_)
      refine wp_drawN hM37 [(.blk bsc (.cells #[.slice Ab ((b)).length cb, .int .i64 ((((atS (b) (ad) (ok) (wd) : Nat) : Int)) + (((numS (b) (ad) (ok) (wd) : Nat) : Int))), .bool (decide ((((numS (b) (ad) (ok) (wd) : Nat) : Int)) ≤ (((((b)).length : Int)) - (((atS (b) (ad) (ok) (wd) : Nat) : Int)))))] 61), 9999)] (and_held 0 rfl no_held) [] [0, 1, 2, 3, 4, 5, 6, 7, 8, 9, 10, 11, 12, 13, 14, 15, 16] [] [.p 0, .p 1, .p 2, .p 3, .p 4, .p 5, .p 6, .p 7, .p 8, .p 9, .p 10, .p 11, .p 12, .p 13, .p 14, .p 15, .p 16, .s] rfl (by kernel_rfl) (by kernel_rfl) ?_
      refine h_seg 3 (by kernel_rfl) ?_
      refine gH (.load 28 (.tmp 45)) (some 46) (by kernel_rfl) (Y_load 0 (by kernel_rfl : (FOf _ _ _)[0]? = some (.blk bsc (.cells #[.slice Ab ((b)).length cb, .int .i64 ((((atS (b) (ad) (ok) (wd) : Nat) : Int)) + (((numS (b) (ad) (ok) (wd) : Nat) : Int))), .bool (decide ((((numS (b) (ad) (ok) (wd) : Nat) : Int)) ≤ (((((b)).length : Int)) - (((atS (b) (ad) (ok) (wd) : Nat) : Int)))))] 61))) (off := 0) (by kernel_rfl) (.slice Ab ((b)).length cb) (by kernel_rfl)) ?_
      refine h_seg 3 (by kernel_rfl) ?_
      refine gH (.load 3 (.tmp 49)) (some 50) (by kernel_rfl) (Y_load 0 (by kernel_rfl : (FOf _ _ _)[0]? = some (.blk bsc (.cells #[.slice Ab ((b)).length cb, .int .i64 ((((atS (b) (ad) (ok) (wd) : Nat) : Int)) + (((numS (b) (ad) (ok) (wd) : Nat) : Int))), .bool (decide ((((numS (b) (ad) (ok) (wd) : Nat) : Int)) ≤ (((((b)).length : Int)) - (((atS (b) (ad) (ok) (wd) : Nat) : Int)))))] 61))) (off := 1) (by kernel_rfl) (.int .i64 ((((atS (b) (ad) (ok) (wd) : Nat) : Int)) + (((numS (b) (ad) (ok) (wd) : Nat) : Int)))) (by kernel_rfl)) ?_
      refine h_seg 1 (by kernel_rfl) ?_
      refine gH (.binOp .sub 3 (.tmp 50) (.tmp 51) 3) (some 52) (by kernel_rfl) (Y_sub .i64 ((((atS (b) (ad) (ok) (wd) : Nat) : Int)) + (((numS (b) (ad) (ok) (wd) : Nat) : Int))) (((numS (b) (ad) (ok) (wd) : Nat) : Int)) (((((atS (b) (ad) (ok) (wd) : Nat) : Int)) + (((numS (b) (ad) (ok) (wd) : Nat) : Int))) - (((numS (b) (ad) (ok) (wd) : Nat) : Int))) (by kernel_rfl) (by kernel_rfl) (wrap64_ok _ (by omega))) ?_
      refine h_seg 3 (by kernel_rfl) ?_
      refine gH (.load 3 (.tmp 55)) (some 56) (by kernel_rfl) (Y_load 0 (by kernel_rfl : (FOf _ _ _)[0]? = some (.blk bsc (.cells #[.slice Ab ((b)).length cb, .int .i64 ((((atS (b) (ad) (ok) (wd) : Nat) : Int)) + (((numS (b) (ad) (ok) (wd) : Nat) : Int))), .bool (decide ((((numS (b) (ad) (ok) (wd) : Nat) : Int)) ≤ (((((b)).length : Int)) - (((atS (b) (ad) (ok) (wd) : Nat) : Int)))))] 61))) (off := 1) (by kernel_rfl) (.int .i64 ((((atS (b) (ad) (ok) (wd) : Nat) : Int)) + (((numS (b) (ad) (ok) (wd) : Nat) : Int)))) (by kernel_rfl)) ?_
      refine gH_slice (A := Ab) (c := cb) (hb.up hM37.le) (h := (by kernel_rfl : opAt _ _ _ _ _ = some (.slice 28 (.tmp 46) (some (.tmp 52)) (some (.tmp 56)) none, some 57))) (e := 5) (by kernel_rfl) (by kernel_rfl) ((((((atS (b) (ad) (ok) (wd) : Nat) : Int)) + (((numS (b) (ad) (ok) (wd) : Nat) : Int))) - (((numS (b) (ad) (ok) (wd) : Nat) : Int))).toNat) (((((atS (b) (ad) (ok) (wd) : Nat) : Int)) + (((numS (b) (ad) (ok) (wd) : Nat) : Int))).toNat) ⟨.i64, by rw [show (((((((atS (b) (ad) (ok) (wd) : Nat) : Int)) + (((numS (b) (ad) (ok) (wd) : Nat) : Int))) - (((numS (b) (ad) (ok) (wd) : Nat) : Int))).toNat : Nat) : Int) = ((((atS (b) (ad) (ok) (wd) : Nat) : Int)) + (((numS (b) (ad) (ok) (wd) : Nat) : Int))) - (((numS (b) (ad) (ok) (wd) : Nat) : Int)) from by omega]; kernel_rfl⟩ ⟨.i64, by rw [show ((((((atS (b) (ad) (ok) (wd) : Nat) : Int)) + (((numS (b) (ad) (ok) (wd) : Nat) : Int))).toNat : Nat) : Int) = (((atS (b) (ad) (ok) (wd) : Nat) : Int)) + (((numS (b) (ad) (ok) (wd) : Nat) : Int)) from by omega]; kernel_rfl⟩ (by first | omega | (have := atS_le b ad ok wd h1; omega)) (by first | omega | (have := atS_le b ad ok wd h1; omega)) ((((b)).take (((((atS (b) (ad) (ok) (wd) : Nat) : Int)) + (((numS (b) (ad) (ok) (wd) : Nat) : Int))).toNat)).drop ((((((atS (b) (ad) (ok) (wd) : Nat) : Int)) + (((numS (b) (ad) (ok) (wd) : Nat) : Int))) - (((numS (b) (ad) (ok) (wd) : Nat) : Int))).toNat)) rfl (fun A40 c41 r42 => ?_)
      refine gH (.convert 28 9 (.tmp 57)) (some 58) (by kernel_rfl) (Y_toStr (A := A40) (c := c41) r42 (e := 5) (by kernel_rfl) (by kernel_rfl) (by kernel_rfl)) ?_
      refine h_seg 1 (by kernel_rfl) ?_
      refine h_s no_fs ?_
      refine h_n (fun w43 hM44 => ?_)
      refine  (then_n (hK38 _ _ ?_))
      refine wp_ret ?_
      have hM45 := hM44.front 0 rfl
      have hM46 : Step V w [.blk bsc (.cells #[.slice Ab (b).length cb, .int .i64 ((ad : Int)), .bool (ok)] 61)] V5 _ ([.blk bsc (.cells #[.slice Ab ((b)).length cb, .int .i64 ((((atS (b) (ad) (ok) (wd) : Nat) : Int)) + (((numS (b) (ad) (ok) (wd) : Nat) : Int))), .bool (decide ((((numS (b) (ad) (ok) (wd) : Nat) : Int)) ≤ (((((b)).length : Int)) - (((atS (b) (ad) (ok) (wd) : Nat) : Int)))))] 61)]) := hM45
      refine retN [bs ((((b)).take (((((atS (b) (ad) (ok) (wd) : Nat) : Int)) + (((numS (b) (ad) (ok) (wd) : Nat) : Int))).toNat)).drop ((((((atS (b) (ad) (ok) (wd) : Nat) : Int)) + (((numS (b) (ad) (ok) (wd) : Nat) : Int))) - (((numS (b) (ad) (ok) (wd) : Nat) : Int))).toNat))] (bs ((((b)).take (((((atS (b) (ad) (ok) (wd) : Nat) : Int)) + (((numS (b) (ad) (ok) (wd) : Nat) : Int))).toNat)).drop ((((((atS (b) (ad) (ok) (wd) : Nat) : Int)) + (((numS (b) (ad) (ok) (wd) : Nat) : Int))) - (((numS (b) (ad) (ok) (wd) : Nat) : Int))).toNat))) Try.results43 (.tmp (by kernel_rfl) (by kernel_rfl) .nil) (by kernel_rfl) (hRet _ _ ⟨_, _, _, rfl, hM46, ?_⟩)
      -- end tf
      have hok := okP_t (b := b) (a := ad) (ok := ok) (w := wd) (by assumption) (by assumption)
      have hap := atP_t hok
      refine ⟨?_, ?_, ?_⟩
      · first | (simp only [strP, hok, cond_false]; done) | (simp only [strP, hok, cond_true]; exact congrArg bs (cut_eq (by omega) (by omega)))
      · first | (rw [hap, hok]; done) | (rw [hap, hok]; simp only [h16, h26, h32]; done) | (rw [hap, hok]; simp only [h16, h26, h32]; rfl)
      · exact Nat.le_trans (strP_len _ _ _ _) (by omega)
  · -- f
    refine h_seg 15 (by kernel_rfl) ?_
    refine h_s no_fs ?_
    refine h_a (by kernel_rfl) (by kernel_rfl) (fun w47 X48 hM49 => ?_)
    refine wpF_store hM49 0 rfl (h := (by kernel_rfl : opAt _ _ _ _ _ = some (.store 4 (.tmp 29) (.tmp 27), none))) (off := 2) (by kernel_rfl) #[.bool (false)] (by kernel_rfl) (by kernel_rfl) (by kernel_rfl) (by kernel_rfl) (fun w51 hM50 => ?_)
    have hM52 : Step V w [.blk bsc (.cells #[.slice Ab (b).length cb, .int .i64 ((ad : Int)), .bool (ok)] 61)] V5 _ ([.blk bsc (.cells #[.slice Ab ((b)).length cb, .int .i64 (((atS (b) (ad) (ok) (wd) : Nat) : Int)), .bool (false)] 61)] ++ X48) := hM50
    refine wpF_end _ (by kernel_rfl) (then_n (h_d [] (by kernel_rfl) [.blk bsc (.cells #[.slice Ab ((b)).length cb, .int .i64 (((atS (b) (ad) (ok) (wd) : Nat) : Int)), .bool (false)] 61)] hM52 no_held (VT.le.refl _) ?_))
    refine h_n (fun w53 hM54 => ?_)
    refine  (then_n (hK14 _ _ ?_))
    refine wp_seq_k (fun K55 hK55 => ?_)
    refine wp_reg ?_
    refine wpF_seg 3 (by kernel_rfl) ?_
    refine gF hM54 (.load 4 (.tmp 32)) (some 33) (by kernel_rfl) (Y_load 0 rfl (off := 2) (by kernel_rfl) (.bool (false)) (by kernel_rfl)) ?_
    refine wpF_seg 1 (by kernel_rfl) ?_
    refine wpF_end _ (by kernel_rfl) (then_n (hK55 _ _ ?_))
    refine wp_ct (by kernel_rfl) ?_
    refine wp_seq_k (fun K56 hK56 => ?_)
    refine wp_reg ?_
    refine wpF_seg 1 (by kernel_rfl) ?_
    refine wpF_end _ (by kernel_rfl) (then_n (hK56 _ _ ?_))
    refine wp_ret (then_r (?_))
    have hM57 := hM54.front 0 rfl
    have hM58 : Step V w [.blk bsc (.cells #[.slice Ab (b).length cb, .int .i64 ((ad : Int)), .bool (ok)] 61)] V5 _ ([.blk bsc (.cells #[.slice Ab ((b)).length cb, .int .i64 (((atS (b) (ad) (ok) (wd) : Nat) : Int)), .bool (false)] 61)]) := hM57
    refine retN [bs ([])] (bs ([])) Try.results43 (.tmp (by kernel_rfl) (by kernel_rfl) .nil) (by kernel_rfl) (hRet _ _ ⟨_, _, _, rfl, hM58, ?_⟩)
    -- end f
    have hok := okP_f1 (b := b) (a := ad) (ok := ok) (w := wd) (by assumption)
    have hap := atP_f hok
    refine ⟨?_, ?_, ?_⟩
    · first | (simp only [strP, hok, cond_false]; done) | (simp only [strP, hok, cond_true]; exact congrArg bs (cut_eq (by omega) (by omega)))
    · first | (rw [hap, hok]; done) | (rw [hap, hok]; simp only [h16]; done) | (rw [hap, hok]; simp only [h16]; rfl)
    · exact Nat.le_trans (strP_len _ _ _ _) (by omega)

set_option maxHeartbeats 4000000 in
set_option maxRecDepth 100000 in
theorem f23 (V : VT) (w : World) (hV : V.inW w) (Ab : Option Addr) (cb : Nat) (b : List UInt8) (hb : Rd byteK V Ab cb b) :
    Calls Try.prog 23 #[.slice Ab (b).length cb] w (RetP V w fun rv V' => ∃ (A1 : Option Addr), ∃ (c1 : Nat), ∃ (A2 : Option Addr), ∃ (c2 : Nat), ∃ (A3 : Option Addr), ∃ (c3 : Nat), rv = .tuple #[.agg #[.bool (rdL b), .slice A1 (rdK b).length c1, .slice A2 (rdV b).length c2, .slice A3 (rdC b).length c3], .int .i64 (rdE b)] ∧ Rd strK V' A1 c1 (rdK b) ∧ Rd strK V' A2 c2 (rdV b) ∧ Rd (intK .i64) V' A3 c3 (rdC b)) := by
  have mxb : b.length ≤ 140737488355328 := hb.max
  refine calls_env (n := 99) Try.func23 (c := _) rfl Try.ntmps23 (by kernel_rfl) (fun R hRet => ?_)
  have hM0 : Step V w [] V w [] := Step.refl (St.nilE hV)
  refine wp_seq_k (fun K1 hK1 => ?_)
  refine wp_reg ?_
  refine wpF_alloc hM0 #[.bool (false), .slice none 0 0, .slice none 0 0, .slice none 0 0] (h := (by kernel_rfl : opAt _ _ _ _ _ = some (.alloc 25, some 2))) (by kernel_rfl) (fun b2 w3 hM4 => ?_)
  refine wpF_seg 1 (by kernel_rfl) ?_
  refine wpF_end _ (by kernel_rfl) (then_n (hK1 _ _ ?_))
  refine wp_seq_k (fun K5 hK5 => ?_)
  refine wp_seq_k (fun K6 hK6 => ?_)
  refine wp_reg ?_
  refine wpF_seg 4 (by kernel_rfl) ?_
  refine wpF_caseB 11 (!(decide (((b.length : Int)) = (1024)))) (by kernel_rfl) (by kernel_rfl) (fun h7 => ?_) (fun h7 => ?_)
  · -- t
    have h8 : decide (((b.length : Int)) = (1024)) = false := by rw [← Bool.not_not (decide _), h7]; rfl
    have p9 : ¬ (((b.length : Int)) = (1024)) := of_decide_eq_false h8
    refine wpF_seg 11 (by kernel_rfl) ?_
    refine wpF_end _ (by kernel_rfl) (then_n (hK6 _ _ ?_))
    refine wp_ct (by kernel_rfl) ?_
    refine wp_seq_k (fun K10 hK10 => ?_)
    refine wp_reg ?_
    refine wpF_seg 1 (by kernel_rfl) ?_
    refine wpF_store hM4 0 rfl (h := (by kernel_rfl : opAt _ _ _ _ _ = some (.store 25 (.tmp 2) (.tmp 23), none))) (off := 0) (by kernel_rfl) #[.bool (false), .slice none 0 0, .slice none 0 0, .slice none 0 0] (by kernel_rfl) (by kernel_rfl) (by kernel_rfl) (by kernel_rfl) (fun w12 hM11 => ?_)
    have hM13 : Step V w [] V _ ([.blk b2 (.cells #[.bool (false), .slice none 0 0, .slice none 0 0, .slice none 0 0] 25)]) := hM11
    refine wpF_seg 1 (by kernel_rfl) ?_
    refine wpF_end _ (by kernel_rfl) (then_n (hK10 _ _ ?_))
    refine wp_ret (then_r (?_))
    refine retN [.agg #[.bool (false), .slice none 0 0, .slice none 0 0, .slice none 0 0], .int .i64 (4)] (.tuple #[.agg #[.bool (false), .slice none 0 0, .slice none 0 0, .slice none 0 0], .int .i64 (4)]) Try.results23 (.cell (by kernel_rfl) (by kernel_rfl) hM13 0 rfl (by kernel_rfl) (.tmp (by kernel_rfl) (by kernel_rfl) .nil)) (by kernel_rfl) (hRet _ _ ⟨_, _, rfl, hM13.clear, ?_⟩)
    -- end t
    obtain ⟨e1, e2, e3, e4, e5⟩ := rd_no (by first | exact rd_no1 (by assumption) | exact rd_no2 (by assumption) (by assumption))
    refine ⟨none, 0, none, 0, none, 0, ?_, ?_, ?_, ?_⟩
    · simp only [e1, e2, e3, e4, e5] <;> rfl
    · first | exact (Rd.nil _ _) | (exact Rd.eq (Rd.nil _ _) (by first | exact e3.symm | exact e4.symm | exact e5.symm))
    · first | exact (Rd.nil _ _) | (exact Rd.eq (Rd.nil _ _) (by first | exact e3.symm | exact e4.symm | exact e5.symm))
    · first | exact (Rd.nil _ _) | (exact Rd.eq (Rd.nil _ _) (by first | exact e3.symm | exact e4.symm | exact e5.symm))
  · -- f
    have h14 : decide (((b.length : Int)) = (1024)) = true := by rw [← Bool.not_not (decide _), h7]; rfl
    have p15 : (((b.length : Int)) = (1024)) := of_decide_eq_true h14
    refine wpF_seg 1 (by kernel_rfl) ?_
    refine gF_index (A := Ab) (c := cb) hb .i64 (0) (h := (by kernel_rfl : opAt _ _ _ _ _ = some (.indexAddr 28 (.tmp 12) (.const (.int .i64 0)), some 13))) (e := 5) (by kernel_rfl) (by kernel_rfl) (by kernel_rfl) (0) (by omega) (by omega) (fun b16 o17 at_b16 => ?_)
    have c18 : V b16 o17 = some (.int .u8 ((b.getD (0) 0).toNat : Int)) := At.byte at_b16
    have l19 : (b.getD (0) 0).toNat < 256 := UInt8.toNat_lt _
    refine gF hM4 (.load 5 (.tmp 13)) (some 14) (by kernel_rfl) (Y_loadV c18 (by kernel_rfl) (by kernel_rfl)) ?_
    refine wpF_seg 2 (by kernel_rfl) ?_
    refine wpF_caseB 16 (!(decide ((((b.getD (0) 0).toNat : Int)) = (76)))) (by kernel_rfl) (by kernel_rfl) (fun h20 => ?_) (fun h20 => ?_)
    · -- ft
      have h21 : decide ((((b.getD (0) 0).toNat : Int)) = (76)) = false := by rw [← Bool.not_not (decide _), h20]; rfl
      have p22 : ¬ ((((b.getD (0) 0).toNat : Int)) = (76)) := of_decide_eq_false h21
      refine wpF_seg 1 (by kernel_rfl) ?_
      refine gF_index (A := Ab) (c := cb) hb .i64 (0) (h := (by kernel_rfl : opAt _ _ _ _ _ = some (.indexAddr 28 (.tmp 17) (.const (.int .i64 0)), some 18))) (e := 5) (by kernel_rfl) (by kernel_rfl) (by kernel_rfl) (0) (by omega) (by omega) (fun b23 o24 at_b23 => ?_)
      have c25 : V b23 o24 = some (.int .u8 ((b.getD (0) 0).toNat : Int)) := At.byte at_b23
      have l26 : (b.getD (0) 0).toNat < 256 := UInt8.toNat_lt _
      refine gF hM4 (.load 5 (.tmp 18)) (some 19) (by kernel_rfl) (Y_loadV c25 (by kernel_rfl) (by kernel_rfl)) ?_
      refine wpF_seg 3 (by kernel_rfl) ?_
      refine wpF_end _ (by kernel_rfl) (then_n (hK6 _ _ ?_))
      refine wp_if (!(decide ((((b.getD (0) 0).toNat : Int)) = (73)))) (by kernel_rfl) (fun h27 => ?_) (fun h27 => ?_)
      · -- ftt
        have h28 : decide ((((b.getD (0) 0).toNat : Int)) = (73)) = false := by rw [← Bool.not_not (decide _), h27]; rfl
        have p29 : ¬ ((((b.getD (0) 0).toNat : Int)) = (73)) := of_decide_eq_false h28
        refine wp_seq_k (fun K30 hK30 => ?_)
        refine wp_reg ?_
        refine wpF_seg 1 (by kernel_rfl) ?_
        refine wpF_store hM4 0 rfl (h := (by kernel_rfl : opAt _ _ _ _ _ = some (.store 25 (.tmp 2) (.tmp 23), none))) (off := 0) (by kernel_rfl) #[.bool (false), .slice none 0 0, .slice none 0 0, .slice none 0 0] (by kernel_rfl) (by kernel_rfl) (by kernel_rfl) (by kernel_rfl) (fun w32 hM31 => ?_)
        have hM33 : Step V w [] V _ ([.blk b2 (.cells #[.bool (false), .slice none 0 0, .slice none 0 0, .slice none 0 0] 25)]) := hM31
        refine wpF_seg 1 (by kernel_rfl) ?_
        refine wpF_end _ (by kernel_rfl) (then_n (hK30 _ _ ?_))
        refine wp_ret (then_r (?_))
        refine retN [.agg #[.bool (false), .slice none 0 0, .slice none 0 0, .slice none 0 0], .int .i64 (4)] (.tuple #[.agg #[.bool (false), .slice none 0 0, .slice none 0 0, .slice none 0 0], .int .i64 (4)]) Try.results23 (.cell (by kernel_rfl) (by kernel_rfl) hM33 0 rfl (by kernel_rfl) (.tmp (by kernel_rfl) (by kernel_rfl) .nil)) (by kernel_rfl) (hRet _ _ ⟨_, _, rfl, hM33.clear, ?_⟩)
        -- end ftt
        obtain ⟨e1, e2, e3, e4, e5⟩ := rd_no (by first | exact rd_no1 (by assumption) | exact rd_no2 (by assumption) (by assumption))
        refine ⟨none, 0, none, 0, none, 0, ?_, ?_, ?_, ?_⟩
        · simp only [e1, e2, e3, e4, e5] <;> rfl
        · first | exact (Rd.nil _ _) | (exact Rd.eq (Rd.nil _ _) (by first | exact e3.symm | exact e4.symm | exact e5.symm))
        · first | exact (Rd.nil _ _) | (exact Rd.eq (Rd.nil _ _) (by first | exact e3.symm | exact e4.symm | exact e5.symm))
        · first | exact (Rd.nil _ _) | (exact Rd.eq (Rd.nil _ _) (by first | exact e3.symm | exact e4.symm | exact e5.symm))
      · -- ftf
        have h34 : decide ((((b.getD (0) 0).toNat : Int)) = (73)) = true := by rw [← Bool.not_not (decide _), h27]; rfl
        have p35 : ((((b.getD (0) 0).toNat : Int)) = (73)) := of_decide_eq_true h34
        have hq := atS_le b 1 true 2 (by omega)
        have hcnt : cntR b < 4294967296 := numS_4 b 1 true 2 (by omega)
        refine wp_skip (then_n (hK5 _ _ ?_))
        refine wp_seq_k (fun K36 hK36 => ?_)
        refine wp_reg ?_
        refine wpF_seg 2 (by kernel_rfl) ?_
        refine wpF_box hM4 #[.slice Ab (b).length cb, .int .i64 (1), .bool (true)] (h := (by kernel_rfl : opAt _ _ _ _ _ = some (.box 61 (.tmp 25), some 26))) (by kernel_rfl) (fun b37 w38 hM39 => ?_)
        refine wpF_seg 1 (by kernel_rfl) ?_
        refine wpF_end _ (by kernel_rfl) (then_n (hK36 _ _ ?_))
        refine wp_seq_k (fun K40 hK40 => ?_)
        refine wp_reg ?_
        refine wpF_seg 1 (by kernel_rfl) ?_
        refine gF_index (A := Ab) (c := cb) hb .i64 (0) (h := (by kernel_rfl : opAt _ _ _ _ _ = some (.indexAddr 28 (.tmp 27) (.const (.int .i64 0)), some 28))) (e := 5) (by kernel_rfl) (by kernel_rfl) (by kernel_rfl) (0) (by omega) (by omega) (fun b41 o42 at_b41 => ?_)
        have c43 : V b41 o42 = some (.int .u8 ((b.getD (0) 0).toNat : Int)) := At.byte at_b41
        have l44 : (b.getD (0) 0).toNat < 256 := UInt8.toNat_lt _
        refine gF hM39 (.load 5 (.tmp 28)) (some 29) (by kernel_rfl) (Y_loadV c43 (by kernel_rfl) (by kernel_rfl)) ?_
        refine wpF_seg 1 (by kernel_rfl) ?_
        refine wpF_slot 30 (.bool (decide ((((b.getD (0) 0).toNat : Int)) = (76)))) (.bool false) (by kernel_rfl) (by kernel_rfl) (by rw [h21]) ?_
        refine wpF_seg 1 (by kernel_rfl) ?_
        refine wpF_alloc hM39 #[.bool (false), .slice none 0 0, .slice none 0 0, .slice none 0 0] (h := (by kernel_rfl : opAt _ _ _ _ _ = some (.alloc 25, some 5))) (by kernel_rfl) (fun b45 w46 hM47 => ?_)
        refine wpF_store hM47 0 rfl (h := (by kernel_rfl : opAt _ _ _ _ _ = some (.store 25 (.tmp 5) (.tmp 31), none))) (off := 0) (by kernel_rfl) #[.bool (false), .slice none 0 0, .slice none 0 0, .slice none 0 0] (by kernel_rfl) (by kernel_rfl) (by kernel_rfl) (by kernel_rfl) (fun w49 hM48 => ?_)
        have hM50 : Step V w [] V _ ([.blk b45 (.cells #[.bool (false), .slice none 0 0, .slice none 0 0, .slice none 0 0] 25), .blk b37 (.cells #[.slice Ab (b).length cb, .int .i64 (1), .bool (true)] 61), .blk b2 (.cells #[.bool (false), .slice none 0 0, .slice none 0 0, .slice none 0 0] 25)]) := hM48
        refine wpF_end _ (by kernel_rfl) (then_n (hK40 _ _ ?_))
        refine wp_seq_k (fun K51 hK51 => ?_)
        refine wp_reg ?_
        refine wpF_seg 1 (by kernel_rfl) ?_
        have hM52 := hM50.front 1 rfl
        have hM60 : Step V w [] V _ ([.blk b37 (.cells #[.slice Ab (b).length cb, .int .i64 (1), .bool (true)] 61), .blk b45 (.cells #[.bool (false), .slice none 0 0, .slice none 0 0, .slice none 0 0] 25), .blk b2 (.cells #[.bool (false), .slice none 0 0, .slice none 0 0, .slice none 0 0] 25)]) := hM52
        refine wpF_callE [.blk b37 (.cells #[.slice Ab (b).length cb, .int .i64 (1), .bool (true)] 61)] ([.blk b45 (.cells #[.bool (false), .slice none 0 0, .slice none 0 0, .slice none 0 0] 25), .blk b2 (.cells #[.bool (false), .slice none 0 0, .slice none 0 0, .slice none 0 0] 25)]) hM60 (f := 42) (caps := #[]) (h := (by kernel_rfl : opAt _ _ _ _ _ = some (.call (.mk (.value (.func 42)) #[(.tmp 32), (.const (.int .i64 2))] #[59, 3]), some 33))) (by kernel_rfl) (by kernel_rfl) (by kernel_rfl) (f42 _ _ Ab cb (b) hb (1) (true) b37 (2) (St.part (E := [.blk b37 (.cells #[.slice Ab (b).length cb, .int .i64 (1), .bool (true)] 61)]) (F := ([.blk b45 (.cells #[.bool (false), .slice none 0 0, .slice none 0 0, .slice none 0 0] 25), .blk b2 (.cells #[.bool (false), .slice none 0 0, .slice none 0 0, .slice none 0 0] 25)])) hM60.ok) (by omega) (by omega) (by omega)) (fun v53 V54 w55 Eo56 le57 hM58 hp59 => ?_)
        obtain ⟨rfl, rfl⟩ := hp59
        have hM61 : Step V w [] V54 _ ([.blk b37 (.cells #[.slice Ab ((b)).length cb, .int .i64 (((atS (b) (1) (true) (2) : Nat) : Int)), .bool (okS (b) (1) (true) (2))] 61), .blk b45 (.cells #[.bool (false), .slice none 0 0, .slice none 0 0, .slice none 0 0] 25), .blk b2 (.cells #[.bool (false), .slice none 0 0, .slice none 0 0, .slice none 0 0] 25)]) := hM58
        refine wpF_seg 1 (by kernel_rfl) ?_
        refine wpF_end _ (by kernel_rfl) (then_n (hK51 _ _ ?_))
        refine wp_seq_k (fun K62 hK62 => ?_)
        refine wp_seq_k (fun K63 hK63 => ?_)
        refine wp_reg ?_
        refine wpF_seg 1 (by kernel_rfl) ?_
        refine gF hM61 (.load 4 (.tmp 34)) (some 35) (by kernel_rfl) (Y_load 1 rfl (off := 0) (by kernel_rfl) (.bool (false)) (by kernel_rfl)) ?_
        refine wpF_seg 1 (by kernel_rfl) ?_
        refine wpF_end _ (by kernel_rfl) (then_n (hK63 _ _ ?_))
        refine wp_ct (by kernel_rfl) ?_
        refine wp_base [(0, .slice Ab (b).length cb), (2, .pointer (some ⟨b2, 0, none⟩)), (3, .int .i64 (0)), (4, .pointer (some ⟨b37, 0, none⟩)), (5, .pointer (some ⟨b45, 0, none⟩)), (6, .int .i64 (((numS (b) (1) (true) (2) : Nat) : Int)))] (by kernel_rfl) (fun g64 => ?_)
        refine wp_drawN hM61 [(.blk b45 (.cells #[.bool (false), .slice none 0 0, .slice none 0 0, .slice none 0 0] 25), 7)] (and_held 1 rfl no_held) [] [0, 1, 2] [.a 3, .a 4, .a 5, .p 6, .a 7] [.p 0, .p 1, .p 2, .s, .a 3, .a 4, .a 5, .p 6, .a 7] rfl (by kernel_rfl) (by kernel_rfl) ?_
        refine h_seg 1 (by kernel_rfl) ?_
        refine gH (.load 23 (.tmp 37)) (some 38) (by kernel_rfl) (Y_load 0 (by kernel_rfl : (FOf _ _ _)[0]? = some (.blk b45 (.cells #[.bool (false), .slice none 0 0, .slice none 0 0, .slice none 0 0] 25))) (off := 3) (by kernel_rfl) (.slice none 0 0) (by kernel_rfl)) ?_
        refine h_seg 1 (by kernel_rfl) ?_
        refine h_s no_fs ?_
        refine h_a (by kernel_rfl) (by kernel_rfl) (fun w65 X66 hM67 => ?_)
        have hM68 := hM67.front 0 rfl
        have hM76 : Step V w [] V54 _ ([.blk b37 (.cells #[.slice Ab ((b)).length cb, .int .i64 (((atS (b) (1) (true) (2) : Nat) : Int)), .bool (okS (b) (1) (true) (2))] 61), .blk b45 (.cells #[.bool (false), .slice none 0 0, .slice none 0 0, .slice none 0 0] 25), .blk b2 (.cells #[.bool (false), .slice none 0 0, .slice none 0 0, .slice none 0 0] 25)] ++ X66) := hM68
        refine wpF_callE [.blk b37 (.cells #[.slice Ab ((b)).length cb, .int .i64 (((atS (b) (1) (true) (2) : Nat) : Int)), .bool (okS (b) (1) (true) (2))] 61)] ([.blk b45 (.cells #[.bool (false), .slice none 0 0, .slice none 0 0, .slice none 0 0] 25), .blk b2 (.cells #[.bool (false), .slice none 0 0, .slice none 0 0, .slice none 0 0] 25)] ++ X66) hM76 (f := 42) (caps := #[]) (h := (by kernel_rfl : opAt _ _ _ _ _ = some (.call (.mk (.value (.func 42)) #[(.tmp 39), (.const (.int .i64 4))] #[59, 3]), some 40))) (by kernel_rfl) (by kernel_rfl) (by kernel_rfl) (f42 _ _ Ab cb ((b)) (hb.up hM67.le) ((atS (b) (1) (true) (2))) (okS (b) (1) (true) (2)) b37 (4) (St.part (E := [.blk b37 (.cells #[.slice Ab ((b)).length cb, .int .i64 (((atS (b) (1) (true) (2) : Nat) : Int)), .bool (okS (b) (1) (true) (2))] 61)]) (F := ([.blk b45 (.cells #[.bool (false), .slice none 0 0, .slice none 0 0, .slice none 0 0] 25), .blk b2 (.cells #[.bool (false), .slice none 0 0, .slice none 0 0, .slice none 0 0] 25)] ++ X66)) hM76.ok) (by omega) (by omega) (by omega)) (fun v69 V70 w71 Eo72 le73 hM74 hp75 => ?_)
        obtain ⟨rfl, rfl⟩ := hp75
        have hM77 : Step V w [] V70 _ ([.blk b37 (.cells #[.slice Ab (((b))).length cb, .int .i64 (((atS ((b)) ((atS (b) (1) (true) (2))) (okS (b) (1) (true) (2)) (4) : Nat) : Int)), .bool (okS ((b)) ((atS (b) (1) (true) (2))) (okS (b) (1) (true) (2)) (4))] 61), .blk b45 (.cells #[.bool (false), .slice none 0 0, .slice none 0 0, .slice none 0 0] 25), .blk b2 (.cells #[.bool (false), .slice none 0 0, .slice none 0 0, .slice none 0 0] 25)] ++ X66) := hM74
        refine wpF_end _ (by kernel_rfl) (then_n (h_d [(.blk b45 (.cells #[.bool (false), .slice none 0 0, .slice none 0 0, .slice none 0 0] 25), 7)] (by kernel_rfl) [.blk b37 (.cells #[.slice Ab (((b))).length cb, .int .i64 (((atS ((b)) ((atS (b) (1) (true) (2))) (okS (b) (1) (true) (2)) (4) : Nat) : Int)), .bool (okS ((b)) ((atS (b) (1) (true) (2))) (okS (b) (1) (true) (2)) (4))] 61), .blk b45 (.cells #[.bool (false), .slice none 0 0, .slice none 0 0, .slice none 0 0] 25), .blk b2 (.cells #[.bool (false), .slice none 0 0, .slice none 0 0, .slice none 0 0] 25)] hM77 (and_held 1 rfl no_held) le73 ?_))
        refine h_a (by kernel_rfl) (by kernel_rfl) (fun w78 X79 hM80 => ?_)
        refine wpF_litR (intK .i64) hM80 #[.int .i64 (((numS ((b)) ((atS (b) (1) (true) (2))) (okS (b) (1) (true) (2)) (4) : Nat) : Int))] (h := (by kernel_rfl : opAt _ _ _ _ _ = some (.buildSlice 23 1 #[(0, (.tmp 40))], some 41))) (e := 3) (by kernel_rfl) (([((numS ((b)) ((atS (b) (1) (true) (2))) (okS (b) (1) (true) (2)) (4) : Nat) : Int)] : List Int)) (Reps.one_int (by exact i64_range (numS_4 _ _ _ _ (by omega)))) rfl (by simp [maxL]) (fun A81 c82 V85 w83 le86 hM84 r87 => ?_)
        refine wpF_end _ (by kernel_rfl) (then_n (h_d [(.blk b45 (.cells #[.bool (false), .slice none 0 0, .slice none 0 0, .slice none 0 0] 25), 7)] (by kernel_rfl) [.blk b37 (.cells #[.slice Ab (((b))).length cb, .int .i64 (((atS ((b)) ((atS (b) (1) (true) (2))) (okS (b) (1) (true) (2)) (4) : Nat) : Int)), .bool (okS ((b)) ((atS (b) (1) (true) (2))) (okS (b) (1) (true) (2)) (4))] 61), .blk b45 (.cells #[.bool (false), .slice none 0 0, .slice none 0 0, .slice none 0 0] 25), .blk b2 (.cells #[.bool (false), .slice none 0 0, .slice none 0 0, .slice none 0 0] 25)] hM84 (and_held 1 rfl no_held) le86 ?_))
        refine h_a (by kernel_rfl) (by kernel_rfl) (fun w88 X89 hM90 => ?_)
        have hM91 := hM90.nilrow (intK .i64) 3
        refine wpF_append (by_ := 8) hM91 0 rfl (h := (by kernel_rfl : opAt _ _ _ _ _ = some (.call (.mk (.builtin .append) #[(.tmp 38), (.tmp 41)] #[23, 23]), some 42))) (by kernel_rfl) (by kernel_rfl) (by kernel_rfl) (by kernel_rfl) (by kernel_rfl) (by kernel_rfl) (by kernel_rfl) (Src.rd r87) (by first | omega | (simp only [List.length_append, List.length_cons, List.length_nil]; omega)) (fun A92 c93 w94 hM95 => ?_)
        have hM96 : Step V w [] V85 _ ([.row (intK .i64) 3 A92 c93 (([((numS ((b)) ((atS (b) (1) (true) (2))) (okS (b) (1) (true) (2)) (4) : Nat) : Int)] : List Int)), .blk b37 (.cells #[.slice Ab (((b))).length cb, .int .i64 (((atS ((b)) ((atS (b) (1) (true) (2))) (okS (b) (1) (true) (2)) (4) : Nat) : Int)), .bool (okS ((b)) ((atS (b) (1) (true) (2))) (okS (b) (1) (true) (2)) (4))] 61), .blk b45 (.cells #[.bool (false), .slice none 0 0, .slice none 0 0, .slice none 0 0] 25), .blk b2 (.cells #[.bool (false), .slice none 0 0, .slice none 0 0, .slice none 0 0] 25)] ++ X89) := hM95
        refine wpF_end _ (by kernel_rfl) (then_n (h_d [(.blk b45 (.cells #[.bool (false), .slice none 0 0, .slice none 0 0, .slice none 0 0] 25), 7)] (by kernel_rfl) [.row (intK .i64) 3 A92 c93 (([((numS ((b)) ((atS (b) (1) (true) (2))) (okS (b) (1) (true) (2)) (4) : Nat) : Int)] : List Int)), .blk b37 (.cells #[.slice Ab (((b))).length cb, .int .i64 (((atS ((b)) ((atS (b) (1) (true) (2))) (okS (b) (1) (true) (2)) (4) : Nat) : Int)), .bool (okS ((b)) ((atS (b) (1) (true) (2))) (okS (b) (1) (true) (2)) (4))] 61), .blk b45 (.cells #[.bool (false), .slice none 0 0, .slice none 0 0, .slice none 0 0] 25), .blk b2 (.cells #[.bool (false), .slice none 0 0, .slice none 0 0, .slice none 0 0] 25)] hM96 (and_held 2 rfl no_held) (VT.le.refl _) ?_))
        refine h_seg 1 (by kernel_rfl) ?_
        refine h_a (by kernel_rfl) (by kernel_rfl) (fun w97 X98 hM99 => ?_)
        refine wpF_store hM99 2 rfl (h := (by kernel_rfl : opAt _ _ _ _ _ = some (.store 23 (.tmp 43) (.tmp 42), none))) (off := 3) (by kernel_rfl) #[.slice A92 (([((numS ((b)) ((atS (b) (1) (true) (2))) (okS (b) (1) (true) (2)) (4) : Nat) : Int)] : List Int)).length c93] (by kernel_rfl) (by kernel_rfl) (by kernel_rfl) (by kernel_rfl) (fun w101 hM100 => ?_)
        have hM102 : Step V w [] V85 _ ([.row (intK .i64) 3 A92 c93 (([((numS ((b)) ((atS (b) (1) (true) (2))) (okS (b) (1) (true) (2)) (4) : Nat) : Int)] : List Int)), .blk b37 (.cells #[.slice Ab (((b))).length cb, .int .i64 (((atS ((b)) ((atS (b) (1) (true) (2))) (okS (b) (1) (true) (2)) (4) : Nat) : Int)), .bool (okS ((b)) ((atS (b) (1) (true) (2))) (okS (b) (1) (true) (2)) (4))] 61), .blk b45 (.cells #[.bool (false), .slice none 0 0, .slice none 0 0, .slice A92 (([((numS ((b)) ((atS (b) (1) (true) (2))) (okS (b) (1) (true) (2)) (4) : Nat) : Int)] : List Int)).length c93] 25), .blk b2 (.cells #[.bool (false), .slice none 0 0, .slice none 0 0, .slice none 0 0] 25)] ++ X98) := hM100
        refine wpF_end _ (by kernel_rfl) (then_n (h_d [] (by kernel_rfl) [.row (intK .i64) 3 A92 c93 (([((numS ((b)) ((atS (b) (1) (true) (2))) (okS (b) (1) (true) (2)) (4) : Nat) : Int)] : List Int)), .blk b37 (.cells #[.slice Ab (((b))).length cb, .int .i64 (((atS ((b)) ((atS (b) (1) (true) (2))) (okS (b) (1) (true) (2)) (4) : Nat) : Int)), .bool (okS ((b)) ((atS (b) (1) (true) (2))) (okS (b) (1) (true) (2)) (4))] 61), .blk b45 (.cells #[.bool (false), .slice none 0 0, .slice none 0 0, .slice A92 (([((numS ((b)) ((atS (b) (1) (true) (2))) (okS (b) (1) (true) (2)) (4) : Nat) : Int)] : List Int)).length c93] 25), .blk b2 (.cells #[.bool (false), .slice none 0 0, .slice none 0 0, .slice none 0 0] 25)] hM102 no_held (VT.le.refl _) ?_))
        refine h_n (fun w103 hM104 => ?_)
        refine  (then_n (hK62 _ _ ?_))
        refine wp_seq_k (fun K105 hK105 => ?_)
        refine wp_block ?_
        have hM107 := hM104.nilrow strK 9
        have hM108 : Step V w [] V85 _ ([.row strK 9 none 0 (([] : List Str)), .row (intK .i64) 3 A92 c93 (([((numS ((b)) ((atS (b) (1) (true) (2))) (okS (b) (1) (true) (2)) (4) : Nat) : Int)] : List Int)), .blk b37 (.cells #[.slice Ab (((b))).length cb, .int .i64 (((atS ((b)) ((atS (b) (1) (true) (2))) (okS (b) (1) (true) (2)) (4) : Nat) : Int)), .bool (okS ((b)) ((atS (b) (1) (true) (2))) (okS (b) (1) (true) (2)) (4))] 61), .blk b45 (.cells #[.bool (false), .slice none 0 0, .slice none 0 0, .slice A92 (([((numS ((b)) ((atS (b) (1) (true) (2))) (okS (b) (1) (true) (2)) (4) : Nat) : Int)] : List Int)).length c93] 25), .blk b2 (.cells #[.bool (false), .slice none 0 0, .slice none 0 0, .slice none 0 0] 25)]) := hM107
        refine wp_base [(0, .slice Ab (b).length cb), (2, .pointer (some ⟨b2, 0, none⟩)), (3, .int .i64 (0)), (4, .pointer (some ⟨b37, 0, none⟩)), (5, .pointer (some ⟨b45, 0, none⟩)), (6, .int .i64 (((cntR b : Nat) : Int) - (0 : Int)))] (by kernel_rfl) (fun g109 => ?_)
        refine wp_loopX (fun (x_ : Nat) a_ w_ => ∃ (g : Nat → Value) (V_ : VT), ∃ (Arc5_1 : Option Addr) (crc5_1 : Nat), ∃ (Arc5_3 : Option Addr) (crc5_3 : Nat), a_ = env 99 [(0, .slice Ab (b).length cb), (2, .pointer (some ⟨b2, 0, none⟩)), (3, .int .i64 (0)), (4, .pointer (some ⟨b37, 0, none⟩)), (5, .pointer (some ⟨b45, 0, none⟩)), (6, .int .i64 (((cntR b : Nat) : Int) - (x_ : Int)))] g ∧ Step V w [] V_ w_ [.row strK 9 Arc5_1 crc5_1 ((rsN b false (x_)).ks), .row (intK .i64) 3 Arc5_3 crc5_3 ((rsN b false (x_)).cs), .blk b37 (.cells #[.slice Ab (((b))).length cb, .int .i64 ((((rsN b false (x_)).ad : Nat) : Int)), .bool ((rsN b false (x_)).ok)] 61), .blk b45 (.cells #[.bool (false), .slice Arc5_1 ((rsN b false (x_)).ks).length crc5_1, .slice none 0 0, .slice Arc5_3 ((rsN b false (x_)).cs).length crc5_3] 25), .blk b2 (.cells #[.bool (false), .slice none 0 0, .slice none 0 0, .slice none 0 0] 25)] ∧ VT.le V85 V_ ∧ (x_ ≤ cntR b)) (fun (x_ : Nat) => cntR b - x_) (0) ⟨g109, V85, none, 0, A92, c93, rfl, hM108, VT.le.refl _, by omega⟩ ?_
        rintro k a_ w111 ⟨g110, Vl106, Ar_114c5_1, cr_114c5_1, Ar_114c5_3, cr_114c5_3, rfl, hM112, le113, hi114_0⟩ K114 hK114
        have hin := rsN_inv (b := b) false (by omega) k
        simp only [cond_true, cond_false] at hin
        have ha1 := atP_le b (rsN b false k).ad (rsN b false k).ok 1 (by omega)
        refine wp_seq_k (fun K115 hK115 => ?_)
        refine wp_seq_k (fun K116 hK116 => ?_)
        refine wp_reg ?_
        refine wpF_seg 3 (by kernel_rfl) ?_
        refine wpF_caseB 46 (decide ((0) < (((cntR b : Nat) : Int) - (k : Int)))) (by kernel_rfl) (by kernel_rfl) (fun h117 => ?_) (fun h117 => ?_)
        · -- ftfLt
          have p118 : ((0) < (((cntR b : Nat) : Int) - (k : Int))) := of_decide_eq_true h117
          refine wpF_seg 3 (by kernel_rfl) ?_
          refine gF hM112 (.load 4 (.tmp 49)) (some 50) (by kernel_rfl) (Y_load 2 rfl (off := 2) (by kernel_rfl) (.bool ((rsN b false (k)).ok)) (by kernel_rfl)) ?_
          refine wpF_seg 1 (by kernel_rfl) ?_
          refine wpF_end _ (by kernel_rfl) (then_n (hK116 _ _ ?_))
          refine wp_if ((rsN b false (k)).ok) (by kernel_rfl) (fun h119 => ?_) (fun h119 => ?_)
          · -- ftfLtt
            have h5_ := hin.2.2.2.2 (by assumption)
            refine wp_skip (then_n (hK115 _ _ ?_))
            refine wp_seq_k (fun K120 hK120 => ?_)
            refine wp_block ?_
            refine wp_seq_k (fun K121 hK121 => ?_)
            refine wp_base [(0, .slice Ab (b).length cb), (2, .pointer (some ⟨b2, 0, none⟩)), (3, .int .i64 (0)), (4, .pointer (some ⟨b37, 0, none⟩)), (5, .pointer (some ⟨b45, 0, none⟩)), (6, .int .i64 (((cntR b : Nat) : Int) - (k : Int))), (44, .int .i64 (((cntR b : Nat) : Int) - (k : Int))), (45, .bool (decide ((0) < (((cntR b : Nat) : Int) - (k : Int))))), (46, .bool (true)), (47, .pointer (some ⟨b37, 0, none⟩)), (48, .pointer (some ⟨b37, 0, none⟩)), (49, .pointer (some ⟨b37, 2, none⟩)), (50, .bool ((rsN b false (k)).ok)), (51, .bool ((rsN b false (k)).ok))] (by kernel_rfl) (fun g122 => ?_)
            refine wp_drawN hM112 [(.blk b45 (.cells #[.bool (false), .slice Ar_114c5_1 ((rsN b false (k)).ks).length cr_114c5_1, .slice none 0 0, .slice Ar_114c5_3 ((rsN b false (k)).cs).length cr_114c5_3] 25), 7)] (and_held 3 rfl no_held) [] [0, 1, 2] [.a 3, .a 4, .a 5, .p 6, .a 7] [.p 0, .p 1, .p 2, .s, .a 3, .a 4, .a 5, .p 6, .a 7] rfl (by kernel_rfl) (by kernel_rfl) ?_
            refine h_seg 1 (by kernel_rfl) ?_
            refine gH (.load 22 (.tmp 54)) (some 55) (by kernel_rfl) (Y_load 0 (by kernel_rfl : (FOf _ _ _)[0]? = some (.blk b45 (.cells #[.bool (false), .slice Ar_114c5_1 ((rsN b false (k)).ks).length cr_114c5_1, .slice none 0 0, .slice Ar_114c5_3 ((rsN b false (k)).cs).length cr_114c5_3] 25))) (off := 1) (by kernel_rfl) (.slice Ar_114c5_1 ((rsN b false (k)).ks).length cr_114c5_1) (by kernel_rfl)) ?_
            refine h_seg 1 (by kernel_rfl) ?_
            refine h_s no_fs ?_
            refine h_a (by kernel_rfl) (by kernel_rfl) (fun w123 X124 hM125 => ?_)
            have hM126 := hM125.front 2 rfl
            have hM134 : Step V w [] Vl106 _ ([.blk b37 (.cells #[.slice Ab (((b))).length cb, .int .i64 ((((rsN b false (k)).ad : Nat) : Int)), .bool ((rsN b false (k)).ok)] 61), .row strK 9 Ar_114c5_1 cr_114c5_1 ((rsN b false (k)).ks), .row (intK .i64) 3 Ar_114c5_3 cr_114c5_3 ((rsN b false (k)).cs), .blk b45 (.cells #[.bool (false), .slice Ar_114c5_1 ((rsN b false (k)).ks).length cr_114c5_1, .slice none 0 0, .slice Ar_114c5_3 ((rsN b false (k)).cs).length cr_114c5_3] 25), .blk b2 (.cells #[.bool (false), .slice none 0 0, .slice none 0 0, .slice none 0 0] 25)] ++ X124) := hM126
            refine wpF_callE [.blk b37 (.cells #[.slice Ab (((b))).length cb, .int .i64 ((((rsN b false (k)).ad : Nat) : Int)), .bool ((rsN b false (k)).ok)] 61)] ([.row strK 9 Ar_114c5_1 cr_114c5_1 ((rsN b false (k)).ks), .row (intK .i64) 3 Ar_114c5_3 cr_114c5_3 ((rsN b false (k)).cs), .blk b45 (.cells #[.bool (false), .slice Ar_114c5_1 ((rsN b false (k)).ks).length cr_114c5_1, .slice none 0 0, .slice Ar_114c5_3 ((rsN b false (k)).cs).length cr_114c5_3] 25), .blk b2 (.cells #[.bool (false), .slice none 0 0, .slice none 0 0, .slice none 0 0] 25)] ++ X124) hM134 (f := 43) (caps := #[]) (h := (by kernel_rfl : opAt _ _ _ _ _ = some (.call (.mk (.value (.func 43)) #[(.tmp 56), (.const (.int .i64 1))] #[59, 3]), some 57))) (by kernel_rfl) (by kernel_rfl) (by kernel_rfl) (f43 _ _ Ab cb (((b))) (hb.up hM125.le) (((rsN b false (k)).ad)) ((rsN b false (k)).ok) b37 (1) (St.part (E := [.blk b37 (.cells #[.slice Ab (((b))).length cb, .int .i64 ((((rsN b false (k)).ad : Nat) : Int)), .bool ((rsN b false (k)).ok)] 61)]) (F := ([.row strK 9 Ar_114c5_1 cr_114c5_1 ((rsN b false (k)).ks), .row (intK .i64) 3 Ar_114c5_3 cr_114c5_3 ((rsN b false (k)).cs), .blk b45 (.cells #[.bool (false), .slice Ar_114c5_1 ((rsN b false (k)).ks).length cr_114c5_1, .slice none 0 0, .slice Ar_114c5_3 ((rsN b false (k)).cs).length cr_114c5_3] 25), .blk b2 (.cells #[.bool (false), .slice none 0 0, .slice none 0 0, .slice none 0 0] 25)] ++ X124)) hM134.ok) (by omega) (by omega) (by omega)) (fun v127 V128 w129 Eo130 le131 hM132 hp133 => ?_)
            obtain ⟨rfl, rfl, x135⟩ := hp133
            have hM136 : Step V w [] V128 _ ([.blk b37 (.cells #[.slice Ab ((((b)))).length cb, .int .i64 (((atP (((b))) (((rsN b false (k)).ad)) ((rsN b false (k)).ok) (1) : Nat) : Int)), .bool (okP (((b))) (((rsN b false (k)).ad)) ((rsN b false (k)).ok) (1))] 61), .row strK 9 Ar_114c5_1 cr_114c5_1 ((rsN b false (k)).ks), .row (intK .i64) 3 Ar_114c5_3 cr_114c5_3 ((rsN b false (k)).cs), .blk b45 (.cells #[.bool (false), .slice Ar_114c5_1 ((rsN b false (k)).ks).length cr_114c5_1, .slice none 0 0, .slice Ar_114c5_3 ((rsN b false (k)).cs).length cr_114c5_3] 25), .blk b2 (.cells #[.bool (false), .slice none 0 0, .slice none 0 0, .slice none 0 0] 25)] ++ X124) := hM132
            have x135 : (strP (((b))) (((rsN b false (k)).ad)) ((rsN b false (k)).ok) (1)).length ≤ 4096 := x135
            refine wpF_end _ (by kernel_rfl) (then_n (h_d [(.blk b45 (.cells #[.bool (false), .slice Ar_114c5_1 ((rsN b false (k)).ks).length cr_114c5_1, .slice none 0 0, .slice Ar_114c5_3 ((rsN b false (k)).cs).length cr_114c5_3] 25), 7)] (by kernel_rfl) [.blk b37 (.cells #[.slice Ab ((((b)))).length cb, .int .i64 (((atP (((b))) (((rsN b false (k)).ad)) ((rsN b false (k)).ok) (1) : Nat) : Int)), .bool (okP (((b))) (((rsN b false (k)).ad)) ((rsN b false (k)).ok) (1))] 61), .row strK 9 Ar_114c5_1 cr_114c5_1 ((rsN b false (k)).ks), .row (intK .i64) 3 Ar_114c5_3 cr_114c5_3 ((rsN b false (k)).cs), .blk b45 (.cells #[.bool (false), .slice Ar_114c5_1 ((rsN b false (k)).ks).length cr_114c5_1, .slice none 0 0, .slice Ar_114c5_3 ((rsN b false (k)).cs).length cr_114c5_3] 25), .blk b2 (.cells #[.bool (false), .slice none 0 0, .slice none 0 0, .slice none 0 0] 25)] hM136 (and_held 3 rfl no_held) le131 ?_))
            refine h_a (by kernel_rfl) (by kernel_rfl) (fun w137 X138 hM139 => ?_)
            refine wpF_litR strK hM139 #[bs (strP (((b))) (((rsN b false (k)).ad)) ((rsN b false (k)).ok) (1))] (h := (by kernel_rfl : opAt _ _ _ _ _ = some (.buildSlice 22 1 #[(0, (.tmp 57))], some 58))) (e := 9) (by kernel_rfl) (([strP (((b))) (((rsN b false (k)).ad)) ((rsN b false (k)).ok) (1)] : List Str)) (Reps.one_str (by first | decide | (simp only [maxL, List.length_append, List.length_cons, List.length_nil]; omega))) rfl (by simp [maxL]) (fun A140 c141 V144 w142 le145 hM143 r146 => ?_)
            refine wpF_end _ (by kernel_rfl) (then_n (h_d [(.blk b45 (.cells #[.bool (false), .slice Ar_114c5_1 ((rsN b false (k)).ks).length cr_114c5_1, .slice none 0 0, .slice Ar_114c5_3 ((rsN b false (k)).cs).length cr_114c5_3] 25), 7)] (by kernel_rfl) [.blk b37 (.cells #[.slice Ab ((((b)))).length cb, .int .i64 (((atP (((b))) (((rsN b false (k)).ad)) ((rsN b false (k)).ok) (1) : Nat) : Int)), .bool (okP (((b))) (((rsN b false (k)).ad)) ((rsN b false (k)).ok) (1))] 61), .row strK 9 Ar_114c5_1 cr_114c5_1 ((rsN b false (k)).ks), .row (intK .i64) 3 Ar_114c5_3 cr_114c5_3 ((rsN b false (k)).cs), .blk b45 (.cells #[.bool (false), .slice Ar_114c5_1 ((rsN b false (k)).ks).length cr_114c5_1, .slice none 0 0, .slice Ar_114c5_3 ((rsN b false (k)).cs).length cr_114c5_3] 25), .blk b2 (.cells #[.bool (false), .slice none 0 0, .slice none 0 0, .slice none 0 0] 25)] hM143 (and_held 3 rfl no_held) le145 ?_))
            refine h_a (by kernel_rfl) (by kernel_rfl) (fun w147 X148 hM149 => ?_)
            refine wpF_append (by_ := 16) hM149 1 rfl (h := (by kernel_rfl : opAt _ _ _ _ _ = some (.call (.mk (.builtin .append) #[(.tmp 55), (.tmp 58)] #[22, 22]), some 59))) (by kernel_rfl) (by kernel_rfl) (by kernel_rfl) (by kernel_rfl) (by kernel_rfl) (by kernel_rfl) (by kernel_rfl) (Src.rd r146) (by first | omega | (simp only [List.length_append, List.length_cons, List.length_nil]; omega)) (fun A150 c151 w152 hM153 => ?_)
            have hM154 : Step V w [] V144 _ ([.row strK 9 A150 c151 ((rsN b false (k)).ks ++ ([strP (((b))) (((rsN b false (k)).ad)) ((rsN b false (k)).ok) (1)] : List Str)), .blk b37 (.cells #[.slice Ab ((((b)))).length cb, .int .i64 (((atP (((b))) (((rsN b false (k)).ad)) ((rsN b false (k)).ok) (1) : Nat) : Int)), .bool (okP (((b))) (((rsN b false (k)).ad)) ((rsN b false (k)).ok) (1))] 61), .row (intK .i64) 3 Ar_114c5_3 cr_114c5_3 ((rsN b false (k)).cs), .blk b45 (.cells #[.bool (false), .slice Ar_114c5_1 ((rsN b false (k)).ks).length cr_114c5_1, .slice none 0 0, .slice Ar_114c5_3 ((rsN b false (k)).cs).length cr_114c5_3] 25), .blk b2 (.cells #[.bool (false), .slice none 0 0, .slice none 0 0, .slice none 0 0] 25)] ++ X148) := hM153
            refine wpF_end _ (by kernel_rfl) (then_n (h_d [(.blk b45 (.cells #[.bool (false), .slice Ar_114c5_1 ((rsN b false (k)).ks).length cr_114c5_1, .slice none 0 0, .slice Ar_114c5_3 ((rsN b false (k)).cs).length cr_114c5_3] 25), 7)] (by kernel_rfl) [.row strK 9 A150 c151 ((rsN b false (k)).ks ++ ([strP (((b))) (((rsN b false (k)).ad)) ((rsN b false (k)).ok) (1)] : List Str)), .blk b37 (.cells #[.slice Ab ((((b)))).length cb, .int .i64 (((atP (((b))) (((rsN b false (k)).ad)) ((rsN b false (k)).ok) (1) : Nat) : Int)), .bool (okP (((b))) (((rsN b false (k)).ad)) ((rsN b false (k)).ok) (1))] 61), .row (intK .i64) 3 Ar_114c5_3 cr_114c5_3 ((rsN b false (k)).cs), .blk b45 (.cells #[.bool (false), .slice Ar_114c5_1 ((rsN b false (k)).ks).length cr_114c5_1, .slice none 0 0, .slice Ar_114c5_3 ((rsN b false (k)).cs).length cr_114c5_3] 25), .blk b2 (.cells #[.bool (false), .slice none 0 0, .slice none 0 0, .slice none 0 0] 25)] hM154 (and_held 3 rfl no_held) (VT.le.refl _) ?_))
            refine h_seg 1 (by kernel_rfl) ?_
            refine h_a (by kernel_rfl) (by kernel_rfl) (fun w155 X156 hM157 => ?_)
            refine wpF_store hM157 3 rfl (h := (by kernel_rfl : opAt _ _ _ _ _ = some (.store 22 (.tmp 60) (.tmp 59), none))) (off := 1) (by kernel_rfl) #[.slice A150 ((rsN b false (k)).ks ++ ([strP (((b))) (((rsN b false (k)).ad)) ((rsN b false (k)).ok) (1)] : List Str)).length c151] (by kernel_rfl) (by kernel_rfl) (by kernel_rfl) (by kernel_rfl) (fun w159 hM158 => ?_)
            have hM160 : Step V w [] V144 _ ([.row strK 9 A150 c151 ((rsN b false (k)).ks ++ ([strP (((b))) (((rsN b false (k)).ad)) ((rsN b false (k)).ok) (1)] : List Str)), .blk b37 (.cells #[.slice Ab ((((b)))).length cb, .int .i64 (((atP (((b))) (((rsN b false (k)).ad)) ((rsN b false (k)).ok) (1) : Nat) : Int)), .bool (okP (((b))) (((rsN b false (k)).ad)) ((rsN b false (k)).ok) (1))] 61), .row (intK .i64) 3 Ar_114c5_3 cr_114c5_3 ((rsN b false (k)).cs), .blk b45 (.cells #[.bool (false), .slice A150 ((rsN b false (k)).ks ++ ([strP (((b))) (((rsN b false (k)).ad)) ((rsN b false (k)).ok) (1)] : List Str)).length c151, .slice none 0 0, .slice Ar_114c5_3 ((rsN b false (k)).cs).length cr_114c5_3] 25), .blk b2 (.cells #[.bool (false), .slice none 0 0, .slice none 0 0, .slice none 0 0] 25)] ++ X156) := hM158
            refine wpF_end _ (by kernel_rfl) (then_n (h_d [] (by kernel_rfl) [.row strK 9 A150 c151 ((rsN b false (k)).ks ++ ([strP (((b))) (((rsN b false (k)).ad)) ((rsN b false (k)).ok) (1)] : List Str)), .blk b37 (.cells #[.slice Ab ((((b)))).length cb, .int .i64 (((atP (((b))) (((rsN b false (k)).ad)) ((rsN b false (k)).ok) (1) : Nat) : Int)), .bool (okP (((b))) (((rsN b false (k)).ad)) ((rsN b false (k)).ok) (1))] 61), .row (intK .i64) 3 Ar_114c5_3 cr_114c5_3 ((rsN b false (k)).cs), .blk b45 (.cells #[.bool (false), .slice A150 ((rsN b false (k)).ks ++ ([strP (((b))) (((rsN b false (k)).ad)) ((rsN b false (k)).ok) (1)] : List Str)).length c151, .slice none 0 0, .slice Ar_114c5_3 ((rsN b false (k)).cs).length cr_114c5_3] 25), .blk b2 (.cells #[.bool (false), .slice none 0 0, .slice none 0 0, .slice none 0 0] 25)] hM160 no_held (VT.le.refl _) ?_))
            refine h_n (fun w161 hM162 => ?_)
            refine  (then_n (hK121 _ _ ?_))
            refine wp_seq_k (fun K163 hK163 => ?_)
            refine wp_reg ?_
            refine wpF_seg 1 (by kernel_rfl) ?_
            refine gF hM162 (.load 4 (.tmp 61)) (some 62) (by kernel_rfl) (Y_load 3 rfl (off := 0) (by kernel_rfl) (.bool (false)) (by kernel_rfl)) ?_
            refine wpF_end _ (by kernel_rfl) (then_n (hK163 _ _ ?_))
            refine wp_cf (by kernel_rfl) ?_
            refine wp_base [(0, .slice Ab (b).length cb), (2, .pointer (some ⟨b2, 0, none⟩)), (3, .int .i64 (0)), (4, .pointer (some ⟨b37, 0, none⟩)), (5, .pointer (some ⟨b45, 0, none⟩)), (6, .int .i64 (((cntR b : Nat) : Int) - (k : Int))), (44, .int .i64 (((cntR b : Nat) : Int) - (k : Int))), (45, .bool (decide ((0) < (((cntR b : Nat) : Int) - (k : Int))))), (46, .bool (true)), (47, .pointer (some ⟨b37, 0, none⟩)), (48, .pointer (some ⟨b37, 0, none⟩)), (49, .pointer (some ⟨b37, 2, none⟩)), (50, .bool ((rsN b false (k)).ok)), (51, .bool ((rsN b false (k)).ok)), (54, .pointer (some ⟨b45, 1, none⟩)), (55, .slice Ar_114c5_1 ((rsN b false (k)).ks).length cr_114c5_1), (56, .pointer (some ⟨b37, 0, none⟩)), (57, bs (strP (((b))) (((rsN b false (k)).ad)) ((rsN b false (k)).ok) (1))), (58, .slice A140 (([strP (((b))) (((rsN b false (k)).ad)) ((rsN b false (k)).ok) (1)] : List Str)).length c141), (59, .slice A150 ((rsN b false (k)).ks ++ ([strP (((b))) (((rsN b false (k)).ad)) ((rsN b false (k)).ok) (1)] : List Str)).length c151), (60, .pointer (some ⟨b45, 1, none⟩)), (61, .pointer (some ⟨b45, 0, none⟩)), (62, .bool (false))] (by kernel_rfl) (fun g164 => ?_)
            refine wp_drawN hM162 [(.blk b45 (.cells #[.bool (false), .slice A150 ((rsN b false (k)).ks ++ ([strP (((b))) (((rsN b false (k)).ad)) ((rsN b false (k)).ok) (1)] : List Str)).length c151, .slice none 0 0, .slice Ar_114c5_3 ((rsN b false (k)).cs).length cr_114c5_3] 25), 7)] (and_held 3 rfl no_held) [] [0, 1, 2] [.a 3, .a 4, .a 5, .p 6, .a 7] [.p 0, .p 1, .p 2, .s, .a 3, .a 4, .a 5, .p 6, .a 7] rfl (by kernel_rfl) (by kernel_rfl) ?_
            refine h_seg 1 (by kernel_rfl) ?_
            refine gH (.load 23 (.tmp 70)) (some 71) (by kernel_rfl) (Y_load 0 (by kernel_rfl : (FOf _ _ _)[0]? = some (.blk b45 (.cells #[.bool (false), .slice A150 ((rsN b false (k)).ks ++ ([strP (((b))) (((rsN b false (k)).ad)) ((rsN b false (k)).ok) (1)] : List Str)).length c151, .slice none 0 0, .slice Ar_114c5_3 ((rsN b false (k)).cs).length cr_114c5_3] 25))) (off := 3) (by kernel_rfl) (.slice Ar_114c5_3 ((rsN b false (k)).cs).length cr_114c5_3) (by kernel_rfl)) ?_
            refine h_seg 1 (by kernel_rfl) ?_
            refine h_s no_fs ?_
            refine h_a (by kernel_rfl) (by kernel_rfl) (fun w165 X166 hM167 => ?_)
            have hM168 := hM167.front 1 rfl
            have hM176 : Step V w [] V144 _ ([.blk b37 (.cells #[.slice Ab ((((b)))).length cb, .int .i64 (((atP (((b))) (((rsN b false (k)).ad)) ((rsN b false (k)).ok) (1) : Nat) : Int)), .bool (okP (((b))) (((rsN b false (k)).ad)) ((rsN b false (k)).ok) (1))] 61), .row strK 9 A150 c151 ((rsN b false (k)).ks ++ ([strP (((b))) (((rsN b false (k)).ad)) ((rsN b false (k)).ok) (1)] : List Str)), .row (intK .i64) 3 Ar_114c5_3 cr_114c5_3 ((rsN b false (k)).cs), .blk b45 (.cells #[.bool (false), .slice A150 ((rsN b false (k)).ks ++ ([strP (((b))) (((rsN b false (k)).ad)) ((rsN b false (k)).ok) (1)] : List Str)).length c151, .slice none 0 0, .slice Ar_114c5_3 ((rsN b false (k)).cs).length cr_114c5_3] 25), .blk b2 (.cells #[.bool (false), .slice none 0 0, .slice none 0 0, .slice none 0 0] 25)] ++ X166) := hM168
            refine wpF_callE [.blk b37 (.cells #[.slice Ab ((((b)))).length cb, .int .i64 (((atP (((b))) (((rsN b false (k)).ad)) ((rsN b false (k)).ok) (1) : Nat) : Int)), .bool (okP (((b))) (((rsN b false (k)).ad)) ((rsN b false (k)).ok) (1))] 61)] ([.row strK 9 A150 c151 ((rsN b false (k)).ks ++ ([strP (((b))) (((rsN b false (k)).ad)) ((rsN b false (k)).ok) (1)] : List Str)), .row (intK .i64) 3 Ar_114c5_3 cr_114c5_3 ((rsN b false (k)).cs), .blk b45 (.cells #[.bool (false), .slice A150 ((rsN b false (k)).ks ++ ([strP (((b))) (((rsN b false (k)).ad)) ((rsN b false (k)).ok) (1)] : List Str)).length c151, .slice none 0 0, .slice Ar_114c5_3 ((rsN b false (k)).cs).length cr_114c5_3] 25), .blk b2 (.cells #[.bool (false), .slice none 0 0, .slice none 0 0, .slice none 0 0] 25)] ++ X166) hM176 (f := 42) (caps := #[]) (h := (by kernel_rfl : opAt _ _ _ _ _ = some (.call (.mk (.value (.func 42)) #[(.tmp 72), (.const (.int .i64 4))] #[59, 3]), some 73))) (by kernel_rfl) (by kernel_rfl) (by kernel_rfl) (f42 _ _ Ab cb ((((b)))) (hb.up hM167.le) ((atP (((b))) (((rsN b false (k)).ad)) ((rsN b false (k)).ok) (1))) (okP (((b))) (((rsN b false (k)).ad)) ((rsN b false (k)).ok) (1)) b37 (4) (St.part (E := [.blk b37 (.cells #[.slice Ab ((((b)))).length cb, .int .i64 (((atP (((b))) (((rsN b false (k)).ad)) ((rsN b false (k)).ok) (1) : Nat) : Int)), .bool (okP (((b))) (((rsN b false (k)).ad)) ((rsN b false (k)).ok) (1))] 61)]) (F := ([.row strK 9 A150 c151 ((rsN b false (k)).ks ++ ([strP (((b))) (((rsN b false (k)).ad)) ((rsN b false (k)).ok) (1)] : List Str)), .row (intK .i64) 3 Ar_114c5_3 cr_114c5_3 ((rsN b false (k)).cs), .blk b45 (.cells #[.bool (false), .slice A150 ((rsN b false (k)).ks ++ ([strP (((b))) (((rsN b false (k)).ad)) ((rsN b false (k)).ok) (1)] : List Str)).length c151, .slice none 0 0, .slice Ar_114c5_3 ((rsN b false (k)).cs).length cr_114c5_3] 25), .blk b2 (.cells #[.bool (false), .slice none 0 0, .slice none 0 0, .slice none 0 0] 25)] ++ X166)) hM176.ok) (by omega) (by omega) (by omega)) (fun v169 V170 w171 Eo172 le173 hM174 hp175 => ?_)
            obtain ⟨rfl, rfl⟩ := hp175
            have hM177 : Step V w [] V170 _ ([.blk b37 (.cells #[.slice Ab (((((b))))).length cb, .int .i64 (((atS ((((b)))) ((atP (((b))) (((rsN b false (k)).ad)) ((rsN b false (k)).ok) (1))) (okP (((b))) (((rsN b false (k)).ad)) ((rsN b false (k)).ok) (1)) (4) : Nat) : Int)), .bool (okS ((((b)))) ((atP (((b))) (((rsN b false (k)).ad)) ((rsN b false (k)).ok) (1))) (okP (((b))) (((rsN b false (k)).ad)) ((rsN b false (k)).ok) (1)) (4))] 61), .row strK 9 A150 c151 ((rsN b false (k)).ks ++ ([strP (((b))) (((rsN b false (k)).ad)) ((rsN b false (k)).ok) (1)] : List Str)), .row (intK .i64) 3 Ar_114c5_3 cr_114c5_3 ((rsN b false (k)).cs), .blk b45 (.cells #[.bool (false), .slice A150 ((rsN b false (k)).ks ++ ([strP (((b))) (((rsN b false (k)).ad)) ((rsN b false (k)).ok) (1)] : List Str)).length c151, .slice none 0 0, .slice Ar_114c5_3 ((rsN b false (k)).cs).length cr_114c5_3] 25), .blk b2 (.cells #[.bool (false), .slice none 0 0, .slice none 0 0, .slice none 0 0] 25)] ++ X166) := hM174
            refine wpF_end _ (by kernel_rfl) (then_n (h_d [(.blk b45 (.cells #[.bool (false), .slice A150 ((rsN b false (k)).ks ++ ([strP (((b))) (((rsN b false (k)).ad)) ((rsN b false (k)).ok) (1)] : List Str)).length c151, .slice none 0 0, .slice Ar_114c5_3 ((rsN b false (k)).cs).length cr_114c5_3] 25), 7)] (by kernel_rfl) [.blk b37 (.cells #[.slice Ab (((((b))))).length cb, .int .i64 (((atS ((((b)))) ((atP (((b))) (((rsN b false (k)).ad)) ((rsN b false (k)).ok) (1))) (okP (((b))) (((rsN b false (k)).ad)) ((rsN b false (k)).ok) (1)) (4) : Nat) : Int)), .bool (okS ((((b)))) ((atP (((b))) (((rsN b false (k)).ad)) ((rsN b false (k)).ok) (1))) (okP (((b))) (((rsN b false (k)).ad)) ((rsN b false (k)).ok) (1)) (4))] 61), .row strK 9 A150 c151 ((rsN b false (k)).ks ++ ([strP (((b))) (((rsN b false (k)).ad)) ((rsN b false (k)).ok) (1)] : List Str)), .row (intK .i64) 3 Ar_114c5_3 cr_114c5_3 ((rsN b false (k)).cs), .blk b45 (.cells #[.bool (false), .slice A150 ((rsN b false (k)).ks ++ ([strP (((b))) (((rsN b false (k)).ad)) ((rsN b false (k)).ok) (1)] : List Str)).length c151, .slice none 0 0, .slice Ar_114c5_3 ((rsN b false (k)).cs).length cr_114c5_3] 25), .blk b2 (.cells #[.bool (false), .slice none 0 0, .slice none 0 0, .slice none 0 0] 25)] hM177 (and_held 3 rfl no_held) le173 ?_))
            refine h_a (by kernel_rfl) (by kernel_rfl) (fun w178 X179 hM180 => ?_)
            refine wpF_litR (intK .i64) hM180 #[.int .i64 (((numS ((((b)))) ((atP (((b))) (((rsN b false (k)).ad)) ((rsN b false (k)).ok) (1))) (okP (((b))) (((rsN b false (k)).ad)) ((rsN b false (k)).ok) (1)) (4) : Nat) : Int))] (h := (by kernel_rfl : opAt _ _ _ _ _ = some (.buildSlice 23 1 #[(0, (.tmp 73))], some 74))) (e := 3) (by kernel_rfl) (([((numS ((((b)))) ((atP (((b))) (((rsN b false (k)).ad)) ((rsN b false (k)).ok) (1))) (okP (((b))) (((rsN b false (k)).ad)) ((rsN b false (k)).ok) (1)) (4) : Nat) : Int)] : List Int)) (Reps.one_int (by exact i64_range (numS_4 _ _ _ _ (by omega)))) rfl (by simp [maxL]) (fun A181 c182 V185 w183 le186 hM184 r187 => ?_)
            refine wpF_end _ (by kernel_rfl) (then_n (h_d [(.blk b45 (.cells #[.bool (false), .slice A150 ((rsN b false (k)).ks ++ ([strP (((b))) (((rsN b false (k)).ad)) ((rsN b false (k)).ok) (1)] : List Str)).length c151, .slice none 0 0, .slice Ar_114c5_3 ((rsN b false (k)).cs).length cr_114c5_3] 25), 7)] (by kernel_rfl) [.blk b37 (.cells #[.slice Ab (((((b))))).length cb, .int .i64 (((atS ((((b)))) ((atP (((b))) (((rsN b false (k)).ad)) ((rsN b false (k)).ok) (1))) (okP (((b))) (((rsN b false (k)).ad)) ((rsN b false (k)).ok) (1)) (4) : Nat) : Int)), .bool (okS ((((b)))) ((atP (((b))) (((rsN b false (k)).ad)) ((rsN b false (k)).ok) (1))) (okP (((b))) (((rsN b false (k)).ad)) ((rsN b false (k)).ok) (1)) (4))] 61), .row strK 9 A150 c151 ((rsN b false (k)).ks ++ ([strP (((b))) (((rsN b false (k)).ad)) ((rsN b false (k)).ok) (1)] : List Str)), .row (intK .i64) 3 Ar_114c5_3 cr_114c5_3 ((rsN b false (k)).cs), .blk b45 (.cells #[.bool (false), .slice A150 ((rsN b false (k)).ks ++ ([strP (((b))) (((rsN b false (k)).ad)) ((rsN b false (k)).ok) (1)] : List Str)).length c151, .slice none 0 0, .slice Ar_114c5_3 ((rsN b false (k)).cs).length cr_114c5_3] 25), .blk b2 (.cells #[.bool (false), .slice none 0 0, .slice none 0 0, .slice none 0 0] 25)] hM184 (and_held 3 rfl no_held) le186 ?_))
            refine h_a (by kernel_rfl) (by kernel_rfl) (fun w188 X189 hM190 => ?_)
            refine wpF_append (by_ := 8) hM190 2 rfl (h := (by kernel_rfl : opAt _ _ _ _ _ = some (.call (.mk (.builtin .append) #[(.tmp 71), (.tmp 74)] #[23, 23]), some 75))) (by kernel_rfl) (by kernel_rfl) (by kernel_rfl) (by kernel_rfl) (by kernel_rfl) (by kernel_rfl) (by kernel_rfl) (Src.rd r187) (by first | omega | (simp only [List.length_append, List.length_cons, List.length_nil]; omega)) (fun A191 c192 w193 hM194 => ?_)
            have hM195 : Step V w [] V185 _ ([.row (intK .i64) 3 A191 c192 ((rsN b false (k)).cs ++ ([((numS ((((b)))) ((atP (((b))) (((rsN b false (k)).ad)) ((rsN b false (k)).ok) (1))) (okP (((b))) (((rsN b false (k)).ad)) ((rsN b false (k)).ok) (1)) (4) : Nat) : Int)] : List Int)), .blk b37 (.cells #[.slice Ab (((((b))))).length cb, .int .i64 (((atS ((((b)))) ((atP (((b))) (((rsN b false (k)).ad)) ((rsN b false (k)).ok) (1))) (okP (((b))) (((rsN b false (k)).ad)) ((rsN b false (k)).ok) (1)) (4) : Nat) : Int)), .bool (okS ((((b)))) ((atP (((b))) (((rsN b false (k)).ad)) ((rsN b false (k)).ok) (1))) (okP (((b))) (((rsN b false (k)).ad)) ((rsN b false (k)).ok) (1)) (4))] 61), .row strK 9 A150 c151 ((rsN b false (k)).ks ++ ([strP (((b))) (((rsN b false (k)).ad)) ((rsN b false (k)).ok) (1)] : List Str)), .blk b45 (.cells #[.bool (false), .slice A150 ((rsN b false (k)).ks ++ ([strP (((b))) (((rsN b false (k)).ad)) ((rsN b false (k)).ok) (1)] : List Str)).length c151, .slice none 0 0, .slice Ar_114c5_3 ((rsN b false (k)).cs).length cr_114c5_3] 25), .blk b2 (.cells #[.bool (false), .slice none 0 0, .slice none 0 0, .slice none 0 0] 25)] ++ X189) := hM194
            refine wpF_end _ (by kernel_rfl) (then_n (h_d [(.blk b45 (.cells #[.bool (false), .slice A150 ((rsN b false (k)).ks ++ ([strP (((b))) (((rsN b false (k)).ad)) ((rsN b false (k)).ok) (1)] : List Str)).length c151, .slice none 0 0, .slice Ar_114c5_3 ((rsN b false (k)).cs).length cr_114c5_3] 25), 7)] (by kernel_rfl) [.row (intK .i64) 3 A191 c192 ((rsN b false (k)).cs ++ ([((numS ((((b)))) ((atP (((b))) (((rsN b false (k)).ad)) ((rsN b false (k)).ok) (1))) (okP (((b))) (((rsN b false (k)).ad)) ((rsN b false (k)).ok) (1)) (4) : Nat) : Int)] : List Int)), .blk b37 (.cells #[.slice Ab (((((b))))).length cb, .int .i64 (((atS ((((b)))) ((atP (((b))) (((rsN b false (k)).ad)) ((rsN b false (k)).ok) (1))) (okP (((b))) (((rsN b false (k)).ad)) ((rsN b false (k)).ok) (1)) (4) : Nat) : Int)), .bool (okS ((((b)))) ((atP (((b))) (((rsN b false (k)).ad)) ((rsN b false (k)).ok) (1))) (okP (((b))) (((rsN b false (k)).ad)) ((rsN b false (k)).ok) (1)) (4))] 61), .row strK 9 A150 c151 ((rsN b false (k)).ks ++ ([strP (((b))) (((rsN b false (k)).ad)) ((rsN b false (k)).ok) (1)] : List Str)), .blk b45 (.cells #[.bool (false), .slice A150 ((rsN b false (k)).ks ++ ([strP (((b))) (((rsN b false (k)).ad)) ((rsN b false (k)).ok) (1)] : List Str)).length c151, .slice none 0 0, .slice Ar_114c5_3 ((rsN b false (k)).cs).length cr_114c5_3] 25), .blk b2 (.cells #[.bool (false), .slice none 0 0, .slice none 0 0, .slice none 0 0] 25)] hM195 (and_held 3 rfl no_held) (VT.le.refl _) ?_))
            refine h_seg 1 (by kernel_rfl) ?_
            refine h_a (by kernel_rfl) (by kernel_rfl) (fun w196 X197 hM198 => ?_)
            refine wpF_store hM198 3 rfl (h := (by kernel_rfl : opAt _ _ _ _ _ = some (.store 23 (.tmp 76) (.tmp 75), none))) (off := 3) (by kernel_rfl) #[.slice A191 ((rsN b false (k)).cs ++ ([((numS ((((b)))) ((atP (((b))) (((rsN b false (k)).ad)) ((rsN b false (k)).ok) (1))) (okP (((b))) (((rsN b false (k)).ad)) ((rsN b false (k)).ok) (1)) (4) : Nat) : Int)] : List Int)).length c192] (by kernel_rfl) (by kernel_rfl) (by kernel_rfl) (by kernel_rfl) (fun w200 hM199 => ?_)
            have hM201 : Step V w [] V185 _ ([.row (intK .i64) 3 A191 c192 ((rsN b false (k)).cs ++ ([((numS ((((b)))) ((atP (((b))) (((rsN b false (k)).ad)) ((rsN b false (k)).ok) (1))) (okP (((b))) (((rsN b false (k)).ad)) ((rsN b false (k)).ok) (1)) (4) : Nat) : Int)] : List Int)), .blk b37 (.cells #[.slice Ab (((((b))))).length cb, .int .i64 (((atS ((((b)))) ((atP (((b))) (((rsN b false (k)).ad)) ((rsN b false (k)).ok) (1))) (okP (((b))) (((rsN b false (k)).ad)) ((rsN b false (k)).ok) (1)) (4) : Nat) : Int)), .bool (okS ((((b)))) ((atP (((b))) (((rsN b false (k)).ad)) ((rsN b false (k)).ok) (1))) (okP (((b))) (((rsN b false (k)).ad)) ((rsN b false (k)).ok) (1)) (4))] 61), .row strK 9 A150 c151 ((rsN b false (k)).ks ++ ([strP (((b))) (((rsN b false (k)).ad)) ((rsN b false (k)).ok) (1)] : List Str)), .blk b45 (.cells #[.bool (false), .slice A150 ((rsN b false (k)).ks ++ ([strP (((b))) (((rsN b false (k)).ad)) ((rsN b false (k)).ok) (1)] : List Str)).length c151, .slice none 0 0, .slice A191 ((rsN b false (k)).cs ++ ([((numS ((((b)))) ((atP (((b))) (((rsN b false (k)).ad)) ((rsN b false (k)).ok) (1))) (okP (((b))) (((rsN b false (k)).ad)) ((rsN b false (k)).ok) (1)) (4) : Nat) : Int)] : List Int)).length c192] 25), .blk b2 (.cells #[.bool (false), .slice none 0 0, .slice none 0 0, .slice none 0 0] 25)] ++ X197) := hM199
            refine wpF_end _ (by kernel_rfl) (then_n (h_d [] (by kernel_rfl) [.row (intK .i64) 3 A191 c192 ((rsN b false (k)).cs ++ ([((numS ((((b)))) ((atP (((b))) (((rsN b false (k)).ad)) ((rsN b false (k)).ok) (1))) (okP (((b))) (((rsN b false (k)).ad)) ((rsN b false (k)).ok) (1)) (4) : Nat) : Int)] : List Int)), .blk b37 (.cells #[.slice Ab (((((b))))).length cb, .int .i64 (((atS ((((b)))) ((atP (((b))) (((rsN b false (k)).ad)) ((rsN b false (k)).ok) (1))) (okP (((b))) (((rsN b false (k)).ad)) ((rsN b false (k)).ok) (1)) (4) : Nat) : Int)), .bool (okS ((((b)))) ((atP (((b))) (((rsN b false (k)).ad)) ((rsN b false (k)).ok) (1))) (okP (((b))) (((rsN b false (k)).ad)) ((rsN b false (k)).ok) (1)) (4))] 61), .row strK 9 A150 c151 ((rsN b false (k)).ks ++ ([strP (((b))) (((rsN b false (k)).ad)) ((rsN b false (k)).ok) (1)] : List Str)), .blk b45 (.cells #[.bool (false), .slice A150 ((rsN b false (k)).ks ++ ([strP (((b))) (((rsN b false (k)).ad)) ((rsN b false (k)).ok) (1)] : List Str)).length c151, .slice none 0 0, .slice A191 ((rsN b false (k)).cs ++ ([((numS ((((b)))) ((atP (((b))) (((rsN b false (k)).ad)) ((rsN b false (k)).ok) (1))) (okP (((b))) (((rsN b false (k)).ad)) ((rsN b false (k)).ok) (1)) (4) : Nat) : Int)] : List Int)).length c192] 25), .blk b2 (.cells #[.bool (false), .slice none 0 0, .slice none 0 0, .slice none 0 0] 25)] hM201 no_held (VT.le.refl _) ?_))
            refine h_n (fun w202 hM203 => ?_)
            refine  (blk_n (then_n (hK120 _ _ ?_)))
            refine wp_reg ?_
            refine wpF_seg 1 (by kernel_rfl) ?_
            refine gF hM203 (.binOp .sub 3 (.tmp 52) (.const (.int .i64 1)) 3) (some 53) (by kernel_rfl) (Y_sub .i64 (((cntR b : Nat) : Int) - (k : Int)) (1) (((cntR b : Nat) : Int) - ((k + 1 : Nat) : Int)) (by kernel_rfl) (by kernel_rfl) (by rw [wrap64_ok _ (by omega)]; omega)) ?_
            refine wpF_seg 1 (by kernel_rfl) ?_
            refine wpF_base [(0, .slice Ab (b).length cb), (2, .pointer (some ⟨b2, 0, none⟩)), (3, .int .i64 (0)), (4, .pointer (some ⟨b37, 0, none⟩)), (5, .pointer (some ⟨b45, 0, none⟩)), (6, .int .i64 (((cntR b : Nat) : Int) - (k + 1 : Int)))] (by kernel_rfl) (fun g204 => ?_)
            have hM205 := hM203.front 4 rfl
            have hM206 := hM205.front 4 rfl
            have hM207 := hM206.front 3 rfl
            have hM208 := hM207.front 3 rfl
            have hM209 := hM208.front 4 rfl
            refine wpF_end _ (by kernel_rfl) (then_n (hK114 _ _ (k + 1) (by omega) ?_))
            refine ⟨g204, V185, A150, c151, A191, c192, rfl, hM209, ((((le113.trans le131).trans le145).trans le173).trans le186), ?_⟩
            · -- ftfLtt inv 0
              omega
          · -- ftfLtf
            refine wp_exit (then_x (then_x (blk_hit (then_n (hK105 _ _ ?_)))))
            refine wp_seq_k (fun K210 hK210 => ?_)
            refine wp_reg ?_
            refine wpF_seg 1 (by kernel_rfl) ?_
            refine wpF_end _ (by kernel_rfl) (then_n (hK210 _ _ ?_))
            refine wp_seq_k (fun K211 hK211 => ?_)
            refine wp_seq_k (fun K212 hK212 => ?_)
            refine wp_reg ?_
            refine wpF_seg 3 (by kernel_rfl) ?_
            refine gF hM112 (.load 4 (.tmp 79)) (some 80) (by kernel_rfl) (Y_load 2 rfl (off := 2) (by kernel_rfl) (.bool ((rsN b false (k)).ok)) (by kernel_rfl)) ?_
            refine wpF_seg 2 (by kernel_rfl) ?_
            refine wpF_slot 82 (.bool (!((rsN b false (k)).ok))) (.bool true) (by kernel_rfl) (by kernel_rfl) (by rw [(show (!((rsN b false (k)).ok)) = true from by rw [h119]; rfl)]) ?_
            refine wpF_seg 14 (by kernel_rfl) ?_
            refine wpF_end _ (by kernel_rfl) (then_n (hK212 _ _ ?_))
            refine wp_ct (by kernel_rfl) ?_
            refine wp_seq_k (fun K213 hK213 => ?_)
            refine wp_reg ?_
            refine wpF_seg 1 (by kernel_rfl) ?_
            refine wpF_store hM112 4 rfl (h := (by kernel_rfl : opAt _ _ _ _ _ = some (.store 25 (.tmp 2) (.tmp 97), none))) (off := 0) (by kernel_rfl) #[.bool (false), .slice none 0 0, .slice none 0 0, .slice none 0 0] (by kernel_rfl) (by kernel_rfl) (by kernel_rfl) (by kernel_rfl) (fun w215 hM214 => ?_)
            have hM216 : Step V w [] Vl106 _ ([.row strK 9 Ar_114c5_1 cr_114c5_1 ((rsN b false (k)).ks), .row (intK .i64) 3 Ar_114c5_3 cr_114c5_3 ((rsN b false (k)).cs), .blk b37 (.cells #[.slice Ab (((b))).length cb, .int .i64 ((((rsN b false (k)).ad : Nat) : Int)), .bool ((rsN b false (k)).ok)] 61), .blk b45 (.cells #[.bool (false), .slice Ar_114c5_1 ((rsN b false (k)).ks).length cr_114c5_1, .slice none 0 0, .slice Ar_114c5_3 ((rsN b false (k)).cs).length cr_114c5_3] 25), .blk b2 (.cells #[.bool (false), .slice none 0 0, .slice none 0 0, .slice none 0 0] 25)]) := hM214
            refine wpF_seg 1 (by kernel_rfl) ?_
            refine wpF_end _ (by kernel_rfl) (then_n (hK213 _ _ ?_))
            refine wp_ret (then_r (?_))
            refine retN [.agg #[.bool (false), .slice none 0 0, .slice none 0 0, .slice none 0 0], .int .i64 (4)] (.tuple #[.agg #[.bool (false), .slice none 0 0, .slice none 0 0, .slice none 0 0], .int .i64 (4)]) Try.results23 (.cell (by kernel_rfl) (by kernel_rfl) hM216 4 rfl (by kernel_rfl) (.tmp (by kernel_rfl) (by kernel_rfl) .nil)) (by kernel_rfl) (hRet _ _ ⟨_, _, rfl, hM216.clear, ?_⟩)
            -- end ftfLtf
            obtain ⟨e1, e2, e3, e4, e5⟩ := rd_no (rd_no3 (b := b) (leaf := false) (k := k) (by assumption) (by omega) (by assumption))
            refine ⟨none, 0, none, 0, none, 0, ?_, ?_, ?_, ?_⟩
            · simp only [e1, e2, e3, e4, e5] <;> rfl
            · first | exact (Rd.nil _ _) | (exact Rd.eq (Rd.nil _ _) (by first | exact e3.symm | exact e4.symm | exact e5.symm))
            · first | exact (Rd.nil _ _) | (exact Rd.eq (Rd.nil _ _) (by first | exact e3.symm | exact e4.symm | exact e5.symm))
            · first | exact (Rd.nil _ _) | (exact Rd.eq (Rd.nil _ _) (by first | exact e3.symm | exact e4.symm | exact e5.symm))
        · -- ftfLf
          have p217 : ¬ ((0) < (((cntR b : Nat) : Int) - (k : Int))) := of_decide_eq_false h117
          refine wpF_seg 5 (by kernel_rfl) ?_
          refine wpF_end _ (by kernel_rfl) (then_n (hK116 _ _ ?_))
          refine wp_cf (by kernel_rfl) ?_
          refine wp_exit (then_x (then_x (blk_hit (then_n (hK105 _ _ ?_)))))
          refine wp_seq_k (fun K218 hK218 => ?_)
          refine wp_reg ?_
          refine wpF_seg 1 (by kernel_rfl) ?_
          refine wpF_end _ (by kernel_rfl) (then_n (hK218 _ _ ?_))
          refine wp_seq_k (fun K219 hK219 => ?_)
          refine wp_seq_k (fun K220 hK220 => ?_)
          refine wp_reg ?_
          refine wpF_seg 3 (by kernel_rfl) ?_
          refine gF hM112 (.load 4 (.tmp 79)) (some 80) (by kernel_rfl) (Y_load 2 rfl (off := 2) (by kernel_rfl) (.bool ((rsN b false (k)).ok)) (by kernel_rfl)) ?_
          refine wpF_seg 2 (by kernel_rfl) ?_
          refine wpF_caseB 82 (!((rsN b false (k)).ok)) (by kernel_rfl) (by kernel_rfl) (fun h221 => ?_) (fun h221 => ?_)
          · -- ftfLft
            have h222 : ((rsN b false (k)).ok) = false := by simpa using h221
            refine wpF_seg 14 (by kernel_rfl) ?_
            refine wpF_end _ (by kernel_rfl) (then_n (hK220 _ _ ?_))
            refine wp_ct (by kernel_rfl) ?_
            refine wp_seq_k (fun K223 hK223 => ?_)
            refine wp_reg ?_
            refine wpF_seg 1 (by kernel_rfl) ?_
            refine wpF_store hM112 4 rfl (h := (by kernel_rfl : opAt _ _ _ _ _ = some (.store 25 (.tmp 2) (.tmp 97), none))) (off := 0) (by kernel_rfl) #[.bool (false), .slice none 0 0, .slice none 0 0, .slice none 0 0] (by kernel_rfl) (by kernel_rfl) (by kernel_rfl) (by kernel_rfl) (fun w225 hM224 => ?_)
            have hM226 : Step V w [] Vl106 _ ([.row strK 9 Ar_114c5_1 cr_114c5_1 ((rsN b false (k)).ks), .row (intK .i64) 3 Ar_114c5_3 cr_114c5_3 ((rsN b false (k)).cs), .blk b37 (.cells #[.slice Ab (((b))).length cb, .int .i64 ((((rsN b false (k)).ad : Nat) : Int)), .bool ((rsN b false (k)).ok)] 61), .blk b45 (.cells #[.bool (false), .slice Ar_114c5_1 ((rsN b false (k)).ks).length cr_114c5_1, .slice none 0 0, .slice Ar_114c5_3 ((rsN b false (k)).cs).length cr_114c5_3] 25), .blk b2 (.cells #[.bool (false), .slice none 0 0, .slice none 0 0, .slice none 0 0] 25)]) := hM224
            refine wpF_seg 1 (by kernel_rfl) ?_
            refine wpF_end _ (by kernel_rfl) (then_n (hK223 _ _ ?_))
            refine wp_ret (then_r (?_))
            refine retN [.agg #[.bool (false), .slice none 0 0, .slice none 0 0, .slice none 0 0], .int .i64 (4)] (.tuple #[.agg #[.bool (false), .slice none 0 0, .slice none 0 0, .slice none 0 0], .int .i64 (4)]) Try.results23 (.cell (by kernel_rfl) (by kernel_rfl) hM226 4 rfl (by kernel_rfl) (.tmp (by kernel_rfl) (by kernel_rfl) .nil)) (by kernel_rfl) (hRet _ _ ⟨_, _, rfl, hM226.clear, ?_⟩)
            -- end ftfLft
            obtain ⟨e1, e2, e3, e4, e5⟩ := rd_no (rd_no3 (b := b) (leaf := false) (k := k) (by assumption) (by omega) (by assumption))
            refine ⟨none, 0, none, 0, none, 0, ?_, ?_, ?_, ?_⟩
            · simp only [e1, e2, e3, e4, e5] <;> rfl
            · first | exact (Rd.nil _ _) | (exact Rd.eq (Rd.nil _ _) (by first | exact e3.symm | exact e4.symm | exact e5.symm))
            · first | exact (Rd.nil _ _) | (exact Rd.eq (Rd.nil _ _) (by first | exact e3.symm | exact e4.symm | exact e5.symm))
            · first | exact (Rd.nil _ _) | (exact Rd.eq (Rd.nil _ _) (by first | exact e3.symm | exact e4.symm | exact e5.symm))
          · -- ftfLff
            have h227 : ((rsN b false (k)).ok) = true := by simpa using h221
            have h5_ := hin.2.2.2.2 (by assumption)
            refine gF hM112 (.load 25 (.tmp 5)) (some 83) (by kernel_rfl) (Y_load 3 rfl (off := 0) (by kernel_rfl) (.agg #[.bool (false), .slice Ar_114c5_1 ((rsN b false (k)).ks).length cr_114c5_1, .slice none 0 0, .slice Ar_114c5_3 ((rsN b false (k)).cs).length cr_114c5_3]) (by kernel_rfl)) ?_
            obtain ⟨V228, le229, hM230, r231⟩ := hM112.settleRow 0 rfl
            have hM232 : Step V w [] V228 _ ([.row (intK .i64) 3 Ar_114c5_3 cr_114c5_3 ((rsN b false (k)).cs), .blk b37 (.cells #[.slice Ab (((b))).length cb, .int .i64 ((((rsN b false (k)).ad : Nat) : Int)), .bool ((rsN b false (k)).ok)] 61), .blk b45 (.cells #[.bool (false), .slice Ar_114c5_1 ((rsN b false (k)).ks).length cr_114c5_1, .slice none 0 0, .slice Ar_114c5_3 ((rsN b false (k)).cs).length cr_114c5_3] 25), .blk b2 (.cells #[.bool (false), .slice none 0 0, .slice none 0 0, .slice none 0 0] 25)]) := hM230
            obtain ⟨V233, le234, hM235, r236⟩ := hM232.settleRow 0 rfl
            have hM237 : Step V w [] V233 _ ([.blk b37 (.cells #[.slice Ab (((b))).length cb, .int .i64 ((((rsN b false (k)).ad : Nat) : Int)), .bool ((rsN b false (k)).ok)] 61), .blk b45 (.cells #[.bool (false), .slice Ar_114c5_1 ((rsN b false (k)).ks).length cr_114c5_1, .slice none 0 0, .slice Ar_114c5_3 ((rsN b false (k)).cs).length cr_114c5_3] 25), .blk b2 (.cells #[.bool (false), .slice none 0 0, .slice none 0 0, .slice none 0 0] 25)]) := hM235
            refine wpF_callP hM237 (f := 17) (caps := #[]) (h := (by kernel_rfl : opAt _ _ _ _ _ = some (.call (.mk (.value (.func 17)) #[(.tmp 83)] #[25]), some 84))) (by kernel_rfl) (by kernel_rfl) (by kernel_rfl) (f17 _ _ hM237.inW (false) Ar_114c5_1 cr_114c5_1 ((rsN b false (k)).ks) (r231.up le234) none 0 ([] : List Str) (Rd.nil _ _) Ar_114c5_3 cr_114c5_3 ((rsN b false (k)).cs) r236 (by first | omega | (simp only [List.length_nil]; omega)) (by first | omega | (simp only [List.length_nil]; omega))) (fun v238 V239 w240 le241 hM242 hp243 => ?_)
            obtain rfl := hp243
            refine wpF_seg 3 (by kernel_rfl) ?_
            refine wpF_caseB 87 (!(decide ((checkM (false) ((rsN b false (k)).ks) ([] : List Str) ((rsN b false (k)).cs)) = (0)))) (by kernel_rfl) (by kernel_rfl) (fun h244 => ?_) (fun h244 => ?_)
            · -- ftfLfft
              have h245 : decide ((checkM (false) ((rsN b false (k)).ks) ([] : List Str) ((rsN b false (k)).cs)) = (0)) = false := by rw [← Bool.not_not (decide _), h244]; rfl
              have p246 : ¬ ((checkM (false) ((rsN b false (k)).ks) ([] : List Str) ((rsN b false (k)).cs)) = (0)) := of_decide_eq_false h245
              refine wpF_seg 9 (by kernel_rfl) ?_
              refine wpF_end _ (by kernel_rfl) (then_n (hK220 _ _ ?_))
              refine wp_ct (by kernel_rfl) ?_
              refine wp_seq_k (fun K247 hK247 => ?_)
              refine wp_reg ?_
              refine wpF_seg 1 (by kernel_rfl) ?_
              refine wpF_store hM242 2 rfl (h := (by kernel_rfl : opAt _ _ _ _ _ = some (.store 25 (.tmp 2) (.tmp 97), none))) (off := 0) (by kernel_rfl) #[.bool (false), .slice none 0 0, .slice none 0 0, .slice none 0 0] (by kernel_rfl) (by kernel_rfl) (by kernel_rfl) (by kernel_rfl) (fun w249 hM248 => ?_)
              have hM250 : Step V w [] V239 _ ([.blk b37 (.cells #[.slice Ab (((b))).length cb, .int .i64 ((((rsN b false (k)).ad : Nat) : Int)), .bool ((rsN b false (k)).ok)] 61), .blk b45 (.cells #[.bool (false), .slice Ar_114c5_1 ((rsN b false (k)).ks).length cr_114c5_1, .slice none 0 0, .slice Ar_114c5_3 ((rsN b false (k)).cs).length cr_114c5_3] 25), .blk b2 (.cells #[.bool (false), .slice none 0 0, .slice none 0 0, .slice none 0 0] 25)]) := hM248
              refine wpF_seg 1 (by kernel_rfl) ?_
              refine wpF_end _ (by kernel_rfl) (then_n (hK247 _ _ ?_))
              refine wp_ret (then_r (?_))
              refine retN [.agg #[.bool (false), .slice none 0 0, .slice none 0 0, .slice none 0 0], .int .i64 (4)] (.tuple #[.agg #[.bool (false), .slice none 0 0, .slice none 0 0, .slice none 0 0], .int .i64 (4)]) Try.results23 (.cell (by kernel_rfl) (by kernel_rfl) hM250 2 rfl (by kernel_rfl) (.tmp (by kernel_rfl) (by kernel_rfl) .nil)) (by kernel_rfl) (hRet _ _ ⟨_, _, rfl, hM250.clear, ?_⟩)
              -- end ftfLfft
              obtain ⟨e1, e2, e3, e4, e5⟩ := rd_no (rd_no4 (b := b) (leaf := false) (k := k) (by assumption) (by omega) (by first | assumption | (rw [rsN_leafc]; assumption) | (rw [rsN_innv]; assumption)))
              refine ⟨none, 0, none, 0, none, 0, ?_, ?_, ?_, ?_⟩
              · simp only [e1, e2, e3, e4, e5] <;> rfl
              · first | exact (Rd.nil _ _) | (exact Rd.eq (Rd.nil _ _) (by first | exact e3.symm | exact e4.symm | exact e5.symm))
              · first | exact (Rd.nil _ _) | (exact Rd.eq (Rd.nil _ _) (by first | exact e3.symm | exact e4.symm | exact e5.symm))
              · first | exact (Rd.nil _ _) | (exact Rd.eq (Rd.nil _ _) (by first | exact e3.symm | exact e4.symm | exact e5.symm))
            · -- ftfLfff
              have h251 : decide ((checkM (false) ((rsN b false (k)).ks) ([] : List Str) ((rsN b false (k)).cs)) = (0)) = true := by rw [← Bool.not_not (decide _), h244]; rfl
              have p252 : ((checkM (false) ((rsN b false (k)).ks) ([] : List Str) ((rsN b false (k)).cs)) = (0)) := of_decide_eq_true h251
              refine wpF_seg 4 (by kernel_rfl) ?_
              refine gF hM242 (.load 3 (.tmp 91)) (some 92) (by kernel_rfl) (Y_load 0 rfl (off := 1) (by kernel_rfl) (.int .i64 ((((rsN b false (k)).ad : Nat) : Int))) (by kernel_rfl)) ?_
              refine gF_slice (A := Ab) (c := cb) (hb.up hM242.le) (h := (by kernel_rfl : opAt _ _ _ _ _ = some (.slice 28 (.tmp 88) (some (.tmp 92)) none none, some 93))) (e := 5) (by kernel_rfl) (by kernel_rfl) (((rsN b false (k)).ad)) (b.length) ⟨.i64, by rw [show ((((rsN b false (k)).ad) : Nat) : Int) = (((rsN b false (k)).ad : Nat) : Int) from by omega]; kernel_rfl⟩ rfl (by omega) (by omega) (b.drop (((rsN b false (k)).ad))) (by rw [List.take_length]) (fun A253 c254 r255 => ?_)
              refine wpF_seg 1 (by kernel_rfl) ?_
              refine wpF_callP hM242 (f := 45) (caps := #[]) (h := (by kernel_rfl : opAt _ _ _ _ _ = some (.call (.mk (.value (.func 45)) #[(.tmp 93), (.tmp 94)] #[28, 64]), some 95))) (by kernel_rfl) (by kernel_rfl) (by kernel_rfl) (f45 _ _ hM242.inW 44 #[] (by kernel_rfl) (fun (y_ : UInt8) => !decide ((y_.toNat : Int) = (0 : Int))) A253 c254 (b.drop (((rsN b false (k)).ad))) r255 (fun V_ w_ l_ i_ j_ hj_ h_ => f44 V_ w_ i_ (((b.drop (((rsN b false (k)).ad))).getD j_ 0).toNat : Int))) (fun v256 V257 w258 le259 hM260 hp261 => ?_)
              obtain rfl := hp261
              refine wpF_seg 1 (by kernel_rfl) ?_
              refine wpF_end _ (by kernel_rfl) (then_n (hK220 _ _ ?_))
              refine wp_if ((b.drop (((rsN b false (k)).ad))).any (fun (y_ : UInt8) => !decide ((y_.toNat : Int) = (0 : Int)))) (by kernel_rfl) (fun h262 => ?_) (fun h262 => ?_)
              · -- ftfLffft
                refine wp_seq_k (fun K263 hK263 => ?_)
                refine wp_reg ?_
                refine wpF_seg 1 (by kernel_rfl) ?_
                refine wpF_store hM260 2 rfl (h := (by kernel_rfl : opAt _ _ _ _ _ = some (.store 25 (.tmp 2) (.tmp 97), none))) (off := 0) (by kernel_rfl) #[.bool (false), .slice none 0 0, .slice none 0 0, .slice none 0 0] (by kernel_rfl) (by kernel_rfl) (by kernel_rfl) (by kernel_rfl) (fun w265 hM264 => ?_)
                have hM266 : Step V w [] V257 _ ([.blk b37 (.cells #[.slice Ab (((b))).length cb, .int .i64 ((((rsN b false (k)).ad : Nat) : Int)), .bool ((rsN b false (k)).ok)] 61), .blk b45 (.cells #[.bool (false), .slice Ar_114c5_1 ((rsN b false (k)).ks).length cr_114c5_1, .slice none 0 0, .slice Ar_114c5_3 ((rsN b false (k)).cs).length cr_114c5_3] 25), .blk b2 (.cells #[.bool (false), .slice none 0 0, .slice none 0 0, .slice none 0 0] 25)]) := hM264
                refine wpF_seg 1 (by kernel_rfl) ?_
                refine wpF_end _ (by kernel_rfl) (then_n (hK263 _ _ ?_))
                refine wp_ret (then_r (?_))
                refine retN [.agg #[.bool (false), .slice none 0 0, .slice none 0 0, .slice none 0 0], .int .i64 (4)] (.tuple #[.agg #[.bool (false), .slice none 0 0, .slice none 0 0, .slice none 0 0], .int .i64 (4)]) Try.results23 (.cell (by kernel_rfl) (by kernel_rfl) hM266 2 rfl (by kernel_rfl) (.tmp (by kernel_rfl) (by kernel_rfl) .nil)) (by kernel_rfl) (hRet _ _ ⟨_, _, rfl, hM266.clear, ?_⟩)
                -- end ftfLffft
                obtain ⟨e1, e2, e3, e4, e5⟩ := rd_no (rd_no5 (b := b) (leaf := false) (k := k) (by assumption) (by omega) (by assumption))
                refine ⟨none, 0, none, 0, none, 0, ?_, ?_, ?_, ?_⟩
                · simp only [e1, e2, e3, e4, e5] <;> rfl
                · first | exact (Rd.nil _ _) | (exact Rd.eq (Rd.nil _ _) (by first | exact e3.symm | exact e4.symm | exact e5.symm))
                · first | exact (Rd.nil _ _) | (exact Rd.eq (Rd.nil _ _) (by first | exact e3.symm | exact e4.symm | exact e5.symm))
                · first | exact (Rd.nil _ _) | (exact Rd.eq (Rd.nil _ _) (by first | exact e3.symm | exact e4.symm | exact e5.symm))
              · -- ftfLffff
                refine wp_skip (then_n (hK219 _ _ ?_))
                refine wp_seq_k (fun K267 hK267 => ?_)
                refine wp_reg ?_
                refine gF hM260 (.load 25 (.tmp 5)) (some 98) (by kernel_rfl) (Y_load 1 rfl (off := 0) (by kernel_rfl) (.agg #[.bool (false), .slice Ar_114c5_1 ((rsN b false (k)).ks).length cr_114c5_1, .slice none 0 0, .slice Ar_114c5_3 ((rsN b false (k)).cs).length cr_114c5_3]) (by kernel_rfl)) ?_
                refine wpF_store hM260 2 rfl (h := (by kernel_rfl : opAt _ _ _ _ _ = some (.store 25 (.tmp 2) (.tmp 98), none))) (off := 0) (by kernel_rfl) #[.bool (false), .slice Ar_114c5_1 ((rsN b false (k)).ks).length cr_114c5_1, .slice none 0 0, .slice Ar_114c5_3 ((rsN b false (k)).cs).length cr_114c5_3] (by kernel_rfl) (by kernel_rfl) (by kernel_rfl) (by kernel_rfl) (fun w269 hM268 => ?_)
                have hM270 : Step V w [] V257 _ ([.blk b37 (.cells #[.slice Ab (((b))).length cb, .int .i64 ((((rsN b false (k)).ad : Nat) : Int)), .bool ((rsN b false (k)).ok)] 61), .blk b45 (.cells #[.bool (false), .slice Ar_114c5_1 ((rsN b false (k)).ks).length cr_114c5_1, .slice none 0 0, .slice Ar_114c5_3 ((rsN b false (k)).cs).length cr_114c5_3] 25), .blk b2 (.cells #[.bool (false), .slice Ar_114c5_1 ((rsN b false (k)).ks).length cr_114c5_1, .slice none 0 0, .slice Ar_114c5_3 ((rsN b false (k)).cs).length cr_114c5_3] 25)]) := hM268
                refine wpF_seg 1 (by kernel_rfl) ?_
                refine wpF_end _ (by kernel_rfl) (then_n (hK267 _ _ ?_))
                refine wp_ret ?_
                refine retN [.agg #[.bool (false), .slice Ar_114c5_1 ((rsN b false (k)).ks).length cr_114c5_1, .slice none 0 0, .slice Ar_114c5_3 ((rsN b false (k)).cs).length cr_114c5_3], .int .i64 (0)] (.tuple #[.agg #[.bool (false), .slice Ar_114c5_1 ((rsN b false (k)).ks).length cr_114c5_1, .slice none 0 0, .slice Ar_114c5_3 ((rsN b false (k)).cs).length cr_114c5_3], .int .i64 (0)]) Try.results23 (.cell (by kernel_rfl) (by kernel_rfl) hM270 2 rfl (by kernel_rfl) (.tmp (by kernel_rfl) (by kernel_rfl) .nil)) (by kernel_rfl) (hRet _ _ ⟨_, _, rfl, hM270.clear, ?_⟩)
                -- end ftfLffff
                obtain ⟨e1, e2, e3, e4, e5⟩ := rd_yes (b := b) (leaf := false) (k := k) (by assumption) (by assumption) (by first | exact .inl rfl | exact .inr (by assumption)) (by omega) (by assumption) (by first | assumption | (rw [rsN_leafc]; assumption) | (rw [rsN_innv]; assumption)) (by assumption)
                rw [rsN_innv] at e4
                refine ⟨Ar_114c5_1, cr_114c5_1, none, 0, Ar_114c5_3, cr_114c5_3, ?_, ?_, ?_, ?_⟩
                · simp only [e1, e2, e3, e4, e5] <;> rfl
                · first | exact (r231.up ((le234.trans le241).trans le259)) | (exact Rd.eq (r231.up ((le234.trans le241).trans le259)) (by first | exact e3.symm | exact e4.symm | exact e5.symm))
                · first | exact (Rd.nil _ _) | (exact Rd.eq (Rd.nil _ _) (by first | exact e3.symm | exact e4.symm | exact e5.symm))
                · first | exact (r236.up (le241.trans le259)) | (exact Rd.eq (r236.up (le241.trans le259)) (by first | exact e3.symm | exact e4.symm | exact e5.symm))
    · -- ff
      have h271 : decide ((((b.getD (0) 0).toNat : Int)) = (76)) = true := by rw [← Bool.not_not (decide _), h20]; rfl
      have p272 : ((((b.getD (0) 0).toNat : Int)) = (76)) := of_decide_eq_true h271
      have hq := atS_le b 1 true 2 (by omega)
      have hcnt : cntR b < 4294967296 := numS_4 b 1 true 2 (by omega)
      refine wpF_seg 6 (by kernel_rfl) ?_
      refine wpF_end _ (by kernel_rfl) (then_n (hK6 _ _ ?_))
      refine wp_cf (by kernel_rfl) ?_
      refine wp_skip (then_n (hK5 _ _ ?_))
      refine wp_seq_k (fun K273 hK273 => ?_)
      refine wp_reg ?_
      refine wpF_seg 2 (by kernel_rfl) ?_
      refine wpF_box hM4 #[.slice Ab (b).length cb, .int .i64 (1), .bool (true)] (h := (by kernel_rfl : opAt _ _ _ _ _ = some (.box 61 (.tmp 25), some 26))) (by kernel_rfl) (fun b274 w275 hM276 => ?_)
      refine wpF_seg 1 (by kernel_rfl) ?_
      refine wpF_end _ (by kernel_rfl) (then_n (hK273 _ _ ?_))
      refine wp_seq_k (fun K277 hK277 => ?_)
      refine wp_reg ?_
      refine wpF_seg 1 (by kernel_rfl) ?_
      refine gF_index (A := Ab) (c := cb) hb .i64 (0) (h := (by kernel_rfl : opAt _ _ _ _ _ = some (.indexAddr 28 (.tmp 27) (.const (.int .i64 0)), some 28))) (e := 5) (by kernel_rfl) (by kernel_rfl) (by kernel_rfl) (0) (by omega) (by omega) (fun b278 o279 at_b278 => ?_)
      have c280 : V b278 o279 = some (.int .u8 ((b.getD (0) 0).toNat : Int)) := At.byte at_b278
      have l281 : (b.getD (0) 0).toNat < 256 := UInt8.toNat_lt _
      refine gF hM276 (.load 5 (.tmp 28)) (some 29) (by kernel_rfl) (Y_loadV c280 (by kernel_rfl) (by kernel_rfl)) ?_
      refine wpF_seg 1 (by kernel_rfl) ?_
      refine wpF_slot 30 (.bool (decide ((((b.getD (0) 0).toNat : Int)) = (76)))) (.bool true) (by kernel_rfl) (by kernel_rfl) (by rw [h271]) ?_
      refine wpF_seg 1 (by kernel_rfl) ?_
      refine wpF_alloc hM276 #[.bool (false), .slice none 0 0, .slice none 0 0, .slice none 0 0] (h := (by kernel_rfl : opAt _ _ _ _ _ = some (.alloc 25, some 5))) (by kernel_rfl) (fun b282 w283 hM284 => ?_)
      refine wpF_store hM284 0 rfl (h := (by kernel_rfl : opAt _ _ _ _ _ = some (.store 25 (.tmp 5) (.tmp 31), none))) (off := 0) (by kernel_rfl) #[.bool (true), .slice none 0 0, .slice none 0 0, .slice none 0 0] (by kernel_rfl) (by kernel_rfl) (by kernel_rfl) (by kernel_rfl) (fun w286 hM285 => ?_)
      have hM287 : Step V w [] V _ ([.blk b282 (.cells #[.bool (true), .slice none 0 0, .slice none 0 0, .slice none 0 0] 25), .blk b274 (.cells #[.slice Ab (b).length cb, .int .i64 (1), .bool (true)] 61), .blk b2 (.cells #[.bool (false), .slice none 0 0, .slice none 0 0, .slice none 0 0] 25)]) := hM285
      refine wpF_end _ (by kernel_rfl) (then_n (hK277 _ _ ?_))
      refine wp_seq_k (fun K288 hK288 => ?_)
      refine wp_reg ?_
      refine wpF_seg 1 (by kernel_rfl) ?_
      have hM289 := hM287.front 1 rfl
      have hM297 : Step V w [] V _ ([.blk b274 (.cells #[.slice Ab (b).length cb, .int .i64 (1), .bool (true)] 61), .blk b282 (.cells #[.bool (true), .slice none 0 0, .slice none 0 0, .slice none 0 0] 25), .blk b2 (.cells #[.bool (false), .slice none 0 0, .slice none 0 0, .slice none 0 0] 25)]) := hM289
      refine wpF_callE [.blk b274 (.cells #[.slice Ab (b).length cb, .int .i64 (1), .bool (true)] 61)] ([.blk b282 (.cells #[.bool (true), .slice none 0 0, .slice none 0 0, .slice none 0 0] 25), .blk b2 (.cells #[.bool (false), .slice none 0 0, .slice none 0 0, .slice none 0 0] 25)]) hM297 (f := 42) (caps := #[]) (h := (by kernel_rfl : opAt _ _ _ _ _ = some (.call (.mk (.value (.func 42)) #[(.tmp 32), (.const (.int .i64 2))] #[59, 3]), some 33))) (by kernel_rfl) (by kernel_rfl) (by kernel_rfl) (f42 _ _ Ab cb (b) hb (1) (true) b274 (2) (St.part (E := [.blk b274 (.cells #[.slice Ab (b).length cb, .int .i64 (1), .bool (true)] 61)]) (F := ([.blk b282 (.cells #[.bool (true), .slice none 0 0, .slice none 0 0, .slice none 0 0] 25), .blk b2 (.cells #[.bool (false), .slice none 0 0, .slice none 0 0, .slice none 0 0] 25)])) hM297.ok) (by omega) (by omega) (by omega)) (fun v290 V291 w292 Eo293 le294 hM295 hp296 => ?_)
      obtain ⟨rfl, rfl⟩ := hp296
      have hM298 : Step V w [] V291 _ ([.blk b274 (.cells #[.slice Ab ((b)).length cb, .int .i64 (((atS (b) (1) (true) (2) : Nat) : Int)), .bool (okS (b) (1) (true) (2))] 61), .blk b282 (.cells #[.bool (true), .slice none 0 0, .slice none 0 0, .slice none 0 0] 25), .blk b2 (.cells #[.bool (false), .slice none 0 0, .slice none 0 0, .slice none 0 0] 25)]) := hM295
      refine wpF_seg 1 (by kernel_rfl) ?_
      refine wpF_end _ (by kernel_rfl) (then_n (hK288 _ _ ?_))
      refine wp_seq_k (fun K299 hK299 => ?_)
      refine wp_seq_k (fun K300 hK300 => ?_)
      refine wp_reg ?_
      refine wpF_seg 1 (by kernel_rfl) ?_
      refine gF hM298 (.load 4 (.tmp 34)) (some 35) (by kernel_rfl) (Y_load 1 rfl (off := 0) (by kernel_rfl) (.bool (true)) (by kernel_rfl)) ?_
      refine wpF_seg 1 (by kernel_rfl) ?_
      refine wpF_end _ (by kernel_rfl) (then_n (hK300 _ _ ?_))
      refine wp_cf (by kernel_rfl) ?_
      refine wp_skip (then_n (hK299 _ _ ?_))
      refine wp_seq_k (fun K301 hK301 => ?_)
      refine wp_block ?_
      have hM303 := hM298.nilrow strK 9
      have hM304 : Step V w [] V291 _ ([.row strK 9 none 0 (([] : List Str)), .blk b274 (.cells #[.slice Ab ((b)).length cb, .int .i64 (((atS (b) (1) (true) (2) : Nat) : Int)), .bool (okS (b) (1) (true) (2))] 61), .blk b282 (.cells #[.bool (true), .slice none 0 0, .slice none 0 0, .slice none 0 0] 25), .blk b2 (.cells #[.bool (false), .slice none 0 0, .slice none 0 0, .slice none 0 0] 25)]) := hM303
      have hM305 := hM304.nilrow strK 9
      have hM306 : Step V w [] V291 _ ([.row strK 9 none 0 (([] : List Str)), .row strK 9 none 0 (([] : List Str)), .blk b274 (.cells #[.slice Ab ((b)).length cb, .int .i64 (((atS (b) (1) (true) (2) : Nat) : Int)), .bool (okS (b) (1) (true) (2))] 61), .blk b282 (.cells #[.bool (true), .slice none (([] : List Str)).length 0, .slice none 0 0, .slice none 0 0] 25), .blk b2 (.cells #[.bool (false), .slice none 0 0, .slice none 0 0, .slice none 0 0] 25)]) := hM305
      refine wp_base [(0, .slice Ab (b).length cb), (2, .pointer (some ⟨b2, 0, none⟩)), (3, .int .i64 (0)), (4, .pointer (some ⟨b274, 0, none⟩)), (5, .pointer (some ⟨b282, 0, none⟩)), (6, .int .i64 (((cntR b : Nat) : Int) - (0 : Int)))] (by kernel_rfl) (fun g307 => ?_)
      refine wp_loopX (fun (x_ : Nat) a_ w_ => ∃ (g : Nat → Value) (V_ : VT), ∃ (Arc5_1 : Option Addr) (crc5_1 : Nat), ∃ (Arc5_2 : Option Addr) (crc5_2 : Nat), a_ = env 99 [(0, .slice Ab (b).length cb), (2, .pointer (some ⟨b2, 0, none⟩)), (3, .int .i64 (0)), (4, .pointer (some ⟨b274, 0, none⟩)), (5, .pointer (some ⟨b282, 0, none⟩)), (6, .int .i64 (((cntR b : Nat) : Int) - (x_ : Int)))] g ∧ Step V w [] V_ w_ [.row strK 9 Arc5_2 crc5_2 ((rsN b true (x_)).vs), .row strK 9 Arc5_1 crc5_1 ((rsN b true (x_)).ks), .blk b274 (.cells #[.slice Ab ((b)).length cb, .int .i64 ((((rsN b true (x_)).ad : Nat) : Int)), .bool ((rsN b true (x_)).ok)] 61), .blk b282 (.cells #[.bool (true), .slice Arc5_1 ((rsN b true (x_)).ks).length crc5_1, .slice Arc5_2 ((rsN b true (x_)).vs).length crc5_2, .slice none 0 0] 25), .blk b2 (.cells #[.bool (false), .slice none 0 0, .slice none 0 0, .slice none 0 0] 25)] ∧ VT.le V291 V_ ∧ (x_ ≤ cntR b)) (fun (x_ : Nat) => cntR b - x_) (0) ⟨g307, V291, none, 0, none, 0, rfl, hM306, VT.le.refl _, by omega⟩ ?_
      rintro k a_ w309 ⟨g308, Vl302, Ar_312c5_1, cr_312c5_1, Ar_312c5_2, cr_312c5_2, rfl, hM310, le311, hi312_0⟩ K312 hK312
      have hin := rsN_inv (b := b) true (by omega) k
      simp only [cond_true, cond_false] at hin
      have ha1 := atP_le b (rsN b true k).ad (rsN b true k).ok 1 (by omega)
      refine wp_seq_k (fun K313 hK313 => ?_)
      refine wp_seq_k (fun K314 hK314 => ?_)
      refine wp_reg ?_
      refine wpF_seg 3 (by kernel_rfl) ?_
      refine wpF_caseB 46 (decide ((0) < (((cntR b : Nat) : Int) - (k : Int)))) (by kernel_rfl) (by kernel_rfl) (fun h315 => ?_) (fun h315 => ?_)
      · -- ffLt
        have p316 : ((0) < (((cntR b : Nat) : Int) - (k : Int))) := of_decide_eq_true h315
        refine wpF_seg 3 (by kernel_rfl) ?_
        refine gF hM310 (.load 4 (.tmp 49)) (some 50) (by kernel_rfl) (Y_load 2 rfl (off := 2) (by kernel_rfl) (.bool ((rsN b true (k)).ok)) (by kernel_rfl)) ?_
        refine wpF_seg 1 (by kernel_rfl) ?_
        refine wpF_end _ (by kernel_rfl) (then_n (hK314 _ _ ?_))
        refine wp_if ((rsN b true (k)).ok) (by kernel_rfl) (fun h317 => ?_) (fun h317 => ?_)
        · -- ffLtt
          have h5_ := hin.2.2.2.2 (by assumption)
          refine wp_skip (then_n (hK313 _ _ ?_))
          refine wp_seq_k (fun K318 hK318 => ?_)
          refine wp_block ?_
          refine wp_seq_k (fun K319 hK319 => ?_)
          refine wp_base [(0, .slice Ab (b).length cb), (2, .pointer (some ⟨b2, 0, none⟩)), (3, .int .i64 (0)), (4, .pointer (some ⟨b274, 0, none⟩)), (5, .pointer (some ⟨b282, 0, none⟩)), (6, .int .i64 (((cntR b : Nat) : Int) - (k : Int))), (44, .int .i64 (((cntR b : Nat) : Int) - (k : Int))), (45, .bool (decide ((0) < (((cntR b : Nat) : Int) - (k : Int))))), (46, .bool (true)), (47, .pointer (some ⟨b274, 0, none⟩)), (48, .pointer (some ⟨b274, 0, none⟩)), (49, .pointer (some ⟨b274, 2, none⟩)), (50, .bool ((rsN b true (k)).ok)), (51, .bool ((rsN b true (k)).ok))] (by kernel_rfl) (fun g320 => ?_)
          refine wp_drawN hM310 [(.blk b282 (.cells #[.bool (true), .slice Ar_312c5_1 ((rsN b true (k)).ks).length cr_312c5_1, .slice Ar_312c5_2 ((rsN b true (k)).vs).length cr_312c5_2, .slice none 0 0] 25), 7)] (and_held 3 rfl no_held) [] [0, 1, 2] [.a 3, .a 4, .a 5, .p 6, .a 7] [.p 0, .p 1, .p 2, .s, .a 3, .a 4, .a 5, .p 6, .a 7] rfl (by kernel_rfl) (by kernel_rfl) ?_
          refine h_seg 1 (by kernel_rfl) ?_
          refine gH (.load 22 (.tmp 54)) (some 55) (by kernel_rfl) (Y_load 0 (by kernel_rfl : (FOf _ _ _)[0]? = some (.blk b282 (.cells #[.bool (true), .slice Ar_312c5_1 ((rsN b true (k)).ks).length cr_312c5_1, .slice Ar_312c5_2 ((rsN b true (k)).vs).length cr_312c5_2, .slice none 0 0] 25))) (off := 1) (by kernel_rfl) (.slice Ar_312c5_1 ((rsN b true (k)).ks).length cr_312c5_1) (by kernel_rfl)) ?_
          refine h_seg 1 (by kernel_rfl) ?_
          refine h_s no_fs ?_
          refine h_a (by kernel_rfl) (by kernel_rfl) (fun w321 X322 hM323 => ?_)
          have hM324 := hM323.front 2 rfl
          have hM332 : Step V w [] Vl302 _ ([.blk b274 (.cells #[.slice Ab ((b)).length cb, .int .i64 ((((rsN b true (k)).ad : Nat) : Int)), .bool ((rsN b true (k)).ok)] 61), .row strK 9 Ar_312c5_2 cr_312c5_2 ((rsN b true (k)).vs), .row strK 9 Ar_312c5_1 cr_312c5_1 ((rsN b true (k)).ks), .blk b282 (.cells #[.bool (true), .slice Ar_312c5_1 ((rsN b true (k)).ks).length cr_312c5_1, .slice Ar_312c5_2 ((rsN b true (k)).vs).length cr_312c5_2, .slice none 0 0] 25), .blk b2 (.cells #[.bool (false), .slice none 0 0, .slice none 0 0, .slice none 0 0] 25)] ++ X322) := hM324
          refine wpF_callE [.blk b274 (.cells #[.slice Ab ((b)).length cb, .int .i64 ((((rsN b true (k)).ad : Nat) : Int)), .bool ((rsN b true (k)).ok)] 61)] ([.row strK 9 Ar_312c5_2 cr_312c5_2 ((rsN b true (k)).vs), .row strK 9 Ar_312c5_1 cr_312c5_1 ((rsN b true (k)).ks), .blk b282 (.cells #[.bool (true), .slice Ar_312c5_1 ((rsN b true (k)).ks).length cr_312c5_1, .slice Ar_312c5_2 ((rsN b true (k)).vs).length cr_312c5_2, .slice none 0 0] 25), .blk b2 (.cells #[.bool (false), .slice none 0 0, .slice none 0 0, .slice none 0 0] 25)] ++ X322) hM332 (f := 43) (caps := #[]) (h := (by kernel_rfl : opAt _ _ _ _ _ = some (.call (.mk (.value (.func 43)) #[(.tmp 56), (.const (.int .i64 1))] #[59, 3]), some 57))) (by kernel_rfl) (by kernel_rfl) (by kernel_rfl) (f43 _ _ Ab cb ((b)) (hb.up hM323.le) (((rsN b true (k)).ad)) ((rsN b true (k)).ok) b274 (1) (St.part (E := [.blk b274 (.cells #[.slice Ab ((b)).length cb, .int .i64 ((((rsN b true (k)).ad : Nat) : Int)), .bool ((rsN b true (k)).ok)] 61)]) (F := ([.row strK 9 Ar_312c5_2 cr_312c5_2 ((rsN b true (k)).vs), .row strK 9 Ar_312c5_1 cr_312c5_1 ((rsN b true (k)).ks), .blk b282 (.cells #[.bool (true), .slice Ar_312c5_1 ((rsN b true (k)).ks).length cr_312c5_1, .slice Ar_312c5_2 ((rsN b true (k)).vs).length cr_312c5_2, .slice none 0 0] 25), .blk b2 (.cells #[.bool (false), .slice none 0 0, .slice none 0 0, .slice none 0 0] 25)] ++ X322)) hM332.ok) (by omega) (by omega) (by omega)) (fun v325 V326 w327 Eo328 le329 hM330 hp331 => ?_)
          obtain ⟨rfl, rfl, x333⟩ := hp331
          have hM334 : Step V w [] V326 _ ([.blk b274 (.cells #[.slice Ab (((b))).length cb, .int .i64 (((atP ((b)) (((rsN b true (k)).ad)) ((rsN b true (k)).ok) (1) : Nat) : Int)), .bool (okP ((b)) (((rsN b true (k)).ad)) ((rsN b true (k)).ok) (1))] 61), .row strK 9 Ar_312c5_2 cr_312c5_2 ((rsN b true (k)).vs), .row strK 9 Ar_312c5_1 cr_312c5_1 ((rsN b true (k)).ks), .blk b282 (.cells #[.bool (true), .slice Ar_312c5_1 ((rsN b true (k)).ks).length cr_312c5_1, .slice Ar_312c5_2 ((rsN b true (k)).vs).length cr_312c5_2, .slice none 0 0] 25), .blk b2 (.cells #[.bool (false), .slice none 0 0, .slice none 0 0, .slice none 0 0] 25)] ++ X322) := hM330
          have x333 : (strP ((b)) (((rsN b true (k)).ad)) ((rsN b true (k)).ok) (1)).length ≤ 4096 := x333
          refine wpF_end _ (by kernel_rfl) (then_n (h_d [(.blk b282 (.cells #[.bool (true), .slice Ar_312c5_1 ((rsN b true (k)).ks).length cr_312c5_1, .slice Ar_312c5_2 ((rsN b true (k)).vs).length cr_312c5_2, .slice none 0 0] 25), 7)] (by kernel_rfl) [.blk b274 (.cells #[.slice Ab (((b))).length cb, .int .i64 (((atP ((b)) (((rsN b true (k)).ad)) ((rsN b true (k)).ok) (1) : Nat) : Int)), .bool (okP ((b)) (((rsN b true (k)).ad)) ((rsN b true (k)).ok) (1))] 61), .row strK 9 Ar_312c5_2 cr_312c5_2 ((rsN b true (k)).vs), .row strK 9 Ar_312c5_1 cr_312c5_1 ((rsN b true (k)).ks), .blk b282 (.cells #[.bool (true), .slice Ar_312c5_1 ((rsN b true (k)).ks).length cr_312c5_1, .slice Ar_312c5_2 ((rsN b true (k)).vs).length cr_312c5_2, .slice none 0 0] 25), .blk b2 (.cells #[.bool (false), .slice none 0 0, .slice none 0 0, .slice none 0 0] 25)] hM334 (and_held 3 rfl no_held) le329 ?_))
          refine h_a (by kernel_rfl) (by kernel_rfl) (fun w335 X336 hM337 => ?_)
          refine wpF_litR strK hM337 #[bs (strP ((b)) (((rsN b true (k)).ad)) ((rsN b true (k)).ok) (1))] (h := (by kernel_rfl : opAt _ _ _ _ _ = some (.buildSlice 22 1 #[(0, (.tmp 57))], some 58))) (e := 9) (by kernel_rfl) (([strP ((b)) (((rsN b true (k)).ad)) ((rsN b true (k)).ok) (1)] : List Str)) (Reps.one_str (by first | decide | (simp only [maxL, List.length_append, List.length_cons, List.length_nil]; omega))) rfl (by simp [maxL]) (fun A338 c339 V342 w340 le343 hM341 r344 => ?_)
          refine wpF_end _ (by kernel_rfl) (then_n (h_d [(.blk b282 (.cells #[.bool (true), .slice Ar_312c5_1 ((rsN b true (k)).ks).length cr_312c5_1, .slice Ar_312c5_2 ((rsN b true (k)).vs).length cr_312c5_2, .slice none 0 0] 25), 7)] (by kernel_rfl) [.blk b274 (.cells #[.slice Ab (((b))).length cb, .int .i64 (((atP ((b)) (((rsN b true (k)).ad)) ((rsN b true (k)).ok) (1) : Nat) : Int)), .bool (okP ((b)) (((rsN b true (k)).ad)) ((rsN b true (k)).ok) (1))] 61), .row strK 9 Ar_312c5_2 cr_312c5_2 ((rsN b true (k)).vs), .row strK 9 Ar_312c5_1 cr_312c5_1 ((rsN b true (k)).ks), .blk b282 (.cells #[.bool (true), .slice Ar_312c5_1 ((rsN b true (k)).ks).length cr_312c5_1, .slice Ar_312c5_2 ((rsN b true (k)).vs).length cr_312c5_2, .slice none 0 0] 25), .blk b2 (.cells #[.bool (false), .slice none 0 0, .slice none 0 0, .slice none 0 0] 25)] hM341 (and_held 3 rfl no_held) le343 ?_))
          refine h_a (by kernel_rfl) (by kernel_rfl) (fun w345 X346 hM347 => ?_)
          refine wpF_append (by_ := 16) hM347 2 rfl (h := (by kernel_rfl : opAt _ _ _ _ _ = some (.call (.mk (.builtin .append) #[(.tmp 55), (.tmp 58)] #[22, 22]), some 59))) (by kernel_rfl) (by kernel_rfl) (by kernel_rfl) (by kernel_rfl) (by kernel_rfl) (by kernel_rfl) (by kernel_rfl) (Src.rd r344) (by first | omega | (simp only [List.length_append, List.length_cons, List.length_nil]; omega)) (fun A348 c349 w350 hM351 => ?_)
          have hM352 : Step V w [] V342 _ ([.row strK 9 A348 c349 ((rsN b true (k)).ks ++ ([strP ((b)) (((rsN b true (k)).ad)) ((rsN b true (k)).ok) (1)] : List Str)), .blk b274 (.cells #[.slice Ab (((b))).length cb, .int .i64 (((atP ((b)) (((rsN b true (k)).ad)) ((rsN b true (k)).ok) (1) : Nat) : Int)), .bool (okP ((b)) (((rsN b true (k)).ad)) ((rsN b true (k)).ok) (1))] 61), .row strK 9 Ar_312c5_2 cr_312c5_2 ((rsN b true (k)).vs), .blk b282 (.cells #[.bool (true), .slice Ar_312c5_1 ((rsN b true (k)).ks).length cr_312c5_1, .slice Ar_312c5_2 ((rsN b true (k)).vs).length cr_312c5_2, .slice none 0 0] 25), .blk b2 (.cells #[.bool (false), .slice none 0 0, .slice none 0 0, .slice none 0 0] 25)] ++ X346) := hM351
          refine wpF_end _ (by kernel_rfl) (then_n (h_d [(.blk b282 (.cells #[.bool (true), .slice Ar_312c5_1 ((rsN b true (k)).ks).length cr_312c5_1, .slice Ar_312c5_2 ((rsN b true (k)).vs).length cr_312c5_2, .slice none 0 0] 25), 7)] (by kernel_rfl) [.row strK 9 A348 c349 ((rsN b true (k)).ks ++ ([strP ((b)) (((rsN b true (k)).ad)) ((rsN b true (k)).ok) (1)] : List Str)), .blk b274 (.cells #[.slice Ab (((b))).length cb, .int .i64 (((atP ((b)) (((rsN b true (k)).ad)) ((rsN b true (k)).ok) (1) : Nat) : Int)), .bool (okP ((b)) (((rsN b true (k)).ad)) ((rsN b true (k)).ok) (1))] 61), .row strK 9 Ar_312c5_2 cr_312c5_2 ((rsN b true (k)).vs), .blk b282 (.cells #[.bool (true), .slice Ar_312c5_1 ((rsN b true (k)).ks).length cr_312c5_1, .slice Ar_312c5_2 ((rsN b true (k)).vs).length cr_312c5_2, .slice none 0 0] 25), .blk b2 (.cells #[.bool (false), .slice none 0 0, .slice none 0 0, .slice none 0 0] 25)] hM352 (and_held 3 rfl no_held) (VT.le.refl _) ?_))
          refine h_seg 1 (by kernel_rfl) ?_
          refine h_a (by kernel_rfl) (by kernel_rfl) (fun w353 X354 hM355 => ?_)
          refine wpF_store hM355 3 rfl (h := (by kernel_rfl : opAt _ _ _ _ _ = some (.store 22 (.tmp 60) (.tmp 59), none))) (off := 1) (by kernel_rfl) #[.slice A348 ((rsN b true (k)).ks ++ ([strP ((b)) (((rsN b true (k)).ad)) ((rsN b true (k)).ok) (1)] : List Str)).length c349] (by kernel_rfl) (by kernel_rfl) (by kernel_rfl) (by kernel_rfl) (fun w357 hM356 => ?_)
          have hM358 : Step V w [] V342 _ ([.row strK 9 A348 c349 ((rsN b true (k)).ks ++ ([strP ((b)) (((rsN b true (k)).ad)) ((rsN b true (k)).ok) (1)] : List Str)), .blk b274 (.cells #[.slice Ab (((b))).length cb, .int .i64 (((atP ((b)) (((rsN b true (k)).ad)) ((rsN b true (k)).ok) (1) : Nat) : Int)), .bool (okP ((b)) (((rsN b true (k)).ad)) ((rsN b true (k)).ok) (1))] 61), .row strK 9 Ar_312c5_2 cr_312c5_2 ((rsN b true (k)).vs), .blk b282 (.cells #[.bool (true), .slice A348 ((rsN b true (k)).ks ++ ([strP ((b)) (((rsN b true (k)).ad)) ((rsN b true (k)).ok) (1)] : List Str)).length c349, .slice Ar_312c5_2 ((rsN b true (k)).vs).length cr_312c5_2, .slice none 0 0] 25), .blk b2 (.cells #[.bool (false), .slice none 0 0, .slice none 0 0, .slice none 0 0] 25)] ++ X354) := hM356
          refine wpF_end _ (by kernel_rfl) (then_n (h_d [] (by kernel_rfl) [.row strK 9 A348 c349 ((rsN b true (k)).ks ++ ([strP ((b)) (((rsN b true (k)).ad)) ((rsN b true (k)).ok) (1)] : List Str)), .blk b274 (.cells #[.slice Ab (((b))).length cb, .int .i64 (((atP ((b)) (((rsN b true (k)).ad)) ((rsN b true (k)).ok) (1) : Nat) : Int)), .bool (okP ((b)) (((rsN b true (k)).ad)) ((rsN b true (k)).ok) (1))] 61), .row strK 9 Ar_312c5_2 cr_312c5_2 ((rsN b true (k)).vs), .blk b282 (.cells #[.bool (true), .slice A348 ((rsN b true (k)).ks ++ ([strP ((b)) (((rsN b true (k)).ad)) ((rsN b true (k)).ok) (1)] : List Str)).length c349, .slice Ar_312c5_2 ((rsN b true (k)).vs).length cr_312c5_2, .slice none 0 0] 25), .blk b2 (.cells #[.bool (false), .slice none 0 0, .slice none 0 0, .slice none 0 0] 25)] hM358 no_held (VT.le.refl _) ?_))
          refine h_n (fun w359 hM360 => ?_)
          refine  (then_n (hK319 _ _ ?_))
          refine wp_seq_k (fun K361 hK361 => ?_)
          refine wp_reg ?_
          refine wpF_seg 1 (by kernel_rfl) ?_
          refine gF hM360 (.load 4 (.tmp 61)) (some 62) (by kernel_rfl) (Y_load 3 rfl (off := 0) (by kernel_rfl) (.bool (true)) (by kernel_rfl)) ?_
          refine wpF_end _ (by kernel_rfl) (then_n (hK361 _ _ ?_))
          refine wp_ct (by kernel_rfl) ?_
          refine wp_base [(0, .slice Ab (b).length cb), (2, .pointer (some ⟨b2, 0, none⟩)), (3, .int .i64 (0)), (4, .pointer (some ⟨b274, 0, none⟩)), (5, .pointer (some ⟨b282, 0, none⟩)), (6, .int .i64 (((cntR b : Nat) : Int) - (k : Int))), (44, .int .i64 (((cntR b : Nat) : Int) - (k : Int))), (45, .bool (decide ((0) < (((cntR b : Nat) : Int) - (k : Int))))), (46, .bool (true)), (47, .pointer (some ⟨b274, 0, none⟩)), (48, .pointer (some ⟨b274, 0, none⟩)), (49, .pointer (some ⟨b274, 2, none⟩)), (50, .bool ((rsN b true (k)).ok)), (51, .bool ((rsN b true (k)).ok)), (54, .pointer (some ⟨b282, 1, none⟩)), (55, .slice Ar_312c5_1 ((rsN b true (k)).ks).length cr_312c5_1), (56, .pointer (some ⟨b274, 0, none⟩)), (57, bs (strP ((b)) (((rsN b true (k)).ad)) ((rsN b true (k)).ok) (1))), (58, .slice A338 (([strP ((b)) (((rsN b true (k)).ad)) ((rsN b true (k)).ok) (1)] : List Str)).length c339), (59, .slice A348 ((rsN b true (k)).ks ++ ([strP ((b)) (((rsN b true (k)).ad)) ((rsN b true (k)).ok) (1)] : List Str)).length c349), (60, .pointer (some ⟨b282, 1, none⟩)), (61, .pointer (some ⟨b282, 0, none⟩)), (62, .bool (true))] (by kernel_rfl) (fun g362 => ?_)
          refine wp_drawN hM360 [(.blk b282 (.cells #[.bool (true), .slice A348 ((rsN b true (k)).ks ++ ([strP ((b)) (((rsN b true (k)).ad)) ((rsN b true (k)).ok) (1)] : List Str)).length c349, .slice Ar_312c5_2 ((rsN b true (k)).vs).length cr_312c5_2, .slice none 0 0] 25), 7)] (and_held 3 rfl no_held) [] [0, 1, 2] [.a 3, .a 4, .a 5, .p 6, .a 7] [.p 0, .p 1, .p 2, .s, .a 3, .a 4, .a 5, .p 6, .a 7] rfl (by kernel_rfl) (by kernel_rfl) ?_
          refine h_seg 1 (by kernel_rfl) ?_
          refine gH (.load 22 (.tmp 63)) (some 64) (by kernel_rfl) (Y_load 0 (by kernel_rfl : (FOf _ _ _)[0]? = some (.blk b282 (.cells #[.bool (true), .slice A348 ((rsN b true (k)).ks ++ ([strP ((b)) (((rsN b true (k)).ad)) ((rsN b true (k)).ok) (1)] : List Str)).length c349, .slice Ar_312c5_2 ((rsN b true (k)).vs).length cr_312c5_2, .slice none 0 0] 25))) (off := 2) (by kernel_rfl) (.slice Ar_312c5_2 ((rsN b true (k)).vs).length cr_312c5_2) (by kernel_rfl)) ?_
          refine h_seg 1 (by kernel_rfl) ?_
          refine h_s no_fs ?_
          refine h_a (by kernel_rfl) (by kernel_rfl) (fun w363 X364 hM365 => ?_)
          have hM366 := hM365.front 1 rfl
          have hM374 : Step V w [] V342 _ ([.blk b274 (.cells #[.slice Ab (((b))).length cb, .int .i64 (((atP ((b)) (((rsN b true (k)).ad)) ((rsN b true (k)).ok) (1) : Nat) : Int)), .bool (okP ((b)) (((rsN b true (k)).ad)) ((rsN b true (k)).ok) (1))] 61), .row strK 9 A348 c349 ((rsN b true (k)).ks ++ ([strP ((b)) (((rsN b true (k)).ad)) ((rsN b true (k)).ok) (1)] : List Str)), .row strK 9 Ar_312c5_2 cr_312c5_2 ((rsN b true (k)).vs), .blk b282 (.cells #[.bool (true), .slice A348 ((rsN b true (k)).ks ++ ([strP ((b)) (((rsN b true (k)).ad)) ((rsN b true (k)).ok) (1)] : List Str)).length c349, .slice Ar_312c5_2 ((rsN b true (k)).vs).length cr_312c5_2, .slice none 0 0] 25), .blk b2 (.cells #[.bool (false), .slice none 0 0, .slice none 0 0, .slice none 0 0] 25)] ++ X364) := hM366
          refine wpF_callE [.blk b274 (.cells #[.slice Ab (((b))).length cb, .int .i64 (((atP ((b)) (((rsN b true (k)).ad)) ((rsN b true (k)).ok) (1) : Nat) : Int)), .bool (okP ((b)) (((rsN b true (k)).ad)) ((rsN b true (k)).ok) (1))] 61)] ([.row strK 9 A348 c349 ((rsN b true (k)).ks ++ ([strP ((b)) (((rsN b true (k)).ad)) ((rsN b true (k)).ok) (1)] : List Str)), .row strK 9 Ar_312c5_2 cr_312c5_2 ((rsN b true (k)).vs), .blk b282 (.cells #[.bool (true), .slice A348 ((rsN b true (k)).ks ++ ([strP ((b)) (((rsN b true (k)).ad)) ((rsN b true (k)).ok) (1)] : List Str)).length c349, .slice Ar_312c5_2 ((rsN b true (k)).vs).length cr_312c5_2, .slice none 0 0] 25), .blk b2 (.cells #[.bool (false), .slice none 0 0, .slice none 0 0, .slice none 0 0] 25)] ++ X364) hM374 (f := 43) (caps := #[]) (h := (by kernel_rfl : opAt _ _ _ _ _ = some (.call (.mk (.value (.func 43)) #[(.tmp 65), (.const (.int .i64 2))] #[59, 3]), some 66))) (by kernel_rfl) (by kernel_rfl) (by kernel_rfl) (f43 _ _ Ab cb (((b))) (hb.up hM365.le) ((atP ((b)) (((rsN b true (k)).ad)) ((rsN b true (k)).ok) (1))) (okP ((b)) (((rsN b true (k)).ad)) ((rsN b true (k)).ok) (1)) b274 (2) (St.part (E := [.blk b274 (.cells #[.slice Ab (((b))).length cb, .int .i64 (((atP ((b)) (((rsN b true (k)).ad)) ((rsN b true (k)).ok) (1) : Nat) : Int)), .bool (okP ((b)) (((rsN b true (k)).ad)) ((rsN b true (k)).ok) (1))] 61)]) (F := ([.row strK 9 A348 c349 ((rsN b true (k)).ks ++ ([strP ((b)) (((rsN b true (k)).ad)) ((rsN b true (k)).ok) (1)] : List Str)), .row strK 9 Ar_312c5_2 cr_312c5_2 ((rsN b true (k)).vs), .blk b282 (.cells #[.bool (true), .slice A348 ((rsN b true (k)).ks ++ ([strP ((b)) (((rsN b true (k)).ad)) ((rsN b true (k)).ok) (1)] : List Str)).length c349, .slice Ar_312c5_2 ((rsN b true (k)).vs).length cr_312c5_2, .slice none 0 0] 25), .blk b2 (.cells #[.bool (false), .slice none 0 0, .slice none 0 0, .slice none 0 0] 25)] ++ X364)) hM374.ok) (by omega) (by omega) (by omega)) (fun v367 V368 w369 Eo370 le371 hM372 hp373 => ?_)
          obtain ⟨rfl, rfl, x375⟩ := hp373
          have hM376 : Step V w [] V368 _ ([.blk b274 (.cells #[.slice Ab ((((b)))).length cb, .int .i64 (((atP (((b))) ((atP ((b)) (((rsN b true (k)).ad)) ((rsN b true (k)).ok) (1))) (okP ((b)) (((rsN b true (k)).ad)) ((rsN b true (k)).ok) (1)) (2) : Nat) : Int)), .bool (okP (((b))) ((atP ((b)) (((rsN b true (k)).ad)) ((rsN b true (k)).ok) (1))) (okP ((b)) (((rsN b true (k)).ad)) ((rsN b true (k)).ok) (1)) (2))] 61), .row strK 9 A348 c349 ((rsN b true (k)).ks ++ ([strP ((b)) (((rsN b true (k)).ad)) ((rsN b true (k)).ok) (1)] : List Str)), .row strK 9 Ar_312c5_2 cr_312c5_2 ((rsN b true (k)).vs), .blk b282 (.cells #[.bool (true), .slice A348 ((rsN b true (k)).ks ++ ([strP ((b)) (((rsN b true (k)).ad)) ((rsN b true (k)).ok) (1)] : List Str)).length c349, .slice Ar_312c5_2 ((rsN b true (k)).vs).length cr_312c5_2, .slice none 0 0] 25), .blk b2 (.cells #[.bool (false), .slice none 0 0, .slice none 0 0, .slice none 0 0] 25)] ++ X364) := hM372
          have x375 : (strP (((b))) ((atP ((b)) (((rsN b true (k)).ad)) ((rsN b true (k)).ok) (1))) (okP ((b)) (((rsN b true (k)).ad)) ((rsN b true (k)).ok) (1)) (2)).length ≤ 4096 := x375
          refine wpF_end _ (by kernel_rfl) (then_n (h_d [(.blk b282 (.cells #[.bool (true), .slice A348 ((rsN b true (k)).ks ++ ([strP ((b)) (((rsN b true (k)).ad)) ((rsN b true (k)).ok) (1)] : List Str)).length c349, .slice Ar_312c5_2 ((rsN b true (k)).vs).length cr_312c5_2, .slice none 0 0] 25), 7)] (by kernel_rfl) [.blk b274 (.cells #[.slice Ab ((((b)))).length cb, .int .i64 (((atP (((b))) ((atP ((b)) (((rsN b true (k)).ad)) ((rsN b true (k)).ok) (1))) (okP ((b)) (((rsN b true (k)).ad)) ((rsN b true (k)).ok) (1)) (2) : Nat) : Int)), .bool (okP (((b))) ((atP ((b)) (((rsN b true (k)).ad)) ((rsN b true (k)).ok) (1))) (okP ((b)) (((rsN b true (k)).ad)) ((rsN b true (k)).ok) (1)) (2))] 61), .row strK 9 A348 c349 ((rsN b true (k)).ks ++ ([strP ((b)) (((rsN b true (k)).ad)) ((rsN b true (k)).ok) (1)] : List Str)), .row strK 9 Ar_312c5_2 cr_312c5_2 ((rsN b true (k)).vs), .blk b282 (.cells #[.bool (true), .slice A348 ((rsN b true (k)).ks ++ ([strP ((b)) (((rsN b true (k)).ad)) ((rsN b true (k)).ok) (1)] : List Str)).length c349, .slice Ar_312c5_2 ((rsN b true (k)).vs).length cr_312c5_2, .slice none 0 0] 25), .blk b2 (.cells #[.bool (false), .slice none 0 0, .slice none 0 0, .slice none 0 0] 25)] hM376 (and_held 3 rfl no_held) le371 ?_))
          refine h_a (by kernel_rfl) (by kernel_rfl) (fun w377 X378 hM379 => ?_)
          refine wpF_litR strK hM379 #[bs (strP (((b))) ((atP ((b)) (((rsN b true (k)).ad)) ((rsN b true (k)).ok) (1))) (okP ((b)) (((rsN b true (k)).ad)) ((rsN b true (k)).ok) (1)) (2))] (h := (by kernel_rfl : opAt _ _ _ _ _ = some (.buildSlice 22 1 #[(0, (.tmp 66))], some 67))) (e := 9) (by kernel_rfl) (([strP (((b))) ((atP ((b)) (((rsN b true (k)).ad)) ((rsN b true (k)).ok) (1))) (okP ((b)) (((rsN b true (k)).ad)) ((rsN b true (k)).ok) (1)) (2)] : List Str)) (Reps.one_str (by first | decide | (simp only [maxL, List.length_append, List.length_cons, List.length_nil]; omega))) rfl (by simp [maxL]) (fun A380 c381 V384 w382 le385 hM383 r386 => ?_)
          refine wpF_end _ (by kernel_rfl) (then_n (h_d [(.blk b282 (.cells #[.bool (true), .slice A348 ((rsN b true (k)).ks ++ ([strP ((b)) (((rsN b true (k)).ad)) ((rsN b true (k)).ok) (1)] : List Str)).length c349, .slice Ar_312c5_2 ((rsN b true (k)).vs).length cr_312c5_2, .slice none 0 0] 25), 7)] (by kernel_rfl) [.blk b274 (.cells #[.slice Ab ((((b)))).length cb, .int .i64 (((atP (((b))) ((atP ((b)) (((rsN b true (k)).ad)) ((rsN b true (k)).ok) (1))) (okP ((b)) (((rsN b true (k)).ad)) ((rsN b true (k)).ok) (1)) (2) : Nat) : Int)), .bool (okP (((b))) ((atP ((b)) (((rsN b true (k)).ad)) ((rsN b true (k)).ok) (1))) (okP ((b)) (((rsN b true (k)).ad)) ((rsN b true (k)).ok) (1)) (2))] 61), .row strK 9 A348 c349 ((rsN b true (k)).ks ++ ([strP ((b)) (((rsN b true (k)).ad)) ((rsN b true (k)).ok) (1)] : List Str)), .row strK 9 Ar_312c5_2 cr_312c5_2 ((rsN b true (k)).vs), .blk b282 (.cells #[.bool (true), .slice A348 ((rsN b true (k)).ks ++ ([strP ((b)) (((rsN b true (k)).ad)) ((rsN b true (k)).ok) (1)] : List Str)).length c349, .slice Ar_312c5_2 ((rsN b true (k)).vs).length cr_312c5_2, .slice none 0 0] 25), .blk b2 (.cells #[.bool (false), .slice none 0 0, .slice none 0 0, .slice none 0 0] 25)] hM383 (and_held 3 rfl no_held) le385 ?_))
          refine h_a (by kernel_rfl) (by kernel_rfl) (fun w387 X388 hM389 => ?_)
          refine wpF_append (by_ := 16) hM389 2 rfl (h := (by kernel_rfl : opAt _ _ _ _ _ = some (.call (.mk (.builtin .append) #[(.tmp 64), (.tmp 67)] #[22, 22]), some 68))) (by kernel_rfl) (by kernel_rfl) (by kernel_rfl) (by kernel_rfl) (by kernel_rfl) (by kernel_rfl) (by kernel_rfl) (Src.rd r386) (by first | omega | (simp only [List.length_append, List.length_cons, List.length_nil]; omega)) (fun A390 c391 w392 hM393 => ?_)
          have hM394 : Step V w [] V384 _ ([.row strK 9 A390 c391 ((rsN b true (k)).vs ++ ([strP (((b))) ((atP ((b)) (((rsN b true (k)).ad)) ((rsN b true (k)).ok) (1))) (okP ((b)) (((rsN b true (k)).ad)) ((rsN b true (k)).ok) (1)) (2)] : List Str)), .blk b274 (.cells #[.slice Ab ((((b)))).length cb, .int .i64 (((atP (((b))) ((atP ((b)) (((rsN b true (k)).ad)) ((rsN b true (k)).ok) (1))) (okP ((b)) (((rsN b true (k)).ad)) ((rsN b true (k)).ok) (1)) (2) : Nat) : Int)), .bool (okP (((b))) ((atP ((b)) (((rsN b true (k)).ad)) ((rsN b true (k)).ok) (1))) (okP ((b)) (((rsN b true (k)).ad)) ((rsN b true (k)).ok) (1)) (2))] 61), .row strK 9 A348 c349 ((rsN b true (k)).ks ++ ([strP ((b)) (((rsN b true (k)).ad)) ((rsN b true (k)).ok) (1)] : List Str)), .blk b282 (.cells #[.bool (true), .slice A348 ((rsN b true (k)).ks ++ ([strP ((b)) (((rsN b true (k)).ad)) ((rsN b true (k)).ok) (1)] : List Str)).length c349, .slice Ar_312c5_2 ((rsN b true (k)).vs).length cr_312c5_2, .slice none 0 0] 25), .blk b2 (.cells #[.bool (false), .slice none 0 0, .slice none 0 0, .slice none 0 0] 25)] ++ X388) := hM393
          refine wpF_end _ (by kernel_rfl) (then_n (h_d [(.blk b282 (.cells #[.bool (true), .slice A348 ((rsN b true (k)).ks ++ ([strP ((b)) (((rsN b true (k)).ad)) ((rsN b true (k)).ok) (1)] : List Str)).length c349, .slice Ar_312c5_2 ((rsN b true (k)).vs).length cr_312c5_2, .slice none 0 0] 25), 7)] (by kernel_rfl) [.row strK 9 A390 c391 ((rsN b true (k)).vs ++ ([strP (((b))) ((atP ((b)) (((rsN b true (k)).ad)) ((rsN b true (k)).ok) (1))) (okP ((b)) (((rsN b true (k)).ad)) ((rsN b true (k)).ok) (1)) (2)] : List Str)), .blk b274 (.cells #[.slice Ab ((((b)))).length cb, .int .i64 (((atP (((b))) ((atP ((b)) (((rsN b true (k)).ad)) ((rsN b true (k)).ok) (1))) (okP ((b)) (((rsN b true (k)).ad)) ((rsN b true (k)).ok) (1)) (2) : Nat) : Int)), .bool (okP (((b))) ((atP ((b)) (((rsN b true (k)).ad)) ((rsN b true (k)).ok) (1))) (okP ((b)) (((rsN b true (k)).ad)) ((rsN b true (k)).ok) (1)) (2))] 61), .row strK 9 A348 c349 ((rsN b true (k)).ks ++ ([strP ((b)) (((rsN b true (k)).ad)) ((rsN b true (k)).ok) (1)] : List Str)), .blk b282 (.cells #[.bool (true), .slice A348 ((rsN b true (k)).ks ++ ([strP ((b)) (((rsN b true (k)).ad)) ((rsN b true (k)).ok) (1)] : List Str)).length c349, .slice Ar_312c5_2 ((rsN b true (k)).vs).length cr_312c5_2, .slice none 0 0] 25), .blk b2 (.cells #[.bool (false), .slice none 0 0, .slice none 0 0, .slice none 0 0] 25)] hM394 (and_held 3 rfl no_held) (VT.le.refl _) ?_))
          refine h_seg 1 (by kernel_rfl) ?_
          refine h_a (by kernel_rfl) (by kernel_rfl) (fun w395 X396 hM397 => ?_)
          refine wpF_store hM397 3 rfl (h := (by kernel_rfl : opAt _ _ _ _ _ = some (.store 22 (.tmp 69) (.tmp 68), none))) (off := 2) (by kernel_rfl) #[.slice A390 ((rsN b true (k)).vs ++ ([strP (((b))) ((atP ((b)) (((rsN b true (k)).ad)) ((rsN b true (k)).ok) (1))) (okP ((b)) (((rsN b true (k)).ad)) ((rsN b true (k)).ok) (1)) (2)] : List Str)).length c391] (by kernel_rfl) (by kernel_rfl) (by kernel_rfl) (by kernel_rfl) (fun w399 hM398 => ?_)
          have hM400 : Step V w [] V384 _ ([.row strK 9 A390 c391 ((rsN b true (k)).vs ++ ([strP (((b))) ((atP ((b)) (((rsN b true (k)).ad)) ((rsN b true (k)).ok) (1))) (okP ((b)) (((rsN b true (k)).ad)) ((rsN b true (k)).ok) (1)) (2)] : List Str)), .blk b274 (.cells #[.slice Ab ((((b)))).length cb, .int .i64 (((atP (((b))) ((atP ((b)) (((rsN b true (k)).ad)) ((rsN b true (k)).ok) (1))) (okP ((b)) (((rsN b true (k)).ad)) ((rsN b true (k)).ok) (1)) (2) : Nat) : Int)), .bool (okP (((b))) ((atP ((b)) (((rsN b true (k)).ad)) ((rsN b true (k)).ok) (1))) (okP ((b)) (((rsN b true (k)).ad)) ((rsN b true (k)).ok) (1)) (2))] 61), .row strK 9 A348 c349 ((rsN b true (k)).ks ++ ([strP ((b)) (((rsN b true (k)).ad)) ((rsN b true (k)).ok) (1)] : List Str)), .blk b282 (.cells #[.bool (true), .slice A348 ((rsN b true (k)).ks ++ ([strP ((b)) (((rsN b true (k)).ad)) ((rsN b true (k)).ok) (1)] : List Str)).length c349, .slice A390 ((rsN b true (k)).vs ++ ([strP (((b))) ((atP ((b)) (((rsN b true (k)).ad)) ((rsN b true (k)).ok) (1))) (okP ((b)) (((rsN b true (k)).ad)) ((rsN b true (k)).ok) (1)) (2)] : List Str)).length c391, .slice none 0 0] 25), .blk b2 (.cells #[.bool (false), .slice none 0 0, .slice none 0 0, .slice none 0 0] 25)] ++ X396) := hM398
          refine wpF_end _ (by kernel_rfl) (then_n (h_d [] (by kernel_rfl) [.row strK 9 A390 c391 ((rsN b true (k)).vs ++ ([strP (((b))) ((atP ((b)) (((rsN b true (k)).ad)) ((rsN b true (k)).ok) (1))) (okP ((b)) (((rsN b true (k)).ad)) ((rsN b true (k)).ok) (1)) (2)] : List Str)), .blk b274 (.cells #[.slice Ab ((((b)))).length cb, .int .i64 (((atP (((b))) ((atP ((b)) (((rsN b true (k)).ad)) ((rsN b true (k)).ok) (1))) (okP ((b)) (((rsN b true (k)).ad)) ((rsN b true (k)).ok) (1)) (2) : Nat) : Int)), .bool (okP (((b))) ((atP ((b)) (((rsN b true (k)).ad)) ((rsN b true (k)).ok) (1))) (okP ((b)) (((rsN b true (k)).ad)) ((rsN b true (k)).ok) (1)) (2))] 61), .row strK 9 A348 c349 ((rsN b true (k)).ks ++ ([strP ((b)) (((rsN b true (k)).ad)) ((rsN b true (k)).ok) (1)] : List Str)), .blk b282 (.cells #[.bool (true), .slice A348 ((rsN b true (k)).ks ++ ([strP ((b)) (((rsN b true (k)).ad)) ((rsN b true (k)).ok) (1)] : List Str)).length c349, .slice A390 ((rsN b true (k)).vs ++ ([strP (((b))) ((atP ((b)) (((rsN b true (k)).ad)) ((rsN b true (k)).ok) (1))) (okP ((b)) (((rsN b true (k)).ad)) ((rsN b true (k)).ok) (1)) (2)] : List Str)).length c391, .slice none 0 0] 25), .blk b2 (.cells #[.bool (false), .slice none 0 0, .slice none 0 0, .slice none 0 0] 25)] hM400 no_held (VT.le.refl _) ?_))
          refine h_n (fun w401 hM402 => ?_)
          refine  (blk_n (then_n (hK318 _ _ ?_)))
          refine wp_reg ?_
          refine wpF_seg 1 (by kernel_rfl) ?_
          refine gF hM402 (.binOp .sub 3 (.tmp 52) (.const (.int .i64 1)) 3) (some 53) (by kernel_rfl) (Y_sub .i64 (((cntR b : Nat) : Int) - (k : Int)) (1) (((cntR b : Nat) : Int) - ((k + 1 : Nat) : Int)) (by kernel_rfl) (by kernel_rfl) (by rw [wrap64_ok _ (by omega)]; omega)) ?_
          refine wpF_seg 1 (by kernel_rfl) ?_
          refine wpF_base [(0, .slice Ab (b).length cb), (2, .pointer (some ⟨b2, 0, none⟩)), (3, .int .i64 (0)), (4, .pointer (some ⟨b274, 0, none⟩)), (5, .pointer (some ⟨b282, 0, none⟩)), (6, .int .i64 (((cntR b : Nat) : Int) - (k + 1 : Int)))] (by kernel_rfl) (fun g403 => ?_)
          have hM404 := hM402.front 4 rfl
          have hM405 := hM404.front 4 rfl
          have hM406 := hM405.front 3 rfl
          have hM407 := hM406.front 4 rfl
          have hM408 := hM407.front 4 rfl
          refine wpF_end _ (by kernel_rfl) (then_n (hK312 _ _ (k + 1) (by omega) ?_))
          refine ⟨g403, V384, A348, c349, A390, c391, rfl, hM408, ((((le311.trans le329).trans le343).trans le371).trans le385), ?_⟩
          · -- ffLtt inv 0
            omega
        · -- ffLtf
          refine wp_exit (then_x (then_x (blk_hit (then_n (hK301 _ _ ?_)))))
          refine wp_seq_k (fun K409 hK409 => ?_)
          refine wp_reg ?_
          refine wpF_seg 1 (by kernel_rfl) ?_
          refine wpF_end _ (by kernel_rfl) (then_n (hK409 _ _ ?_))
          refine wp_seq_k (fun K410 hK410 => ?_)
          refine wp_seq_k (fun K411 hK411 => ?_)
          refine wp_reg ?_
          refine wpF_seg 3 (by kernel_rfl) ?_
          refine gF hM310 (.load 4 (.tmp 79)) (some 80) (by kernel_rfl) (Y_load 2 rfl (off := 2) (by kernel_rfl) (.bool ((rsN b true (k)).ok)) (by kernel_rfl)) ?_
          refine wpF_seg 2 (by kernel_rfl) ?_
          refine wpF_slot 82 (.bool (!((rsN b true (k)).ok))) (.bool true) (by kernel_rfl) (by kernel_rfl) (by rw [(show (!((rsN b true (k)).ok)) = true from by rw [h317]; rfl)]) ?_
          refine wpF_seg 14 (by kernel_rfl) ?_
          refine wpF_end _ (by kernel_rfl) (then_n (hK411 _ _ ?_))
          refine wp_ct (by kernel_rfl) ?_
          refine wp_seq_k (fun K412 hK412 => ?_)
          refine wp_reg ?_
          refine wpF_seg 1 (by kernel_rfl) ?_
          refine wpF_store hM310 4 rfl (h := (by kernel_rfl : opAt _ _ _ _ _ = some (.store 25 (.tmp 2) (.tmp 97), none))) (off := 0) (by kernel_rfl) #[.bool (false), .slice none 0 0, .slice none 0 0, .slice none 0 0] (by kernel_rfl) (by kernel_rfl) (by kernel_rfl) (by kernel_rfl) (fun w414 hM413 => ?_)
          have hM415 : Step V w [] Vl302 _ ([.row strK 9 Ar_312c5_2 cr_312c5_2 ((rsN b true (k)).vs), .row strK 9 Ar_312c5_1 cr_312c5_1 ((rsN b true (k)).ks), .blk b274 (.cells #[.slice Ab ((b)).length cb, .int .i64 ((((rsN b true (k)).ad : Nat) : Int)), .bool ((rsN b true (k)).ok)] 61), .blk b282 (.cells #[.bool (true), .slice Ar_312c5_1 ((rsN b true (k)).ks).length cr_312c5_1, .slice Ar_312c5_2 ((rsN b true (k)).vs).length cr_312c5_2, .slice none 0 0] 25), .blk b2 (.cells #[.bool (false), .slice none 0 0, .slice none 0 0, .slice none 0 0] 25)]) := hM413
          refine wpF_seg 1 (by kernel_rfl) ?_
          refine wpF_end _ (by kernel_rfl) (then_n (hK412 _ _ ?_))
          refine wp_ret (then_r (?_))
          refine retN [.agg #[.bool (false), .slice none 0 0, .slice none 0 0, .slice none 0 0], .int .i64 (4)] (.tuple #[.agg #[.bool (false), .slice none 0 0, .slice none 0 0, .slice none 0 0], .int .i64 (4)]) Try.results23 (.cell (by kernel_rfl) (by kernel_rfl) hM415 4 rfl (by kernel_rfl) (.tmp (by kernel_rfl) (by kernel_rfl) .nil)) (by kernel_rfl) (hRet _ _ ⟨_, _, rfl, hM415.clear, ?_⟩)
          -- end ffLtf
          obtain ⟨e1, e2, e3, e4, e5⟩ := rd_no (rd_no3 (b := b) (leaf := true) (k := k) (by assumption) (by omega) (by assumption))
          refine ⟨none, 0, none, 0, none, 0, ?_, ?_, ?_, ?_⟩
          · simp only [e1, e2, e3, e4, e5] <;> rfl
          · first | exact (Rd.nil _ _) | (exact Rd.eq (Rd.nil _ _) (by first | exact e3.symm | exact e4.symm | exact e5.symm))
          · first | exact (Rd.nil _ _) | (exact Rd.eq (Rd.nil _ _) (by first | exact e3.symm | exact e4.symm | exact e5.symm))
          · first | exact (Rd.nil _ _) | (exact Rd.eq (Rd.nil _ _) (by first | exact e3.symm | exact e4.symm | exact e5.symm))
      · -- ffLf
        have p416 : ¬ ((0) < (((cntR b : Nat) : Int) - (k : Int))) := of_decide_eq_false h315
        refine wpF_seg 5 (by kernel_rfl) ?_
        refine wpF_end _ (by kernel_rfl) (then_n (hK314 _ _ ?_))
        refine wp_cf (by kernel_rfl) ?_
        refine wp_exit (then_x (then_x (blk_hit (then_n (hK301 _ _ ?_)))))
        refine wp_seq_k (fun K417 hK417 => ?_)
        refine wp_reg ?_
        refine wpF_seg 1 (by kernel_rfl) ?_
        refine wpF_end _ (by kernel_rfl) (then_n (hK417 _ _ ?_))
        refine wp_seq_k (fun K418 hK418 => ?_)
        refine wp_seq_k (fun K419 hK419 => ?_)
        refine wp_reg ?_
        refine wpF_seg 3 (by kernel_rfl) ?_
        refine gF hM310 (.load 4 (.tmp 79)) (some 80) (by kernel_rfl) (Y_load 2 rfl (off := 2) (by kernel_rfl) (.bool ((rsN b true (k)).ok)) (by kernel_rfl)) ?_
        refine wpF_seg 2 (by kernel_rfl) ?_
        refine wpF_caseB 82 (!((rsN b true (k)).ok)) (by kernel_rfl) (by kernel_rfl) (fun h420 => ?_) (fun h420 => ?_)
        · -- ffLft
          have h421 : ((rsN b true (k)).ok) = false := by simpa using h420
          refine wpF_seg 14 (by kernel_rfl) ?_
          refine wpF_end _ (by kernel_rfl) (then_n (hK419 _ _ ?_))
          refine wp_ct (by kernel_rfl) ?_
          refine wp_seq_k (fun K422 hK422 => ?_)
          refine wp_reg ?_
          refine wpF_seg 1 (by kernel_rfl) ?_
          refine wpF_store hM310 4 rfl (h := (by kernel_rfl : opAt _ _ _ _ _ = some (.store 25 (.tmp 2) (.tmp 97), none))) (off := 0) (by kernel_rfl) #[.bool (false), .slice none 0 0, .slice none 0 0, .slice none 0 0] (by kernel_rfl) (by kernel_rfl) (by kernel_rfl) (by kernel_rfl) (fun w424 hM423 => ?_)
          have hM425 : Step V w [] Vl302 _ ([.row strK 9 Ar_312c5_2 cr_312c5_2 ((rsN b true (k)).vs), .row strK 9 Ar_312c5_1 cr_312c5_1 ((rsN b true (k)).ks), .blk b274 (.cells #[.slice Ab ((b)).length cb, .int .i64 ((((rsN b true (k)).ad : Nat) : Int)), .bool ((rsN b true (k)).ok)] 61), .blk b282 (.cells #[.bool (true), .slice Ar_312c5_1 ((rsN b true (k)).ks).length cr_312c5_1, .slice Ar_312c5_2 ((rsN b true (k)).vs).length cr_312c5_2, .slice none 0 0] 25), .blk b2 (.cells #[.bool (false), .slice none 0 0, .slice none 0 0, .slice none 0 0] 25)]) := hM423
          refine wpF_seg 1 (by kernel_rfl) ?_
          refine wpF_end _ (by kernel_rfl) (then_n (hK422 _ _ ?_))
          refine wp_ret (then_r (?_))
          refine retN [.agg #[.bool (false), .slice none 0 0, .slice none 0 0, .slice none 0 0], .int .i64 (4)] (.tuple #[.agg #[.bool (false), .slice none 0 0, .slice none 0 0, .slice none 0 0], .int .i64 (4)]) Try.results23 (.cell (by kernel_rfl) (by kernel_rfl) hM425 4 rfl (by kernel_rfl) (.tmp (by kernel_rfl) (by kernel_rfl) .nil)) (by kernel_rfl) (hRet _ _ ⟨_, _, rfl, hM425.clear, ?_⟩)
          -- end ffLft
          obtain ⟨e1, e2, e3, e4, e5⟩ := rd_no (rd_no3 (b := b) (leaf := true) (k := k) (by assumption) (by omega) (by assumption))
          refine ⟨none, 0, none, 0, none, 0, ?_, ?_, ?_, ?_⟩
          · simp only [e1, e2, e3, e4, e5] <;> rfl
          · first | exact (Rd.nil _ _) | (exact Rd.eq (Rd.nil _ _) (by first | exact e3.symm | exact e4.symm | exact e5.symm))
          · first | exact (Rd.nil _ _) | (exact Rd.eq (Rd.nil _ _) (by first | exact e3.symm | exact e4.symm | exact e5.symm))
          · first | exact (Rd.nil _ _) | (exact Rd.eq (Rd.nil _ _) (by first | exact e3.symm | exact e4.symm | exact e5.symm))
        · -- ffLff
          have h426 : ((rsN b true (k)).ok) = true := by simpa using h420
          have h5_ := hin.2.2.2.2 (by assumption)
          refine gF hM310 (.load 25 (.tmp 5)) (some 83) (by kernel_rfl) (Y_load 3 rfl (off := 0) (by kernel_rfl) (.agg #[.bool (true), .slice Ar_312c5_1 ((rsN b true (k)).ks).length cr_312c5_1, .slice Ar_312c5_2 ((rsN b true (k)).vs).length cr_312c5_2, .slice none 0 0]) (by kernel_rfl)) ?_
          obtain ⟨V427, le428, hM429, r430⟩ := hM310.settleRow 1 rfl
          have hM431 : Step V w [] V427 _ ([.row strK 9 Ar_312c5_2 cr_312c5_2 ((rsN b true (k)).vs), .blk b274 (.cells #[.slice Ab ((b)).length cb, .int .i64 ((((rsN b true (k)).ad : Nat) : Int)), .bool ((rsN b true (k)).ok)] 61), .blk b282 (.cells #[.bool (true), .slice Ar_312c5_1 ((rsN b true (k)).ks).length cr_312c5_1, .slice Ar_312c5_2 ((rsN b true (k)).vs).length cr_312c5_2, .slice none 0 0] 25), .blk b2 (.cells #[.bool (false), .slice none 0 0, .slice none 0 0, .slice none 0 0] 25)]) := hM429
          obtain ⟨V432, le433, hM434, r435⟩ := hM431.settleRow 0 rfl
          have hM436 : Step V w [] V432 _ ([.blk b274 (.cells #[.slice Ab ((b)).length cb, .int .i64 ((((rsN b true (k)).ad : Nat) : Int)), .bool ((rsN b true (k)).ok)] 61), .blk b282 (.cells #[.bool (true), .slice Ar_312c5_1 ((rsN b true (k)).ks).length cr_312c5_1, .slice Ar_312c5_2 ((rsN b true (k)).vs).length cr_312c5_2, .slice none 0 0] 25), .blk b2 (.cells #[.bool (false), .slice none 0 0, .slice none 0 0, .slice none 0 0] 25)]) := hM434
          refine wpF_callP hM436 (f := 17) (caps := #[]) (h := (by kernel_rfl : opAt _ _ _ _ _ = some (.call (.mk (.value (.func 17)) #[(.tmp 83)] #[25]), some 84))) (by kernel_rfl) (by kernel_rfl) (by kernel_rfl) (f17 _ _ hM436.inW (true) Ar_312c5_1 cr_312c5_1 ((rsN b true (k)).ks) (r430.up le433) Ar_312c5_2 cr_312c5_2 ((rsN b true (k)).vs) r435 none 0 ([] : List Int) (Rd.nil _ _) (by first | omega | (simp only [List.length_nil]; omega)) (by first | omega | (simp only [List.length_nil]; omega))) (fun v437 V438 w439 le440 hM441 hp442 => ?_)
          obtain rfl := hp442
          refine wpF_seg 3 (by kernel_rfl) ?_
          refine wpF_caseB 87 (!(decide ((checkM (true) ((rsN b true (k)).ks) ((rsN b true (k)).vs) ([] : List Int)) = (0)))) (by kernel_rfl) (by kernel_rfl) (fun h443 => ?_) (fun h443 => ?_)
          · -- ffLfft
            have h444 : decide ((checkM (true) ((rsN b true (k)).ks) ((rsN b true (k)).vs) ([] : List Int)) = (0)) = false := by rw [← Bool.not_not (decide _), h443]; rfl
            have p445 : ¬ ((checkM (true) ((rsN b true (k)).ks) ((rsN b true (k)).vs) ([] : List Int)) = (0)) := of_decide_eq_false h444
            refine wpF_seg 9 (by kernel_rfl) ?_
            refine wpF_end _ (by kernel_rfl) (then_n (hK419 _ _ ?_))
            refine wp_ct (by kernel_rfl) ?_
            refine wp_seq_k (fun K446 hK446 => ?_)
            refine wp_reg ?_
            refine wpF_seg 1 (by kernel_rfl) ?_
            refine wpF_store hM441 2 rfl (h := (by kernel_rfl : opAt _ _ _ _ _ = some (.store 25 (.tmp 2) (.tmp 97), none))) (off := 0) (by kernel_rfl) #[.bool (false), .slice none 0 0, .slice none 0 0, .slice none 0 0] (by kernel_rfl) (by kernel_rfl) (by kernel_rfl) (by kernel_rfl) (fun w448 hM447 => ?_)
            have hM449 : Step V w [] V438 _ ([.blk b274 (.cells #[.slice Ab ((b)).length cb, .int .i64 ((((rsN b true (k)).ad : Nat) : Int)), .bool ((rsN b true (k)).ok)] 61), .blk b282 (.cells #[.bool (true), .slice Ar_312c5_1 ((rsN b true (k)).ks).length cr_312c5_1, .slice Ar_312c5_2 ((rsN b true (k)).vs).length cr_312c5_2, .slice none 0 0] 25), .blk b2 (.cells #[.bool (false), .slice none 0 0, .slice none 0 0, .slice none 0 0] 25)]) := hM447
            refine wpF_seg 1 (by kernel_rfl) ?_
            refine wpF_end _ (by kernel_rfl) (then_n (hK446 _ _ ?_))
            refine wp_ret (then_r (?_))
            refine retN [.agg #[.bool (false), .slice none 0 0, .slice none 0 0, .slice none 0 0], .int .i64 (4)] (.tuple #[.agg #[.bool (false), .slice none 0 0, .slice none 0 0, .slice none 0 0], .int .i64 (4)]) Try.results23 (.cell (by kernel_rfl) (by kernel_rfl) hM449 2 rfl (by kernel_rfl) (.tmp (by kernel_rfl) (by kernel_rfl) .nil)) (by kernel_rfl) (hRet _ _ ⟨_, _, rfl, hM449.clear, ?_⟩)
            -- end ffLfft
            obtain ⟨e1, e2, e3, e4, e5⟩ := rd_no (rd_no4 (b := b) (leaf := true) (k := k) (by assumption) (by omega) (by first | assumption | (rw [rsN_leafc]; assumption) | (rw [rsN_innv]; assumption)))
            refine ⟨none, 0, none, 0, none, 0, ?_, ?_, ?_, ?_⟩
            · simp only [e1, e2, e3, e4, e5] <;> rfl
            · first | exact (Rd.nil _ _) | (exact Rd.eq (Rd.nil _ _) (by first | exact e3.symm | exact e4.symm | exact e5.symm))
            · first | exact (Rd.nil _ _) | (exact Rd.eq (Rd.nil _ _) (by first | exact e3.symm | exact e4.symm | exact e5.symm))
            · first | exact (Rd.nil _ _) | (exact Rd.eq (Rd.nil _ _) (by first | exact e3.symm | exact e4.symm | exact e5.symm))
          · -- ffLfff
            have h450 : decide ((checkM (true) ((rsN b true (k)).ks) ((rsN b true (k)).vs) ([] : List Int)) = (0)) = true := by rw [← Bool.not_not (decide _), h443]; rfl
            have p451 : ((checkM (true) ((rsN b true (k)).ks) ((rsN b true (k)).vs) ([] : List Int)) = (0)) := of_decide_eq_true h450
            refine wpF_seg 4 (by kernel_rfl) ?_
            refine gF hM441 (.load 3 (.tmp 91)) (some 92) (by kernel_rfl) (Y_load 0 rfl (off := 1) (by kernel_rfl) (.int .i64 ((((rsN b true (k)).ad : Nat) : Int))) (by kernel_rfl)) ?_
            refine gF_slice (A := Ab) (c := cb) (hb.up hM441.le) (h := (by kernel_rfl : opAt _ _ _ _ _ = some (.slice 28 (.tmp 88) (some (.tmp 92)) none none, some 93))) (e := 5) (by kernel_rfl) (by kernel_rfl) (((rsN b true (k)).ad)) (b.length) ⟨.i64, by rw [show ((((rsN b true (k)).ad) : Nat) : Int) = (((rsN b true (k)).ad : Nat) : Int) from by omega]; kernel_rfl⟩ rfl (by omega) (by omega) (b.drop (((rsN b true (k)).ad))) (by rw [List.take_length]) (fun A452 c453 r454 => ?_)
            refine wpF_seg 1 (by kernel_rfl) ?_
            refine wpF_callP hM441 (f := 45) (caps := #[]) (h := (by kernel_rfl : opAt _ _ _ _ _ = some (.call (.mk (.value (.func 45)) #[(.tmp 93), (.tmp 94)] #[28, 64]), some 95))) (by kernel_rfl) (by kernel_rfl) (by kernel_rfl) (f45 _ _ hM441.inW 44 #[] (by kernel_rfl) (fun (y_ : UInt8) => !decide ((y_.toNat : Int) = (0 : Int))) A452 c453 (b.drop (((rsN b true (k)).ad))) r454 (fun V_ w_ l_ i_ j_ hj_ h_ => f44 V_ w_ i_ (((b.drop (((rsN b true (k)).ad))).getD j_ 0).toNat : Int))) (fun v455 V456 w457 le458 hM459 hp460 => ?_)
            obtain rfl := hp460
            refine wpF_seg 1 (by kernel_rfl) ?_
            refine wpF_end _ (by kernel_rfl) (then_n (hK419 _ _ ?_))
            refine wp_if ((b.drop (((rsN b true (k)).ad))).any (fun (y_ : UInt8) => !decide ((y_.toNat : Int) = (0 : Int)))) (by kernel_rfl) (fun h461 => ?_) (fun h461 => ?_)
            · -- ffLffft
              refine wp_seq_k (fun K462 hK462 => ?_)
              refine wp_reg ?_
              refine wpF_seg 1 (by kernel_rfl) ?_
              refine wpF_store hM459 2 rfl (h := (by kernel_rfl : opAt _ _ _ _ _ = some (.store 25 (.tmp 2) (.tmp 97), none))) (off := 0) (by kernel_rfl) #[.bool (false), .slice none 0 0, .slice none 0 0, .slice none 0 0] (by kernel_rfl) (by kernel_rfl) (by kernel_rfl) (by kernel_rfl) (fun w464 hM463 => ?_)
              have hM465 : Step V w [] V456 _ ([.blk b274 (.cells #[.slice Ab ((b)).length cb, .int .i64 ((((rsN b true (k)).ad : Nat) : Int)), .bool ((rsN b true (k)).ok)] 61), .blk b282 (.cells #[.bool (true), .slice Ar_312c5_1 ((rsN b true (k)).ks).length cr_312c5_1, .slice Ar_312c5_2 ((rsN b true (k)).vs).length cr_312c5_2, .slice none 0 0] 25), .blk b2 (.cells #[.bool (false), .slice none 0 0, .slice none 0 0, .slice none 0 0] 25)]) := hM463
              refine wpF_seg 1 (by kernel_rfl) ?_
              refine wpF_end _ (by kernel_rfl) (then_n (hK462 _ _ ?_))
              refine wp_ret (then_r (?_))
              refine retN [.agg #[.bool (false), .slice none 0 0, .slice none 0 0, .slice none 0 0], .int .i64 (4)] (.tuple #[.agg #[.bool (false), .slice none 0 0, .slice none 0 0, .slice none 0 0], .int .i64 (4)]) Try.results23 (.cell (by kernel_rfl) (by kernel_rfl) hM465 2 rfl (by kernel_rfl) (.tmp (by kernel_rfl) (by kernel_rfl) .nil)) (by kernel_rfl) (hRet _ _ ⟨_, _, rfl, hM465.clear, ?_⟩)
              -- end ffLffft
              obtain ⟨e1, e2, e3, e4, e5⟩ := rd_no (rd_no5 (b := b) (leaf := true) (k := k) (by assumption) (by omega) (by assumption))
              refine ⟨none, 0, none, 0, none, 0, ?_, ?_, ?_, ?_⟩
              · simp only [e1, e2, e3, e4, e5] <;> rfl
              · first | exact (Rd.nil _ _) | (exact Rd.eq (Rd.nil _ _) (by first | exact e3.symm | exact e4.symm | exact e5.symm))
              · first | exact (Rd.nil _ _) | (exact Rd.eq (Rd.nil _ _) (by first | exact e3.symm | exact e4.symm | exact e5.symm))
              · first | exact (Rd.nil _ _) | (exact Rd.eq (Rd.nil _ _) (by first | exact e3.symm | exact e4.symm | exact e5.symm))
            · -- ffLffff
              refine wp_skip (then_n (hK418 _ _ ?_))
              refine wp_seq_k (fun K466 hK466 => ?_)
              refine wp_reg ?_
              refine gF hM459 (.load 25 (.tmp 5)) (some 98) (by kernel_rfl) (Y_load 1 rfl (off := 0) (by kernel_rfl) (.agg #[.bool (true), .slice Ar_312c5_1 ((rsN b true (k)).ks).length cr_312c5_1, .slice Ar_312c5_2 ((rsN b true (k)).vs).length cr_312c5_2, .slice none 0 0]) (by kernel_rfl)) ?_
              refine wpF_store hM459 2 rfl (h := (by kernel_rfl : opAt _ _ _ _ _ = some (.store 25 (.tmp 2) (.tmp 98), none))) (off := 0) (by kernel_rfl) #[.bool (true), .slice Ar_312c5_1 ((rsN b true (k)).ks).length cr_312c5_1, .slice Ar_312c5_2 ((rsN b true (k)).vs).length cr_312c5_2, .slice none 0 0] (by kernel_rfl) (by kernel_rfl) (by kernel_rfl) (by kernel_rfl) (fun w468 hM467 => ?_)
              have hM469 : Step V w [] V456 _ ([.blk b274 (.cells #[.slice Ab ((b)).length cb, .int .i64 ((((rsN b true (k)).ad : Nat) : Int)), .bool ((rsN b true (k)).ok)] 61), .blk b282 (.cells #[.bool (true), .slice Ar_312c5_1 ((rsN b true (k)).ks).length cr_312c5_1, .slice Ar_312c5_2 ((rsN b true (k)).vs).length cr_312c5_2, .slice none 0 0] 25), .blk b2 (.cells #[.bool (true), .slice Ar_312c5_1 ((rsN b true (k)).ks).length cr_312c5_1, .slice Ar_312c5_2 ((rsN b true (k)).vs).length cr_312c5_2, .slice none 0 0] 25)]) := hM467
              refine wpF_seg 1 (by kernel_rfl) ?_
              refine wpF_end _ (by kernel_rfl) (then_n (hK466 _ _ ?_))
              refine wp_ret ?_
              refine retN [.agg #[.bool (true), .slice Ar_312c5_1 ((rsN b true (k)).ks).length cr_312c5_1, .slice Ar_312c5_2 ((rsN b true (k)).vs).length cr_312c5_2, .slice none 0 0], .int .i64 (0)] (.tuple #[.agg #[.bool (true), .slice Ar_312c5_1 ((rsN b true (k)).ks).length cr_312c5_1, .slice Ar_312c5_2 ((rsN b true (k)).vs).length cr_312c5_2, .slice none 0 0], .int .i64 (0)]) Try.results23 (.cell (by kernel_rfl) (by kernel_rfl) hM469 2 rfl (by kernel_rfl) (.tmp (by kernel_rfl) (by kernel_rfl) .nil)) (by kernel_rfl) (hRet _ _ ⟨_, _, rfl, hM469.clear, ?_⟩)
              -- end ffLffff
              obtain ⟨e1, e2, e3, e4, e5⟩ := rd_yes (b := b) (leaf := true) (k := k) (by assumption) (by assumption) (by first | exact .inl rfl | exact .inr (by assumption)) (by omega) (by assumption) (by first | assumption | (rw [rsN_leafc]; assumption) | (rw [rsN_innv]; assumption)) (by assumption)
              rw [rsN_leafc] at e5
              refine ⟨Ar_312c5_1, cr_312c5_1, Ar_312c5_2, cr_312c5_2, none, 0, ?_, ?_, ?_, ?_⟩
              · simp only [e1, e2, e3, e4, e5] <;> rfl
              · first | exact (r430.up ((le433.trans le440).trans le458)) | (exact Rd.eq (r430.up ((le433.trans le440).trans le458)) (by first | exact e3.symm | exact e4.symm | exact e5.symm))
              · first | exact (r435.up (le440.trans le458)) | (exact Rd.eq (r435.up (le440.trans le458)) (by first | exact e3.symm | exact e4.symm | exact e5.symm))
              · first | exact (Rd.nil _ _) | (exact Rd.eq (Rd.nil _ _) (by first | exact e3.symm | exact e4.symm | exact e5.symm))

end Go.Vk
