/- Contracts of the page's functions, part J: printed by wip/tools/p8.py. -/
import Derived.Test.YtpaljghjoajhfaaRPlain
set_option linter.unusedVariables false
set_option linter.unusedSimpArgs false
namespace Go.Vk
open Go.Proofs
set_option maxHeartbeats 4000000 in
set_option maxRecDepth 100000 in
theorem f54 (V : VT) (w : World) (Ab : Option Addr) (cb : Nat) (b : List UInt8) (n : Int) (wd : Nat) (hS : St V w [.row byteK 5 Ab cb (b)]) (h0 : 0 ≤ n) (h1 : n ≤ 65535) (hw : wd ≤ 8) (hb : b.length + 8 ≤ 140737488355328) :
    Calls Try.prog 54 #[.slice Ab (b).length cb, .int .u16 (n), .int .i64 ((wd : Int))] w (Ret V w [.row byteK 5 Ab cb (b)] fun rv V' E' => ∃ (A1 : Option Addr), ∃ (c1 : Nat), rv = .slice A1 (putM b n wd wd).length c1 ∧ E' = [.row byteK 5 A1 c1 (putM b n wd wd)]) := by
  refine calls_env (n := 24) Try.func54 (c := _) rfl Try.ntmps54 (by kernel_rfl) (fun R hRet => ?_)
  have hV := hS.inW
  have hM0 : Step V w [.row byteK 5 Ab cb (b)] V w [.row byteK 5 Ab cb (b)] := Step.refl hS
  refine wp_seq_k (fun K1 hK1 => ?_)
  refine wp_reg ?_
  refine wpF_seg 1 (by kernel_rfl) ?_
  refine wpF_end _ (by kernel_rfl) (then_n (hK1 _ _ ?_))
  refine wp_seq_k (fun K2 hK2 => ?_)
  refine wp_seq_k (fun K3 hK3 => ?_)
  refine wp_reg ?_
  refine wpF_seg 1 (by kernel_rfl) ?_
  refine gF hM0 (.binOp .sub 3 (.tmp 8) (.const (.int .i64 1)) 3) (some 9) (by kernel_rfl) (Y_sub .i64 ((wd : Int)) (1) ((wd : Int) - 1) (by kernel_rfl) (by kernel_rfl) (wrap64_ok _ (by omega))) ?_
  refine wpF_seg 1 (by kernel_rfl) ?_
  refine wpF_end _ (by kernel_rfl) (then_n (hK3 _ _ ?_))
  refine wp_block ?_
  refine wp_base [(0, .slice Ab (putM b n wd (0)).length cb), (1, .int .u16 (n)), (6, .slice none 0 0), (7, .int .i64 (((wd : Int) - 1)))] (by kernel_rfl) (fun g5 => ?_)
  refine wp_loopX (fun (x_ : Nat × Int) a_ w_ => ∃ (g : Nat → Value) (V_ : VT), ∃ (Ar0 : Option Addr) (cr0 : Nat), a_ = env 24 [(0, .slice Ar0 (putM b n wd (x_.1)).length cr0), (1, .int .u16 (n)), (6, .slice none 0 0), (7, .int .i64 (x_.2))] g ∧ Step V w [.row byteK 5 Ab cb (b)] V_ w_ [.row byteK 5 Ar0 cr0 (putM b n wd (x_.1))] ∧ VT.le V V_ ∧ (x_.2 = (wd : Int) - 1 - (x_.1 : Int)) ∧ (x_.1 ≤ wd)) (fun (x_ : Nat × Int) => wd - x_.1) ((0 : Nat), (((wd : Int) - 1) : Int)) ⟨g5, V, Ab, cb, rfl, hM0, VT.le.refl _, by omega, by omega⟩ ?_
  rintro ⟨k, i⟩ a_ w7 ⟨g6, Vl4, Ar_100, cr_100, rfl, hM8, le9, hi10_0, hi10_1⟩ K10 hK10
  refine wp_seq_k (fun K11 hK11 => ?_)
  refine wp_seq_k (fun K12 hK12 => ?_)
  refine wp_reg ?_
  refine wpF_seg 2 (by kernel_rfl) ?_
  refine wpF_end _ (by kernel_rfl) (then_n (hK12 _ _ ?_))
  refine wp_if (decide ((0) ≤ (i))) (by kernel_rfl) (fun h13 => ?_) (fun h13 => ?_)
  · -- Lt
    have p14 : ((0) ≤ (i)) := of_decide_eq_true h13
    refine wp_skip (then_n (hK11 _ _ ?_))
    refine wp_seq_k (fun K15 hK15 => ?_)
    refine wp_block ?_
    refine wp_reg ?_
    refine wpF_seg 2 (by kernel_rfl) ?_
    refine gF hM8 (.convert 75 86 (.tmp 15)) (some 16) (by kernel_rfl) (Y_conv .u16 .u16 .u64 (n) (n) (by kernel_rfl) (by kernel_rfl) (by kernel_rfl) (wrapu64_ok _ (by omega))) ?_
    refine wpF_seg 1 (by kernel_rfl) ?_
    refine gF hM8 (.binOp .mul 3 (.const (.int .i64 8)) (.tmp 17) 3) (some 18) (by kernel_rfl) (Y_mul .i64 (8) (i) (8 * i) (by kernel_rfl) (by kernel_rfl) (wrap64_ok _ (by omega))) ?_
    refine gF hM8 (.binOp .shr 86 (.tmp 16) (.tmp 18) 3) (some 19) (by kernel_rfl) (Y_shr .u64 .i64 (n) (8 * i) (n / 2 ^ (8 * (wd - 1 - k))) (by kernel_rfl) (by kernel_rfl) (by omega) (shr_eq (by omega) (by omega))) ?_
    refine gF hM8 (.convert 86 5 (.tmp 19)) (some 20) (by kernel_rfl) (Y_conv .u64 .u64 .u8 (n / 2 ^ (8 * (wd - 1 - k))) (((byt n (wd - 1 - k)).toNat : Int)) (by kernel_rfl) (by kernel_rfl) (by kernel_rfl) (byt_wrap (by omega))) ?_
    refine wpF_litR byteK hM8 #[.int .u8 (((byt n (wd - 1 - k)).toNat : Int))] (h := (by kernel_rfl : opAt _ _ _ _ _ = some (.buildSlice 28 1 #[(0, (.tmp 20))], some 21))) (e := 5) (by kernel_rfl) ([(byt n (wd - 1 - k))]) Reps.one_byte rfl (by simp [maxL]) (fun A16 c17 V20 w18 le21 hM19 r22 => ?_)
    refine wpF_append (by_ := 1) hM19 0 rfl (h := (by kernel_rfl : opAt _ _ _ _ _ = some (.call (.mk (.builtin .append) #[(.tmp 14), (.tmp 21)] #[28, 28]), some 22))) (by kernel_rfl) (by kernel_rfl) (by kernel_rfl) (by kernel_rfl) (by kernel_rfl) (by kernel_rfl) (by kernel_rfl) (Src.rd r22) (by simp only [putM_len, List.length_cons, List.length_nil]; omega) (fun A23 c24 w25 hM26 => ?_)
    have hM27 : Step V w [.row byteK 5 Ab cb (b)] V20 _ ([.row byteK 5 A23 c24 (putM b n wd (k) ++ [(byt n (wd - 1 - k))])]) := hM26
    refine wpF_seg 1 (by kernel_rfl) ?_
    refine wpF_end _ (by kernel_rfl) (blk_n (then_n (hK15 _ _ ?_)))
    refine wp_reg ?_
    refine wpF_seg 1 (by kernel_rfl) ?_
    refine gF hM27 (.binOp .sub 3 (.tmp 12) (.const (.int .i64 1)) 3) (some 13) (by kernel_rfl) (Y_sub .i64 (i) (1) (i - 1) (by kernel_rfl) (by kernel_rfl) (wrap64_ok _ (by omega))) ?_
    refine wpF_seg 1 (by kernel_rfl) ?_
    refine wpF_base [(0, .slice A23 (putM b n wd (k + 1)).length c24), (1, .int .u16 (n)), (6, .slice none 0 0), (7, .int .i64 (i - 1))] (by kernel_rfl) (fun g28 => ?_)
    refine wpF_end _ (by kernel_rfl) (then_n (hK10 _ _ (k + 1, i - 1) (by omega) ?_))
    refine ⟨g28, V20, A23, c24, rfl, hM27, hM27.le, ?_, ?_⟩
    · -- Lt inv 0
      omega
    · -- Lt inv 1
      omega
  · -- Lf
    have p29 : ¬ ((0) ≤ (i)) := of_decide_eq_false h13
    refine wp_exit (then_x (then_x (blk_hit (then_n (hK2 _ _ ?_)))))
    refine wp_seq_k (fun K30 hK30 => ?_)
    refine wp_reg ?_
    refine wpF_seg 2 (by kernel_rfl) ?_
    refine wpF_end _ (by kernel_rfl) (then_n (hK30 _ _ ?_))
    refine wp_ret ?_
    have hM31 := hM8.front 0 rfl
    have hM32 : Step V w [.row byteK 5 Ab cb (b)] Vl4 _ ([.row byteK 5 Ar_100 cr_100 (putM b n wd (k))]) := hM31
    refine retN [.slice Ar_100 (putM b n wd (k)).length cr_100] (.slice Ar_100 (putM b n wd (k)).length cr_100) Try.results54 (.tmp (by kernel_rfl) (by kernel_rfl) .nil) (by kernel_rfl) (hRet _ _ ⟨_, _, _, rfl, hM32, ?_⟩)
    -- end Lf
    refine ⟨Ar_100, cr_100, ?_, ?_⟩
    · (obtain rfl : k = wd := by omega); rfl
    · (obtain rfl : k = wd := by omega); rfl

set_option maxHeartbeats 4000000 in
set_option maxRecDepth 100000 in
theorem f55 (V : VT) (w : World) (Ab : Option Addr) (cb : Nat) (b : List UInt8) (n : Int) (wd : Nat) (hS : St V w [.row byteK 5 Ab cb (b)]) (h0 : 0 ≤ n) (h1 : n ≤ 4294967295) (hw : wd ≤ 8) (hb : b.length + 8 ≤ 140737488355328) :
    Calls Try.prog 55 #[.slice Ab (b).length cb, .int .u32 (n), .int .i64 ((wd : Int))] w (Ret V w [.row byteK 5 Ab cb (b)] fun rv V' E' => ∃ (A1 : Option Addr), ∃ (c1 : Nat), rv = .slice A1 (putM b n wd wd).length c1 ∧ E' = [.row byteK 5 A1 c1 (putM b n wd wd)]) := by
  refine calls_env (n := 24) Try.func55 (c := _) rfl Try.ntmps55 (by kernel_rfl) (fun R hRet => ?_)
  have hV := hS.inW
  have hM0 : Step V w [.row byteK 5 Ab cb (b)] V w [.row byteK 5 Ab cb (b)] := Step.refl hS
  refine wp_seq_k (fun K1 hK1 => ?_)
  refine wp_reg ?_
  refine wpF_seg 1 (by kernel_rfl) ?_
  refine wpF_end _ (by kernel_rfl) (then_n (hK1 _ _ ?_))
  refine wp_seq_k (fun K2 hK2 => ?_)
  refine wp_seq_k (fun K3 hK3 => ?_)
  refine wp_reg ?_
  refine wpF_seg 1 (by kernel_rfl) ?_
  refine gF hM0 (.binOp .sub 3 (.tmp 8) (.const (.int .i64 1)) 3) (some 9) (by kernel_rfl) (Y_sub .i64 ((wd : Int)) (1) ((wd : Int) - 1) (by kernel_rfl) (by kernel_rfl) (wrap64_ok _ (by omega))) ?_
  refine wpF_seg 1 (by kernel_rfl) ?_
  refine wpF_end _ (by kernel_rfl) (then_n (hK3 _ _ ?_))
  refine wp_block ?_
  refine wp_base [(0, .slice Ab (putM b n wd (0)).length cb), (1, .int .u32 (n)), (6, .slice none 0 0), (7, .int .i64 (((wd : Int) - 1)))] (by kernel_rfl) (fun g5 => ?_)
  refine wp_loopX (fun (x_ : Nat × Int) a_ w_ => ∃ (g : Nat → Value) (V_ : VT), ∃ (Ar0 : Option Addr) (cr0 : Nat), a_ = env 24 [(0, .slice Ar0 (putM b n wd (x_.1)).length cr0), (1, .int .u32 (n)), (6, .slice none 0 0), (7, .int .i64 (x_.2))] g ∧ Step V w [.row byteK 5 Ab cb (b)] V_ w_ [.row byteK 5 Ar0 cr0 (putM b n wd (x_.1))] ∧ VT.le V V_ ∧ (x_.2 = (wd : Int) - 1 - (x_.1 : Int)) ∧ (x_.1 ≤ wd)) (fun (x_ : Nat × Int) => wd - x_.1) ((0 : Nat), (((wd : Int) - 1) : Int)) ⟨g5, V, Ab, cb, rfl, hM0, VT.le.refl _, by omega, by omega⟩ ?_
  rintro ⟨k, i⟩ a_ w7 ⟨g6, Vl4, Ar_100, cr_100, rfl, hM8, le9, hi10_0, hi10_1⟩ K10 hK10
  refine wp_seq_k (fun K11 hK11 => ?_)
  refine wp_seq_k (fun K12 hK12 => ?_)
  refine wp_reg ?_
  refine wpF_seg 2 (by kernel_rfl) ?_
  refine wpF_end _ (by kernel_rfl) (then_n (hK12 _ _ ?_))
  refine wp_if (decide ((0) ≤ (i))) (by kernel_rfl) (fun h13 => ?_) (fun h13 => ?_)
  · -- Lt
    have p14 : ((0) ≤ (i)) := of_decide_eq_true h13
    refine wp_skip (then_n (hK11 _ _ ?_))
    refine wp_seq_k (fun K15 hK15 => ?_)
    refine wp_block ?_
    refine wp_reg ?_
    refine wpF_seg 2 (by kernel_rfl) ?_
    refine gF hM8 (.convert 77 86 (.tmp 15)) (some 16) (by kernel_rfl) (Y_conv .u32 .u32 .u64 (n) (n) (by kernel_rfl) (by kernel_rfl) (by kernel_rfl) (wrapu64_ok _ (by omega))) ?_
    refine wpF_seg 1 (by kernel_rfl) ?_
    refine gF hM8 (.binOp .mul 3 (.const (.int .i64 8)) (.tmp 17) 3) (some 18) (by kernel_rfl) (Y_mul .i64 (8) (i) (8 * i) (by kernel_rfl) (by kernel_rfl) (wrap64_ok _ (by omega))) ?_
    refine gF hM8 (.binOp .shr 86 (.tmp 16) (.tmp 18) 3) (some 19) (by kernel_rfl) (Y_shr .u64 .i64 (n) (8 * i) (n / 2 ^ (8 * (wd - 1 - k))) (by kernel_rfl) (by kernel_rfl) (by omega) (shr_eq (by omega) (by omega))) ?_
    refine gF hM8 (.convert 86 5 (.tmp 19)) (some 20) (by kernel_rfl) (Y_conv .u64 .u64 .u8 (n / 2 ^ (8 * (wd - 1 - k))) (((byt n (wd - 1 - k)).toNat : Int)) (by kernel_rfl) (by kernel_rfl) (by kernel_rfl) (byt_wrap (by omega))) ?_
    refine wpF_litR byteK hM8 #[.int .u8 (((byt n (wd - 1 - k)).toNat : Int))] (h := (by kernel_rfl : opAt _ _ _ _ _ = some (.buildSlice 28 1 #[(0, (.tmp 20))], some 21))) (e := 5) (by kernel_rfl) ([(byt n (wd - 1 - k))]) Reps.one_byte rfl (by simp [maxL]) (fun A16 c17 V20 w18 le21 hM19 r22 => ?_)
    refine wpF_append (by_ := 1) hM19 0 rfl (h := (by kernel_rfl : opAt _ _ _ _ _ = some (.call (.mk (.builtin .append) #[(.tmp 14), (.tmp 21)] #[28, 28]), some 22))) (by kernel_rfl) (by kernel_rfl) (by kernel_rfl) (by kernel_rfl) (by kernel_rfl) (by kernel_rfl) (by kernel_rfl) (Src.rd r22) (by simp only [putM_len, List.length_cons, List.length_nil]; omega) (fun A23 c24 w25 hM26 => ?_)
    have hM27 : Step V w [.row byteK 5 Ab cb (b)] V20 _ ([.row byteK 5 A23 c24 (putM b n wd (k) ++ [(byt n (wd - 1 - k))])]) := hM26
    refine wpF_seg 1 (by kernel_rfl) ?_
    refine wpF_end _ (by kernel_rfl) (blk_n (then_n (hK15 _ _ ?_)))
    refine wp_reg ?_
    refine wpF_seg 1 (by kernel_rfl) ?_
    refine gF hM27 (.binOp .sub 3 (.tmp 12) (.const (.int .i64 1)) 3) (some 13) (by kernel_rfl) (Y_sub .i64 (i) (1) (i - 1) (by kernel_rfl) (by kernel_rfl) (wrap64_ok _ (by omega))) ?_
    refine wpF_seg 1 (by kernel_rfl) ?_
    refine wpF_base [(0, .slice A23 (putM b n wd (k + 1)).length c24), (1, .int .u32 (n)), (6, .slice none 0 0), (7, .int .i64 (i - 1))] (by kernel_rfl) (fun g28 => ?_)
    refine wpF_end _ (by kernel_rfl) (then_n (hK10 _ _ (k + 1, i - 1) (by omega) ?_))
    refine ⟨g28, V20, A23, c24, rfl, hM27, hM27.le, ?_, ?_⟩
    · -- Lt inv 0
      omega
    · -- Lt inv 1
      omega
  · -- Lf
    have p29 : ¬ ((0) ≤ (i)) := of_decide_eq_false h13
    refine wp_exit (then_x (then_x (blk_hit (then_n (hK2 _ _ ?_)))))
    refine wp_seq_k (fun K30 hK30 => ?_)
    refine wp_reg ?_
    refine wpF_seg 2 (by kernel_rfl) ?_
    refine wpF_end _ (by kernel_rfl) (then_n (hK30 _ _ ?_))
    refine wp_ret ?_
    have hM31 := hM8.front 0 rfl
    have hM32 : Step V w [.row byteK 5 Ab cb (b)] Vl4 _ ([.row byteK 5 Ar_100 cr_100 (putM b n wd (k))]) := hM31
    refine retN [.slice Ar_100 (putM b n wd (k)).length cr_100] (.slice Ar_100 (putM b n wd (k)).length cr_100) Try.results55 (.tmp (by kernel_rfl) (by kernel_rfl) .nil) (by kernel_rfl) (hRet _ _ ⟨_, _, _, rfl, hM32, ?_⟩)
    -- end Lf
    refine ⟨Ar_100, cr_100, ?_, ?_⟩
    · (obtain rfl : k = wd := by omega); rfl
    · (obtain rfl : k = wd := by omega); rfl

set_option maxHeartbeats 4000000 in
set_option maxRecDepth 100000 in
theorem f56 (V : VT) (w : World) (Ab : Option Addr) (cb : Nat) (b : List UInt8) (n : Int) (wd : Nat) (hS : St V w [.row byteK 5 Ab cb (b)]) (h0 : 0 ≤ n) (h1 : n ≤ 255) (hw : wd ≤ 8) (hb : b.length + 8 ≤ 140737488355328) :
    Calls Try.prog 56 #[.slice Ab (b).length cb, .int .u8 (n), .int .i64 ((wd : Int))] w (Ret V w [.row byteK 5 Ab cb (b)] fun rv V' E' => ∃ (A1 : Option Addr), ∃ (c1 : Nat), rv = .slice A1 (putM b n wd wd).length c1 ∧ E' = [.row byteK 5 A1 c1 (putM b n wd wd)]) := by
  refine calls_env (n := 24) Try.func56 (c := _) rfl Try.ntmps56 (by kernel_rfl) (fun R hRet => ?_)
  have hV := hS.inW
  have hM0 : Step V w [.row byteK 5 Ab cb (b)] V w [.row byteK 5 Ab cb (b)] := Step.refl hS
  refine wp_seq_k (fun K1 hK1 => ?_)
  refine wp_reg ?_
  refine wpF_seg 1 (by kernel_rfl) ?_
  refine wpF_end _ (by kernel_rfl) (then_n (hK1 _ _ ?_))
  refine wp_seq_k (fun K2 hK2 => ?_)
  refine wp_seq_k (fun K3 hK3 => ?_)
  refine wp_reg ?_
  refine wpF_seg 1 (by kernel_rfl) ?_
  refine gF hM0 (.binOp .sub 3 (.tmp 8) (.const (.int .i64 1)) 3) (some 9) (by kernel_rfl) (Y_sub .i64 ((wd : Int)) (1) ((wd : Int) - 1) (by kernel_rfl) (by kernel_rfl) (wrap64_ok _ (by omega))) ?_
  refine wpF_seg 1 (by kernel_rfl) ?_
  refine wpF_end _ (by kernel_rfl) (then_n (hK3 _ _ ?_))
  refine wp_block ?_
  refine wp_base [(0, .slice Ab (putM b n wd (0)).length cb), (1, .int .u8 (n)), (6, .slice none 0 0), (7, .int .i64 (((wd : Int) - 1)))] (by kernel_rfl) (fun g5 => ?_)
  refine wp_loopX (fun (x_ : Nat × Int) a_ w_ => ∃ (g : Nat → Value) (V_ : VT), ∃ (Ar0 : Option Addr) (cr0 : Nat), a_ = env 24 [(0, .slice Ar0 (putM b n wd (x_.1)).length cr0), (1, .int .u8 (n)), (6, .slice none 0 0), (7, .int .i64 (x_.2))] g ∧ Step V w [.row byteK 5 Ab cb (b)] V_ w_ [.row byteK 5 Ar0 cr0 (putM b n wd (x_.1))] ∧ VT.le V V_ ∧ (x_.2 = (wd : Int) - 1 - (x_.1 : Int)) ∧ (x_.1 ≤ wd)) (fun (x_ : Nat × Int) => wd - x_.1) ((0 : Nat), (((wd : Int) - 1) : Int)) ⟨g5, V, Ab, cb, rfl, hM0, VT.le.refl _, by omega, by omega⟩ ?_
  rintro ⟨k, i⟩ a_ w7 ⟨g6, Vl4, Ar_100, cr_100, rfl, hM8, le9, hi10_0, hi10_1⟩ K10 hK10
  refine wp_seq_k (fun K11 hK11 => ?_)
  refine wp_seq_k (fun K12 hK12 => ?_)
  refine wp_reg ?_
  refine wpF_seg 2 (by kernel_rfl) ?_
  refine wpF_end _ (by kernel_rfl) (then_n (hK12 _ _ ?_))
  refine wp_if (decide ((0) ≤ (i))) (by kernel_rfl) (fun h13 => ?_) (fun h13 => ?_)
  · -- Lt
    have p14 : ((0) ≤ (i)) := of_decide_eq_true h13
    refine wp_skip (then_n (hK11 _ _ ?_))
    refine wp_seq_k (fun K15 hK15 => ?_)
    refine wp_block ?_
    refine wp_reg ?_
    refine wpF_seg 2 (by kernel_rfl) ?_
    refine gF hM8 (.convert 5 86 (.tmp 15)) (some 16) (by kernel_rfl) (Y_conv .u8 .u8 .u64 (n) (n) (by kernel_rfl) (by kernel_rfl) (by kernel_rfl) (wrapu64_ok _ (by omega))) ?_
    refine wpF_seg 1 (by kernel_rfl) ?_
    refine gF hM8 (.binOp .mul 3 (.const (.int .i64 8)) (.tmp 17) 3) (some 18) (by kernel_rfl) (Y_mul .i64 (8) (i) (8 * i) (by kernel_rfl) (by kernel_rfl) (wrap64_ok _ (by omega))) ?_
    refine gF hM8 (.binOp .shr 86 (.tmp 16) (.tmp 18) 3) (some 19) (by kernel_rfl) (Y_shr .u64 .i64 (n) (8 * i) (n / 2 ^ (8 * (wd - 1 - k))) (by kernel_rfl) (by kernel_rfl) (by omega) (shr_eq (by omega) (by omega))) ?_
    refine gF hM8 (.convert 86 5 (.tmp 19)) (some 20) (by kernel_rfl) (Y_conv .u64 .u64 .u8 (n / 2 ^ (8 * (wd - 1 - k))) (((byt n (wd - 1 - k)).toNat : Int)) (by kernel_rfl) (by kernel_rfl) (by kernel_rfl) (byt_wrap (by omega))) ?_
    refine wpF_litR byteK hM8 #[.int .u8 (((byt n (wd - 1 - k)).toNat : Int))] (h := (by kernel_rfl : opAt _ _ _ _ _ = some (.buildSlice 28 1 #[(0, (.tmp 20))], some 21))) (e := 5) (by kernel_rfl) ([(byt n (wd - 1 - k))]) Reps.one_byte rfl (by simp [maxL]) (fun A16 c17 V20 w18 le21 hM19 r22 => ?_)
    refine wpF_append (by_ := 1) hM19 0 rfl (h := (by kernel_rfl : opAt _ _ _ _ _ = some (.call (.mk (.builtin .append) #[(.tmp 14), (.tmp 21)] #[28, 28]), some 22))) (by kernel_rfl) (by kernel_rfl) (by kernel_rfl) (by kernel_rfl) (by kernel_rfl) (by kernel_rfl) (by kernel_rfl) (Src.rd r22) (by simp only [putM_len, List.length_cons, List.length_nil]; omega) (fun A23 c24 w25 hM26 => ?_)
    have hM27 : Step V w [.row byteK 5 Ab cb (b)] V20 _ ([.row byteK 5 A23 c24 (putM b n wd (k) ++ [(byt n (wd - 1 - k))])]) := hM26
    refine wpF_seg 1 (by kernel_rfl) ?_
    refine wpF_end _ (by kernel_rfl) (blk_n (then_n (hK15 _ _ ?_)))
    refine wp_reg ?_
    refine wpF_seg 1 (by kernel_rfl) ?_
    refine gF hM27 (.binOp .sub 3 (.tmp 12) (.const (.int .i64 1)) 3) (some 13) (by kernel_rfl) (Y_sub .i64 (i) (1) (i - 1) (by kernel_rfl) (by kernel_rfl) (wrap64_ok _ (by omega))) ?_
    refine wpF_seg 1 (by kernel_rfl) ?_
    refine wpF_base [(0, .slice A23 (putM b n wd (k + 1)).length c24), (1, .int .u8 (n)), (6, .slice none 0 0), (7, .int .i64 (i - 1))] (by kernel_rfl) (fun g28 => ?_)
    refine wpF_end _ (by kernel_rfl) (then_n (hK10 _ _ (k + 1, i - 1) (by omega) ?_))
    refine ⟨g28, V20, A23, c24, rfl, hM27, hM27.le, ?_, ?_⟩
    · -- Lt inv 0
      omega
    · -- Lt inv 1
      omega
  · -- Lf
    have p29 : ¬ ((0) ≤ (i)) := of_decide_eq_false h13
    refine wp_exit (then_x (then_x (blk_hit (then_n (hK2 _ _ ?_)))))
    refine wp_seq_k (fun K30 hK30 => ?_)
    refine wp_reg ?_
    refine wpF_seg 2 (by kernel_rfl) ?_
    refine wpF_end _ (by kernel_rfl) (then_n (hK30 _ _ ?_))
    refine wp_ret ?_
    have hM31 := hM8.front 0 rfl
    have hM32 : Step V w [.row byteK 5 Ab cb (b)] Vl4 _ ([.row byteK 5 Ar_100 cr_100 (putM b n wd (k))]) := hM31
    refine retN [.slice Ar_100 (putM b n wd (k)).length cr_100] (.slice Ar_100 (putM b n wd (k)).length cr_100) Try.results56 (.tmp (by kernel_rfl) (by kernel_rfl) .nil) (by kernel_rfl) (hRet _ _ ⟨_, _, _, rfl, hM32, ?_⟩)
    -- end Lf
    refine ⟨Ar_100, cr_100, ?_, ?_⟩
    · (obtain rfl : k = wd := by omega); rfl
    · (obtain rfl : k = wd := by omega); rfl

set_option maxHeartbeats 4000000 in
set_option maxRecDepth 100000 in
theorem f30 (V : VT) (w : World) (Ab : Option Addr) (cb : Nat) (b : List UInt8) (n : Int) (hS : St V w [.row byteK 5 Ab cb (b)]) (h0 : 0 ≤ n) (h1 : n ≤ 65535) (hb : b.length + 8 ≤ 140737488355328) :
    Calls Try.prog 30 #[.slice Ab (b).length cb, .int .i64 (n)] w (Ret V w [.row byteK 5 Ab cb (b)] fun rv V' E' => ∃ (A1 : Option Addr), ∃ (c1 : Nat), rv = .slice A1 (putM b n 2 2).length c1 ∧ E' = [.row byteK 5 A1 c1 (putM b n 2 2)]) := by
  refine calls_env (n := 9) Try.func30 (c := _) rfl Try.ntmps30 (by kernel_rfl) (fun R hRet => ?_)
  have hV := hS.inW
  have hM0 : Step V w [.row byteK 5 Ab cb (b)] V w [.row byteK 5 Ab cb (b)] := Step.refl hS
  refine wp_seq_k (fun K1 hK1 => ?_)
  refine wp_reg ?_
  refine wpF_seg 1 (by kernel_rfl) ?_
  refine wpF_end _ (by kernel_rfl) (then_n (hK1 _ _ ?_))
  refine wp_seq_k (fun K2 hK2 => ?_)
  refine wp_reg ?_
  refine wpF_seg 2 (by kernel_rfl) ?_
  refine gF hM0 (.convert 3 75 (.tmp 6)) (some 7) (by kernel_rfl) (Y_conv .i64 .i64 .u16 (n) (n) (by kernel_rfl) (by kernel_rfl) (by kernel_rfl) (wrapu16_ok _ (by omega))) ?_
  have hM3 := hM0.front 0 rfl
  have hM11 : Step V w [.row byteK 5 Ab cb (b)] V _ ([.row byteK 5 Ab cb (b)]) := hM3
  refine wpF_callE [.row byteK 5 Ab cb (b)] ([]) hM11 (f := 54) (caps := #[]) (h := (by kernel_rfl : opAt _ _ _ _ _ = some (.call (.mk (.value (.func 54)) #[(.tmp 5), (.tmp 7), (.const (.int .i64 2))] #[28, 75, 3]), some 8))) (by kernel_rfl) (by kernel_rfl) (by kernel_rfl) (f54 _ _ Ab cb (b) (n) (2) (St.part (E := [.row byteK 5 Ab cb (b)]) (F := ([])) hM11.ok) (by omega) (by omega) (by omega) (by omega)) (fun v4 V5 w6 Eo7 le8 hM9 hp10 => ?_)
  obtain ⟨Ar11_1, cr11_1, rfl, rfl⟩ := hp10
  have hM12 : Step V w [.row byteK 5 Ab cb (b)] V5 _ ([.row byteK 5 Ar11_1 cr11_1 (putM (b) (n) (2) (2))]) := hM9
  refine wpF_seg 1 (by kernel_rfl) ?_
  refine wpF_end _ (by kernel_rfl) (then_n (hK2 _ _ ?_))
  refine wp_ret ?_
  have hM13 := hM12.front 0 rfl
  have hM14 : Step V w [.row byteK 5 Ab cb (b)] V5 _ ([.row byteK 5 Ar11_1 cr11_1 (putM (b) (n) (2) (2))]) := hM13
  refine retN [.slice Ar11_1 (putM (b) (n) (2) (2)).length cr11_1] (.slice Ar11_1 (putM (b) (n) (2) (2)).length cr11_1) Try.results30 (.tmp (by kernel_rfl) (by kernel_rfl) .nil) (by kernel_rfl) (hRet _ _ ⟨_, _, _, rfl, hM14, ?_⟩)
  -- end 
  refine ⟨Ar11_1, cr11_1, ?_, ?_⟩
  · rfl
  · rfl

set_option maxHeartbeats 4000000 in
set_option maxRecDepth 100000 in
theorem f31 (V : VT) (w : World) (Ab : Option Addr) (cb : Nat) (b : List UInt8) (n : Int) (hS : St V w [.row byteK 5 Ab cb (b)]) (h0 : 0 ≤ n) (h1 : n ≤ 4294967295) (hb : b.length + 8 ≤ 140737488355328) :
    Calls Try.prog 31 #[.slice Ab (b).length cb, .int .i64 (n)] w (Ret V w [.row byteK 5 Ab cb (b)] fun rv V' E' => ∃ (A1 : Option Addr), ∃ (c1 : Nat), rv = .slice A1 (putM b n 4 4).length c1 ∧ E' = [.row byteK 5 A1 c1 (putM b n 4 4)]) := by
  refine calls_env (n := 9) Try.func31 (c := _) rfl Try.ntmps31 (by kernel_rfl) (fun R hRet => ?_)
  have hV := hS.inW
  have hM0 : Step V w [.row byteK 5 Ab cb (b)] V w [.row byteK 5 Ab cb (b)] := Step.refl hS
  refine wp_seq_k (fun K1 hK1 => ?_)
  refine wp_reg ?_
  refine wpF_seg 1 (by kernel_rfl) ?_
  refine wpF_end _ (by kernel_rfl) (then_n (hK1 _ _ ?_))
  refine wp_seq_k (fun K2 hK2 => ?_)
  refine wp_reg ?_
  refine wpF_seg 2 (by kernel_rfl) ?_
  refine gF hM0 (.convert 3 77 (.tmp 6)) (some 7) (by kernel_rfl) (Y_conv .i64 .i64 .u32 (n) (n) (by kernel_rfl) (by kernel_rfl) (by kernel_rfl) (wrapu32_ok _ (by omega))) ?_
  have hM3 := hM0.front 0 rfl
  have hM11 : Step V w [.row byteK 5 Ab cb (b)] V _ ([.row byteK 5 Ab cb (b)]) := hM3
  refine wpF_callE [.row byteK 5 Ab cb (b)] ([]) hM11 (f := 55) (caps := #[]) (h := (by kernel_rfl : opAt _ _ _ _ _ = some (.call (.mk (.value (.func 55)) #[(.tmp 5), (.tmp 7), (.const (.int .i64 4))] #[28, 77, 3]), some 8))) (by kernel_rfl) (by kernel_rfl) (by kernel_rfl) (f55 _ _ Ab cb (b) (n) (4) (St.part (E := [.row byteK 5 Ab cb (b)]) (F := ([])) hM11.ok) (by omega) (by omega) (by omega) (by omega)) (fun v4 V5 w6 Eo7 le8 hM9 hp10 => ?_)
  obtain ⟨Ar11_1, cr11_1, rfl, rfl⟩ := hp10
  have hM12 : Step V w [.row byteK 5 Ab cb (b)] V5 _ ([.row byteK 5 Ar11_1 cr11_1 (putM (b) (n) (4) (4))]) := hM9
  refine wpF_seg 1 (by kernel_rfl) ?_
  refine wpF_end _ (by kernel_rfl) (then_n (hK2 _ _ ?_))
  refine wp_ret ?_
  have hM13 := hM12.front 0 rfl
  have hM14 : Step V w [.row byteK 5 Ab cb (b)] V5 _ ([.row byteK 5 Ar11_1 cr11_1 (putM (b) (n) (4) (4))]) := hM13
  refine retN [.slice Ar11_1 (putM (b) (n) (4) (4)).length cr11_1] (.slice Ar11_1 (putM (b) (n) (4) (4)).length cr11_1) Try.results31 (.tmp (by kernel_rfl) (by kernel_rfl) .nil) (by kernel_rfl) (hRet _ _ ⟨_, _, _, rfl, hM14, ?_⟩)
  -- end 
  refine ⟨Ar11_1, cr11_1, ?_, ?_⟩
  · rfl
  · rfl

set_option maxHeartbeats 4000000 in
set_option maxRecDepth 100000 in
theorem f32 (V : VT) (w : World) (Ab : Option Addr) (cb : Nat) (b : List UInt8) (n : Int) (hS : St V w [.row byteK 5 Ab cb (b)]) (h0 : 0 ≤ n) (h1 : n ≤ 255) (hb : b.length + 8 ≤ 140737488355328) :
    Calls Try.prog 32 #[.slice Ab (b).length cb, .int .i64 (n)] w (Ret V w [.row byteK 5 Ab cb (b)] fun rv V' E' => ∃ (A1 : Option Addr), ∃ (c1 : Nat), rv = .slice A1 (putM b n 1 1).length c1 ∧ E' = [.row byteK 5 A1 c1 (putM b n 1 1)]) := by
  refine calls_env (n := 9) Try.func32 (c := _) rfl Try.ntmps32 (by kernel_rfl) (fun R hRet => ?_)
  have hV := hS.inW
  have hM0 : Step V w [.row byteK 5 Ab cb (b)] V w [.row byteK 5 Ab cb (b)] := Step.refl hS
  refine wp_seq_k (fun K1 hK1 => ?_)
  refine wp_reg ?_
  refine wpF_seg 1 (by kernel_rfl) ?_
  refine wpF_end _ (by kernel_rfl) (then_n (hK1 _ _ ?_))
  refine wp_seq_k (fun K2 hK2 => ?_)
  refine wp_reg ?_
  refine wpF_seg 2 (by kernel_rfl) ?_
  refine gF hM0 (.convert 3 5 (.tmp 6)) (some 7) (by kernel_rfl) (Y_conv .i64 .i64 .u8 (n) (n) (by kernel_rfl) (by kernel_rfl) (by kernel_rfl) (wrapu8_ok _ (by omega))) ?_
  have hM3 := hM0.front 0 rfl
  have hM11 : Step V w [.row byteK 5 Ab cb (b)] V _ ([.row byteK 5 Ab cb (b)]) := hM3
  refine wpF_callE [.row byteK 5 Ab cb (b)] ([]) hM11 (f := 56) (caps := #[]) (h := (by kernel_rfl : opAt _ _ _ _ _ = some (.call (.mk (.value (.func 56)) #[(.tmp 5), (.tmp 7), (.const (.int .i64 1))] #[28, 5, 3]), some 8))) (by kernel_rfl) (by kernel_rfl) (by kernel_rfl) (f56 _ _ Ab cb (b) (n) (1) (St.part (E := [.row byteK 5 Ab cb (b)]) (F := ([])) hM11.ok) (by omega) (by omega) (by omega) (by omega)) (fun v4 V5 w6 Eo7 le8 hM9 hp10 => ?_)
  obtain ⟨Ar11_1, cr11_1, rfl, rfl⟩ := hp10
  have hM12 : Step V w [.row byteK 5 Ab cb (b)] V5 _ ([.row byteK 5 Ar11_1 cr11_1 (putM (b) (n) (1) (1))]) := hM9
  refine wpF_seg 1 (by kernel_rfl) ?_
  refine wpF_end _ (by kernel_rfl) (then_n (hK2 _ _ ?_))
  refine wp_ret ?_
  have hM13 := hM12.front 0 rfl
  have hM14 : Step V w [.row byteK 5 Ab cb (b)] V5 _ ([.row byteK 5 Ar11_1 cr11_1 (putM (b) (n) (1) (1))]) := hM13
  refine retN [.slice Ar11_1 (putM (b) (n) (1) (1)).length cr11_1] (.slice Ar11_1 (putM (b) (n) (1) (1)).length cr11_1) Try.results32 (.tmp (by kernel_rfl) (by kernel_rfl) .nil) (by kernel_rfl) (hRet _ _ ⟨_, _, _, rfl, hM14, ?_⟩)
  -- end 
  refine ⟨Ar11_1, cr11_1, ?_, ?_⟩
  · rfl
  · rfl

end Go.Vk
