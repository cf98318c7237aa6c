/- Contracts of the page's functions, part L: printed by wip/tools/p8.py. -/
import Derived.Test.YtpaljghjoajhfaaPK
set_option linter.unusedVariables false
set_option linter.unusedSimpArgs false
namespace Go.Vk
open Go.Proofs
set_option maxRecDepth 100000 in
theorem f57 (V : VT) (w : World) (hV : V.inW w) (n : Int) (wd : Nat) (h0 : 0 ≤ n) (h1 : n ≤ 4294967295) (hw : wd ≤ 8) :
    Calls Try.prog 57 #[.int .i64 (n), .int .i64 ((wd : Int))] w (RetP V w fun rv V' => rv = bs (putM [] n wd wd) ∧ (putM [] n wd wd).length ≤ maxL) := by
  refine calls_env (n := 27) Try.func57 (c := _) rfl Try.ntmps57 (by kernel_rfl) (fun R hRet => ?_)
  have hM0 : Step V w [] V w [] := Step.refl (St.nilE hV)
  refine wp_seq_k (fun K1 hK1 => ?_)
  refine wp_reg ?_
  refine wpF_seg 1 (by kernel_rfl) ?_
  refine wpF_end _ (by kernel_rfl) (then_n (hK1 _ _ ?_))
  refine wp_seq_k (fun K2 hK2 => ?_)
  refine wp_reg ?_
  refine wpF_seg 1 (by kernel_rfl) ?_
  refine wpF_conv .i64 .i64 .u64 (n) (n) (h := (by kernel_rfl : opAt _ _ _ _ _ = some (Go.Op.convert 3 86 (Go.Operand.tmp 8), some 9))) (by kernel_rfl) (by kernel_rfl) (by kernel_rfl) (wrapu64_ok _ (by omega)) ?_
  refine wpF_seg 1 (by kernel_rfl) ?_
  refine wpF_end _ (by kernel_rfl) (then_n (hK2 _ _ ?_))
  refine wp_seq_k (fun K3 hK3 => ?_)
  refine wp_reg ?_
  refine wpF_seg 1 (by kernel_rfl) ?_
  refine wpF_end _ (by kernel_rfl) (then_n (hK3 _ _ ?_))
  refine wp_seq_k (fun K4 hK4 => ?_)
  refine wp_seq_k (fun K5 hK5 => ?_)
  refine wp_reg ?_
  refine wpF_seg 1 (by kernel_rfl) ?_
  refine wpF_sub .i64 ((wd : Int)) (1) ((wd : Int) - 1) (h := (by kernel_rfl : opAt _ _ _ _ _ = some (Go.Op.binOp Go.BinOp.sub 3 (Go.Operand.tmp 10) (Go.Operand.const (Go.Value.int Go.IntKind.i64 1)) 3, some 11))) (by kernel_rfl) (by kernel_rfl) (wrap64_ok _ (by omega)) ?_
  refine wpF_seg 1 (by kernel_rfl) ?_
  refine wpF_end _ (by kernel_rfl) (then_n (hK5 _ _ ?_))
  refine wp_block ?_
  have hM7 := hM0.nilrow byteK 5
  have hM8 : Step V w [] V _ [.row byteK 5 none 0 (([] : List UInt8))] := hM7
  refine wp_base [(4, bs ([])), (5, .int .u64 (n)), (6, .slice none (putM [] n wd (0)).length 0), (7, .int .i64 (((wd : Int) - 1)))] (by kernel_rfl) (fun g9 => ?_)
  refine wp_loopX (fun (x_ : Nat × Int) a_ w_ => ∃ (g : Nat → Value) (V_ : VT), ∃ (Ar6 : Option Addr) (cr6 : Nat), a_ = env 27 [(4, bs ([])), (5, .int .u64 (n)), (6, .slice Ar6 (putM [] n wd (x_.1)).length cr6), (7, .int .i64 (x_.2))] g ∧ Step V w [] V_ w_ [.row byteK 5 Ar6 cr6 (putM [] n wd (x_.1))] ∧ VT.le V V_ ∧ (x_.2 = (wd : Int) - 1 - (x_.1 : Int)) ∧ (x_.1 ≤ wd)) (fun (x_ : Nat × Int) => wd - x_.1) ((0 : Nat), (((wd : Int) - 1) : Int)) ⟨g9, V, _, _, rfl, hM8, VT.le.refl _, by omega, by omega⟩ ?_
  rintro ⟨k, i⟩ a_ w11 ⟨g10, Vl6, Ar_146, cr_146, rfl, hM12, le13, hi14_0, hi14_1⟩ K14 hK14
  refine wp_seq_k (fun K15 hK15 => ?_)
  refine wp_seq_k (fun K16 hK16 => ?_)
  refine wp_reg ?_
  refine wpF_seg 2 (by kernel_rfl) ?_
  refine wpF_end _ (by kernel_rfl) (then_n (hK16 _ _ ?_))
  refine wp_if (decide ((0) ≤ (i))) (by kernel_rfl) (fun h17 => ?_) (fun h17 => ?_)
  · -- Lt
    have p18 : ((0) ≤ (i)) := of_decide_eq_true h17
    refine wp_skip (then_n (hK15 _ _ ?_))
    refine wp_seq_k (fun K19 hK19 => ?_)
    refine wp_block ?_
    refine wp_reg ?_
    refine wpF_seg 3 (by kernel_rfl) ?_
    refine wpF_conv .i64 .i64 .u64 (i) (i) (h := (by kernel_rfl : opAt _ _ _ _ _ = some (Go.Op.convert 3 83 (Go.Operand.tmp 18), some 19))) (by kernel_rfl) (by kernel_rfl) (by kernel_rfl) (wrapu64_ok _ (by omega)) ?_
    refine wpF_mul .u64 (8) (i) (8 * i) (h := (by kernel_rfl : opAt _ _ _ _ _ = some (Go.Op.binOp Go.BinOp.mul 83 (Go.Operand.const (Go.Value.int Go.IntKind.u64 8)) (Go.Operand.tmp 19) 83, some 20))) (by kernel_rfl) (by kernel_rfl) (wrapu64_ok _ (by omega)) ?_
    refine wpF_shr .u64 .u64 (n) (8 * i) (n / 2 ^ (8 * (wd - 1 - k))) (h := (by kernel_rfl : opAt _ _ _ _ _ = some (Go.Op.binOp Go.BinOp.shr 86 (Go.Operand.tmp 17) (Go.Operand.tmp 20) 83, some 21))) (by kernel_rfl) (by kernel_rfl) (by omega) (shr_eq (by omega) (by omega)) ?_
    refine wpF_conv .u64 .u64 .u8 (n / 2 ^ (8 * (wd - 1 - k))) (((byt n (wd - 1 - k)).toNat : Int)) (h := (by kernel_rfl : opAt _ _ _ _ _ = some (Go.Op.convert 86 5 (Go.Operand.tmp 21), some 22))) (by kernel_rfl) (by kernel_rfl) (by kernel_rfl) (byt_wrap (by omega)) ?_
    refine wpF_litR byteK hM12 #[.int .u8 (((byt n (wd - 1 - k)).toNat : Int))] (h := (by kernel_rfl : opAt _ _ _ _ _ = some (Go.Op.buildSlice 28 1 #[(0, (Go.Operand.tmp 22))], some 23))) (e := 5) (by kernel_rfl) ([(byt n (wd - 1 - k))]) Reps.one_byte rfl (by simp [maxL]) (fun A20 c21 V24 w22 le25 hM23 r26 => ?_)
    refine wpF_append (by_ := 1) hM23 0 rfl (h := (by kernel_rfl : opAt _ _ _ _ _ = some (Go.Op.call (Go.Call.mk (Go.Callee.builtin Go.Builtin.append) #[(Go.Operand.tmp 16), (Go.Operand.tmp 23)] #[28, 28]), some 24))) (by kernel_rfl) (by kernel_rfl) (by kernel_rfl) (by kernel_rfl) (by kernel_rfl) (by kernel_rfl) (by kernel_rfl) (Src.rd r26) (by simp only [putM_len, List.length_cons, List.length_nil]; omega) (fun A27 c28 w29 hM30 => ?_)
    have hM31 : Step V w [] V24 _ [.row byteK 5 A27 c28 (putM [] n wd (k) ++ [(byt n (wd - 1 - k))])] := hM30
    refine wpF_seg 1 (by kernel_rfl) ?_
    refine wpF_end _ (by kernel_rfl) (blk_n (then_n (hK19 _ _ ?_)))
    refine wp_reg ?_
    refine wpF_seg 1 (by kernel_rfl) ?_
    refine wpF_sub .i64 (i) (1) (i - 1) (h := (by kernel_rfl : opAt _ _ _ _ _ = some (Go.Op.binOp Go.BinOp.sub 3 (Go.Operand.tmp 14) (Go.Operand.const (Go.Value.int Go.IntKind.i64 1)) 3, some 15))) (by kernel_rfl) (by kernel_rfl) (wrap64_ok _ (by omega)) ?_
    refine wpF_seg 1 (by kernel_rfl) ?_
    refine wpF_base [(4, bs ([])), (5, .int .u64 (n)), (6, .slice A27 (putM [] n wd (k + 1)).length c28), (7, .int .i64 (i - 1))] (by kernel_rfl) (fun g32 => ?_)
    refine wpF_end _ (by kernel_rfl) (then_n (hK14 _ _ (k + 1, i - 1) (by omega) ?_))
    refine ⟨g32, V24, _, _, rfl, hM31, hM31.le, ?_, ?_⟩
    · -- Lt inv 0
      omega
    · -- Lt inv 1
      omega
  · -- Lf
    have p33 : ¬ ((0) ≤ (i)) := of_decide_eq_false h17
    refine wp_exit (then_x (then_x (blk_hit (then_n (hK4 _ _ ?_)))))
    refine wp_seq_k (fun K34 hK34 => ?_)
    refine wp_reg ?_
    refine wpF_seg 1 (by kernel_rfl) ?_
    obtain ⟨V35, le36, hM37, r38⟩ := hM12.settleRow 0 rfl
    have hM39 : Step V w [] V35 _ [] := hM37
    refine wpF_toStr hM39 (A := Ar_146) (c := cr_146) r38 (h := (by kernel_rfl : opAt _ _ _ _ _ = some (Go.Op.convert 28 9 (Go.Operand.tmp 25), some 26))) (e := 5) (by kernel_rfl) (by kernel_rfl) (by kernel_rfl) ?_
    refine wpF_seg 1 (by kernel_rfl) ?_
    refine wpF_end _ (by kernel_rfl) (then_n (hK34 _ _ ?_))
    refine wp_ret ?_
    refine retN [bs (putM [] n wd (k))] (bs (putM [] n wd (k))) Try.results57 (.tmp (by kernel_rfl) (by kernel_rfl) .nil) (by kernel_rfl) (hRet _ _ ⟨_, _, rfl, hM39.clear, ?_⟩)
    -- end Lf
    refine ⟨?_, ?_⟩
    · (obtain rfl : k = wd := by omega); rfl
    · (simp only [putM_len, List.length_nil, maxL]; omega)

set_option maxRecDepth 100000 in
theorem f33 (V : VT) (w : World) (hV : V.inW w) (nl : Bool) (Ank : Option Addr) (cnk : Nat) (nk : List Str) (hnk : Rd strK V Ank cnk nk) (Anv : Option Addr) (cnv : Nat) (nv : List Str) (hnv : Rd strK V Anv cnv nv) (Anc : Option Addr) (cnc : Nat) (nc : List Int) (hnc : Rd (intK .i64) V Anc cnc nc) (hs : stands nl nk nv nc = true) (hz : sizeM nl nk nv ≤ 1024) (hk4 : nk.length ≤ 4096) :
    Calls Try.prog 33 #[.agg #[.bool (nl), .slice Ank (nk).length cnk, .slice Anv (nv).length cnv, .slice Anc (nc).length cnc]] w (RetP V w fun rv V' => rv = bs (pageM nl nk nv nc) ∧ (pageM nl nk nv nc).length = 1024) := by
  have mxnk : nk.length ≤ 140737488355328 := hnk.max
  have mxnv : nv.length ≤ 140737488355328 := hnv.max
  have mxnc : nc.length ≤ 140737488355328 := hnc.max
  refine calls_env (n := 96) Try.func33 (c := _) rfl Try.ntmps33 (by kernel_rfl) (fun R hRet => ?_)
  have hM0 : Step V w [] V w [] := Step.refl (St.nilE hV)
  cases nl with
  | false =>
    have hbs := body_size hs
    have hl := stands_kids hs
    have hk0 := hl.2.2 0 (by omega)
    refine wp_seq_k (fun K1 hK1 => ?_)
    refine wp_reg ?_
    refine wpF_box hM0 #[.bool (false), .slice Ank (nk).length cnk, .slice Anv (nv).length cnv, .slice Anc (nc).length cnc] (h := (by kernel_rfl : opAt _ _ _ _ _ = some (Go.Op.box 25 (Go.Operand.tmp 0), some 1))) (by kernel_rfl) (fun b2 w3 hM4 => ?_)
    obtain ⟨V5, le6, hM7, hc8⟩ := hM4.settle 0 rfl
    have hM9 : Step V w [] V5 _ [] := hM7
    refine wpF_seg 1 (by kernel_rfl) ?_
    refine wpF_end _ (by kernel_rfl) (then_n (hK1 _ _ ?_))
    refine wp_seq_k (fun K10 hK10 => ?_)
    refine wp_reg ?_
    refine wpF_seg 1 (by kernel_rfl) ?_
    refine wpF_end _ (by kernel_rfl) (then_n (hK10 _ _ ?_))
    refine wp_seq_k (fun K11 hK11 => ?_)
    refine wp_seq_k (fun K12 hK12 => ?_)
    refine wp_reg ?_
    refine wpF_seg 1 (by kernel_rfl) ?_
    refine wpF_loadB hM9 #[.bool (false), .slice Ank (nk).length cnk, .slice Anv (nv).length cnv, .slice Anc (nc).length cnc] hc8 (h := (by kernel_rfl : opAt _ _ _ _ _ = some (Go.Op.load 4 (Go.Operand.tmp 5), some 6))) (off := 0) (by kernel_rfl) (.bool (false)) (by kernel_rfl) ?_
    refine wpF_end _ (by kernel_rfl) (then_n (hK12 _ _ ?_))
    refine wp_cf (by kernel_rfl) ?_
    refine wp_skip (then_n (hK11 _ _ ?_))
    refine wp_seq_k (fun K13 hK13 => ?_)
    refine wp_reg ?_
    refine wpF_seg 2 (by kernel_rfl) ?_
    refine wpF_loadB hM9 #[.bool (false), .slice Ank (nk).length cnk, .slice Anv (nv).length cnv, .slice Anc (nc).length cnc] hc8 (h := (by kernel_rfl : opAt _ _ _ _ _ = some (Go.Op.load 22 (Go.Operand.tmp 8), some 9))) (off := 1) (by kernel_rfl) (.slice Ank (nk).length cnk) (by kernel_rfl) ?_
    refine wpF_seg 1 (by kernel_rfl) ?_
    refine wpF_callP hM9 (f := 57) (caps := #[]) (h := (by kernel_rfl : opAt _ _ _ _ _ = some (Go.Op.call (Go.Call.mk (Go.Callee.value (Go.Operand.func 57)) #[(Go.Operand.tmp 10), (Go.Operand.const (Go.Value.int Go.IntKind.i64 2))] #[3, 3]), some 11))) (by kernel_rfl) (by kernel_rfl) (by kernel_rfl) (f57 _ _ hM9.inW ((nk.length : Int)) (2) (by omega) (by omega) (by omega)) (fun v14 V15 w16 le17 hM18 hp19 => ?_)
    obtain ⟨rfl, x20⟩ := hp19
    have x20 : (putM [] ((nk.length : Int)) (2) (2)).length ≤ 140737488355328 := x20
    refine wpF_concat (([73] : Str)) (putM [] ((nk.length : Int)) (2) (2)) (h := (by kernel_rfl : opAt _ _ _ _ _ = some (Go.Op.binOp Go.BinOp.add 9 (Go.Operand.tmp 7) (Go.Operand.tmp 11) 9, some 12))) (by kernel_rfl) (by kernel_rfl) (by first | omega | (simp only [bodyR_eq, putM_len, List.length_append, List.length_cons, List.length_nil, List.length_replicate] at *; omega)) ?_
    refine wpF_seg 1 (by kernel_rfl) ?_
    refine wpF_end _ (by kernel_rfl) (then_n (hK13 _ _ ?_))
    refine wp_seq_k (fun K21 hK21 => ?_)
    refine wp_seq_k (fun K22 hK22 => ?_)
    refine wp_reg ?_
    refine wpF_seg 1 (by kernel_rfl) ?_
    refine wpF_loadB hM18 #[.bool (false), .slice Ank (nk).length cnk, .slice Anv (nv).length cnv, .slice Anc (nc).length cnc] (fun i v hi => le17 _ _ _ (hc8 i v hi)) (h := (by kernel_rfl : opAt _ _ _ _ _ = some (Go.Op.load 4 (Go.Operand.tmp 13), some 14))) (off := 0) (by kernel_rfl) (.bool (false)) (by kernel_rfl) ?_
    refine wpF_seg 1 (by kernel_rfl) ?_
    refine wpF_end _ (by kernel_rfl) (then_n (hK22 _ _ ?_))
    refine wp_ct (by kernel_rfl) ?_
    refine wp_reg ?_
    refine wpF_seg 2 (by kernel_rfl) ?_
    refine wpF_loadB hM18 #[.bool (false), .slice Ank (nk).length cnk, .slice Anv (nv).length cnv, .slice Anc (nc).length cnc] (fun i v hi => le17 _ _ _ (hc8 i v hi)) (h := (by kernel_rfl : opAt _ _ _ _ _ = some (Go.Op.load 23 (Go.Operand.tmp 17), some 18))) (off := 3) (by kernel_rfl) (.slice Anc (nc).length cnc) (by kernel_rfl) ?_
    refine wpF_index (A := Anc) (c := cnc) (hnc.up hM18.le) .i64 (0) (h := (by kernel_rfl : opAt _ _ _ _ _ = some (Go.Op.indexAddr 23 (Go.Operand.tmp 18) (Go.Operand.const (Go.Value.int Go.IntKind.i64 0)), some 19))) (e := 3) (by kernel_rfl) (by kernel_rfl) (by kernel_rfl) (0) (by omega) (by omega) (fun b23 o24 at_b23 => ?_)
    have c25 : V15 b23 o24 = some (.int .i64 (nc.getD (0) 0)) := (At.int at_b23).1
    have l26 : IntKind.i64.min ≤ (nc.getD (0) 0) ∧ (nc.getD (0) 0) ≤ IntKind.i64.max := (At.int at_b23).2
    refine wpF_loadV hM18 c25 (h := (by kernel_rfl : opAt _ _ _ _ _ = some (Go.Op.load 3 (Go.Operand.tmp 19), some 20))) (by kernel_rfl) (by kernel_rfl) ?_
    refine wpF_callP hM18 (f := 57) (caps := #[]) (h := (by kernel_rfl : opAt _ _ _ _ _ = some (Go.Op.call (Go.Call.mk (Go.Callee.value (Go.Operand.func 57)) #[(Go.Operand.tmp 20), (Go.Operand.const (Go.Value.int Go.IntKind.i64 4))] #[3, 3]), some 21))) (by kernel_rfl) (by kernel_rfl) (by kernel_rfl) (f57 _ _ hM18.inW ((nc.getD (0) 0)) (4) (by omega) (by omega) (by omega)) (fun v27 V28 w29 le30 hM31 hp32 => ?_)
    obtain ⟨rfl, x33⟩ := hp32
    have x33 : (putM [] ((nc.getD (0) 0)) (4) (4)).length ≤ 140737488355328 := x33
    refine wpF_concat (([73] : Str) ++ putM [] ((nk.length : Int)) (2) (2)) (putM [] ((nc.getD (0) 0)) (4) (4)) (h := (by kernel_rfl : opAt _ _ _ _ _ = some (Go.Op.binOp Go.BinOp.add 9 (Go.Operand.tmp 16) (Go.Operand.tmp 21) 9, some 22))) (by kernel_rfl) (by kernel_rfl) (by first | omega | (simp only [bodyR_eq, putM_len, List.length_append, List.length_cons, List.length_nil, List.length_replicate] at *; omega)) ?_
    refine wpF_seg 1 (by kernel_rfl) ?_
    refine wpF_end _ (by kernel_rfl) (then_n (hK21 _ _ ?_))
    refine wp_seq_k (fun K34 hK34 => ?_)
    refine wp_seq_k (fun K35 hK35 => ?_)
    refine wp_reg ?_
    refine wpF_seg 1 (by kernel_rfl) ?_
    refine wpF_end _ (by kernel_rfl) (then_n (hK35 _ _ ?_))
    refine wp_block ?_
    refine wp_base [(1, .pointer (some ⟨b2, 0, none⟩)), (2, bs ([])), (3, bs (bodyR false nk nv nc (0))), (4, .int .i64 ((0 : Int)))] (by kernel_rfl) (fun g37 => ?_)
    refine wp_loopX (fun (x_ : Nat) a_ w_ => ∃ (g : Nat → Value) (V_ : VT), a_ = env 96 [(1, .pointer (some ⟨b2, 0, none⟩)), (2, bs ([])), (3, bs (bodyR false nk nv nc (x_))), (4, .int .i64 ((x_ : Int)))] g ∧ Step V w [] V_ w_ [] ∧ VT.le V28 V_ ∧ (x_ ≤ nk.length) ∧ ((bodyR false nk nv nc (x_)).length ≤ 7 + 400 * (x_))) (fun (x_ : Nat) => nk.length - x_) (0) ⟨g37, V28, rfl, hM31, VT.le.refl _, by omega, by (simp only [bodyR, headR, cond_true, cond_false, putM_len, List.length_append, List.length_cons, List.length_nil]; omega)⟩ ?_
    rintro k a_ w39 ⟨g38, Vl36, rfl, hM40, le41, hi42_0, hi42_1⟩ K42 hK42
    refine wp_seq_k (fun K43 hK43 => ?_)
    refine wp_seq_k (fun K44 hK44 => ?_)
    refine wp_reg ?_
    refine wpF_seg 2 (by kernel_rfl) ?_
    refine wpF_loadB hM40 #[.bool (false), .slice Ank (nk).length cnk, .slice Anv (nv).length cnv, .slice Anc (nc).length cnc] (fun i v hi => ((le17.trans le30).trans le41) _ _ _ (hc8 i v hi)) (h := (by kernel_rfl : opAt _ _ _ _ _ = some (Go.Op.load 22 (Go.Operand.tmp 24), some 25))) (off := 1) (by kernel_rfl) (.slice Ank (nk).length cnk) (by kernel_rfl) ?_
    refine wpF_seg 2 (by kernel_rfl) ?_
    refine wpF_end _ (by kernel_rfl) (then_n (hK44 _ _ ?_))
    refine wp_if (decide (((k : Int)) < ((nk.length : Int)))) (by kernel_rfl) (fun h45 => ?_) (fun h45 => ?_)
    · -- FLt
      have p46 : (((k : Int)) < ((nk.length : Int))) := of_decide_eq_true h45
      have hks := key_short hs (k := k) (by omega)
      have hvs := hl.2.2 (k + 1) (by omega)
      refine wp_skip (then_n (hK43 _ _ ?_))
      refine wp_seq_k (fun K47 hK47 => ?_)
      refine wp_block ?_
      refine wp_seq_k (fun K48 hK48 => ?_)
      refine wp_baseG [(1, .pointer (some ⟨b2, 0, none⟩)), (2, bs ([])), (4, .int .i64 ((k : Int))), (23, .int .i64 ((k : Int))), (24, .pointer (some ⟨b2, 1, none⟩)), (25, .slice Ank (nk).length cnk), (26, .int .i64 ((nk.length : Int))), (27, .bool (decide (((k : Int)) < ((nk.length : Int)))))] (by kernel_rfl) (fun g0_64 hg0_64 => ?_)
      obtain ⟨G64, hGm64, hG64_0, hG64_1, hG64_2, hG64_3, hG64_4, hG64_5, hG64_6, hG64_7, hG64_8, hG64_9, hG64_10, hG64_11, hG64_12, hG64_13, hG64_14, hG64_15⟩ : ∃ G : Nat → Value → VT → Prop, (∀ j v V V', VT.le V V' → G j v V → G j v V') ∧ (∀ v_ V_, G 0 v_ V_ ↔ (v_ = bs (bodyR false nk nv nc (k)))) ∧ (∀ v_ V_, G 1 v_ V_ ↔ (v_ = .pointer (some ⟨b2, 1, none⟩))) ∧ (∀ v_ V_, G 2 v_ V_ ↔ (v_ = .slice Ank (nk).length cnk)) ∧ (∀ v_ V_, G 3 v_ V_ ↔ (v_ = .int .i64 ((k : Int)))) ∧ (∀ v_ V_, G 4 v_ V_ ↔ (∃ b49 : Nat, ∃ o50 : Nat, v_ = .pointer (some ⟨b49, o50, none⟩) ∧ (At strK V_ b49 o50 ((nk.getD (k) []))) ∧ ((nk.getD (k) []).length ≤ 140737488355328))) ∧ (∀ v_ V_, G 5 v_ V_ ↔ (v_ = bs ((nk.getD (k) [])) ∧ ((nk.getD (k) []).length ≤ 140737488355328))) ∧ (∀ v_ V_, G 6 v_ V_ ↔ (v_ = .int .i64 ((((nk.getD (k) [])).length : Int)) ∧ ((nk.getD (k) []).length ≤ 140737488355328))) ∧ (∀ v_ V_, G 7 v_ V_ ↔ (v_ = bs (putM [] ((((nk.getD (k) [])).length : Int)) (1) (1)) ∧ ((putM [] ((((nk.getD (k) [])).length : Int)) (1) (1)).length ≤ 140737488355328))) ∧ (∀ v_ V_, G 8 v_ V_ ↔ (v_ = bs (bodyR false nk nv nc (k) ++ putM [] ((((nk.getD (k) [])).length : Int)) (1) (1)))) ∧ (∀ v_ V_, G 9 v_ V_ ↔ (v_ = .pointer (some ⟨b2, 1, none⟩))) ∧ (∀ v_ V_, G 10 v_ V_ ↔ (v_ = .slice Ank (nk).length cnk)) ∧ (∀ v_ V_, G 11 v_ V_ ↔ (v_ = .int .i64 ((k : Int)))) ∧ (∀ v_ V_, G 12 v_ V_ ↔ (∃ b60 : Nat, ∃ o61 : Nat, v_ = .pointer (some ⟨b60, o61, none⟩) ∧ (At strK V_ b60 o61 ((nk.getD (k) []))) ∧ ((nk.getD (k) []).length ≤ 140737488355328))) ∧ (∀ v_ V_, G 13 v_ V_ ↔ (v_ = bs ((nk.getD (k) [])) ∧ ((nk.getD (k) []).length ≤ 140737488355328))) ∧ (∀ v_ V_, G 14 v_ V_ ↔ (v_ = bs (bodyR false nk nv nc (k) ++ putM [] ((((nk.getD (k) [])).length : Int)) (1) (1) ++ (nk.getD (k) [])))) ∧ (∀ v_ V_, G 15 v_ V_ ↔ (v_ = bs (bodyR false nk nv nc (k) ++ putM [] ((((nk.getD (k) [])).length : Int)) (1) (1) ++ (nk.getD (k) [])))) :=
          ⟨mG [mV (bs (bodyR false nk nv nc (k))), mV (.pointer (some ⟨b2, 1, none⟩)), mV (.slice Ank (nk).length cnk), mV (.int .i64 ((k : Int))), mE fun b49 : Nat => mE fun o50 : Nat => mN (mV (.pointer (some ⟨b49, o50, none⟩))) (mN (mA strK b49 o50 ((nk.getD (k) []))) (mP ((nk.getD (k) []).length ≤ 140737488355328))), mN (mV (bs ((nk.getD (k) [])))) (mP ((nk.getD (k) []).length ≤ 140737488355328)), mN (mV (.int .i64 ((((nk.getD (k) [])).length : Int)))) (mP ((nk.getD (k) []).length ≤ 140737488355328)), mN (mV (bs (putM [] ((((nk.getD (k) [])).length : Int)) (1) (1)))) (mP ((putM [] ((((nk.getD (k) [])).length : Int)) (1) (1)).length ≤ 140737488355328)), mV (bs (bodyR false nk nv nc (k) ++ putM [] ((((nk.getD (k) [])).length : Int)) (1) (1))), mV (.pointer (some ⟨b2, 1, none⟩)), mV (.slice Ank (nk).length cnk), mV (.int .i64 ((k : Int))), mE fun b60 : Nat => mE fun o61 : Nat => mN (mV (.pointer (some ⟨b60, o61, none⟩))) (mN (mA strK b60 o61 ((nk.getD (k) []))) (mP ((nk.getD (k) []).length ≤ 140737488355328))), mN (mV (bs ((nk.getD (k) [])))) (mP ((nk.getD (k) []).length ≤ 140737488355328)), mV (bs (bodyR false nk nv nc (k) ++ putM [] ((((nk.getD (k) [])).length : Int)) (1) (1) ++ (nk.getD (k) []))), mV (bs (bodyR false nk nv nc (k) ++ putM [] ((((nk.getD (k) [])).length : Int)) (1) (1) ++ (nk.getD (k) [])))], mG_up _, fun _ _ => Iff.rfl, fun _ _ => Iff.rfl, fun _ _ => Iff.rfl, fun _ _ => Iff.rfl, fun _ _ => Iff.rfl, fun _ _ => Iff.rfl, fun _ _ => Iff.rfl, fun _ _ => Iff.rfl, fun _ _ => Iff.rfl, fun _ _ => Iff.rfl, fun _ _ => Iff.rfl, fun _ _ => Iff.rfl, fun _ _ => Iff.rfl, fun _ _ => Iff.rfl, fun _ _ => Iff.rfl, fun _ _ => Iff.rfl⟩
      refine wp_drawG (L0 := [(1, .pointer (some ⟨b2, 0, none⟩)), (2, bs ([])), (4, .int .i64 ((k : Int))), (23, .int .i64 ((k : Int))), (24, .pointer (some ⟨b2, 1, none⟩)), (25, .slice Ank (nk).length cnk), (26, .int .i64 ((nk.length : Int))), (27, .bool (decide (((k : Int)) < ((nk.length : Int)))))]) 16 (by kernel_rfl) (by kernel_rfl) (by kernel_rfl) (by kernel_rfl) (by kernel_rfl) G64 hGm64 [(3, bs (bodyR false nk nv nc (k)), 15)] (pre_cons ((hg0_64 3).trans (by kernel_rfl)) pre_nil) (by kernel_rfl) [] (by kernel_rfl) (fun (S : Nat → Bool) (g : Nat → Value) => ([] : List Ent)) (fun _ _ _ _ _ => rfl) hM40 ?_ ?_
      · -- the operations
        refine all_snoc (.inr ⟨by decide, fun S64_15 g64_15 V64_15 w64_15 F64_15 cx64_15 hM64_15 => ?_⟩) ?_
        · -- op 15
          obtain hv14_V64_15 : g64_15 44 = bs (bodyR false nk nv nc (k) ++ putM [] ((((nk.getD (k) [])).length : Int)) (1) (1) ++ (nk.getD (k) [])) := (hG64_14 _ _).1 (cx64_15.fact 14 44 (by decide) (cx64_15.dep 14 (by kernel_rfl)) (by kernel_rfl))
          refine wpF_see 44 (bs (bodyR false nk nv nc (k) ++ putM [] ((((nk.getD (k) [])).length : Int)) (1) (1) ++ (nk.getD (k) []))) (Eq.trans (by kernel_rfl) hv14_V64_15) ?_
          refine wpF_seg 1 (by kernel_rfl) ?_
          refine wpF_end _ (by kernel_rfl) (then_n ?_)
          exact one_in (some 3) (by kernel_rfl) (bs (bodyR false nk nv nc (k) ++ putM [] ((((nk.getD (k) [])).length : Int)) (1) (1) ++ (nk.getD (k) []))) _ [(44, bs (bodyR false nk nv nc (k) ++ putM [] ((((nk.getD (k) [])).length : Int)) (1) (1) ++ (nk.getD (k) [])))] (seen_cons (Eq.trans (by kernel_rfl) hv14_V64_15) seen_nil) (by kernel_rfl) (VT.le.refl _) hM64_15 ((hG64_15 _ _).2 rfl)
        refine all_snoc (.inr ⟨by decide, fun S64_14 g64_14 V64_14 w64_14 F64_14 cx64_14 hM64_14 => ?_⟩) ?_
        · -- op 14
          obtain hv8_V64_14 : g64_14 38 = bs (bodyR false nk nv nc (k) ++ putM [] ((((nk.getD (k) [])).length : Int)) (1) (1)) := (hG64_8 _ _).1 (cx64_14.fact 8 38 (by decide) (cx64_14.dep 8 (by kernel_rfl)) (by kernel_rfl))
          obtain ⟨hv13_V64_14, l63⟩ : g64_14 43 = bs ((nk.getD (k) [])) ∧ ((nk.getD (k) []).length ≤ 140737488355328) := (hG64_13 _ _).1 (cx64_14.fact 13 43 (by decide) (cx64_14.dep 13 (by kernel_rfl)) (by kernel_rfl))
          refine wpF_see 38 (bs (bodyR false nk nv nc (k) ++ putM [] ((((nk.getD (k) [])).length : Int)) (1) (1))) (Eq.trans (by kernel_rfl) hv8_V64_14) ?_
          refine wpF_see 43 (bs ((nk.getD (k) []))) (Eq.trans (by kernel_rfl) hv13_V64_14) ?_
          refine wpF_concat (bodyR false nk nv nc (k) ++ putM [] ((((nk.getD (k) [])).length : Int)) (1) (1)) ((nk.getD (k) [])) (h := (by kernel_rfl : opAt _ _ _ _ _ = some (Go.Op.binOp Go.BinOp.add 9 (Go.Operand.tmp 38) (Go.Operand.tmp 43) 9, some 44))) (by kernel_rfl) (by kernel_rfl) (by first | omega | (simp only [bodyR_eq, putM_len, List.length_append, List.length_cons, List.length_nil, List.length_replicate] at *; omega)) ?_
          refine wpF_end _ (by kernel_rfl) (then_n ?_)
          exact one_in (some 44) (by kernel_rfl) (bs (bodyR false nk nv nc (k) ++ putM [] ((((nk.getD (k) [])).length : Int)) (1) (1) ++ (nk.getD (k) []))) _ [(43, bs ((nk.getD (k) []))), (38, bs (bodyR false nk nv nc (k) ++ putM [] ((((nk.getD (k) [])).length : Int)) (1) (1)))] (seen_cons (Eq.trans (by kernel_rfl) hv13_V64_14) (seen_cons (Eq.trans (by kernel_rfl) hv8_V64_14) seen_nil)) (by kernel_rfl) (VT.le.refl _) hM64_14 ((hG64_14 _ _).2 rfl)
        refine all_snoc (.inr ⟨by decide, fun S64_13 g64_13 V64_13 w64_13 F64_13 cx64_13 hM64_13 => ?_⟩) ?_
        · -- op 13
          obtain ⟨b60, o61, hv12_V64_13, at_b60, l63⟩ : ∃ b60 : Nat, ∃ o61 : Nat, g64_13 42 = .pointer (some ⟨b60, o61, none⟩) ∧ (At strK V64_13 b60 o61 ((nk.getD (k) []))) ∧ ((nk.getD (k) []).length ≤ 140737488355328) := (hG64_12 _ _).1 (cx64_13.fact 12 42 (by decide) (cx64_13.dep 12 (by kernel_rfl)) (by kernel_rfl))
          have c913241 : V64_13 b60 o61 = some (bs (nk.getD (k) [])) := (At.str at_b60).1
          have l913242 : (nk.getD (k) []).length ≤ 140737488355328 := (At.str at_b60).2
          refine wpF_see 42 (.pointer (some ⟨b60, o61, none⟩)) (Eq.trans (by kernel_rfl) hv12_V64_13) ?_
          refine wpF_loadV hM64_13 c913241 (h := (by kernel_rfl : opAt _ _ _ _ _ = some (Go.Op.load 9 (Go.Operand.tmp 42), some 43))) (by kernel_rfl) (by kernel_rfl) ?_
          refine wpF_end _ (by kernel_rfl) (then_n ?_)
          exact one_in (some 43) (by kernel_rfl) (bs ((nk.getD (k) []))) _ [(42, .pointer (some ⟨b60, o61, none⟩))] (seen_cons (Eq.trans (by kernel_rfl) hv12_V64_13) seen_nil) (by kernel_rfl) (VT.le.refl _) hM64_13 ((hG64_13 _ _).2 ⟨rfl, l63⟩)
        refine all_snoc (.inr ⟨by decide, fun S64_12 g64_12 V64_12 w64_12 F64_12 cx64_12 hM64_12 => ?_⟩) ?_
        · -- op 12
          obtain hv10_V64_12 : g64_12 40 = .slice Ank (nk).length cnk := (hG64_10 _ _).1 (cx64_12.fact 10 40 (by decide) (cx64_12.dep 10 (by kernel_rfl)) (by kernel_rfl))
          obtain hv11_V64_12 : g64_12 41 = .int .i64 ((k : Int)) := (hG64_11 _ _).1 (cx64_12.fact 11 41 (by decide) (cx64_12.dep 11 (by kernel_rfl)) (by kernel_rfl))
          refine wpF_see 40 (.slice Ank (nk).length cnk) (Eq.trans (by kernel_rfl) hv10_V64_12) ?_
          refine wpF_see 41 (.int .i64 ((k : Int))) (Eq.trans (by kernel_rfl) hv11_V64_12) ?_
          refine wpF_index (A := Ank) (c := cnk) (hnk.up hM64_12.le) .i64 ((k : Int)) (h := (by kernel_rfl : opAt _ _ _ _ _ = some (Go.Op.indexAddr 22 (Go.Operand.tmp 40) (Go.Operand.tmp 41), some 42))) (e := 9) (by kernel_rfl) (by kernel_rfl) (by kernel_rfl) (k) rfl (by omega) (fun b60 o61 at_b60 => ?_)
          have c62 : V64_12 b60 o61 = some (bs (nk.getD (k) [])) := (At.str at_b60).1
          have l63 : (nk.getD (k) []).length ≤ 140737488355328 := (At.str at_b60).2
          refine wpF_end _ (by kernel_rfl) (then_n ?_)
          exact one_in (some 42) (by kernel_rfl) (.pointer (some ⟨b60, o61, none⟩)) _ [(41, .int .i64 ((k : Int))), (40, .slice Ank (nk).length cnk)] (seen_cons (Eq.trans (by kernel_rfl) hv11_V64_12) (seen_cons (Eq.trans (by kernel_rfl) hv10_V64_12) seen_nil)) (by kernel_rfl) (VT.le.refl _) hM64_12 ((hG64_12 _ _).2 ⟨b60, o61, rfl, at_b60, l63⟩)
        refine all_snoc (.inr ⟨by decide, fun S64_11 g64_11 V64_11 w64_11 F64_11 cx64_11 hM64_11 => ?_⟩) ?_
        · -- op 11
          refine wpF_seg 1 (by kernel_rfl) ?_
          refine wpF_end _ (by kernel_rfl) (then_n ?_)
          exact one_in (some 41) (by kernel_rfl) (.int .i64 ((k : Int))) _ [] seen_nil (by kernel_rfl) (VT.le.refl _) hM64_11 ((hG64_11 _ _).2 rfl)
        refine all_snoc (.inr ⟨by decide, fun S64_10 g64_10 V64_10 w64_10 F64_10 cx64_10 hM64_10 => ?_⟩) ?_
        · -- op 10
          obtain hv9_V64_10 : g64_10 39 = .pointer (some ⟨b2, 1, none⟩) := (hG64_9 _ _).1 (cx64_10.fact 9 39 (by decide) (cx64_10.dep 9 (by kernel_rfl)) (by kernel_rfl))
          refine wpF_see 39 (.pointer (some ⟨b2, 1, none⟩)) (Eq.trans (by kernel_rfl) hv9_V64_10) ?_
          refine wpF_loadB hM64_10 #[.bool (false), .slice Ank (nk).length cnk, .slice Anv (nv).length cnv, .slice Anc (nc).length cnc] (fun i v hi => (((le17.trans le30).trans le41).trans cx64_10.le) _ _ _ (hc8 i v hi)) (h := (by kernel_rfl : opAt _ _ _ _ _ = some (Go.Op.load 22 (Go.Operand.tmp 39), some 40))) (off := 1) (by kernel_rfl) (.slice Ank (nk).length cnk) (by kernel_rfl) ?_
          refine wpF_end _ (by kernel_rfl) (then_n ?_)
          exact one_in (some 40) (by kernel_rfl) (.slice Ank (nk).length cnk) _ [(39, .pointer (some ⟨b2, 1, none⟩))] (seen_cons (Eq.trans (by kernel_rfl) hv9_V64_10) seen_nil) (by kernel_rfl) (VT.le.refl _) hM64_10 ((hG64_10 _ _).2 rfl)
        refine all_snoc (.inr ⟨by decide, fun S64_9 g64_9 V64_9 w64_9 F64_9 cx64_9 hM64_9 => ?_⟩) ?_
        · -- op 9
          refine wpF_seg 1 (by kernel_rfl) ?_
          refine wpF_end _ (by kernel_rfl) (then_n ?_)
          exact one_in (some 39) (by kernel_rfl) (.pointer (some ⟨b2, 1, none⟩)) _ [] seen_nil (by kernel_rfl) (VT.le.refl _) hM64_9 ((hG64_9 _ _).2 rfl)
        refine all_snoc (.inr ⟨by decide, fun S64_8 g64_8 V64_8 w64_8 F64_8 cx64_8 hM64_8 => ?_⟩) ?_
        · -- op 8
          obtain hv0_V64_8 : g64_8 30 = bs (bodyR false nk nv nc (k)) := (hG64_0 _ _).1 (cx64_8.fact 0 30 (by decide) (cx64_8.dep 0 (by kernel_rfl)) (by kernel_rfl))
          obtain ⟨hv7_V64_8, x59⟩ : g64_8 37 = bs (putM [] ((((nk.getD (k) [])).length : Int)) (1) (1)) ∧ ((putM [] ((((nk.getD (k) [])).length : Int)) (1) (1)).length ≤ 140737488355328) := (hG64_7 _ _).1 (cx64_8.fact 7 37 (by decide) (cx64_8.dep 7 (by kernel_rfl)) (by kernel_rfl))
          refine wpF_see 30 (bs (bodyR false nk nv nc (k))) (Eq.trans (by kernel_rfl) hv0_V64_8) ?_
          refine wpF_see 37 (bs (putM [] ((((nk.getD (k) [])).length : Int)) (1) (1))) (Eq.trans (by kernel_rfl) hv7_V64_8) ?_
          refine wpF_concat (bodyR false nk nv nc (k)) (putM [] ((((nk.getD (k) [])).length : Int)) (1) (1)) (h := (by kernel_rfl : opAt _ _ _ _ _ = some (Go.Op.binOp Go.BinOp.add 9 (Go.Operand.tmp 30) (Go.Operand.tmp 37) 9, some 38))) (by kernel_rfl) (by kernel_rfl) (by first | omega | (simp only [bodyR_eq, putM_len, List.length_append, List.length_cons, List.length_nil, List.length_replicate] at *; omega)) ?_
          refine wpF_end _ (by kernel_rfl) (then_n ?_)
          exact one_in (some 38) (by kernel_rfl) (bs (bodyR false nk nv nc (k) ++ putM [] ((((nk.getD (k) [])).length : Int)) (1) (1))) _ [(37, bs (putM [] ((((nk.getD (k) [])).length : Int)) (1) (1))), (30, bs (bodyR false nk nv nc (k)))] (seen_cons (Eq.trans (by kernel_rfl) hv7_V64_8) (seen_cons (Eq.trans (by kernel_rfl) hv0_V64_8) seen_nil)) (by kernel_rfl) (VT.le.refl _) hM64_8 ((hG64_8 _ _).2 rfl)
        refine all_snoc (.inr ⟨by decide, fun S64_7 g64_7 V64_7 w64_7 F64_7 cx64_7 hM64_7 => ?_⟩) ?_
        · -- op 7
          obtain ⟨hv6_V64_7, l52⟩ : g64_7 36 = .int .i64 ((((nk.getD (k) [])).length : Int)) ∧ ((nk.getD (k) []).length ≤ 140737488355328) := (hG64_6 _ _).1 (cx64_7.fact 6 36 (by decide) (cx64_7.dep 6 (by kernel_rfl)) (by kernel_rfl))
          refine wpF_see 36 (.int .i64 ((((nk.getD (k) [])).length : Int))) (Eq.trans (by kernel_rfl) hv6_V64_7) ?_
          refine wpF_callP hM64_7 (f := 57) (caps := #[]) (h := (by kernel_rfl : opAt _ _ _ _ _ = some (Go.Op.call (Go.Call.mk (Go.Callee.value (Go.Operand.func 57)) #[(Go.Operand.tmp 36), (Go.Operand.const (Go.Value.int Go.IntKind.i64 1))] #[3, 3]), some 37))) (by kernel_rfl) (by kernel_rfl) (by kernel_rfl) (f57 _ _ hM64_7.inW ((((nk.getD (k) [])).length : Int)) (1) (by omega) (by omega) (by omega)) (fun v53 V54 w55 le56 hM57 hp58 => ?_)
          obtain ⟨rfl, x59⟩ := hp58
          have x59 : (putM [] ((((nk.getD (k) [])).length : Int)) (1) (1)).length ≤ 140737488355328 := x59
          refine wpF_end _ (by kernel_rfl) (then_n ?_)
          exact one_in (some 37) (by kernel_rfl) (bs (putM [] ((((nk.getD (k) [])).length : Int)) (1) (1))) _ [(36, .int .i64 ((((nk.getD (k) [])).length : Int)))] (seen_cons (Eq.trans (by kernel_rfl) hv6_V64_7) seen_nil) (by kernel_rfl) le56 hM57 ((hG64_7 _ _).2 ⟨rfl, x59⟩)
        refine all_snoc (.inr ⟨by decide, fun S64_6 g64_6 V64_6 w64_6 F64_6 cx64_6 hM64_6 => ?_⟩) ?_
        · -- op 6
          obtain ⟨hv5_V64_6, l52⟩ : g64_6 35 = bs ((nk.getD (k) [])) ∧ ((nk.getD (k) []).length ≤ 140737488355328) := (hG64_5 _ _).1 (cx64_6.fact 5 35 (by decide) (cx64_6.dep 5 (by kernel_rfl)) (by kernel_rfl))
          refine wpF_see 35 (bs ((nk.getD (k) []))) (Eq.trans (by kernel_rfl) hv5_V64_6) ?_
          refine wpF_seg 1 (by kernel_rfl) ?_
          refine wpF_end _ (by kernel_rfl) (then_n ?_)
          exact one_in (some 36) (by kernel_rfl) (.int .i64 ((((nk.getD (k) [])).length : Int))) _ [(35, bs ((nk.getD (k) [])))] (seen_cons (Eq.trans (by kernel_rfl) hv5_V64_6) seen_nil) (by kernel_rfl) (VT.le.refl _) hM64_6 ((hG64_6 _ _).2 ⟨rfl, l52⟩)
        refine all_snoc (.inr ⟨by decide, fun S64_5 g64_5 V64_5 w64_5 F64_5 cx64_5 hM64_5 => ?_⟩) ?_
        · -- op 5
          obtain ⟨b49, o50, hv4_V64_5, at_b49, l52⟩ : ∃ b49 : Nat, ∃ o50 : Nat, g64_5 34 = .pointer (some ⟨b49, o50, none⟩) ∧ (At strK V64_5 b49 o50 ((nk.getD (k) []))) ∧ ((nk.getD (k) []).length ≤ 140737488355328) := (hG64_4 _ _).1 (cx64_5.fact 4 34 (by decide) (cx64_5.dep 4 (by kernel_rfl)) (by kernel_rfl))
          have c905081 : V64_5 b49 o50 = some (bs (nk.getD (k) [])) := (At.str at_b49).1
          have l905082 : (nk.getD (k) []).length ≤ 140737488355328 := (At.str at_b49).2
          refine wpF_see 34 (.pointer (some ⟨b49, o50, none⟩)) (Eq.trans (by kernel_rfl) hv4_V64_5) ?_
          refine wpF_loadV hM64_5 c905081 (h := (by kernel_rfl : opAt _ _ _ _ _ = some (Go.Op.load 9 (Go.Operand.tmp 34), some 35))) (by kernel_rfl) (by kernel_rfl) ?_
          refine wpF_end _ (by kernel_rfl) (then_n ?_)
          exact one_in (some 35) (by kernel_rfl) (bs ((nk.getD (k) []))) _ [(34, .pointer (some ⟨b49, o50, none⟩))] (seen_cons (Eq.trans (by kernel_rfl) hv4_V64_5) seen_nil) (by kernel_rfl) (VT.le.refl _) hM64_5 ((hG64_5 _ _).2 ⟨rfl, l52⟩)
        refine all_snoc (.inr ⟨by decide, fun S64_4 g64_4 V64_4 w64_4 F64_4 cx64_4 hM64_4 => ?_⟩) ?_
        · -- op 4
          obtain hv2_V64_4 : g64_4 32 = .slice Ank (nk).length cnk := (hG64_2 _ _).1 (cx64_4.fact 2 32 (by decide) (cx64_4.dep 2 (by kernel_rfl)) (by kernel_rfl))
          obtain hv3_V64_4 : g64_4 33 = .int .i64 ((k : Int)) := (hG64_3 _ _).1 (cx64_4.fact 3 33 (by decide) (cx64_4.dep 3 (by kernel_rfl)) (by kernel_rfl))
          refine wpF_see 32 (.slice Ank (nk).length cnk) (Eq.trans (by kernel_rfl) hv2_V64_4) ?_
          refine wpF_see 33 (.int .i64 ((k : Int))) (Eq.trans (by kernel_rfl) hv3_V64_4) ?_
          refine wpF_index (A := Ank) (c := cnk) (hnk.up hM64_4.le) .i64 ((k : Int)) (h := (by kernel_rfl : opAt _ _ _ _ _ = some (Go.Op.indexAddr 22 (Go.Operand.tmp 32) (Go.Operand.tmp 33), some 34))) (e := 9) (by kernel_rfl) (by kernel_rfl) (by kernel_rfl) (k) rfl (by omega) (fun b49 o50 at_b49 => ?_)
          have c51 : V64_4 b49 o50 = some (bs (nk.getD (k) [])) := (At.str at_b49).1
          have l52 : (nk.getD (k) []).length ≤ 140737488355328 := (At.str at_b49).2
          refine wpF_end _ (by kernel_rfl) (then_n ?_)
          exact one_in (some 34) (by kernel_rfl) (.pointer (some ⟨b49, o50, none⟩)) _ [(33, .int .i64 ((k : Int))), (32, .slice Ank (nk).length cnk)] (seen_cons (Eq.trans (by kernel_rfl) hv3_V64_4) (seen_cons (Eq.trans (by kernel_rfl) hv2_V64_4) seen_nil)) (by kernel_rfl) (VT.le.refl _) hM64_4 ((hG64_4 _ _).2 ⟨b49, o50, rfl, at_b49, l52⟩)
        refine all_snoc (.inr ⟨by decide, fun S64_3 g64_3 V64_3 w64_3 F64_3 cx64_3 hM64_3 => ?_⟩) ?_
        · -- op 3
          refine wpF_seg 1 (by kernel_rfl) ?_
          refine wpF_end _ (by kernel_rfl) (then_n ?_)
          exact one_in (some 33) (by kernel_rfl) (.int .i64 ((k : Int))) _ [] seen_nil (by kernel_rfl) (VT.le.refl _) hM64_3 ((hG64_3 _ _).2 rfl)
        refine all_snoc (.inr ⟨by decide, fun S64_2 g64_2 V64_2 w64_2 F64_2 cx64_2 hM64_2 => ?_⟩) ?_
        · -- op 2
          obtain hv1_V64_2 : g64_2 31 = .pointer (some ⟨b2, 1, none⟩) := (hG64_1 _ _).1 (cx64_2.fact 1 31 (by decide) (cx64_2.dep 1 (by kernel_rfl)) (by kernel_rfl))
          refine wpF_see 31 (.pointer (some ⟨b2, 1, none⟩)) (Eq.trans (by kernel_rfl) hv1_V64_2) ?_
          refine wpF_loadB hM64_2 #[.bool (false), .slice Ank (nk).length cnk, .slice Anv (nv).length cnv, .slice Anc (nc).length cnc] (fun i v hi => (((le17.trans le30).trans le41).trans cx64_2.le) _ _ _ (hc8 i v hi)) (h := (by kernel_rfl : opAt _ _ _ _ _ = some (Go.Op.load 22 (Go.Operand.tmp 31), some 32))) (off := 1) (by kernel_rfl) (.slice Ank (nk).length cnk) (by kernel_rfl) ?_
          refine wpF_end _ (by kernel_rfl) (then_n ?_)
          exact one_in (some 32) (by kernel_rfl) (.slice Ank (nk).length cnk) _ [(31, .pointer (some ⟨b2, 1, none⟩))] (seen_cons (Eq.trans (by kernel_rfl) hv1_V64_2) seen_nil) (by kernel_rfl) (VT.le.refl _) hM64_2 ((hG64_2 _ _).2 rfl)
        refine all_snoc (.inr ⟨by decide, fun S64_1 g64_1 V64_1 w64_1 F64_1 cx64_1 hM64_1 => ?_⟩) ?_
        · -- op 1
          refine wpF_seg 1 (by kernel_rfl) ?_
          refine wpF_end _ (by kernel_rfl) (then_n ?_)
          exact one_in (some 31) (by kernel_rfl) (.pointer (some ⟨b2, 1, none⟩)) _ [] seen_nil (by kernel_rfl) (VT.le.refl _) hM64_1 ((hG64_1 _ _).2 rfl)
        refine all_snoc (.inr ⟨by decide, fun S64_0 g64_0 V64_0 w64_0 F64_0 cx64_0 hM64_0 => ?_⟩) ?_
        · -- op 0
          have hp3_64_0 : g64_0 3 = bs (bodyR false nk nv nc (k)) := cx64_0.pre 3 _ 15 (List.Mem.head _) (cx64_0.notyet (c := 15) (fun hq_ => (cx64_0.cl 15 0 (by decide) hq_ (by kernel_rfl))))
          refine wpF_see 3 (bs (bodyR false nk nv nc (k))) (Eq.trans (by kernel_rfl) hp3_64_0) ?_
          refine wpF_seg 1 (by kernel_rfl) ?_
          refine wpF_end _ (by kernel_rfl) (then_n ?_)
          exact one_in (some 30) (by kernel_rfl) (bs (bodyR false nk nv nc (k))) _ [(3, bs (bodyR false nk nv nc (k)))] (seen_cons (Eq.trans (by kernel_rfl) hp3_64_0) seen_nil) (by kernel_rfl) (VT.le.refl _) hM64_0 ((hG64_0 _ _).2 rfl)
        exact all_none
      · -- behind it
        intro ge64 Ve64 we64 hMe64 hle64 hf64
        refine wpF_stop (P := Try.prog) (ops := #[]) (i := 0) _ rfl ?_
        obtain hv15_Ve64 : ge64 3 = bs (bodyR false nk nv nc (k) ++ putM [] ((((nk.getD (k) [])).length : Int)) (1) (1) ++ (nk.getD (k) [])) := (hG64_15 _ _).1 (hf64 15 3 (by decide) (by kernel_rfl))
        obtain hv0_Ve64 : ge64 30 = bs (bodyR false nk nv nc (k)) := (hG64_0 _ _).1 (hf64 0 30 (by decide) (by kernel_rfl))
        obtain hv1_Ve64 : ge64 31 = .pointer (some ⟨b2, 1, none⟩) := (hG64_1 _ _).1 (hf64 1 31 (by decide) (by kernel_rfl))
        obtain hv2_Ve64 : ge64 32 = .slice Ank (nk).length cnk := (hG64_2 _ _).1 (hf64 2 32 (by decide) (by kernel_rfl))
        obtain hv3_Ve64 : ge64 33 = .int .i64 ((k : Int)) := (hG64_3 _ _).1 (hf64 3 33 (by decide) (by kernel_rfl))
        obtain ⟨b49, o50, hv4_Ve64, at_b49, l52⟩ : ∃ b49 : Nat, ∃ o50 : Nat, ge64 34 = .pointer (some ⟨b49, o50, none⟩) ∧ (At strK Ve64 b49 o50 ((nk.getD (k) []))) ∧ ((nk.getD (k) []).length ≤ 140737488355328) := (hG64_4 _ _).1 (hf64 4 34 (by decide) (by kernel_rfl))
        have c66 : Ve64 b49 o50 = some (bs (nk.getD (k) [])) := (At.str at_b49).1
        have l67 : (nk.getD (k) []).length ≤ 140737488355328 := (At.str at_b49).2
        obtain ⟨hv5_Ve64, l52⟩ : ge64 35 = bs ((nk.getD (k) [])) ∧ ((nk.getD (k) []).length ≤ 140737488355328) := (hG64_5 _ _).1 (hf64 5 35 (by decide) (by kernel_rfl))
        obtain ⟨hv6_Ve64, l52⟩ : ge64 36 = .int .i64 ((((nk.getD (k) [])).length : Int)) ∧ ((nk.getD (k) []).length ≤ 140737488355328) := (hG64_6 _ _).1 (hf64 6 36 (by decide) (by kernel_rfl))
        obtain ⟨hv7_Ve64, x59⟩ : ge64 37 = bs (putM [] ((((nk.getD (k) [])).length : Int)) (1) (1)) ∧ ((putM [] ((((nk.getD (k) [])).length : Int)) (1) (1)).length ≤ 140737488355328) := (hG64_7 _ _).1 (hf64 7 37 (by decide) (by kernel_rfl))
        obtain hv8_Ve64 : ge64 38 = bs (bodyR false nk nv nc (k) ++ putM [] ((((nk.getD (k) [])).length : Int)) (1) (1)) := (hG64_8 _ _).1 (hf64 8 38 (by decide) (by kernel_rfl))
        obtain hv9_Ve64 : ge64 39 = .pointer (some ⟨b2, 1, none⟩) := (hG64_9 _ _).1 (hf64 9 39 (by decide) (by kernel_rfl))
        obtain hv10_Ve64 : ge64 40 = .slice Ank (nk).length cnk := (hG64_10 _ _).1 (hf64 10 40 (by decide) (by kernel_rfl))
        obtain hv11_Ve64 : ge64 41 = .int .i64 ((k : Int)) := (hG64_11 _ _).1 (hf64 11 41 (by decide) (by kernel_rfl))
        obtain ⟨b60, o61, hv12_Ve64, at_b60, l63⟩ : ∃ b60 : Nat, ∃ o61 : Nat, ge64 42 = .pointer (some ⟨b60, o61, none⟩) ∧ (At strK Ve64 b60 o61 ((nk.getD (k) []))) ∧ ((nk.getD (k) []).length ≤ 140737488355328) := (hG64_12 _ _).1 (hf64 12 42 (by decide) (by kernel_rfl))
        have c68 : Ve64 b60 o61 = some (bs (nk.getD (k) [])) := (At.str at_b60).1
        have l69 : (nk.getD (k) []).length ≤ 140737488355328 := (At.str at_b60).2
        obtain ⟨hv13_Ve64, l63⟩ : ge64 43 = bs ((nk.getD (k) [])) ∧ ((nk.getD (k) []).length ≤ 140737488355328) := (hG64_13 _ _).1 (hf64 13 43 (by decide) (by kernel_rfl))
        obtain hv14_Ve64 : ge64 44 = bs (bodyR false nk nv nc (k) ++ putM [] ((((nk.getD (k) [])).length : Int)) (1) (1) ++ (nk.getD (k) [])) := (hG64_14 _ _).1 (hf64 14 44 (by decide) (by kernel_rfl))
        refine wpF_see 3 (bs (bodyR false nk nv nc (k) ++ putM [] ((((nk.getD (k) [])).length : Int)) (1) (1) ++ (nk.getD (k) []))) (Eq.trans (by kernel_rfl) hv15_Ve64) ?_
        refine wpF_see 30 (bs (bodyR false nk nv nc (k))) (Eq.trans (by kernel_rfl) hv0_Ve64) ?_
        refine wpF_see 31 (.pointer (some ⟨b2, 1, none⟩)) (Eq.trans (by kernel_rfl) hv1_Ve64) ?_
        refine wpF_see 32 (.slice Ank (nk).length cnk) (Eq.trans (by kernel_rfl) hv2_Ve64) ?_
        refine wpF_see 33 (.int .i64 ((k : Int))) (Eq.trans (by kernel_rfl) hv3_Ve64) ?_
        refine wpF_see 34 (.pointer (some ⟨b49, o50, none⟩)) (Eq.trans (by kernel_rfl) hv4_Ve64) ?_
        refine wpF_see 35 (bs ((nk.getD (k) []))) (Eq.trans (by kernel_rfl) hv5_Ve64) ?_
        refine wpF_see 36 (.int .i64 ((((nk.getD (k) [])).length : Int))) (Eq.trans (by kernel_rfl) hv6_Ve64) ?_
        refine wpF_see 37 (bs (putM [] ((((nk.getD (k) [])).length : Int)) (1) (1))) (Eq.trans (by kernel_rfl) hv7_Ve64) ?_
        refine wpF_see 38 (bs (bodyR false nk nv nc (k) ++ putM [] ((((nk.getD (k) [])).length : Int)) (1) (1))) (Eq.trans (by kernel_rfl) hv8_Ve64) ?_
        refine wpF_see 39 (.pointer (some ⟨b2, 1, none⟩)) (Eq.trans (by kernel_rfl) hv9_Ve64) ?_
        refine wpF_see 40 (.slice Ank (nk).length cnk) (Eq.trans (by kernel_rfl) hv10_Ve64) ?_
        refine wpF_see 41 (.int .i64 ((k : Int))) (Eq.trans (by kernel_rfl) hv11_Ve64) ?_
        refine wpF_see 42 (.pointer (some ⟨b60, o61, none⟩)) (Eq.trans (by kernel_rfl) hv12_Ve64) ?_
        refine wpF_see 43 (bs ((nk.getD (k) []))) (Eq.trans (by kernel_rfl) hv13_Ve64) ?_
        refine wpF_see 44 (bs (bodyR false nk nv nc (k) ++ putM [] ((((nk.getD (k) [])).length : Int)) (1) (1) ++ (nk.getD (k) []))) (Eq.trans (by kernel_rfl) hv14_Ve64) ?_
        refine wpF_end _ (by kernel_rfl) (then_n (hK48 _ _ ?_))
        refine wp_seq_k (fun K71 hK71 => ?_)
        refine wp_seq_k (fun K72 hK72 => ?_)
        refine wp_reg ?_
        refine wpF_seg 1 (by kernel_rfl) ?_
        refine wpF_loadB hMe64 #[.bool (false), .slice Ank (nk).length cnk, .slice Anv (nv).length cnv, .slice Anc (nc).length cnc] (fun i v hi => (((le17.trans le30).trans le41).trans hle64) _ _ _ (hc8 i v hi)) (h := (by kernel_rfl : opAt _ _ _ _ _ = some (Go.Op.load 4 (Go.Operand.tmp 45), some 46))) (off := 0) (by kernel_rfl) (.bool (false)) (by kernel_rfl) ?_
        refine wpF_seg 7 (by kernel_rfl) ?_
        refine wpF_end _ (by kernel_rfl) (then_n (hK72 _ _ ?_))
        refine wp_cf (by kernel_rfl) ?_
        refine wp_skip (then_n (hK71 _ _ ?_))
        refine wp_seq_k (fun K73 hK73 => ?_)
        refine wp_reg ?_
        refine wpF_seg 1 (by kernel_rfl) ?_
        refine wpF_loadB hMe64 #[.bool (false), .slice Ank (nk).length cnk, .slice Anv (nv).length cnv, .slice Anc (nc).length cnc] (fun i v hi => (((le17.trans le30).trans le41).trans hle64) _ _ _ (hc8 i v hi)) (h := (by kernel_rfl : opAt _ _ _ _ _ = some (Go.Op.load 4 (Go.Operand.tmp 69), some 70))) (off := 0) (by kernel_rfl) (.bool (false)) (by kernel_rfl) ?_
        refine wpF_seg 3 (by kernel_rfl) ?_
        refine wpF_add .i64 ((k : Int)) (1) ((k : Int) + 1) (h := (by kernel_rfl : opAt _ _ _ _ _ = some (Go.Op.binOp Go.BinOp.add 3 (Go.Operand.tmp 73) (Go.Operand.const (Go.Value.int Go.IntKind.i64 1)) 3, some 74))) (by kernel_rfl) (by kernel_rfl) (wrap64_ok _ (by omega)) ?_
        refine wpF_seg 1 (by kernel_rfl) ?_
        refine wpF_loadB hMe64 #[.bool (false), .slice Ank (nk).length cnk, .slice Anv (nv).length cnv, .slice Anc (nc).length cnc] (fun i v hi => (((le17.trans le30).trans le41).trans hle64) _ _ _ (hc8 i v hi)) (h := (by kernel_rfl : opAt _ _ _ _ _ = some (Go.Op.load 23 (Go.Operand.tmp 75), some 76))) (off := 3) (by kernel_rfl) (.slice Anc (nc).length cnc) (by kernel_rfl) ?_
        refine wpF_seg 3 (by kernel_rfl) ?_
        refine wpF_end _ (by kernel_rfl) (then_n (hK73 _ _ ?_))
        refine wp_if (decide (((k : Int) + 1) < ((nc.length : Int)))) (by kernel_rfl) (fun h74 => ?_) (fun h74 => ?_)
        · -- FLtt
          have p75 : (((k : Int) + 1) < ((nc.length : Int))) := of_decide_eq_true h74
          refine wp_reg ?_
          refine wpF_seg 2 (by kernel_rfl) ?_
          refine wpF_loadB hMe64 #[.bool (false), .slice Ank (nk).length cnk, .slice Anv (nv).length cnv, .slice Anc (nc).length cnc] (fun i v hi => (((le17.trans le30).trans le41).trans hle64) _ _ _ (hc8 i v hi)) (h := (by kernel_rfl : opAt _ _ _ _ _ = some (Go.Op.load 23 (Go.Operand.tmp 81), some 82))) (off := 3) (by kernel_rfl) (.slice Anc (nc).length cnc) (by kernel_rfl) ?_
          refine wpF_seg 1 (by kernel_rfl) ?_
          refine wpF_add .i64 ((k : Int)) (1) ((k : Int) + 1) (h := (by kernel_rfl : opAt _ _ _ _ _ = some (Go.Op.binOp Go.BinOp.add 3 (Go.Operand.tmp 83) (Go.Operand.const (Go.Value.int Go.IntKind.i64 1)) 3, some 84))) (by kernel_rfl) (by kernel_rfl) (wrap64_ok _ (by omega)) ?_
          refine wpF_index (A := Anc) (c := cnc) (hnc.up hMe64.le) .i64 ((k : Int) + 1) (h := (by kernel_rfl : opAt _ _ _ _ _ = some (Go.Op.indexAddr 23 (Go.Operand.tmp 82) (Go.Operand.tmp 84), some 85))) (e := 3) (by kernel_rfl) (by kernel_rfl) (by kernel_rfl) (k + 1) (by omega) (by omega) (fun b76 o77 at_b76 => ?_)
          have c78 : Ve64 b76 o77 = some (.int .i64 (nc.getD (k + 1) 0)) := (At.int at_b76).1
          have l79 : IntKind.i64.min ≤ (nc.getD (k + 1) 0) ∧ (nc.getD (k + 1) 0) ≤ IntKind.i64.max := (At.int at_b76).2
          refine wpF_loadV hMe64 c78 (h := (by kernel_rfl : opAt _ _ _ _ _ = some (Go.Op.load 3 (Go.Operand.tmp 85), some 86))) (by kernel_rfl) (by kernel_rfl) ?_
          refine wpF_callP hMe64 (f := 57) (caps := #[]) (h := (by kernel_rfl : opAt _ _ _ _ _ = some (Go.Op.call (Go.Call.mk (Go.Callee.value (Go.Operand.func 57)) #[(Go.Operand.tmp 86), (Go.Operand.const (Go.Value.int Go.IntKind.i64 4))] #[3, 3]), some 87))) (by kernel_rfl) (by kernel_rfl) (by kernel_rfl) (f57 _ _ hMe64.inW ((nc.getD (k + 1) 0)) (4) (by omega) (by omega) (by omega)) (fun v80 V81 w82 le83 hM84 hp85 => ?_)
          obtain ⟨rfl, x86⟩ := hp85
          have x86 : (putM [] ((nc.getD (k + 1) 0)) (4) (4)).length ≤ 140737488355328 := x86
          refine wpF_concat (bodyR false nk nv nc (k) ++ putM [] ((((nk.getD (k) [])).length : Int)) (1) (1) ++ (nk.getD (k) [])) (putM [] ((nc.getD (k + 1) 0)) (4) (4)) (h := (by kernel_rfl : opAt _ _ _ _ _ = some (Go.Op.binOp Go.BinOp.add 9 (Go.Operand.tmp 80) (Go.Operand.tmp 87) 9, some 88))) (by kernel_rfl) (by kernel_rfl) (by first | omega | (simp only [bodyR_eq, putM_len, List.length_append, List.length_cons, List.length_nil, List.length_replicate] at *; omega)) ?_
          refine wpF_seg 1 (by kernel_rfl) ?_
          refine wpF_end _ (by kernel_rfl) (blk_n (then_n (hK47 _ _ ?_)))
          refine wp_reg ?_
          refine wpF_seg 1 (by kernel_rfl) ?_
          refine wpF_add .i64 ((k : Int)) (1) ((k : Int) + 1) (h := (by kernel_rfl : opAt _ _ _ _ _ = some (Go.Op.binOp Go.BinOp.add 3 (Go.Operand.tmp 28) (Go.Operand.const (Go.Value.int Go.IntKind.i64 1)) 3, some 29))) (by kernel_rfl) (by kernel_rfl) (wrap64_ok _ (by omega)) ?_
          refine wpF_seg 1 (by kernel_rfl) ?_
          refine wpF_base [(1, .pointer (some ⟨b2, 0, none⟩)), (2, bs ([])), (3, bs (bodyR false nk nv nc (k + 1))), (4, .int .i64 ((k + 1 : Int)))] (by kernel_rfl) (fun g87 => ?_)
          refine wpF_end _ (by kernel_rfl) (then_n (hK42 _ _ (k + 1) (by omega) ?_))
          refine ⟨g87, V81, rfl, hM84, ((le41.trans hle64).trans le83), ?_, ?_⟩
          · -- FLtt inv 0
            omega
          · -- FLtt inv 1
            (simp only [bodyR, cond_true, cond_false, putM_len, List.length_append, List.length_nil]; omega)
        · -- FLtf
          have p88 : ¬ (((k : Int) + 1) < ((nc.length : Int))) := of_decide_eq_false h74
          exfalso; omega
    · -- FLf
      have p89 : ¬ (((k : Int)) < ((nk.length : Int))) := of_decide_eq_false h45
      refine wp_exit (then_x (then_x (blk_hit (then_n (hK34 _ _ ?_)))))
      obtain rfl : k = nk.length := by omega
      refine wp_seq_k (fun K90 hK90 => ?_)
      refine wp_reg ?_
      refine wpF_seg 3 (by kernel_rfl) ?_
      refine wpF_sub .i64 (1024) (((bodyR false nk nv nc ((nk.length))).length : Int)) (((1024 - (bodyR false nk nv nc nk.length).length : Nat) : Int)) (h := (by kernel_rfl : opAt _ _ _ _ _ = some (Go.Op.binOp Go.BinOp.sub 3 (Go.Operand.const (Go.Value.int Go.IntKind.i64 1024)) (Go.Operand.tmp 91) 3, some 92))) (by kernel_rfl) (by kernel_rfl) (by rw [wrap64_ok _ (by simp only [bodyR_eq]; omega)]; simp only [bodyR_eq]; omega) ?_
      refine wpF_mkSlice (K := byteK) (e := 5) (by_ := 1) (m := (1024 - (bodyR false nk nv nc nk.length).length)) (z := .int .u8 0) hM40 (h := (by kernel_rfl : opAt _ _ _ _ _ = some (Go.Op.makeSlice 28 (Go.Operand.tmp 92) (Go.Operand.tmp 92), some 93))) (by kernel_rfl) (by kernel_rfl) (by kernel_rfl) rfl (by kernel_rfl) (by kernel_rfl) rfl (by kernel_rfl) 0 (fun _ => Reps.one_byte) (by omega) (fun A91 c92 V93 w94 le95 hM96 r97 => ?_)
      refine wpF_toStr hM96 (A := A91) (c := c92) r97 (h := (by kernel_rfl : opAt _ _ _ _ _ = some (Go.Op.convert 28 9 (Go.Operand.tmp 93), some 94))) (e := 5) (by kernel_rfl) (by kernel_rfl) (by kernel_rfl) ?_
      refine wpF_concat (bodyR false nk nv nc ((nk.length))) (List.replicate ((1024 - (bodyR false nk nv nc nk.length).length)) 0) (h := (by kernel_rfl : opAt _ _ _ _ _ = some (Go.Op.binOp Go.BinOp.add 9 (Go.Operand.tmp 89) (Go.Operand.tmp 94) 9, some 95))) (by kernel_rfl) (by kernel_rfl) (by first | omega | (simp only [bodyR_eq, putM_len, List.length_append, List.length_cons, List.length_nil, List.length_replicate] at *; omega)) ?_
      refine wpF_seg 1 (by kernel_rfl) ?_
      refine wpF_end _ (by kernel_rfl) (then_n (hK90 _ _ ?_))
      refine wp_ret ?_
      refine retN [bs (bodyR false nk nv nc ((nk.length)) ++ List.replicate ((1024 - (bodyR false nk nv nc nk.length).length)) 0)] (bs (bodyR false nk nv nc ((nk.length)) ++ List.replicate ((1024 - (bodyR false nk nv nc nk.length).length)) 0)) Try.results33 (.tmp (by kernel_rfl) (by kernel_rfl) .nil) (by kernel_rfl) (hRet _ _ ⟨_, _, rfl, hM96.clear, ?_⟩)
      -- end FLf
      refine ⟨?_, ?_⟩
      · (simp only [pageM, bodyR_eq])
      · (simp only [pageM, List.length_append, List.length_replicate]; omega)
  | true =>
    have hbs := body_size hs
    have hl := stands_leaf hs
    refine wp_seq_k (fun K98 hK98 => ?_)
    refine wp_reg ?_
    refine wpF_box hM0 #[.bool (true), .slice Ank (nk).length cnk, .slice Anv (nv).length cnv, .slice Anc (nc).length cnc] (h := (by kernel_rfl : opAt _ _ _ _ _ = some (Go.Op.box 25 (Go.Operand.tmp 0), some 1))) (by kernel_rfl) (fun b99 w100 hM101 => ?_)
    obtain ⟨V102, le103, hM104, hc105⟩ := hM101.settle 0 rfl
    have hM106 : Step V w [] V102 _ [] := hM104
    refine wpF_seg 1 (by kernel_rfl) ?_
    refine wpF_end _ (by kernel_rfl) (then_n (hK98 _ _ ?_))
    refine wp_seq_k (fun K107 hK107 => ?_)
    refine wp_reg ?_
    refine wpF_seg 1 (by kernel_rfl) ?_
    refine wpF_end _ (by kernel_rfl) (then_n (hK107 _ _ ?_))
    refine wp_seq_k (fun K108 hK108 => ?_)
    refine wp_seq_k (fun K109 hK109 => ?_)
    refine wp_reg ?_
    refine wpF_seg 1 (by kernel_rfl) ?_
    refine wpF_loadB hM106 #[.bool (true), .slice Ank (nk).length cnk, .slice Anv (nv).length cnv, .slice Anc (nc).length cnc] hc105 (h := (by kernel_rfl : opAt _ _ _ _ _ = some (Go.Op.load 4 (Go.Operand.tmp 5), some 6))) (off := 0) (by kernel_rfl) (.bool (true)) (by kernel_rfl) ?_
    refine wpF_end _ (by kernel_rfl) (then_n (hK109 _ _ ?_))
    refine wp_ct (by kernel_rfl) ?_
    refine wp_reg ?_
    refine wpF_seg 1 (by kernel_rfl) ?_
    refine wpF_end _ (by kernel_rfl) (then_n (hK108 _ _ ?_))
    refine wp_seq_k (fun K110 hK110 => ?_)
    refine wp_reg ?_
    refine wpF_seg 2 (by kernel_rfl) ?_
    refine wpF_loadB hM106 #[.bool (true), .slice Ank (nk).length cnk, .slice Anv (nv).length cnv, .slice Anc (nc).length cnc] hc105 (h := (by kernel_rfl : opAt _ _ _ _ _ = some (Go.Op.load 22 (Go.Operand.tmp 8), some 9))) (off := 1) (by kernel_rfl) (.slice Ank (nk).length cnk) (by kernel_rfl) ?_
    refine wpF_seg 1 (by kernel_rfl) ?_
    refine wpF_callP hM106 (f := 57) (caps := #[]) (h := (by kernel_rfl : opAt _ _ _ _ _ = some (Go.Op.call (Go.Call.mk (Go.Callee.value (Go.Operand.func 57)) #[(Go.Operand.tmp 10), (Go.Operand.const (Go.Value.int Go.IntKind.i64 2))] #[3, 3]), some 11))) (by kernel_rfl) (by kernel_rfl) (by kernel_rfl) (f57 _ _ hM106.inW ((nk.length : Int)) (2) (by omega) (by omega) (by omega)) (fun v111 V112 w113 le114 hM115 hp116 => ?_)
    obtain ⟨rfl, x117⟩ := hp116
    have x117 : (putM [] ((nk.length : Int)) (2) (2)).length ≤ 140737488355328 := x117
    refine wpF_concat (([76] : Str)) (putM [] ((nk.length : Int)) (2) (2)) (h := (by kernel_rfl : opAt _ _ _ _ _ = some (Go.Op.binOp Go.BinOp.add 9 (Go.Operand.tmp 7) (Go.Operand.tmp 11) 9, some 12))) (by kernel_rfl) (by kernel_rfl) (by first | omega | (simp only [bodyR_eq, putM_len, List.length_append, List.length_cons, List.length_nil, List.length_replicate] at *; omega)) ?_
    refine wpF_seg 1 (by kernel_rfl) ?_
    refine wpF_end _ (by kernel_rfl) (then_n (hK110 _ _ ?_))
    refine wp_seq_k (fun K118 hK118 => ?_)
    refine wp_seq_k (fun K119 hK119 => ?_)
    refine wp_reg ?_
    refine wpF_seg 1 (by kernel_rfl) ?_
    refine wpF_loadB hM115 #[.bool (true), .slice Ank (nk).length cnk, .slice Anv (nv).length cnv, .slice Anc (nc).length cnc] (fun i v hi => le114 _ _ _ (hc105 i v hi)) (h := (by kernel_rfl : opAt _ _ _ _ _ = some (Go.Op.load 4 (Go.Operand.tmp 13), some 14))) (off := 0) (by kernel_rfl) (.bool (true)) (by kernel_rfl) ?_
    refine wpF_seg 1 (by kernel_rfl) ?_
    refine wpF_end _ (by kernel_rfl) (then_n (hK119 _ _ ?_))
    refine wp_cf (by kernel_rfl) ?_
    refine wp_skip (then_n (hK118 _ _ ?_))
    refine wp_seq_k (fun K120 hK120 => ?_)
    refine wp_seq_k (fun K121 hK121 => ?_)
    refine wp_reg ?_
    refine wpF_seg 1 (by kernel_rfl) ?_
    refine wpF_end _ (by kernel_rfl) (then_n (hK121 _ _ ?_))
    refine wp_block ?_
    refine wp_base [(1, .pointer (some ⟨b99, 0, none⟩)), (2, bs ([])), (3, bs (bodyR true nk nv nc (0))), (4, .int .i64 ((0 : Int)))] (by kernel_rfl) (fun g123 => ?_)
    refine wp_loopX (fun (x_ : Nat) a_ w_ => ∃ (g : Nat → Value) (V_ : VT), a_ = env 96 [(1, .pointer (some ⟨b99, 0, none⟩)), (2, bs ([])), (3, bs (bodyR true nk nv nc (x_))), (4, .int .i64 ((x_ : Int)))] g ∧ Step V w [] V_ w_ [] ∧ VT.le V112 V_ ∧ (x_ ≤ nk.length) ∧ ((bodyR true nk nv nc (x_)).length ≤ 7 + 400 * (x_))) (fun (x_ : Nat) => nk.length - x_) (0) ⟨g123, V112, rfl, hM115, VT.le.refl _, by omega, by (simp only [bodyR, headR, cond_true, cond_false, putM_len, List.length_append, List.length_cons, List.length_nil]; omega)⟩ ?_
    rintro k a_ w125 ⟨g124, Vl122, rfl, hM126, le127, hi128_0, hi128_1⟩ K128 hK128
    refine wp_seq_k (fun K129 hK129 => ?_)
    refine wp_seq_k (fun K130 hK130 => ?_)
    refine wp_reg ?_
    refine wpF_seg 2 (by kernel_rfl) ?_
    refine wpF_loadB hM126 #[.bool (true), .slice Ank (nk).length cnk, .slice Anv (nv).length cnv, .slice Anc (nc).length cnc] (fun i v hi => (le114.trans le127) _ _ _ (hc105 i v hi)) (h := (by kernel_rfl : opAt _ _ _ _ _ = some (Go.Op.load 22 (Go.Operand.tmp 24), some 25))) (off := 1) (by kernel_rfl) (.slice Ank (nk).length cnk) (by kernel_rfl) ?_
    refine wpF_seg 2 (by kernel_rfl) ?_
    refine wpF_end _ (by kernel_rfl) (then_n (hK130 _ _ ?_))
    refine wp_if (decide (((k : Int)) < ((nk.length : Int)))) (by kernel_rfl) (fun h131 => ?_) (fun h131 => ?_)
    · -- TLt
      have p132 : (((k : Int)) < ((nk.length : Int))) := of_decide_eq_true h131
      have hks := key_short hs (k := k) (by omega)
      have hvs := hl.2.2 k (by omega)
      refine wp_skip (then_n (hK129 _ _ ?_))
      refine wp_seq_k (fun K133 hK133 => ?_)
      refine wp_block ?_
      refine wp_seq_k (fun K134 hK134 => ?_)
      refine wp_baseG [(1, .pointer (some ⟨b99, 0, none⟩)), (2, bs ([])), (4, .int .i64 ((k : Int))), (23, .int .i64 ((k : Int))), (24, .pointer (some ⟨b99, 1, none⟩)), (25, .slice Ank (nk).length cnk), (26, .int .i64 ((nk.length : Int))), (27, .bool (decide (((k : Int)) < ((nk.length : Int)))))] (by kernel_rfl) (fun g0_150 hg0_150 => ?_)
      obtain ⟨G150, hGm150, hG150_0, hG150_1, hG150_2, hG150_3, hG150_4, hG150_5, hG150_6, hG150_7, hG150_8, hG150_9, hG150_10, hG150_11, hG150_12, hG150_13, hG150_14, hG150_15⟩ : ∃ G : Nat → Value → VT → Prop, (∀ j v V V', VT.le V V' → G j v V → G j v V') ∧ (∀ v_ V_, G 0 v_ V_ ↔ (v_ = bs (bodyR true nk nv nc (k)))) ∧ (∀ v_ V_, G 1 v_ V_ ↔ (v_ = .pointer (some ⟨b99, 1, none⟩))) ∧ (∀ v_ V_, G 2 v_ V_ ↔ (v_ = .slice Ank (nk).length cnk)) ∧ (∀ v_ V_, G 3 v_ V_ ↔ (v_ = .int .i64 ((k : Int)))) ∧ (∀ v_ V_, G 4 v_ V_ ↔ (∃ b135 : Nat, ∃ o136 : Nat, v_ = .pointer (some ⟨b135, o136, none⟩) ∧ (At strK V_ b135 o136 ((nk.getD (k) []))) ∧ ((nk.getD (k) []).length ≤ 140737488355328))) ∧ (∀ v_ V_, G 5 v_ V_ ↔ (v_ = bs ((nk.getD (k) [])) ∧ ((nk.getD (k) []).length ≤ 140737488355328))) ∧ (∀ v_ V_, G 6 v_ V_ ↔ (v_ = .int .i64 ((((nk.getD (k) [])).length : Int)) ∧ ((nk.getD (k) []).length ≤ 140737488355328))) ∧ (∀ v_ V_, G 7 v_ V_ ↔ (v_ = bs (putM [] ((((nk.getD (k) [])).length : Int)) (1) (1)) ∧ ((putM [] ((((nk.getD (k) [])).length : Int)) (1) (1)).length ≤ 140737488355328))) ∧ (∀ v_ V_, G 8 v_ V_ ↔ (v_ = bs (bodyR true nk nv nc (k) ++ putM [] ((((nk.getD (k) [])).length : Int)) (1) (1)))) ∧ (∀ v_ V_, G 9 v_ V_ ↔ (v_ = .pointer (some ⟨b99, 1, none⟩))) ∧ (∀ v_ V_, G 10 v_ V_ ↔ (v_ = .slice Ank (nk).length cnk)) ∧ (∀ v_ V_, G 11 v_ V_ ↔ (v_ = .int .i64 ((k : Int)))) ∧ (∀ v_ V_, G 12 v_ V_ ↔ (∃ b146 : Nat, ∃ o147 : Nat, v_ = .pointer (some ⟨b146, o147, none⟩) ∧ (At strK V_ b146 o147 ((nk.getD (k) []))) ∧ ((nk.getD (k) []).length ≤ 140737488355328))) ∧ (∀ v_ V_, G 13 v_ V_ ↔ (v_ = bs ((nk.getD (k) [])) ∧ ((nk.getD (k) []).length ≤ 140737488355328))) ∧ (∀ v_ V_, G 14 v_ V_ ↔ (v_ = bs (bodyR true nk nv nc (k) ++ putM [] ((((nk.getD (k) [])).length : Int)) (1) (1) ++ (nk.getD (k) [])))) ∧ (∀ v_ V_, G 15 v_ V_ ↔ (v_ = bs (bodyR true nk nv nc (k) ++ putM [] ((((nk.getD (k) [])).length : Int)) (1) (1) ++ (nk.getD (k) [])))) :=
          ⟨mG [mV (bs (bodyR true nk nv nc (k))), mV (.pointer (some ⟨b99, 1, none⟩)), mV (.slice Ank (nk).length cnk), mV (.int .i64 ((k : Int))), mE fun b135 : Nat => mE fun o136 : Nat => mN (mV (.pointer (some ⟨b135, o136, none⟩))) (mN (mA strK b135 o136 ((nk.getD (k) []))) (mP ((nk.getD (k) []).length ≤ 140737488355328))), mN (mV (bs ((nk.getD (k) [])))) (mP ((nk.getD (k) []).length ≤ 140737488355328)), mN (mV (.int .i64 ((((nk.getD (k) [])).length : Int)))) (mP ((nk.getD (k) []).length ≤ 140737488355328)), mN (mV (bs (putM [] ((((nk.getD (k) [])).length : Int)) (1) (1)))) (mP ((putM [] ((((nk.getD (k) [])).length : Int)) (1) (1)).length ≤ 140737488355328)), mV (bs (bodyR true nk nv nc (k) ++ putM [] ((((nk.getD (k) [])).length : Int)) (1) (1))), mV (.pointer (some ⟨b99, 1, none⟩)), mV (.slice Ank (nk).length cnk), mV (.int .i64 ((k : Int))), mE fun b146 : Nat => mE fun o147 : Nat => mN (mV (.pointer (some ⟨b146, o147, none⟩))) (mN (mA strK b146 o147 ((nk.getD (k) []))) (mP ((nk.getD (k) []).length ≤ 140737488355328))), mN (mV (bs ((nk.getD (k) [])))) (mP ((nk.getD (k) []).length ≤ 140737488355328)), mV (bs (bodyR true nk nv nc (k) ++ putM [] ((((nk.getD (k) [])).length : Int)) (1) (1) ++ (nk.getD (k) []))), mV (bs (bodyR true nk nv nc (k) ++ putM [] ((((nk.getD (k) [])).length : Int)) (1) (1) ++ (nk.getD (k) [])))], mG_up _, fun _ _ => Iff.rfl, fun _ _ => Iff.rfl, fun _ _ => Iff.rfl, fun _ _ => Iff.rfl, fun _ _ => Iff.rfl, fun _ _ => Iff.rfl, fun _ _ => Iff.rfl, fun _ _ => Iff.rfl, fun _ _ => Iff.rfl, fun _ _ => Iff.rfl, fun _ _ => Iff.rfl, fun _ _ => Iff.rfl, fun _ _ => Iff.rfl, fun _ _ => Iff.rfl, fun _ _ => Iff.rfl, fun _ _ => Iff.rfl⟩
      refine wp_drawG (L0 := [(1, .pointer (some ⟨b99, 0, none⟩)), (2, bs ([])), (4, .int .i64 ((k : Int))), (23, .int .i64 ((k : Int))), (24, .pointer (some ⟨b99, 1, none⟩)), (25, .slice Ank (nk).length cnk), (26, .int .i64 ((nk.length : Int))), (27, .bool (decide (((k : Int)) < ((nk.length : Int)))))]) 16 (by kernel_rfl) (by kernel_rfl) (by kernel_rfl) (by kernel_rfl) (by kernel_rfl) G150 hGm150 [(3, bs (bodyR true nk nv nc (k)), 15)] (pre_cons ((hg0_150 3).trans (by kernel_rfl)) pre_nil) (by kernel_rfl) [] (by kernel_rfl) (fun (S : Nat → Bool) (g : Nat → Value) => ([] : List Ent)) (fun _ _ _ _ _ => rfl) hM126 ?_ ?_
      · -- the operations
        refine all_snoc (.inr ⟨by decide, fun S150_15 g150_15 V150_15 w150_15 F150_15 cx150_15 hM150_15 => ?_⟩) ?_
        · -- op 15
          obtain hv14_V150_15 : g150_15 44 = bs (bodyR true nk nv nc (k) ++ putM [] ((((nk.getD (k) [])).length : Int)) (1) (1) ++ (nk.getD (k) [])) := (hG150_14 _ _).1 (cx150_15.fact 14 44 (by decide) (cx150_15.dep 14 (by kernel_rfl)) (by kernel_rfl))
          refine wpF_see 44 (bs (bodyR true nk nv nc (k) ++ putM [] ((((nk.getD (k) [])).length : Int)) (1) (1) ++ (nk.getD (k) []))) (Eq.trans (by kernel_rfl) hv14_V150_15) ?_
          refine wpF_seg 1 (by kernel_rfl) ?_
          refine wpF_end _ (by kernel_rfl) (then_n ?_)
          exact one_in (some 3) (by kernel_rfl) (bs (bodyR true nk nv nc (k) ++ putM [] ((((nk.getD (k) [])).length : Int)) (1) (1) ++ (nk.getD (k) []))) _ [(44, bs (bodyR true nk nv nc (k) ++ putM [] ((((nk.getD (k) [])).length : Int)) (1) (1) ++ (nk.getD (k) [])))] (seen_cons (Eq.trans (by kernel_rfl) hv14_V150_15) seen_nil) (by kernel_rfl) (VT.le.refl _) hM150_15 ((hG150_15 _ _).2 rfl)
        refine all_snoc (.inr ⟨by decide, fun S150_14 g150_14 V150_14 w150_14 F150_14 cx150_14 hM150_14 => ?_⟩) ?_
        · -- op 14
          obtain hv8_V150_14 : g150_14 38 = bs (bodyR true nk nv nc (k) ++ putM [] ((((nk.getD (k) [])).length : Int)) (1) (1)) := (hG150_8 _ _).1 (cx150_14.fact 8 38 (by decide) (cx150_14.dep 8 (by kernel_rfl)) (by kernel_rfl))
          obtain ⟨hv13_V150_14, l149⟩ : g150_14 43 = bs ((nk.getD (k) [])) ∧ ((nk.getD (k) []).length ≤ 140737488355328) := (hG150_13 _ _).1 (cx150_14.fact 13 43 (by decide) (cx150_14.dep 13 (by kernel_rfl)) (by kernel_rfl))
          refine wpF_see 38 (bs (bodyR true nk nv nc (k) ++ putM [] ((((nk.getD (k) [])).length : Int)) (1) (1))) (Eq.trans (by kernel_rfl) hv8_V150_14) ?_
          refine wpF_see 43 (bs ((nk.getD (k) []))) (Eq.trans (by kernel_rfl) hv13_V150_14) ?_
          refine wpF_concat (bodyR true nk nv nc (k) ++ putM [] ((((nk.getD (k) [])).length : Int)) (1) (1)) ((nk.getD (k) [])) (h := (by kernel_rfl : opAt _ _ _ _ _ = some (Go.Op.binOp Go.BinOp.add 9 (Go.Operand.tmp 38) (Go.Operand.tmp 43) 9, some 44))) (by kernel_rfl) (by kernel_rfl) (by first | omega | (simp only [bodyR_eq, putM_len, List.length_append, List.length_cons, List.length_nil, List.length_replicate] at *; omega)) ?_
          refine wpF_end _ (by kernel_rfl) (then_n ?_)
          exact one_in (some 44) (by kernel_rfl) (bs (bodyR true nk nv nc (k) ++ putM [] ((((nk.getD (k) [])).length : Int)) (1) (1) ++ (nk.getD (k) []))) _ [(43, bs ((nk.getD (k) []))), (38, bs (bodyR true nk nv nc (k) ++ putM [] ((((nk.getD (k) [])).length : Int)) (1) (1)))] (seen_cons (Eq.trans (by kernel_rfl) hv13_V150_14) (seen_cons (Eq.trans (by kernel_rfl) hv8_V150_14) seen_nil)) (by kernel_rfl) (VT.le.refl _) hM150_14 ((hG150_14 _ _).2 rfl)
        refine all_snoc (.inr ⟨by decide, fun S150_13 g150_13 V150_13 w150_13 F150_13 cx150_13 hM150_13 => ?_⟩) ?_
        · -- op 13
          obtain ⟨b146, o147, hv12_V150_13, at_b146, l149⟩ : ∃ b146 : Nat, ∃ o147 : Nat, g150_13 42 = .pointer (some ⟨b146, o147, none⟩) ∧ (At strK V150_13 b146 o147 ((nk.getD (k) []))) ∧ ((nk.getD (k) []).length ≤ 140737488355328) := (hG150_12 _ _).1 (cx150_13.fact 12 42 (by decide) (cx150_13.dep 12 (by kernel_rfl)) (by kernel_rfl))
          have c913241 : V150_13 b146 o147 = some (bs (nk.getD (k) [])) := (At.str at_b146).1
          have l913242 : (nk.getD (k) []).length ≤ 140737488355328 := (At.str at_b146).2
          refine wpF_see 42 (.pointer (some ⟨b146, o147, none⟩)) (Eq.trans (by kernel_rfl) hv12_V150_13) ?_
          refine wpF_loadV hM150_13 c913241 (h := (by kernel_rfl : opAt _ _ _ _ _ = some (Go.Op.load 9 (Go.Operand.tmp 42), some 43))) (by kernel_rfl) (by kernel_rfl) ?_
          refine wpF_end _ (by kernel_rfl) (then_n ?_)
          exact one_in (some 43) (by kernel_rfl) (bs ((nk.getD (k) []))) _ [(42, .pointer (some ⟨b146, o147, none⟩))] (seen_cons (Eq.trans (by kernel_rfl) hv12_V150_13) seen_nil) (by kernel_rfl) (VT.le.refl _) hM150_13 ((hG150_13 _ _).2 ⟨rfl, l149⟩)
        refine all_snoc (.inr ⟨by decide, fun S150_12 g150_12 V150_12 w150_12 F150_12 cx150_12 hM150_12 => ?_⟩) ?_
        · -- op 12
          obtain hv10_V150_12 : g150_12 40 = .slice Ank (nk).length cnk := (hG150_10 _ _).1 (cx150_12.fact 10 40 (by decide) (cx150_12.dep 10 (by kernel_rfl)) (by kernel_rfl))
          obtain hv11_V150_12 : g150_12 41 = .int .i64 ((k : Int)) := (hG150_11 _ _).1 (cx150_12.fact 11 41 (by decide) (cx150_12.dep 11 (by kernel_rfl)) (by kernel_rfl))
          refine wpF_see 40 (.slice Ank (nk).length cnk) (Eq.trans (by kernel_rfl) hv10_V150_12) ?_
          refine wpF_see 41 (.int .i64 ((k : Int))) (Eq.trans (by kernel_rfl) hv11_V150_12) ?_
          refine wpF_index (A := Ank) (c := cnk) (hnk.up hM150_12.le) .i64 ((k : Int)) (h := (by kernel_rfl : opAt _ _ _ _ _ = some (Go.Op.indexAddr 22 (Go.Operand.tmp 40) (Go.Operand.tmp 41), some 42))) (e := 9) (by kernel_rfl) (by kernel_rfl) (by kernel_rfl) (k) rfl (by omega) (fun b146 o147 at_b146 => ?_)
          have c148 : V150_12 b146 o147 = some (bs (nk.getD (k) [])) := (At.str at_b146).1
          have l149 : (nk.getD (k) []).length ≤ 140737488355328 := (At.str at_b146).2
          refine wpF_end _ (by kernel_rfl) (then_n ?_)
          exact one_in (some 42) (by kernel_rfl) (.pointer (some ⟨b146, o147, none⟩)) _ [(41, .int .i64 ((k : Int))), (40, .slice Ank (nk).length cnk)] (seen_cons (Eq.trans (by kernel_rfl) hv11_V150_12) (seen_cons (Eq.trans (by kernel_rfl) hv10_V150_12) seen_nil)) (by kernel_rfl) (VT.le.refl _) hM150_12 ((hG150_12 _ _).2 ⟨b146, o147, rfl, at_b146, l149⟩)
        refine all_snoc (.inr ⟨by decide, fun S150_11 g150_11 V150_11 w150_11 F150_11 cx150_11 hM150_11 => ?_⟩) ?_
        · -- op 11
          refine wpF_seg 1 (by kernel_rfl) ?_
          refine wpF_end _ (by kernel_rfl) (then_n ?_)
          exact one_in (some 41) (by kernel_rfl) (.int .i64 ((k : Int))) _ [] seen_nil (by kernel_rfl) (VT.le.refl _) hM150_11 ((hG150_11 _ _).2 rfl)
        refine all_snoc (.inr ⟨by decide, fun S150_10 g150_10 V150_10 w150_10 F150_10 cx150_10 hM150_10 => ?_⟩) ?_
        · -- op 10
          obtain hv9_V150_10 : g150_10 39 = .pointer (some ⟨b99, 1, none⟩) := (hG150_9 _ _).1 (cx150_10.fact 9 39 (by decide) (cx150_10.dep 9 (by kernel_rfl)) (by kernel_rfl))
          refine wpF_see 39 (.pointer (some ⟨b99, 1, none⟩)) (Eq.trans (by kernel_rfl) hv9_V150_10) ?_
          refine wpF_loadB hM150_10 #[.bool (true), .slice Ank (nk).length cnk, .slice Anv (nv).length cnv, .slice Anc (nc).length cnc] (fun i v hi => ((le114.trans le127).trans cx150_10.le) _ _ _ (hc105 i v hi)) (h := (by kernel_rfl : opAt _ _ _ _ _ = some (Go.Op.load 22 (Go.Operand.tmp 39), some 40))) (off := 1) (by kernel_rfl) (.slice Ank (nk).length cnk) (by kernel_rfl) ?_
          refine wpF_end _ (by kernel_rfl) (then_n ?_)
          exact one_in (some 40) (by kernel_rfl) (.slice Ank (nk).length cnk) _ [(39, .pointer (some ⟨b99, 1, none⟩))] (seen_cons (Eq.trans (by kernel_rfl) hv9_V150_10) seen_nil) (by kernel_rfl) (VT.le.refl _) hM150_10 ((hG150_10 _ _).2 rfl)
        refine all_snoc (.inr ⟨by decide, fun S150_9 g150_9 V150_9 w150_9 F150_9 cx150_9 hM150_9 => ?_⟩) ?_
        · -- op 9
          refine wpF_seg 1 (by kernel_rfl) ?_
          refine wpF_end _ (by kernel_rfl) (then_n ?_)
          exact one_in (some 39) (by kernel_rfl) (.pointer (some ⟨b99, 1, none⟩)) _ [] seen_nil (by kernel_rfl) (VT.le.refl _) hM150_9 ((hG150_9 _ _).2 rfl)
        refine all_snoc (.inr ⟨by decide, fun S150_8 g150_8 V150_8 w150_8 F150_8 cx150_8 hM150_8 => ?_⟩) ?_
        · -- op 8
          obtain hv0_V150_8 : g150_8 30 = bs (bodyR true nk nv nc (k)) := (hG150_0 _ _).1 (cx150_8.fact 0 30 (by decide) (cx150_8.dep 0 (by kernel_rfl)) (by kernel_rfl))
          obtain ⟨hv7_V150_8, x145⟩ : g150_8 37 = bs (putM [] ((((nk.getD (k) [])).length : Int)) (1) (1)) ∧ ((putM [] ((((nk.getD (k) [])).length : Int)) (1) (1)).length ≤ 140737488355328) := (hG150_7 _ _).1 (cx150_8.fact 7 37 (by decide) (cx150_8.dep 7 (by kernel_rfl)) (by kernel_rfl))
          refine wpF_see 30 (bs (bodyR true nk nv nc (k))) (Eq.trans (by kernel_rfl) hv0_V150_8) ?_
          refine wpF_see 37 (bs (putM [] ((((nk.getD (k) [])).length : Int)) (1) (1))) (Eq.trans (by kernel_rfl) hv7_V150_8) ?_
          refine wpF_concat (bodyR true nk nv nc (k)) (putM [] ((((nk.getD (k) [])).length : Int)) (1) (1)) (h := (by kernel_rfl : opAt _ _ _ _ _ = some (Go.Op.binOp Go.BinOp.add 9 (Go.Operand.tmp 30) (Go.Operand.tmp 37) 9, some 38))) (by kernel_rfl) (by kernel_rfl) (by first | omega | (simp only [bodyR_eq, putM_len, List.length_append, List.length_cons, List.length_nil, List.length_replicate] at *; omega)) ?_
          refine wpF_end _ (by kernel_rfl) (then_n ?_)
          exact one_in (some 38) (by kernel_rfl) (bs (bodyR true nk nv nc (k) ++ putM [] ((((nk.getD (k) [])).length : Int)) (1) (1))) _ [(37, bs (putM [] ((((nk.getD (k) [])).length : Int)) (1) (1))), (30, bs (bodyR true nk nv nc (k)))] (seen_cons (Eq.trans (by kernel_rfl) hv7_V150_8) (seen_cons (Eq.trans (by kernel_rfl) hv0_V150_8) seen_nil)) (by kernel_rfl) (VT.le.refl _) hM150_8 ((hG150_8 _ _).2 rfl)
        refine all_snoc (.inr ⟨by decide, fun S150_7 g150_7 V150_7 w150_7 F150_7 cx150_7 hM150_7 => ?_⟩) ?_
        · -- op 7
          obtain ⟨hv6_V150_7, l138⟩ : g150_7 36 = .int .i64 ((((nk.getD (k) [])).length : Int)) ∧ ((nk.getD (k) []).length ≤ 140737488355328) := (hG150_6 _ _).1 (cx150_7.fact 6 36 (by decide) (cx150_7.dep 6 (by kernel_rfl)) (by kernel_rfl))
          refine wpF_see 36 (.int .i64 ((((nk.getD (k) [])).length : Int))) (Eq.trans (by kernel_rfl) hv6_V150_7) ?_
          refine wpF_callP hM150_7 (f := 57) (caps := #[]) (h := (by kernel_rfl : opAt _ _ _ _ _ = some (Go.Op.call (Go.Call.mk (Go.Callee.value (Go.Operand.func 57)) #[(Go.Operand.tmp 36), (Go.Operand.const (Go.Value.int Go.IntKind.i64 1))] #[3, 3]), some 37))) (by kernel_rfl) (by kernel_rfl) (by kernel_rfl) (f57 _ _ hM150_7.inW ((((nk.getD (k) [])).length : Int)) (1) (by omega) (by omega) (by omega)) (fun v139 V140 w141 le142 hM143 hp144 => ?_)
          obtain ⟨rfl, x145⟩ := hp144
          have x145 : (putM [] ((((nk.getD (k) [])).length : Int)) (1) (1)).length ≤ 140737488355328 := x145
          refine wpF_end _ (by kernel_rfl) (then_n ?_)
          exact one_in (some 37) (by kernel_rfl) (bs (putM [] ((((nk.getD (k) [])).length : Int)) (1) (1))) _ [(36, .int .i64 ((((nk.getD (k) [])).length : Int)))] (seen_cons (Eq.trans (by kernel_rfl) hv6_V150_7) seen_nil) (by kernel_rfl) le142 hM143 ((hG150_7 _ _).2 ⟨rfl, x145⟩)
        refine all_snoc (.inr ⟨by decide, fun S150_6 g150_6 V150_6 w150_6 F150_6 cx150_6 hM150_6 => ?_⟩) ?_
        · -- op 6
          obtain ⟨hv5_V150_6, l138⟩ : g150_6 35 = bs ((nk.getD (k) [])) ∧ ((nk.getD (k) []).length ≤ 140737488355328) := (hG150_5 _ _).1 (cx150_6.fact 5 35 (by decide) (cx150_6.dep 5 (by kernel_rfl)) (by kernel_rfl))
          refine wpF_see 35 (bs ((nk.getD (k) []))) (Eq.trans (by kernel_rfl) hv5_V150_6) ?_
          refine wpF_seg 1 (by kernel_rfl) ?_
          refine wpF_end _ (by kernel_rfl) (then_n ?_)
          exact one_in (some 36) (by kernel_rfl) (.int .i64 ((((nk.getD (k) [])).length : Int))) _ [(35, bs ((nk.getD (k) [])))] (seen_cons (Eq.trans (by kernel_rfl) hv5_V150_6) seen_nil) (by kernel_rfl) (VT.le.refl _) hM150_6 ((hG150_6 _ _).2 ⟨rfl, l138⟩)
        refine all_snoc (.inr ⟨by decide, fun S150_5 g150_5 V150_5 w150_5 F150_5 cx150_5 hM150_5 => ?_⟩) ?_
        · -- op 5
          obtain ⟨b135, o136, hv4_V150_5, at_b135, l138⟩ : ∃ b135 : Nat, ∃ o136 : Nat, g150_5 34 = .pointer (some ⟨b135, o136, none⟩) ∧ (At strK V150_5 b135 o136 ((nk.getD (k) []))) ∧ ((nk.getD (k) []).length ≤ 140737488355328) := (hG150_4 _ _).1 (cx150_5.fact 4 34 (by decide) (cx150_5.dep 4 (by kernel_rfl)) (by kernel_rfl))
          have c905081 : V150_5 b135 o136 = some (bs (nk.getD (k) [])) := (At.str at_b135).1
          have l905082 : (nk.getD (k) []).length ≤ 140737488355328 := (At.str at_b135).2
          refine wpF_see 34 (.pointer (some ⟨b135, o136, none⟩)) (Eq.trans (by kernel_rfl) hv4_V150_5) ?_
          refine wpF_loadV hM150_5 c905081 (h := (by kernel_rfl : opAt _ _ _ _ _ = some (Go.Op.load 9 (Go.Operand.tmp 34), some 35))) (by kernel_rfl) (by kernel_rfl) ?_
          refine wpF_end _ (by kernel_rfl) (then_n ?_)
          exact one_in (some 35) (by kernel_rfl) (bs ((nk.getD (k) []))) _ [(34, .pointer (some ⟨b135, o136, none⟩))] (seen_cons (Eq.trans (by kernel_rfl) hv4_V150_5) seen_nil) (by kernel_rfl) (VT.le.refl _) hM150_5 ((hG150_5 _ _).2 ⟨rfl, l138⟩)
        refine all_snoc (.inr ⟨by decide, fun S150_4 g150_4 V150_4 w150_4 F150_4 cx150_4 hM150_4 => ?_⟩) ?_
        · -- op 4
          obtain hv2_V150_4 : g150_4 32 = .slice Ank (nk).length cnk := (hG150_2 _ _).1 (cx150_4.fact 2 32 (by decide) (cx150_4.dep 2 (by kernel_rfl)) (by kernel_rfl))
          obtain hv3_V150_4 : g150_4 33 = .int .i64 ((k : Int)) := (hG150_3 _ _).1 (cx150_4.fact 3 33 (by decide) (cx150_4.dep 3 (by kernel_rfl)) (by kernel_rfl))
          refine wpF_see 32 (.slice Ank (nk).length cnk) (Eq.trans (by kernel_rfl) hv2_V150_4) ?_
          refine wpF_see 33 (.int .i64 ((k : Int))) (Eq.trans (by kernel_rfl) hv3_V150_4) ?_
          refine wpF_index (A := Ank) (c := cnk) (hnk.up hM150_4.le) .i64 ((k : Int)) (h := (by kernel_rfl : opAt _ _ _ _ _ = some (Go.Op.indexAddr 22 (Go.Operand.tmp 32) (Go.Operand.tmp 33), some 34))) (e := 9) (by kernel_rfl) (by kernel_rfl) (by kernel_rfl) (k) rfl (by omega) (fun b135 o136 at_b135 => ?_)
          have c137 : V150_4 b135 o136 = some (bs (nk.getD (k) [])) := (At.str at_b135).1
          have l138 : (nk.getD (k) []).length ≤ 140737488355328 := (At.str at_b135).2
          refine wpF_end _ (by kernel_rfl) (then_n ?_)
          exact one_in (some 34) (by kernel_rfl) (.pointer (some ⟨b135, o136, none⟩)) _ [(33, .int .i64 ((k : Int))), (32, .slice Ank (nk).length cnk)] (seen_cons (Eq.trans (by kernel_rfl) hv3_V150_4) (seen_cons (Eq.trans (by kernel_rfl) hv2_V150_4) seen_nil)) (by kernel_rfl) (VT.le.refl _) hM150_4 ((hG150_4 _ _).2 ⟨b135, o136, rfl, at_b135, l138⟩)
        refine all_snoc (.inr ⟨by decide, fun S150_3 g150_3 V150_3 w150_3 F150_3 cx150_3 hM150_3 => ?_⟩) ?_
        · -- op 3
          refine wpF_seg 1 (by kernel_rfl) ?_
          refine wpF_end _ (by kernel_rfl) (then_n ?_)
          exact one_in (some 33) (by kernel_rfl) (.int .i64 ((k : Int))) _ [] seen_nil (by kernel_rfl) (VT.le.refl _) hM150_3 ((hG150_3 _ _).2 rfl)
        refine all_snoc (.inr ⟨by decide, fun S150_2 g150_2 V150_2 w150_2 F150_2 cx150_2 hM150_2 => ?_⟩) ?_
        · -- op 2
          obtain hv1_V150_2 : g150_2 31 = .pointer (some ⟨b99, 1, none⟩) := (hG150_1 _ _).1 (cx150_2.fact 1 31 (by decide) (cx150_2.dep 1 (by kernel_rfl)) (by kernel_rfl))
          refine wpF_see 31 (.pointer (some ⟨b99, 1, none⟩)) (Eq.trans (by kernel_rfl) hv1_V150_2) ?_
          refine wpF_loadB hM150_2 #[.bool (true), .slice Ank (nk).length cnk, .slice Anv (nv).length cnv, .slice Anc (nc).length cnc] (fun i v hi => ((le114.trans le127).trans cx150_2.le) _ _ _ (hc105 i v hi)) (h := (by kernel_rfl : opAt _ _ _ _ _ = some (Go.Op.load 22 (Go.Operand.tmp 31), some 32))) (off := 1) (by kernel_rfl) (.slice Ank (nk).length cnk) (by kernel_rfl) ?_
          refine wpF_end _ (by kernel_rfl) (then_n ?_)
          exact one_in (some 32) (by kernel_rfl) (.slice Ank (nk).length cnk) _ [(31, .pointer (some ⟨b99, 1, none⟩))] (seen_cons (Eq.trans (by kernel_rfl) hv1_V150_2) seen_nil) (by kernel_rfl) (VT.le.refl _) hM150_2 ((hG150_2 _ _).2 rfl)
        refine all_snoc (.inr ⟨by decide, fun S150_1 g150_1 V150_1 w150_1 F150_1 cx150_1 hM150_1 => ?_⟩) ?_
        · -- op 1
          refine wpF_seg 1 (by kernel_rfl) ?_
          refine wpF_end _ (by kernel_rfl) (then_n ?_)
          exact one_in (some 31) (by kernel_rfl) (.pointer (some ⟨b99, 1, none⟩)) _ [] seen_nil (by kernel_rfl) (VT.le.refl _) hM150_1 ((hG150_1 _ _).2 rfl)
        refine all_snoc (.inr ⟨by decide, fun S150_0 g150_0 V150_0 w150_0 F150_0 cx150_0 hM150_0 => ?_⟩) ?_
        · -- op 0
          have hp3_150_0 : g150_0 3 = bs (bodyR true nk nv nc (k)) := cx150_0.pre 3 _ 15 (List.Mem.head _) (cx150_0.notyet (c := 15) (fun hq_ => (cx150_0.cl 15 0 (by decide) hq_ (by kernel_rfl))))
          refine wpF_see 3 (bs (bodyR true nk nv nc (k))) (Eq.trans (by kernel_rfl) hp3_150_0) ?_
          refine wpF_seg 1 (by kernel_rfl) ?_
          refine wpF_end _ (by kernel_rfl) (then_n ?_)
          exact one_in (some 30) (by kernel_rfl) (bs (bodyR true nk nv nc (k))) _ [(3, bs (bodyR true nk nv nc (k)))] (seen_cons (Eq.trans (by kernel_rfl) hp3_150_0) seen_nil) (by kernel_rfl) (VT.le.refl _) hM150_0 ((hG150_0 _ _).2 rfl)
        exact all_none
      · -- behind it
        intro ge150 Ve150 we150 hMe150 hle150 hf150
        refine wpF_stop (P := Try.prog) (ops := #[]) (i := 0) _ rfl ?_
        obtain hv15_Ve150 : ge150 3 = bs (bodyR true nk nv nc (k) ++ putM [] ((((nk.getD (k) [])).length : Int)) (1) (1) ++ (nk.getD (k) [])) := (hG150_15 _ _).1 (hf150 15 3 (by decide) (by kernel_rfl))
        obtain hv0_Ve150 : ge150 30 = bs (bodyR true nk nv nc (k)) := (hG150_0 _ _).1 (hf150 0 30 (by decide) (by kernel_rfl))
        obtain hv1_Ve150 : ge150 31 = .pointer (some ⟨b99, 1, none⟩) := (hG150_1 _ _).1 (hf150 1 31 (by decide) (by kernel_rfl))
        obtain hv2_Ve150 : ge150 32 = .slice Ank (nk).length cnk := (hG150_2 _ _).1 (hf150 2 32 (by decide) (by kernel_rfl))
        obtain hv3_Ve150 : ge150 33 = .int .i64 ((k : Int)) := (hG150_3 _ _).1 (hf150 3 33 (by decide) (by kernel_rfl))
        obtain ⟨b135, o136, hv4_Ve150, at_b135, l138⟩ : ∃ b135 : Nat, ∃ o136 : Nat, ge150 34 = .pointer (some ⟨b135, o136, none⟩) ∧ (At strK Ve150 b135 o136 ((nk.getD (k) []))) ∧ ((nk.getD (k) []).length ≤ 140737488355328) := (hG150_4 _ _).1 (hf150 4 34 (by decide) (by kernel_rfl))
        have c152 : Ve150 b135 o136 = some (bs (nk.getD (k) [])) := (At.str at_b135).1
        have l153 : (nk.getD (k) []).length ≤ 140737488355328 := (At.str at_b135).2
        obtain ⟨hv5_Ve150, l138⟩ : ge150 35 = bs ((nk.getD (k) [])) ∧ ((nk.getD (k) []).length ≤ 140737488355328) := (hG150_5 _ _).1 (hf150 5 35 (by decide) (by kernel_rfl))
        obtain ⟨hv6_Ve150, l138⟩ : ge150 36 = .int .i64 ((((nk.getD (k) [])).length : Int)) ∧ ((nk.getD (k) []).length ≤ 140737488355328) := (hG150_6 _ _).1 (hf150 6 36 (by decide) (by kernel_rfl))
        obtain ⟨hv7_Ve150, x145⟩ : ge150 37 = bs (putM [] ((((nk.getD (k) [])).length : Int)) (1) (1)) ∧ ((putM [] ((((nk.getD (k) [])).length : Int)) (1) (1)).length ≤ 140737488355328) := (hG150_7 _ _).1 (hf150 7 37 (by decide) (by kernel_rfl))
        obtain hv8_Ve150 : ge150 38 = bs (bodyR true nk nv nc (k) ++ putM [] ((((nk.getD (k) [])).length : Int)) (1) (1)) := (hG150_8 _ _).1 (hf150 8 38 (by decide) (by kernel_rfl))
        obtain hv9_Ve150 : ge150 39 = .pointer (some ⟨b99, 1, none⟩) := (hG150_9 _ _).1 (hf150 9 39 (by decide) (by kernel_rfl))
        obtain hv10_Ve150 : ge150 40 = .slice Ank (nk).length cnk := (hG150_10 _ _).1 (hf150 10 40 (by decide) (by kernel_rfl))
        obtain hv11_Ve150 : ge150 41 = .int .i64 ((k : Int)) := (hG150_11 _ _).1 (hf150 11 41 (by decide) (by kernel_rfl))
        obtain ⟨b146, o147, hv12_Ve150, at_b146, l149⟩ : ∃ b146 : Nat, ∃ o147 : Nat, ge150 42 = .pointer (some ⟨b146, o147, none⟩) ∧ (At strK Ve150 b146 o147 ((nk.getD (k) []))) ∧ ((nk.getD (k) []).length ≤ 140737488355328) := (hG150_12 _ _).1 (hf150 12 42 (by decide) (by kernel_rfl))
        have c154 : Ve150 b146 o147 = some (bs (nk.getD (k) [])) := (At.str at_b146).1
        have l155 : (nk.getD (k) []).length ≤ 140737488355328 := (At.str at_b146).2
        obtain ⟨hv13_Ve150, l149⟩ : ge150 43 = bs ((nk.getD (k) [])) ∧ ((nk.getD (k) []).length ≤ 140737488355328) := (hG150_13 _ _).1 (hf150 13 43 (by decide) (by kernel_rfl))
        obtain hv14_Ve150 : ge150 44 = bs (bodyR true nk nv nc (k) ++ putM [] ((((nk.getD (k) [])).length : Int)) (1) (1) ++ (nk.getD (k) [])) := (hG150_14 _ _).1 (hf150 14 44 (by decide) (by kernel_rfl))
        refine wpF_see 3 (bs (bodyR true nk nv nc (k) ++ putM [] ((((nk.getD (k) [])).length : Int)) (1) (1) ++ (nk.getD (k) []))) (Eq.trans (by kernel_rfl) hv15_Ve150) ?_
        refine wpF_see 30 (bs (bodyR true nk nv nc (k))) (Eq.trans (by kernel_rfl) hv0_Ve150) ?_
        refine wpF_see 31 (.pointer (some ⟨b99, 1, none⟩)) (Eq.trans (by kernel_rfl) hv1_Ve150) ?_
        refine wpF_see 32 (.slice Ank (nk).length cnk) (Eq.trans (by kernel_rfl) hv2_Ve150) ?_
        refine wpF_see 33 (.int .i64 ((k : Int))) (Eq.trans (by kernel_rfl) hv3_Ve150) ?_
        refine wpF_see 34 (.pointer (some ⟨b135, o136, none⟩)) (Eq.trans (by kernel_rfl) hv4_Ve150) ?_
        refine wpF_see 35 (bs ((nk.getD (k) []))) (Eq.trans (by kernel_rfl) hv5_Ve150) ?_
        refine wpF_see 36 (.int .i64 ((((nk.getD (k) [])).length : Int))) (Eq.trans (by kernel_rfl) hv6_Ve150) ?_
        refine wpF_see 37 (bs (putM [] ((((nk.getD (k) [])).length : Int)) (1) (1))) (Eq.trans (by kernel_rfl) hv7_Ve150) ?_
        refine wpF_see 38 (bs (bodyR true nk nv nc (k) ++ putM [] ((((nk.getD (k) [])).length : Int)) (1) (1))) (Eq.trans (by kernel_rfl) hv8_Ve150) ?_
        refine wpF_see 39 (.pointer (some ⟨b99, 1, none⟩)) (Eq.trans (by kernel_rfl) hv9_Ve150) ?_
        refine wpF_see 40 (.slice Ank (nk).length cnk) (Eq.trans (by kernel_rfl) hv10_Ve150) ?_
        refine wpF_see 41 (.int .i64 ((k : Int))) (Eq.trans (by kernel_rfl) hv11_Ve150) ?_
        refine wpF_see 42 (.pointer (some ⟨b146, o147, none⟩)) (Eq.trans (by kernel_rfl) hv12_Ve150) ?_
        refine wpF_see 43 (bs ((nk.getD (k) []))) (Eq.trans (by kernel_rfl) hv13_Ve150) ?_
        refine wpF_see 44 (bs (bodyR true nk nv nc (k) ++ putM [] ((((nk.getD (k) [])).length : Int)) (1) (1) ++ (nk.getD (k) []))) (Eq.trans (by kernel_rfl) hv14_Ve150) ?_
        refine wpF_end _ (by kernel_rfl) (then_n (hK134 _ _ ?_))
        refine wp_seq_k (fun K157 hK157 => ?_)
        refine wp_seq_k (fun K158 hK158 => ?_)
        refine wp_reg ?_
        refine wpF_seg 1 (by kernel_rfl) ?_
        refine wpF_loadB hMe150 #[.bool (true), .slice Ank (nk).length cnk, .slice Anv (nv).length cnv, .slice Anc (nc).length cnc] (fun i v hi => ((le114.trans le127).trans hle150) _ _ _ (hc105 i v hi)) (h := (by kernel_rfl : opAt _ _ _ _ _ = some (Go.Op.load 4 (Go.Operand.tmp 45), some 46))) (off := 0) (by kernel_rfl) (.bool (true)) (by kernel_rfl) ?_
        refine wpF_seg 3 (by kernel_rfl) ?_
        refine wpF_loadB hMe150 #[.bool (true), .slice Ank (nk).length cnk, .slice Anv (nv).length cnv, .slice Anc (nc).length cnc] (fun i v hi => ((le114.trans le127).trans hle150) _ _ _ (hc105 i v hi)) (h := (by kernel_rfl : opAt _ _ _ _ _ = some (Go.Op.load 22 (Go.Operand.tmp 49), some 50))) (off := 2) (by kernel_rfl) (.slice Anv (nv).length cnv) (by kernel_rfl) ?_
        refine wpF_seg 3 (by kernel_rfl) ?_
        refine wpF_end _ (by kernel_rfl) (then_n (hK158 _ _ ?_))
        refine wp_if (decide (((k : Int)) < ((nv.length : Int)))) (by kernel_rfl) (fun h159 => ?_) (fun h159 => ?_)
        · -- TLtt
          have p160 : (((k : Int)) < ((nv.length : Int))) := of_decide_eq_true h159
          refine wp_baseG [(1, .pointer (some ⟨b99, 0, none⟩)), (2, bs ([])), (4, .int .i64 ((k : Int))), (23, .int .i64 ((k : Int))), (24, .pointer (some ⟨b99, 1, none⟩)), (25, .slice Ank (nk).length cnk), (26, .int .i64 ((nk.length : Int))), (27, .bool (decide (((k : Int)) < ((nk.length : Int))))), (30, bs (bodyR true nk nv nc (k))), (31, .pointer (some ⟨b99, 1, none⟩)), (32, .slice Ank (nk).length cnk), (33, .int .i64 ((k : Int))), (34, .pointer (some ⟨b135, o136, none⟩)), (35, bs ((nk.getD (k) []))), (36, .int .i64 ((((nk.getD (k) [])).length : Int))), (37, bs (putM [] ((((nk.getD (k) [])).length : Int)) (1) (1))), (38, bs (bodyR true nk nv nc (k) ++ putM [] ((((nk.getD (k) [])).length : Int)) (1) (1))), (39, .pointer (some ⟨b99, 1, none⟩)), (40, .slice Ank (nk).length cnk), (41, .int .i64 ((k : Int))), (42, .pointer (some ⟨b146, o147, none⟩)), (43, bs ((nk.getD (k) []))), (44, bs (bodyR true nk nv nc (k) ++ putM [] ((((nk.getD (k) [])).length : Int)) (1) (1) ++ (nk.getD (k) []))), (45, .pointer (some ⟨b99, 0, none⟩)), (46, .bool (true)), (47, .bool (true)), (48, .int .i64 ((k : Int))), (49, .pointer (some ⟨b99, 2, none⟩)), (50, .slice Anv (nv).length cnv), (51, .int .i64 ((nv.length : Int))), (52, .bool (decide (((k : Int)) < ((nv.length : Int))))), (53, .bool (decide (((k : Int)) < ((nv.length : Int)))))] (by kernel_rfl) (fun g0_176 hg0_176 => ?_)
          obtain ⟨G176, hGm176, hG176_0, hG176_1, hG176_2, hG176_3, hG176_4, hG176_5, hG176_6, hG176_7, hG176_8, hG176_9, hG176_10, hG176_11, hG176_12, hG176_13, hG176_14, hG176_15⟩ : ∃ G : Nat → Value → VT → Prop, (∀ j v V V', VT.le V V' → G j v V → G j v V') ∧ (∀ v_ V_, G 0 v_ V_ ↔ (v_ = bs (bodyR true nk nv nc (k) ++ putM [] ((((nk.getD (k) [])).length : Int)) (1) (1) ++ (nk.getD (k) [])))) ∧ (∀ v_ V_, G 1 v_ V_ ↔ (v_ = .pointer (some ⟨b99, 2, none⟩))) ∧ (∀ v_ V_, G 2 v_ V_ ↔ (v_ = .slice Anv (nv).length cnv)) ∧ (∀ v_ V_, G 3 v_ V_ ↔ (v_ = .int .i64 ((k : Int)))) ∧ (∀ v_ V_, G 4 v_ V_ ↔ (∃ b161 : Nat, ∃ o162 : Nat, v_ = .pointer (some ⟨b161, o162, none⟩) ∧ (At strK V_ b161 o162 ((nv.getD (k) []))) ∧ ((nv.getD (k) []).length ≤ 140737488355328))) ∧ (∀ v_ V_, G 5 v_ V_ ↔ (v_ = bs ((nv.getD (k) [])) ∧ ((nv.getD (k) []).length ≤ 140737488355328))) ∧ (∀ v_ V_, G 6 v_ V_ ↔ (v_ = .int .i64 ((((nv.getD (k) [])).length : Int)) ∧ ((nv.getD (k) []).length ≤ 140737488355328))) ∧ (∀ v_ V_, G 7 v_ V_ ↔ (v_ = bs (putM [] ((((nv.getD (k) [])).length : Int)) (2) (2)) ∧ ((putM [] ((((nv.getD (k) [])).length : Int)) (2) (2)).length ≤ 140737488355328))) ∧ (∀ v_ V_, G 8 v_ V_ ↔ (v_ = bs (bodyR true nk nv nc (k) ++ putM [] ((((nk.getD (k) [])).length : Int)) (1) (1) ++ (nk.getD (k) []) ++ putM [] ((((nv.getD (k) [])).length : Int)) (2) (2)))) ∧ (∀ v_ V_, G 9 v_ V_ ↔ (v_ = .pointer (some ⟨b99, 2, none⟩))) ∧ (∀ v_ V_, G 10 v_ V_ ↔ (v_ = .slice Anv (nv).length cnv)) ∧ (∀ v_ V_, G 11 v_ V_ ↔ (v_ = .int .i64 ((k : Int)))) ∧ (∀ v_ V_, G 12 v_ V_ ↔ (∃ b172 : Nat, ∃ o173 : Nat, v_ = .pointer (some ⟨b172, o173, none⟩) ∧ (At strK V_ b172 o173 ((nv.getD (k) []))) ∧ ((nv.getD (k) []).length ≤ 140737488355328))) ∧ (∀ v_ V_, G 13 v_ V_ ↔ (v_ = bs ((nv.getD (k) [])) ∧ ((nv.getD (k) []).length ≤ 140737488355328))) ∧ (∀ v_ V_, G 14 v_ V_ ↔ (v_ = bs (bodyR true nk nv nc (k) ++ putM [] ((((nk.getD (k) [])).length : Int)) (1) (1) ++ (nk.getD (k) []) ++ putM [] ((((nv.getD (k) [])).length : Int)) (2) (2) ++ (nv.getD (k) [])))) ∧ (∀ v_ V_, G 15 v_ V_ ↔ (v_ = bs (bodyR true nk nv nc (k) ++ putM [] ((((nk.getD (k) [])).length : Int)) (1) (1) ++ (nk.getD (k) []) ++ putM [] ((((nv.getD (k) [])).length : Int)) (2) (2) ++ (nv.getD (k) [])))) :=
              ⟨mG [mV (bs (bodyR true nk nv nc (k) ++ putM [] ((((nk.getD (k) [])).length : Int)) (1) (1) ++ (nk.getD (k) []))), mV (.pointer (some ⟨b99, 2, none⟩)), mV (.slice Anv (nv).length cnv), mV (.int .i64 ((k : Int))), mE fun b161 : Nat => mE fun o162 : Nat => mN (mV (.pointer (some ⟨b161, o162, none⟩))) (mN (mA strK b161 o162 ((nv.getD (k) []))) (mP ((nv.getD (k) []).length ≤ 140737488355328))), mN (mV (bs ((nv.getD (k) [])))) (mP ((nv.getD (k) []).length ≤ 140737488355328)), mN (mV (.int .i64 ((((nv.getD (k) [])).length : Int)))) (mP ((nv.getD (k) []).length ≤ 140737488355328)), mN (mV (bs (putM [] ((((nv.getD (k) [])).length : Int)) (2) (2)))) (mP ((putM [] ((((nv.getD (k) [])).length : Int)) (2) (2)).length ≤ 140737488355328)), mV (bs (bodyR true nk nv nc (k) ++ putM [] ((((nk.getD (k) [])).length : Int)) (1) (1) ++ (nk.getD (k) []) ++ putM [] ((((nv.getD (k) [])).length : Int)) (2) (2))), mV (.pointer (some ⟨b99, 2, none⟩)), mV (.slice Anv (nv).length cnv), mV (.int .i64 ((k : Int))), mE fun b172 : Nat => mE fun o173 : Nat => mN (mV (.pointer (some ⟨b172, o173, none⟩))) (mN (mA strK b172 o173 ((nv.getD (k) []))) (mP ((nv.getD (k) []).length ≤ 140737488355328))), mN (mV (bs ((nv.getD (k) [])))) (mP ((nv.getD (k) []).length ≤ 140737488355328)), mV (bs (bodyR true nk nv nc (k) ++ putM [] ((((nk.getD (k) [])).length : Int)) (1) (1) ++ (nk.getD (k) []) ++ putM [] ((((nv.getD (k) [])).length : Int)) (2) (2) ++ (nv.getD (k) []))), mV (bs (bodyR true nk nv nc (k) ++ putM [] ((((nk.getD (k) [])).length : Int)) (1) (1) ++ (nk.getD (k) []) ++ putM [] ((((nv.getD (k) [])).length : Int)) (2) (2) ++ (nv.getD (k) [])))], mG_up _, fun _ _ => Iff.rfl, fun _ _ => Iff.rfl, fun _ _ => Iff.rfl, fun _ _ => Iff.rfl, fun _ _ => Iff.rfl, fun _ _ => Iff.rfl, fun _ _ => Iff.rfl, fun _ _ => Iff.rfl, fun _ _ => Iff.rfl, fun _ _ => Iff.rfl, fun _ _ => Iff.rfl, fun _ _ => Iff.rfl, fun _ _ => Iff.rfl, fun _ _ => Iff.rfl, fun _ _ => Iff.rfl, fun _ _ => Iff.rfl⟩
          refine wp_drawG (L0 := [(1, .pointer (some ⟨b99, 0, none⟩)), (2, bs ([])), (4, .int .i64 ((k : Int))), (23, .int .i64 ((k : Int))), (24, .pointer (some ⟨b99, 1, none⟩)), (25, .slice Ank (nk).length cnk), (26, .int .i64 ((nk.length : Int))), (27, .bool (decide (((k : Int)) < ((nk.length : Int))))), (30, bs (bodyR true nk nv nc (k))), (31, .pointer (some ⟨b99, 1, none⟩)), (32, .slice Ank (nk).length cnk), (33, .int .i64 ((k : Int))), (34, .pointer (some ⟨b135, o136, none⟩)), (35, bs ((nk.getD (k) []))), (36, .int .i64 ((((nk.getD (k) [])).length : Int))), (37, bs (putM [] ((((nk.getD (k) [])).length : Int)) (1) (1))), (38, bs (bodyR true nk nv nc (k) ++ putM [] ((((nk.getD (k) [])).length : Int)) (1) (1))), (39, .pointer (some ⟨b99, 1, none⟩)), (40, .slice Ank (nk).length cnk), (41, .int .i64 ((k : Int))), (42, .pointer (some ⟨b146, o147, none⟩)), (43, bs ((nk.getD (k) []))), (44, bs (bodyR true nk nv nc (k) ++ putM [] ((((nk.getD (k) [])).length : Int)) (1) (1) ++ (nk.getD (k) []))), (45, .pointer (some ⟨b99, 0, none⟩)), (46, .bool (true)), (47, .bool (true)), (48, .int .i64 ((k : Int))), (49, .pointer (some ⟨b99, 2, none⟩)), (50, .slice Anv (nv).length cnv), (51, .int .i64 ((nv.length : Int))), (52, .bool (decide (((k : Int)) < ((nv.length : Int))))), (53, .bool (decide (((k : Int)) < ((nv.length : Int)))))]) 16 (by kernel_rfl) (by kernel_rfl) (by kernel_rfl) (by kernel_rfl) (by kernel_rfl) G176 hGm176 [(3, bs (bodyR true nk nv nc (k) ++ putM [] ((((nk.getD (k) [])).length : Int)) (1) (1) ++ (nk.getD (k) [])), 15)] (pre_cons ((hg0_176 3).trans (by kernel_rfl)) pre_nil) (by kernel_rfl) [] (by kernel_rfl) (fun (S : Nat → Bool) (g : Nat → Value) => ([] : List Ent)) (fun _ _ _ _ _ => rfl) hMe150 ?_ ?_
          · -- the operations
            refine all_snoc (.inr ⟨by decide, fun S176_15 g176_15 V176_15 w176_15 F176_15 cx176_15 hM176_15 => ?_⟩) ?_
            · -- op 15
              obtain hv14_V176_15 : g176_15 68 = bs (bodyR true nk nv nc (k) ++ putM [] ((((nk.getD (k) [])).length : Int)) (1) (1) ++ (nk.getD (k) []) ++ putM [] ((((nv.getD (k) [])).length : Int)) (2) (2) ++ (nv.getD (k) [])) := (hG176_14 _ _).1 (cx176_15.fact 14 68 (by decide) (cx176_15.dep 14 (by kernel_rfl)) (by kernel_rfl))
              refine wpF_see 68 (bs (bodyR true nk nv nc (k) ++ putM [] ((((nk.getD (k) [])).length : Int)) (1) (1) ++ (nk.getD (k) []) ++ putM [] ((((nv.getD (k) [])).length : Int)) (2) (2) ++ (nv.getD (k) []))) (Eq.trans (by kernel_rfl) hv14_V176_15) ?_
              refine wpF_seg 1 (by kernel_rfl) ?_
              refine wpF_end _ (by kernel_rfl) (then_n ?_)
              exact one_in (some 3) (by kernel_rfl) (bs (bodyR true nk nv nc (k) ++ putM [] ((((nk.getD (k) [])).length : Int)) (1) (1) ++ (nk.getD (k) []) ++ putM [] ((((nv.getD (k) [])).length : Int)) (2) (2) ++ (nv.getD (k) []))) _ [(68, bs (bodyR true nk nv nc (k) ++ putM [] ((((nk.getD (k) [])).length : Int)) (1) (1) ++ (nk.getD (k) []) ++ putM [] ((((nv.getD (k) [])).length : Int)) (2) (2) ++ (nv.getD (k) [])))] (seen_cons (Eq.trans (by kernel_rfl) hv14_V176_15) seen_nil) (by kernel_rfl) (VT.le.refl _) hM176_15 ((hG176_15 _ _).2 rfl)
            refine all_snoc (.inr ⟨by decide, fun S176_14 g176_14 V176_14 w176_14 F176_14 cx176_14 hM176_14 => ?_⟩) ?_
            · -- op 14
              obtain hv8_V176_14 : g176_14 62 = bs (bodyR true nk nv nc (k) ++ putM [] ((((nk.getD (k) [])).length : Int)) (1) (1) ++ (nk.getD (k) []) ++ putM [] ((((nv.getD (k) [])).length : Int)) (2) (2)) := (hG176_8 _ _).1 (cx176_14.fact 8 62 (by decide) (cx176_14.dep 8 (by kernel_rfl)) (by kernel_rfl))
              obtain ⟨hv13_V176_14, l175⟩ : g176_14 67 = bs ((nv.getD (k) [])) ∧ ((nv.getD (k) []).length ≤ 140737488355328) := (hG176_13 _ _).1 (cx176_14.fact 13 67 (by decide) (cx176_14.dep 13 (by kernel_rfl)) (by kernel_rfl))
              refine wpF_see 62 (bs (bodyR true nk nv nc (k) ++ putM [] ((((nk.getD (k) [])).length : Int)) (1) (1) ++ (nk.getD (k) []) ++ putM [] ((((nv.getD (k) [])).length : Int)) (2) (2))) (Eq.trans (by kernel_rfl) hv8_V176_14) ?_
              refine wpF_see 67 (bs ((nv.getD (k) []))) (Eq.trans (by kernel_rfl) hv13_V176_14) ?_
              refine wpF_concat (bodyR true nk nv nc (k) ++ putM [] ((((nk.getD (k) [])).length : Int)) (1) (1) ++ (nk.getD (k) []) ++ putM [] ((((nv.getD (k) [])).length : Int)) (2) (2)) ((nv.getD (k) [])) (h := (by kernel_rfl : opAt _ _ _ _ _ = some (Go.Op.binOp Go.BinOp.add 9 (Go.Operand.tmp 62) (Go.Operand.tmp 67) 9, some 68))) (by kernel_rfl) (by kernel_rfl) (by first | omega | (simp only [bodyR_eq, putM_len, List.length_append, List.length_cons, List.length_nil, List.length_replicate] at *; omega)) ?_
              refine wpF_end _ (by kernel_rfl) (then_n ?_)
              exact one_in (some 68) (by kernel_rfl) (bs (bodyR true nk nv nc (k) ++ putM [] ((((nk.getD (k) [])).length : Int)) (1) (1) ++ (nk.getD (k) []) ++ putM [] ((((nv.getD (k) [])).length : Int)) (2) (2) ++ (nv.getD (k) []))) _ [(67, bs ((nv.getD (k) []))), (62, bs (bodyR true nk nv nc (k) ++ putM [] ((((nk.getD (k) [])).length : Int)) (1) (1) ++ (nk.getD (k) []) ++ putM [] ((((nv.getD (k) [])).length : Int)) (2) (2)))] (seen_cons (Eq.trans (by kernel_rfl) hv13_V176_14) (seen_cons (Eq.trans (by kernel_rfl) hv8_V176_14) seen_nil)) (by kernel_rfl) (VT.le.refl _) hM176_14 ((hG176_14 _ _).2 rfl)
            refine all_snoc (.inr ⟨by decide, fun S176_13 g176_13 V176_13 w176_13 F176_13 cx176_13 hM176_13 => ?_⟩) ?_
            · -- op 13
              obtain ⟨b172, o173, hv12_V176_13, at_b172, l175⟩ : ∃ b172 : Nat, ∃ o173 : Nat, g176_13 66 = .pointer (some ⟨b172, o173, none⟩) ∧ (At strK V176_13 b172 o173 ((nv.getD (k) []))) ∧ ((nv.getD (k) []).length ≤ 140737488355328) := (hG176_12 _ _).1 (cx176_13.fact 12 66 (by decide) (cx176_13.dep 12 (by kernel_rfl)) (by kernel_rfl))
              have c913241 : V176_13 b172 o173 = some (bs (nv.getD (k) [])) := (At.str at_b172).1
              have l913242 : (nv.getD (k) []).length ≤ 140737488355328 := (At.str at_b172).2
              refine wpF_see 66 (.pointer (some ⟨b172, o173, none⟩)) (Eq.trans (by kernel_rfl) hv12_V176_13) ?_
              refine wpF_loadV hM176_13 c913241 (h := (by kernel_rfl : opAt _ _ _ _ _ = some (Go.Op.load 9 (Go.Operand.tmp 66), some 67))) (by kernel_rfl) (by kernel_rfl) ?_
              refine wpF_end _ (by kernel_rfl) (then_n ?_)
              exact one_in (some 67) (by kernel_rfl) (bs ((nv.getD (k) []))) _ [(66, .pointer (some ⟨b172, o173, none⟩))] (seen_cons (Eq.trans (by kernel_rfl) hv12_V176_13) seen_nil) (by kernel_rfl) (VT.le.refl _) hM176_13 ((hG176_13 _ _).2 ⟨rfl, l175⟩)
            refine all_snoc (.inr ⟨by decide, fun S176_12 g176_12 V176_12 w176_12 F176_12 cx176_12 hM176_12 => ?_⟩) ?_
            · -- op 12
              obtain hv10_V176_12 : g176_12 64 = .slice Anv (nv).length cnv := (hG176_10 _ _).1 (cx176_12.fact 10 64 (by decide) (cx176_12.dep 10 (by kernel_rfl)) (by kernel_rfl))
              obtain hv11_V176_12 : g176_12 65 = .int .i64 ((k : Int)) := (hG176_11 _ _).1 (cx176_12.fact 11 65 (by decide) (cx176_12.dep 11 (by kernel_rfl)) (by kernel_rfl))
              refine wpF_see 64 (.slice Anv (nv).length cnv) (Eq.trans (by kernel_rfl) hv10_V176_12) ?_
              refine wpF_see 65 (.int .i64 ((k : Int))) (Eq.trans (by kernel_rfl) hv11_V176_12) ?_
              refine wpF_index (A := Anv) (c := cnv) (hnv.up hM176_12.le) .i64 ((k : Int)) (h := (by kernel_rfl : opAt _ _ _ _ _ = some (Go.Op.indexAddr 22 (Go.Operand.tmp 64) (Go.Operand.tmp 65), some 66))) (e := 9) (by kernel_rfl) (by kernel_rfl) (by kernel_rfl) (k) rfl (by omega) (fun b172 o173 at_b172 => ?_)
              have c174 : V176_12 b172 o173 = some (bs (nv.getD (k) [])) := (At.str at_b172).1
              have l175 : (nv.getD (k) []).length ≤ 140737488355328 := (At.str at_b172).2
              refine wpF_end _ (by kernel_rfl) (then_n ?_)
              exact one_in (some 66) (by kernel_rfl) (.pointer (some ⟨b172, o173, none⟩)) _ [(65, .int .i64 ((k : Int))), (64, .slice Anv (nv).length cnv)] (seen_cons (Eq.trans (by kernel_rfl) hv11_V176_12) (seen_cons (Eq.trans (by kernel_rfl) hv10_V176_12) seen_nil)) (by kernel_rfl) (VT.le.refl _) hM176_12 ((hG176_12 _ _).2 ⟨b172, o173, rfl, at_b172, l175⟩)
            refine all_snoc (.inr ⟨by decide, fun S176_11 g176_11 V176_11 w176_11 F176_11 cx176_11 hM176_11 => ?_⟩) ?_
            · -- op 11
              refine wpF_seg 1 (by kernel_rfl) ?_
              refine wpF_end _ (by kernel_rfl) (then_n ?_)
              exact one_in (some 65) (by kernel_rfl) (.int .i64 ((k : Int))) _ [] seen_nil (by kernel_rfl) (VT.le.refl _) hM176_11 ((hG176_11 _ _).2 rfl)
            refine all_snoc (.inr ⟨by decide, fun S176_10 g176_10 V176_10 w176_10 F176_10 cx176_10 hM176_10 => ?_⟩) ?_
            · -- op 10
              obtain hv9_V176_10 : g176_10 63 = .pointer (some ⟨b99, 2, none⟩) := (hG176_9 _ _).1 (cx176_10.fact 9 63 (by decide) (cx176_10.dep 9 (by kernel_rfl)) (by kernel_rfl))
              refine wpF_see 63 (.pointer (some ⟨b99, 2, none⟩)) (Eq.trans (by kernel_rfl) hv9_V176_10) ?_
              refine wpF_loadB hM176_10 #[.bool (true), .slice Ank (nk).length cnk, .slice Anv (nv).length cnv, .slice Anc (nc).length cnc] (fun i v hi => (((le114.trans le127).trans hle150).trans cx176_10.le) _ _ _ (hc105 i v hi)) (h := (by kernel_rfl : opAt _ _ _ _ _ = some (Go.Op.load 22 (Go.Operand.tmp 63), some 64))) (off := 2) (by kernel_rfl) (.slice Anv (nv).length cnv) (by kernel_rfl) ?_
              refine wpF_end _ (by kernel_rfl) (then_n ?_)
              exact one_in (some 64) (by kernel_rfl) (.slice Anv (nv).length cnv) _ [(63, .pointer (some ⟨b99, 2, none⟩))] (seen_cons (Eq.trans (by kernel_rfl) hv9_V176_10) seen_nil) (by kernel_rfl) (VT.le.refl _) hM176_10 ((hG176_10 _ _).2 rfl)
            refine all_snoc (.inr ⟨by decide, fun S176_9 g176_9 V176_9 w176_9 F176_9 cx176_9 hM176_9 => ?_⟩) ?_
            · -- op 9
              refine wpF_seg 1 (by kernel_rfl) ?_
              refine wpF_end _ (by kernel_rfl) (then_n ?_)
              exact one_in (some 63) (by kernel_rfl) (.pointer (some ⟨b99, 2, none⟩)) _ [] seen_nil (by kernel_rfl) (VT.le.refl _) hM176_9 ((hG176_9 _ _).2 rfl)
            refine all_snoc (.inr ⟨by decide, fun S176_8 g176_8 V176_8 w176_8 F176_8 cx176_8 hM176_8 => ?_⟩) ?_
            · -- op 8
              obtain hv0_V176_8 : g176_8 54 = bs (bodyR true nk nv nc (k) ++ putM [] ((((nk.getD (k) [])).length : Int)) (1) (1) ++ (nk.getD (k) [])) := (hG176_0 _ _).1 (cx176_8.fact 0 54 (by decide) (cx176_8.dep 0 (by kernel_rfl)) (by kernel_rfl))
              obtain ⟨hv7_V176_8, x171⟩ : g176_8 61 = bs (putM [] ((((nv.getD (k) [])).length : Int)) (2) (2)) ∧ ((putM [] ((((nv.getD (k) [])).length : Int)) (2) (2)).length ≤ 140737488355328) := (hG176_7 _ _).1 (cx176_8.fact 7 61 (by decide) (cx176_8.dep 7 (by kernel_rfl)) (by kernel_rfl))
              refine wpF_see 54 (bs (bodyR true nk nv nc (k) ++ putM [] ((((nk.getD (k) [])).length : Int)) (1) (1) ++ (nk.getD (k) []))) (Eq.trans (by kernel_rfl) hv0_V176_8) ?_
              refine wpF_see 61 (bs (putM [] ((((nv.getD (k) [])).length : Int)) (2) (2))) (Eq.trans (by kernel_rfl) hv7_V176_8) ?_
              refine wpF_concat (bodyR true nk nv nc (k) ++ putM [] ((((nk.getD (k) [])).length : Int)) (1) (1) ++ (nk.getD (k) [])) (putM [] ((((nv.getD (k) [])).length : Int)) (2) (2)) (h := (by kernel_rfl : opAt _ _ _ _ _ = some (Go.Op.binOp Go.BinOp.add 9 (Go.Operand.tmp 54) (Go.Operand.tmp 61) 9, some 62))) (by kernel_rfl) (by kernel_rfl) (by first | omega | (simp only [bodyR_eq, putM_len, List.length_append, List.length_cons, List.length_nil, List.length_replicate] at *; omega)) ?_
              refine wpF_end _ (by kernel_rfl) (then_n ?_)
              exact one_in (some 62) (by kernel_rfl) (bs (bodyR true nk nv nc (k) ++ putM [] ((((nk.getD (k) [])).length : Int)) (1) (1) ++ (nk.getD (k) []) ++ putM [] ((((nv.getD (k) [])).length : Int)) (2) (2))) _ [(61, bs (putM [] ((((nv.getD (k) [])).length : Int)) (2) (2))), (54, bs (bodyR true nk nv nc (k) ++ putM [] ((((nk.getD (k) [])).length : Int)) (1) (1) ++ (nk.getD (k) [])))] (seen_cons (Eq.trans (by kernel_rfl) hv7_V176_8) (seen_cons (Eq.trans (by kernel_rfl) hv0_V176_8) seen_nil)) (by kernel_rfl) (VT.le.refl _) hM176_8 ((hG176_8 _ _).2 rfl)
            refine all_snoc (.inr ⟨by decide, fun S176_7 g176_7 V176_7 w176_7 F176_7 cx176_7 hM176_7 => ?_⟩) ?_
            · -- op 7
              obtain ⟨hv6_V176_7, l164⟩ : g176_7 60 = .int .i64 ((((nv.getD (k) [])).length : Int)) ∧ ((nv.getD (k) []).length ≤ 140737488355328) := (hG176_6 _ _).1 (cx176_7.fact 6 60 (by decide) (cx176_7.dep 6 (by kernel_rfl)) (by kernel_rfl))
              refine wpF_see 60 (.int .i64 ((((nv.getD (k) [])).length : Int))) (Eq.trans (by kernel_rfl) hv6_V176_7) ?_
              refine wpF_callP hM176_7 (f := 57) (caps := #[]) (h := (by kernel_rfl : opAt _ _ _ _ _ = some (Go.Op.call (Go.Call.mk (Go.Callee.value (Go.Operand.func 57)) #[(Go.Operand.tmp 60), (Go.Operand.const (Go.Value.int Go.IntKind.i64 2))] #[3, 3]), some 61))) (by kernel_rfl) (by kernel_rfl) (by kernel_rfl) (f57 _ _ hM176_7.inW ((((nv.getD (k) [])).length : Int)) (2) (by omega) (by omega) (by omega)) (fun v165 V166 w167 le168 hM169 hp170 => ?_)
              obtain ⟨rfl, x171⟩ := hp170
              have x171 : (putM [] ((((nv.getD (k) [])).length : Int)) (2) (2)).length ≤ 140737488355328 := x171
              refine wpF_end _ (by kernel_rfl) (then_n ?_)
              exact one_in (some 61) (by kernel_rfl) (bs (putM [] ((((nv.getD (k) [])).length : Int)) (2) (2))) _ [(60, .int .i64 ((((nv.getD (k) [])).length : Int)))] (seen_cons (Eq.trans (by kernel_rfl) hv6_V176_7) seen_nil) (by kernel_rfl) le168 hM169 ((hG176_7 _ _).2 ⟨rfl, x171⟩)
            refine all_snoc (.inr ⟨by decide, fun S176_6 g176_6 V176_6 w176_6 F176_6 cx176_6 hM176_6 => ?_⟩) ?_
            · -- op 6
              obtain ⟨hv5_V176_6, l164⟩ : g176_6 59 = bs ((nv.getD (k) [])) ∧ ((nv.getD (k) []).length ≤ 140737488355328) := (hG176_5 _ _).1 (cx176_6.fact 5 59 (by decide) (cx176_6.dep 5 (by kernel_rfl)) (by kernel_rfl))
              refine wpF_see 59 (bs ((nv.getD (k) []))) (Eq.trans (by kernel_rfl) hv5_V176_6) ?_
              refine wpF_seg 1 (by kernel_rfl) ?_
              refine wpF_end _ (by kernel_rfl) (then_n ?_)
              exact one_in (some 60) (by kernel_rfl) (.int .i64 ((((nv.getD (k) [])).length : Int))) _ [(59, bs ((nv.getD (k) [])))] (seen_cons (Eq.trans (by kernel_rfl) hv5_V176_6) seen_nil) (by kernel_rfl) (VT.le.refl _) hM176_6 ((hG176_6 _ _).2 ⟨rfl, l164⟩)
            refine all_snoc (.inr ⟨by decide, fun S176_5 g176_5 V176_5 w176_5 F176_5 cx176_5 hM176_5 => ?_⟩) ?_
            · -- op 5
              obtain ⟨b161, o162, hv4_V176_5, at_b161, l164⟩ : ∃ b161 : Nat, ∃ o162 : Nat, g176_5 58 = .pointer (some ⟨b161, o162, none⟩) ∧ (At strK V176_5 b161 o162 ((nv.getD (k) []))) ∧ ((nv.getD (k) []).length ≤ 140737488355328) := (hG176_4 _ _).1 (cx176_5.fact 4 58 (by decide) (cx176_5.dep 4 (by kernel_rfl)) (by kernel_rfl))
              have c905081 : V176_5 b161 o162 = some (bs (nv.getD (k) [])) := (At.str at_b161).1
              have l905082 : (nv.getD (k) []).length ≤ 140737488355328 := (At.str at_b161).2
              refine wpF_see 58 (.pointer (some ⟨b161, o162, none⟩)) (Eq.trans (by kernel_rfl) hv4_V176_5) ?_
              refine wpF_loadV hM176_5 c905081 (h := (by kernel_rfl : opAt _ _ _ _ _ = some (Go.Op.load 9 (Go.Operand.tmp 58), some 59))) (by kernel_rfl) (by kernel_rfl) ?_
              refine wpF_end _ (by kernel_rfl) (then_n ?_)
              exact one_in (some 59) (by kernel_rfl) (bs ((nv.getD (k) []))) _ [(58, .pointer (some ⟨b161, o162, none⟩))] (seen_cons (Eq.trans (by kernel_rfl) hv4_V176_5) seen_nil) (by kernel_rfl) (VT.le.refl _) hM176_5 ((hG176_5 _ _).2 ⟨rfl, l164⟩)
            refine all_snoc (.inr ⟨by decide, fun S176_4 g176_4 V176_4 w176_4 F176_4 cx176_4 hM176_4 => ?_⟩) ?_
            · -- op 4
              obtain hv2_V176_4 : g176_4 56 = .slice Anv (nv).length cnv := (hG176_2 _ _).1 (cx176_4.fact 2 56 (by decide) (cx176_4.dep 2 (by kernel_rfl)) (by kernel_rfl))
              obtain hv3_V176_4 : g176_4 57 = .int .i64 ((k : Int)) := (hG176_3 _ _).1 (cx176_4.fact 3 57 (by decide) (cx176_4.dep 3 (by kernel_rfl)) (by kernel_rfl))
              refine wpF_see 56 (.slice Anv (nv).length cnv) (Eq.trans (by kernel_rfl) hv2_V176_4) ?_
              refine wpF_see 57 (.int .i64 ((k : Int))) (Eq.trans (by kernel_rfl) hv3_V176_4) ?_
              refine wpF_index (A := Anv) (c := cnv) (hnv.up hM176_4.le) .i64 ((k : Int)) (h := (by kernel_rfl : opAt _ _ _ _ _ = some (Go.Op.indexAddr 22 (Go.Operand.tmp 56) (Go.Operand.tmp 57), some 58))) (e := 9) (by kernel_rfl) (by kernel_rfl) (by kernel_rfl) (k) rfl (by omega) (fun b161 o162 at_b161 => ?_)
              have c163 : V176_4 b161 o162 = some (bs (nv.getD (k) [])) := (At.str at_b161).1
              have l164 : (nv.getD (k) []).length ≤ 140737488355328 := (At.str at_b161).2
              refine wpF_end _ (by kernel_rfl) (then_n ?_)
              exact one_in (some 58) (by kernel_rfl) (.pointer (some ⟨b161, o162, none⟩)) _ [(57, .int .i64 ((k : Int))), (56, .slice Anv (nv).length cnv)] (seen_cons (Eq.trans (by kernel_rfl) hv3_V176_4) (seen_cons (Eq.trans (by kernel_rfl) hv2_V176_4) seen_nil)) (by kernel_rfl) (VT.le.refl _) hM176_4 ((hG176_4 _ _).2 ⟨b161, o162, rfl, at_b161, l164⟩)
            refine all_snoc (.inr ⟨by decide, fun S176_3 g176_3 V176_3 w176_3 F176_3 cx176_3 hM176_3 => ?_⟩) ?_
            · -- op 3
              refine wpF_seg 1 (by kernel_rfl) ?_
              refine wpF_end _ (by kernel_rfl) (then_n ?_)
              exact one_in (some 57) (by kernel_rfl) (.int .i64 ((k : Int))) _ [] seen_nil (by kernel_rfl) (VT.le.refl _) hM176_3 ((hG176_3 _ _).2 rfl)
            refine all_snoc (.inr ⟨by decide, fun S176_2 g176_2 V176_2 w176_2 F176_2 cx176_2 hM176_2 => ?_⟩) ?_
            · -- op 2
              obtain hv1_V176_2 : g176_2 55 = .pointer (some ⟨b99, 2, none⟩) := (hG176_1 _ _).1 (cx176_2.fact 1 55 (by decide) (cx176_2.dep 1 (by kernel_rfl)) (by kernel_rfl))
              refine wpF_see 55 (.pointer (some ⟨b99, 2, none⟩)) (Eq.trans (by kernel_rfl) hv1_V176_2) ?_
              refine wpF_loadB hM176_2 #[.bool (true), .slice Ank (nk).length cnk, .slice Anv (nv).length cnv, .slice Anc (nc).length cnc] (fun i v hi => (((le114.trans le127).trans hle150).trans cx176_2.le) _ _ _ (hc105 i v hi)) (h := (by kernel_rfl : opAt _ _ _ _ _ = some (Go.Op.load 22 (Go.Operand.tmp 55), some 56))) (off := 2) (by kernel_rfl) (.slice Anv (nv).length cnv) (by kernel_rfl) ?_
              refine wpF_end _ (by kernel_rfl) (then_n ?_)
              exact one_in (some 56) (by kernel_rfl) (.slice Anv (nv).length cnv) _ [(55, .pointer (some ⟨b99, 2, none⟩))] (seen_cons (Eq.trans (by kernel_rfl) hv1_V176_2) seen_nil) (by kernel_rfl) (VT.le.refl _) hM176_2 ((hG176_2 _ _).2 rfl)
            refine all_snoc (.inr ⟨by decide, fun S176_1 g176_1 V176_1 w176_1 F176_1 cx176_1 hM176_1 => ?_⟩) ?_
            · -- op 1
              refine wpF_seg 1 (by kernel_rfl) ?_
              refine wpF_end _ (by kernel_rfl) (then_n ?_)
              exact one_in (some 55) (by kernel_rfl) (.pointer (some ⟨b99, 2, none⟩)) _ [] seen_nil (by kernel_rfl) (VT.le.refl _) hM176_1 ((hG176_1 _ _).2 rfl)
            refine all_snoc (.inr ⟨by decide, fun S176_0 g176_0 V176_0 w176_0 F176_0 cx176_0 hM176_0 => ?_⟩) ?_
            · -- op 0
              have hp3_176_0 : g176_0 3 = bs (bodyR true nk nv nc (k) ++ putM [] ((((nk.getD (k) [])).length : Int)) (1) (1) ++ (nk.getD (k) [])) := cx176_0.pre 3 _ 15 (List.Mem.head _) (cx176_0.notyet (c := 15) (fun hq_ => (cx176_0.cl 15 0 (by decide) hq_ (by kernel_rfl))))
              refine wpF_see 3 (bs (bodyR true nk nv nc (k) ++ putM [] ((((nk.getD (k) [])).length : Int)) (1) (1) ++ (nk.getD (k) []))) (Eq.trans (by kernel_rfl) hp3_176_0) ?_
              refine wpF_seg 1 (by kernel_rfl) ?_
              refine wpF_end _ (by kernel_rfl) (then_n ?_)
              exact one_in (some 54) (by kernel_rfl) (bs (bodyR true nk nv nc (k) ++ putM [] ((((nk.getD (k) [])).length : Int)) (1) (1) ++ (nk.getD (k) []))) _ [(3, bs (bodyR true nk nv nc (k) ++ putM [] ((((nk.getD (k) [])).length : Int)) (1) (1) ++ (nk.getD (k) [])))] (seen_cons (Eq.trans (by kernel_rfl) hp3_176_0) seen_nil) (by kernel_rfl) (VT.le.refl _) hM176_0 ((hG176_0 _ _).2 rfl)
            exact all_none
          · -- behind it
            intro ge176 Ve176 we176 hMe176 hle176 hf176
            refine wpF_stop (P := Try.prog) (ops := #[]) (i := 0) _ rfl ?_
            obtain hv15_Ve176 : ge176 3 = bs (bodyR true nk nv nc (k) ++ putM [] ((((nk.getD (k) [])).length : Int)) (1) (1) ++ (nk.getD (k) []) ++ putM [] ((((nv.getD (k) [])).length : Int)) (2) (2) ++ (nv.getD (k) [])) := (hG176_15 _ _).1 (hf176 15 3 (by decide) (by kernel_rfl))
            obtain hv0_Ve176 : ge176 54 = bs (bodyR true nk nv nc (k) ++ putM [] ((((nk.getD (k) [])).length : Int)) (1) (1) ++ (nk.getD (k) [])) := (hG176_0 _ _).1 (hf176 0 54 (by decide) (by kernel_rfl))
            obtain hv1_Ve176 : ge176 55 = .pointer (some ⟨b99, 2, none⟩) := (hG176_1 _ _).1 (hf176 1 55 (by decide) (by kernel_rfl))
            obtain hv2_Ve176 : ge176 56 = .slice Anv (nv).length cnv := (hG176_2 _ _).1 (hf176 2 56 (by decide) (by kernel_rfl))
            obtain hv3_Ve176 : ge176 57 = .int .i64 ((k : Int)) := (hG176_3 _ _).1 (hf176 3 57 (by decide) (by kernel_rfl))
            obtain ⟨b161, o162, hv4_Ve176, at_b161, l164⟩ : ∃ b161 : Nat, ∃ o162 : Nat, ge176 58 = .pointer (some ⟨b161, o162, none⟩) ∧ (At strK Ve176 b161 o162 ((nv.getD (k) []))) ∧ ((nv.getD (k) []).length ≤ 140737488355328) := (hG176_4 _ _).1 (hf176 4 58 (by decide) (by kernel_rfl))
            have c178 : Ve176 b161 o162 = some (bs (nv.getD (k) [])) := (At.str at_b161).1
            have l179 : (nv.getD (k) []).length ≤ 140737488355328 := (At.str at_b161).2
            obtain ⟨hv5_Ve176, l164⟩ : ge176 59 = bs ((nv.getD (k) [])) ∧ ((nv.getD (k) []).length ≤ 140737488355328) := (hG176_5 _ _).1 (hf176 5 59 (by decide) (by kernel_rfl))
            obtain ⟨hv6_Ve176, l164⟩ : ge176 60 = .int .i64 ((((nv.getD (k) [])).length : Int)) ∧ ((nv.getD (k) []).length ≤ 140737488355328) := (hG176_6 _ _).1 (hf176 6 60 (by decide) (by kernel_rfl))
            obtain ⟨hv7_Ve176, x171⟩ : ge176 61 = bs (putM [] ((((nv.getD (k) [])).length : Int)) (2) (2)) ∧ ((putM [] ((((nv.getD (k) [])).length : Int)) (2) (2)).length ≤ 140737488355328) := (hG176_7 _ _).1 (hf176 7 61 (by decide) (by kernel_rfl))
            obtain hv8_Ve176 : ge176 62 = bs (bodyR true nk nv nc (k) ++ putM [] ((((nk.getD (k) [])).length : Int)) (1) (1) ++ (nk.getD (k) []) ++ putM [] ((((nv.getD (k) [])).length : Int)) (2) (2)) := (hG176_8 _ _).1 (hf176 8 62 (by decide) (by kernel_rfl))
            obtain hv9_Ve176 : ge176 63 = .pointer (some ⟨b99, 2, none⟩) := (hG176_9 _ _).1 (hf176 9 63 (by decide) (by kernel_rfl))
            obtain hv10_Ve176 : ge176 64 = .slice Anv (nv).length cnv := (hG176_10 _ _).1 (hf176 10 64 (by decide) (by kernel_rfl))
            obtain hv11_Ve176 : ge176 65 = .int .i64 ((k : Int)) := (hG176_11 _ _).1 (hf176 11 65 (by decide) (by kernel_rfl))
            obtain ⟨b172, o173, hv12_Ve176, at_b172, l175⟩ : ∃ b172 : Nat, ∃ o173 : Nat, ge176 66 = .pointer (some ⟨b172, o173, none⟩) ∧ (At strK Ve176 b172 o173 ((nv.getD (k) []))) ∧ ((nv.getD (k) []).length ≤ 140737488355328) := (hG176_12 _ _).1 (hf176 12 66 (by decide) (by kernel_rfl))
            have c180 : Ve176 b172 o173 = some (bs (nv.getD (k) [])) := (At.str at_b172).1
            have l181 : (nv.getD (k) []).length ≤ 140737488355328 := (At.str at_b172).2
            obtain ⟨hv13_Ve176, l175⟩ : ge176 67 = bs ((nv.getD (k) [])) ∧ ((nv.getD (k) []).length ≤ 140737488355328) := (hG176_13 _ _).1 (hf176 13 67 (by decide) (by kernel_rfl))
            obtain hv14_Ve176 : ge176 68 = bs (bodyR true nk nv nc (k) ++ putM [] ((((nk.getD (k) [])).length : Int)) (1) (1) ++ (nk.getD (k) []) ++ putM [] ((((nv.getD (k) [])).length : Int)) (2) (2) ++ (nv.getD (k) [])) := (hG176_14 _ _).1 (hf176 14 68 (by decide) (by kernel_rfl))
            refine wpF_see 3 (bs (bodyR true nk nv nc (k) ++ putM [] ((((nk.getD (k) [])).length : Int)) (1) (1) ++ (nk.getD (k) []) ++ putM [] ((((nv.getD (k) [])).length : Int)) (2) (2) ++ (nv.getD (k) []))) (Eq.trans (by kernel_rfl) hv15_Ve176) ?_
            refine wpF_see 54 (bs (bodyR true nk nv nc (k) ++ putM [] ((((nk.getD (k) [])).length : Int)) (1) (1) ++ (nk.getD (k) []))) (Eq.trans (by kernel_rfl) hv0_Ve176) ?_
            refine wpF_see 55 (.pointer (some ⟨b99, 2, none⟩)) (Eq.trans (by kernel_rfl) hv1_Ve176) ?_
            refine wpF_see 56 (.slice Anv (nv).length cnv) (Eq.trans (by kernel_rfl) hv2_Ve176) ?_
            refine wpF_see 57 (.int .i64 ((k : Int))) (Eq.trans (by kernel_rfl) hv3_Ve176) ?_
            refine wpF_see 58 (.pointer (some ⟨b161, o162, none⟩)) (Eq.trans (by kernel_rfl) hv4_Ve176) ?_
            refine wpF_see 59 (bs ((nv.getD (k) []))) (Eq.trans (by kernel_rfl) hv5_Ve176) ?_
            refine wpF_see 60 (.int .i64 ((((nv.getD (k) [])).length : Int))) (Eq.trans (by kernel_rfl) hv6_Ve176) ?_
            refine wpF_see 61 (bs (putM [] ((((nv.getD (k) [])).length : Int)) (2) (2))) (Eq.trans (by kernel_rfl) hv7_Ve176) ?_
            refine wpF_see 62 (bs (bodyR true nk nv nc (k) ++ putM [] ((((nk.getD (k) [])).length : Int)) (1) (1) ++ (nk.getD (k) []) ++ putM [] ((((nv.getD (k) [])).length : Int)) (2) (2))) (Eq.trans (by kernel_rfl) hv8_Ve176) ?_
            refine wpF_see 63 (.pointer (some ⟨b99, 2, none⟩)) (Eq.trans (by kernel_rfl) hv9_Ve176) ?_
            refine wpF_see 64 (.slice Anv (nv).length cnv) (Eq.trans (by kernel_rfl) hv10_Ve176) ?_
            refine wpF_see 65 (.int .i64 ((k : Int))) (Eq.trans (by kernel_rfl) hv11_Ve176) ?_
            refine wpF_see 66 (.pointer (some ⟨b172, o173, none⟩)) (Eq.trans (by kernel_rfl) hv12_Ve176) ?_
            refine wpF_see 67 (bs ((nv.getD (k) []))) (Eq.trans (by kernel_rfl) hv13_Ve176) ?_
            refine wpF_see 68 (bs (bodyR true nk nv nc (k) ++ putM [] ((((nk.getD (k) [])).length : Int)) (1) (1) ++ (nk.getD (k) []) ++ putM [] ((((nv.getD (k) [])).length : Int)) (2) (2) ++ (nv.getD (k) []))) (Eq.trans (by kernel_rfl) hv14_Ve176) ?_
            refine wpF_end _ (by kernel_rfl) (then_n (hK157 _ _ ?_))
            refine wp_seq_k (fun K183 hK183 => ?_)
            refine wp_reg ?_
            refine wpF_seg 1 (by kernel_rfl) ?_
            refine wpF_loadB hMe176 #[.bool (true), .slice Ank (nk).length cnk, .slice Anv (nv).length cnv, .slice Anc (nc).length cnc] (fun i v hi => (((le114.trans le127).trans hle150).trans hle176) _ _ _ (hc105 i v hi)) (h := (by kernel_rfl : opAt _ _ _ _ _ = some (Go.Op.load 4 (Go.Operand.tmp 69), some 70))) (off := 0) (by kernel_rfl) (.bool (true)) (by kernel_rfl) ?_
            refine wpF_seg 9 (by kernel_rfl) ?_
            refine wpF_end _ (by kernel_rfl) (then_n (hK183 _ _ ?_))
            refine wp_cf (by kernel_rfl) ?_
            refine wp_skip (blk_n (then_n (hK133 _ _ ?_)))
            refine wp_reg ?_
            refine wpF_seg 1 (by kernel_rfl) ?_
            refine wpF_add .i64 ((k : Int)) (1) ((k : Int) + 1) (h := (by kernel_rfl : opAt _ _ _ _ _ = some (Go.Op.binOp Go.BinOp.add 3 (Go.Operand.tmp 28) (Go.Operand.const (Go.Value.int Go.IntKind.i64 1)) 3, some 29))) (by kernel_rfl) (by kernel_rfl) (wrap64_ok _ (by omega)) ?_
            refine wpF_seg 1 (by kernel_rfl) ?_
            refine wpF_base [(1, .pointer (some ⟨b99, 0, none⟩)), (2, bs ([])), (3, bs (bodyR true nk nv nc (k + 1))), (4, .int .i64 ((k + 1 : Int)))] (by kernel_rfl) (fun g184 => ?_)
            refine wpF_end _ (by kernel_rfl) (then_n (hK128 _ _ (k + 1) (by omega) ?_))
            refine ⟨g184, Ve176, rfl, hMe176, ((le127.trans hle150).trans hle176), ?_, ?_⟩
            · -- TLtt inv 0
              omega
            · -- TLtt inv 1
              (simp only [bodyR, cond_true, cond_false, putM_len, List.length_append, List.length_nil]; omega)
        · -- TLtf
          have p185 : ¬ (((k : Int)) < ((nv.length : Int))) := of_decide_eq_false h159
          exfalso; omega
    · -- TLf
      have p186 : ¬ (((k : Int)) < ((nk.length : Int))) := of_decide_eq_false h131
      refine wp_exit (then_x (then_x (blk_hit (then_n (hK120 _ _ ?_)))))
      obtain rfl : k = nk.length := by omega
      refine wp_seq_k (fun K187 hK187 => ?_)
      refine wp_reg ?_
      refine wpF_seg 3 (by kernel_rfl) ?_
      refine wpF_sub .i64 (1024) (((bodyR true nk nv nc ((nk.length))).length : Int)) (((1024 - (bodyR true nk nv nc nk.length).length : Nat) : Int)) (h := (by kernel_rfl : opAt _ _ _ _ _ = some (Go.Op.binOp Go.BinOp.sub 3 (Go.Operand.const (Go.Value.int Go.IntKind.i64 1024)) (Go.Operand.tmp 91) 3, some 92))) (by kernel_rfl) (by kernel_rfl) (by rw [wrap64_ok _ (by simp only [bodyR_eq]; omega)]; simp only [bodyR_eq]; omega) ?_
      refine wpF_mkSlice (K := byteK) (e := 5) (by_ := 1) (m := (1024 - (bodyR true nk nv nc nk.length).length)) (z := .int .u8 0) hM126 (h := (by kernel_rfl : opAt _ _ _ _ _ = some (Go.Op.makeSlice 28 (Go.Operand.tmp 92) (Go.Operand.tmp 92), some 93))) (by kernel_rfl) (by kernel_rfl) (by kernel_rfl) rfl (by kernel_rfl) (by kernel_rfl) rfl (by kernel_rfl) 0 (fun _ => Reps.one_byte) (by omega) (fun A188 c189 V190 w191 le192 hM193 r194 => ?_)
      refine wpF_toStr hM193 (A := A188) (c := c189) r194 (h := (by kernel_rfl : opAt _ _ _ _ _ = some (Go.Op.convert 28 9 (Go.Operand.tmp 93), some 94))) (e := 5) (by kernel_rfl) (by kernel_rfl) (by kernel_rfl) ?_
      refine wpF_concat (bodyR true nk nv nc ((nk.length))) (List.replicate ((1024 - (bodyR true nk nv nc nk.length).length)) 0) (h := (by kernel_rfl : opAt _ _ _ _ _ = some (Go.Op.binOp Go.BinOp.add 9 (Go.Operand.tmp 89) (Go.Operand.tmp 94) 9, some 95))) (by kernel_rfl) (by kernel_rfl) (by first | omega | (simp only [bodyR_eq, putM_len, List.length_append, List.length_cons, List.length_nil, List.length_replicate] at *; omega)) ?_
      refine wpF_seg 1 (by kernel_rfl) ?_
      refine wpF_end _ (by kernel_rfl) (then_n (hK187 _ _ ?_))
      refine wp_ret ?_
      refine retN [bs (bodyR true nk nv nc ((nk.length)) ++ List.replicate ((1024 - (bodyR true nk nv nc nk.length).length)) 0)] (bs (bodyR true nk nv nc ((nk.length)) ++ List.replicate ((1024 - (bodyR true nk nv nc nk.length).length)) 0)) Try.results33 (.tmp (by kernel_rfl) (by kernel_rfl) .nil) (by kernel_rfl) (hRet _ _ ⟨_, _, rfl, hM193.clear, ?_⟩)
      -- end TLf
      refine ⟨?_, ?_⟩
      · (simp only [pageM, bodyR_eq])
      · (simp only [pageM, List.length_append, List.length_replicate]; omega)

end Go.Vk
