/- Contracts of the page's functions, part L: printed by wip/tools/p8.py. -/
import Derived.Test.YtpaljghjoajhfaaRPlain
set_option linter.unusedVariables false
set_option linter.unusedSimpArgs false
namespace Go.Vk
open Go.Proofs
set_option maxHeartbeats 4000000 in
set_option maxRecDepth 100000 in
theorem f57 (V : VT) (w : World) (hV : V.inW w) (n : Int) (wd : Nat) (h0 : 0 ≤ n) (h1 : n ≤ 4294967295) (hw : wd ≤ 8) :
    Calls Try.prog 57 #[.int .i64 (n), .int .i64 ((wd : Int))] w (RetP V w fun rv V' => rv = bs (putM [] n wd wd) ∧ (putM [] n wd wd).length ≤ maxL) := by
  refine calls_env (n := 27) Try.func57 (c := _) rfl Try.ntmps57 (by kernel_rfl) (fun R hRet => ?_)
  have hM0 : Step V w [] V w [] := Step.refl (St.nilE hV)
  refine wp_seq_k (fun K1 hK1 => ?_)
  refine wp_reg ?_
  refine wpF_seg 1 (by kernel_rfl) ?_
  refine wpF_end _ (by kernel_rfl) (then_n (hK1 _ _ ?_))
  refine wp_seq_k (fun K2 hK2 => ?_)
  refine wp_reg ?_
  refine wpF_seg 1 (by kernel_rfl) ?_
  refine gF hM0 (.convert 3 86 (.tmp 8)) (some 9) (by kernel_rfl) (Y_conv .i64 .i64 .u64 (n) (n) (by kernel_rfl) (by kernel_rfl) (by kernel_rfl) (wrapu64_ok _ (by omega))) ?_
  refine wpF_seg 1 (by kernel_rfl) ?_
  refine wpF_end _ (by kernel_rfl) (then_n (hK2 _ _ ?_))
  refine wp_seq_k (fun K3 hK3 => ?_)
  refine wp_reg ?_
  refine wpF_seg 1 (by kernel_rfl) ?_
  refine wpF_end _ (by kernel_rfl) (then_n (hK3 _ _ ?_))
  refine wp_seq_k (fun K4 hK4 => ?_)
  refine wp_seq_k (fun K5 hK5 => ?_)
  refine wp_reg ?_
  refine wpF_seg 1 (by kernel_rfl) ?_
  refine gF hM0 (.binOp .sub 3 (.tmp 10) (.const (.int .i64 1)) 3) (some 11) (by kernel_rfl) (Y_sub .i64 ((wd : Int)) (1) ((wd : Int) - 1) (by kernel_rfl) (by kernel_rfl) (wrap64_ok _ (by omega))) ?_
  refine wpF_seg 1 (by kernel_rfl) ?_
  refine wpF_end _ (by kernel_rfl) (then_n (hK5 _ _ ?_))
  refine wp_block ?_
  have hM7 := hM0.nilrow byteK 5
  have hM8 : Step V w [] V _ ([.row byteK 5 none 0 (([] : List UInt8))]) := hM7
  refine wp_base [(4, bs ([])), (5, .int .u64 (n)), (6, .slice none (putM [] n wd (0)).length 0), (7, .int .i64 (((wd : Int) - 1)))] (by kernel_rfl) (fun g9 => ?_)
  refine wp_loopX (fun (x_ : Nat × Int) a_ w_ => ∃ (g : Nat → Value) (V_ : VT), ∃ (Ar6 : Option Addr) (cr6 : Nat), a_ = env 27 [(4, bs ([])), (5, .int .u64 (n)), (6, .slice Ar6 (putM [] n wd (x_.1)).length cr6), (7, .int .i64 (x_.2))] g ∧ Step V w [] V_ w_ [.row byteK 5 Ar6 cr6 (putM [] n wd (x_.1))] ∧ VT.le V V_ ∧ (x_.2 = (wd : Int) - 1 - (x_.1 : Int)) ∧ (x_.1 ≤ wd)) (fun (x_ : Nat × Int) => wd - x_.1) ((0 : Nat), (((wd : Int) - 1) : Int)) ⟨g9, V, none, 0, rfl, hM8, VT.le.refl _, by omega, by omega⟩ ?_
  rintro ⟨k, i⟩ a_ w11 ⟨g10, Vl6, Ar_146, cr_146, rfl, hM12, le13, hi14_0, hi14_1⟩ K14 hK14
  refine wp_seq_k (fun K15 hK15 => ?_)
  refine wp_seq_k (fun K16 hK16 => ?_)
  refine wp_reg ?_
  refine wpF_seg 2 (by kernel_rfl) ?_
  refine wpF_end _ (by kernel_rfl) (then_n (hK16 _ _ ?_))
  refine wp_if (decide ((0) ≤ (i))) (by kernel_rfl) (fun h17 => ?_) (fun h17 => ?_)
  · -- Lt
    have p18 : ((0) ≤ (i)) := of_decide_eq_true h17
    refine wp_skip (then_n (hK15 _ _ ?_))
    refine wp_seq_k (fun K19 hK19 => ?_)
    refine wp_block ?_
    refine wp_reg ?_
    refine wpF_seg 3 (by kernel_rfl) ?_
    refine gF hM12 (.convert 3 83 (.tmp 18)) (some 19) (by kernel_rfl) (Y_conv .i64 .i64 .u64 (i) (i) (by kernel_rfl) (by kernel_rfl) (by kernel_rfl) (wrapu64_ok _ (by omega))) ?_
    refine gF hM12 (.binOp .mul 83 (.const (.int .u64 8)) (.tmp 19) 83) (some 20) (by kernel_rfl) (Y_mul .u64 (8) (i) (8 * i) (by kernel_rfl) (by kernel_rfl) (wrapu64_ok _ (by omega))) ?_
    refine gF hM12 (.binOp .shr 86 (.tmp 17) (.tmp 20) 83) (some 21) (by kernel_rfl) (Y_shr .u64 .u64 (n) (8 * i) (n / 2 ^ (8 * (wd - 1 - k))) (by kernel_rfl) (by kernel_rfl) (by omega) (shr_eq (by omega) (by omega))) ?_
    refine gF hM12 (.convert 86 5 (.tmp 21)) (some 22) (by kernel_rfl) (Y_conv .u64 .u64 .u8 (n / 2 ^ (8 * (wd - 1 - k))) (((byt n (wd - 1 - k)).toNat : Int)) (by kernel_rfl) (by kernel_rfl) (by kernel_rfl) (byt_wrap (by omega))) ?_
    refine wpF_litR byteK hM12 #[.int .u8 (((byt n (wd - 1 - k)).toNat : Int))] (h := (by kernel_rfl : opAt _ _ _ _ _ = some (.buildSlice 28 1 #[(0, (.tmp 22))], some 23))) (e := 5) (by kernel_rfl) ([(byt n (wd - 1 - k))]) Reps.one_byte rfl (by simp [maxL]) (fun A20 c21 V24 w22 le25 hM23 r26 => ?_)
    refine wpF_append (by_ := 1) hM23 0 rfl (h := (by kernel_rfl : opAt _ _ _ _ _ = some (.call (.mk (.builtin .append) #[(.tmp 16), (.tmp 23)] #[28, 28]), some 24))) (by kernel_rfl) (by kernel_rfl) (by kernel_rfl) (by kernel_rfl) (by kernel_rfl) (by kernel_rfl) (by kernel_rfl) (Src.rd r26) (by simp only [putM_len, List.length_cons, List.length_nil]; omega) (fun A27 c28 w29 hM30 => ?_)
    have hM31 : Step V w [] V24 _ ([.row byteK 5 A27 c28 (putM [] n wd (k) ++ [(byt n (wd - 1 - k))])]) := hM30
    refine wpF_seg 1 (by kernel_rfl) ?_
    refine wpF_end _ (by kernel_rfl) (blk_n (then_n (hK19 _ _ ?_)))
    refine wp_reg ?_
    refine wpF_seg 1 (by kernel_rfl) ?_
    refine gF hM31 (.binOp .sub 3 (.tmp 14) (.const (.int .i64 1)) 3) (some 15) (by kernel_rfl) (Y_sub .i64 (i) (1) (i - 1) (by kernel_rfl) (by kernel_rfl) (wrap64_ok _ (by omega))) ?_
    refine wpF_seg 1 (by kernel_rfl) ?_
    refine wpF_base [(4, bs ([])), (5, .int .u64 (n)), (6, .slice A27 (putM [] n wd (k + 1)).length c28), (7, .int .i64 (i - 1))] (by kernel_rfl) (fun g32 => ?_)
    refine wpF_end _ (by kernel_rfl) (then_n (hK14 _ _ (k + 1, i - 1) (by omega) ?_))
    refine ⟨g32, V24, A27, c28, rfl, hM31, hM31.le, ?_, ?_⟩
    · -- Lt inv 0
      omega
    · -- Lt inv 1
      omega
  · -- Lf
    have p33 : ¬ ((0) ≤ (i)) := of_decide_eq_false h17
    refine wp_exit (then_x (then_x (blk_hit (then_n (hK4 _ _ ?_)))))
    refine wp_seq_k (fun K34 hK34 => ?_)
    refine wp_reg ?_
    refine wpF_seg 1 (by kernel_rfl) ?_
    obtain ⟨V35, le36, hM37, r38⟩ := hM12.settleRow 0 rfl
    have hM39 : Step V w [] V35 _ ([]) := hM37
    refine gF hM39 (.convert 28 9 (.tmp 25)) (some 26) (by kernel_rfl) (Y_toStr (A := Ar_146) (c := cr_146) r38 (e := 5) (by kernel_rfl) (by kernel_rfl) (by kernel_rfl)) ?_
    refine wpF_seg 1 (by kernel_rfl) ?_
    refine wpF_end _ (by kernel_rfl) (then_n (hK34 _ _ ?_))
    refine wp_ret ?_
    refine retN [bs (putM [] n wd (k))] (bs (putM [] n wd (k))) Try.results57 (.tmp (by kernel_rfl) (by kernel_rfl) .nil) (by kernel_rfl) (hRet _ _ ⟨_, _, rfl, hM39.clear, ?_⟩)
    -- end Lf
    refine ⟨?_, ?_⟩
    · (obtain rfl : k = wd := by omega); rfl
    · (simp only [putM_len, List.length_nil, maxL]; omega)

set_option maxHeartbeats 4000000 in
set_option maxRecDepth 100000 in
theorem f33 (V : VT) (w : World) (hV : V.inW w) (nl : Bool) (Ank : Option Addr) (cnk : Nat) (nk : List Str) (hnk : Rd strK V Ank cnk nk) (Anv : Option Addr) (cnv : Nat) (nv : List Str) (hnv : Rd strK V Anv cnv nv) (Anc : Option Addr) (cnc : Nat) (nc : List Int) (hnc : Rd (intK .i64) V Anc cnc nc) (hs : stands nl nk nv nc = true) (hz : sizeM nl nk nv ≤ 1024) (hk4 : nk.length ≤ 4096) :
    Calls Try.prog 33 #[.agg #[.bool (nl), .slice Ank (nk).length cnk, .slice Anv (nv).length cnv, .slice Anc (nc).length cnc]] w (RetP V w fun rv V' => rv = bs (pageM nl nk nv nc) ∧ (pageM nl nk nv nc).length = 1024) := by
  have mxnk : nk.length ≤ 140737488355328 := hnk.max
  have mxnv : nv.length ≤ 140737488355328 := hnv.max
  have mxnc : nc.length ≤ 140737488355328 := hnc.max
  refine calls_env (n := 96) Try.func33 (c := _) rfl Try.ntmps33 (by kernel_rfl) (fun R hRet => ?_)
  have hM0 : Step V w [] V w [] := Step.refl (St.nilE hV)
  cases nl with
  | false =>
    have hbs := body_size hs
    have hl := stands_kids hs
    have hk0 := hl.2.2 0 (by omega)
    refine wp_seq_k (fun K1 hK1 => ?_)
    refine wp_reg ?_
    refine wpF_box hM0 #[.bool (false), .slice Ank (nk).length cnk, .slice Anv (nv).length cnv, .slice Anc (nc).length cnc] (h := (by kernel_rfl : opAt _ _ _ _ _ = some (.box 25 (.tmp 0), some 1))) (by kernel_rfl) (fun b2 w3 hM4 => ?_)
    obtain ⟨V5, le6, hM7, hc8⟩ := hM4.settle 0 rfl
    have hM9 : Step V w [] V5 _ ([]) := hM7
    refine wpF_seg 1 (by kernel_rfl) ?_
    refine wpF_end _ (by kernel_rfl) (then_n (hK1 _ _ ?_))
    refine wp_seq_k (fun K10 hK10 => ?_)
    refine wp_reg ?_
    refine wpF_seg 1 (by kernel_rfl) ?_
    refine wpF_end _ (by kernel_rfl) (then_n (hK10 _ _ ?_))
    refine wp_seq_k (fun K11 hK11 => ?_)
    refine wp_seq_k (fun K12 hK12 => ?_)
    refine wp_reg ?_
    refine wpF_seg 1 (by kernel_rfl) ?_
    refine gF hM9 (.load 4 (.tmp 5)) (some 6) (by kernel_rfl) (Y_loadB #[.bool (false), .slice Ank (nk).length cnk, .slice Anv (nv).length cnv, .slice Anc (nc).length cnc] hc8 (off := 0) (by kernel_rfl) (.bool (false)) (by kernel_rfl)) ?_
    refine wpF_end _ (by kernel_rfl) (then_n (hK12 _ _ ?_))
    refine wp_cf (by kernel_rfl) ?_
    refine wp_skip (then_n (hK11 _ _ ?_))
    refine wp_seq_k (fun K13 hK13 => ?_)
    refine wp_reg ?_
    refine wpF_seg 2 (by kernel_rfl) ?_
    refine gF hM9 (.load 22 (.tmp 8)) (some 9) (by kernel_rfl) (Y_loadB #[.bool (false), .slice Ank (nk).length cnk, .slice Anv (nv).length cnv, .slice Anc (nc).length cnc] hc8 (off := 1) (by kernel_rfl) (.slice Ank (nk).length cnk) (by kernel_rfl)) ?_
    refine wpF_seg 1 (by kernel_rfl) ?_
    refine wpF_callP hM9 (f := 57) (caps := #[]) (h := (by kernel_rfl : opAt _ _ _ _ _ = some (.call (.mk (.value (.func 57)) #[(.tmp 10), (.const (.int .i64 2))] #[3, 3]), some 11))) (by kernel_rfl) (by kernel_rfl) (by kernel_rfl) (f57 _ _ hM9.inW ((nk.length : Int)) (2) (by omega) (by omega) (by omega)) (fun v14 V15 w16 le17 hM18 hp19 => ?_)
    obtain ⟨rfl, x20⟩ := hp19
    have x20 : (putM [] ((nk.length : Int)) (2) (2)).length ≤ 140737488355328 := x20
    refine gF hM18 (.binOp .add 9 (.tmp 7) (.tmp 11) 9) (some 12) (by kernel_rfl) (Y_concat (([73] : Str)) (putM [] ((nk.length : Int)) (2) (2)) (by kernel_rfl) (by kernel_rfl) (by first | omega | (simp only [bodyR_eq, putM_len, List.length_append, List.length_cons, List.length_nil, List.length_replicate] at *; omega))) ?_
    refine wpF_seg 1 (by kernel_rfl) ?_
    refine wpF_end _ (by kernel_rfl) (then_n (hK13 _ _ ?_))
    refine wp_seq_k (fun K21 hK21 => ?_)
    refine wp_seq_k (fun K22 hK22 => ?_)
    refine wp_reg ?_
    refine wpF_seg 1 (by kernel_rfl) ?_
    refine gF hM18 (.load 4 (.tmp 13)) (some 14) (by kernel_rfl) (Y_loadB #[.bool (false), .slice Ank (nk).length cnk, .slice Anv (nv).length cnv, .slice Anc (nc).length cnc] (fun i v hi => le17 _ _ _ (hc8 i v hi)) (off := 0) (by kernel_rfl) (.bool (false)) (by kernel_rfl)) ?_
    refine wpF_seg 1 (by kernel_rfl) ?_
    refine wpF_end _ (by kernel_rfl) (then_n (hK22 _ _ ?_))
    refine wp_ct (by kernel_rfl) ?_
    refine wp_reg ?_
    refine wpF_seg 2 (by kernel_rfl) ?_
    refine gF hM18 (.load 23 (.tmp 17)) (some 18) (by kernel_rfl) (Y_loadB #[.bool (false), .slice Ank (nk).length cnk, .slice Anv (nv).length cnv, .slice Anc (nc).length cnc] (fun i v hi => le17 _ _ _ (hc8 i v hi)) (off := 3) (by kernel_rfl) (.slice Anc (nc).length cnc) (by kernel_rfl)) ?_
    refine gF_index (A := Anc) (c := cnc) (hnc.up hM18.le) .i64 (0) (h := (by kernel_rfl : opAt _ _ _ _ _ = some (.indexAddr 23 (.tmp 18) (.const (.int .i64 0)), some 19))) (e := 3) (by kernel_rfl) (by kernel_rfl) (by kernel_rfl) (0) (by omega) (by omega) (fun b23 o24 at_b23 => ?_)
    have c25 : V15 b23 o24 = some (.int .i64 (nc.getD (0) 0)) := (At.int at_b23).1
    have l26 : IntKind.i64.min ≤ (nc.getD (0) 0) ∧ (nc.getD (0) 0) ≤ IntKind.i64.max := (At.int at_b23).2
    refine gF hM18 (.load 3 (.tmp 19)) (some 20) (by kernel_rfl) (Y_loadV c25 (by kernel_rfl) (by kernel_rfl)) ?_
    refine wpF_callP hM18 (f := 57) (caps := #[]) (h := (by kernel_rfl : opAt _ _ _ _ _ = some (.call (.mk (.value (.func 57)) #[(.tmp 20), (.const (.int .i64 4))] #[3, 3]), some 21))) (by kernel_rfl) (by kernel_rfl) (by kernel_rfl) (f57 _ _ hM18.inW ((nc.getD (0) 0)) (4) (by omega) (by omega) (by omega)) (fun v27 V28 w29 le30 hM31 hp32 => ?_)
    obtain ⟨rfl, x33⟩ := hp32
    have x33 : (putM [] ((nc.getD (0) 0)) (4) (4)).length ≤ 140737488355328 := x33
    refine gF hM31 (.binOp .add 9 (.tmp 16) (.tmp 21) 9) (some 22) (by kernel_rfl) (Y_concat (([73] : Str) ++ putM [] ((nk.length : Int)) (2) (2)) (putM [] ((nc.getD (0) 0)) (4) (4)) (by kernel_rfl) (by kernel_rfl) (by first | omega | (simp only [bodyR_eq, putM_len, List.length_append, List.length_cons, List.length_nil, List.length_replicate] at *; omega))) ?_
    refine wpF_seg 1 (by kernel_rfl) ?_
    refine wpF_end _ (by kernel_rfl) (then_n (hK21 _ _ ?_))
    refine wp_seq_k (fun K34 hK34 => ?_)
    refine wp_seq_k (fun K35 hK35 => ?_)
    refine wp_reg ?_
    refine wpF_seg 1 (by kernel_rfl) ?_
    refine wpF_end _ (by kernel_rfl) (then_n (hK35 _ _ ?_))
    refine wp_block ?_
    refine wp_base [(1, .pointer (some ⟨b2, 0, none⟩)), (2, bs ([])), (3, bs (bodyR false nk nv nc (0))), (4, .int .i64 ((0 : Int)))] (by kernel_rfl) (fun g37 => ?_)
    refine wp_loopX (fun (x_ : Nat) a_ w_ => ∃ (g : Nat → Value) (V_ : VT), a_ = env 96 [(1, .pointer (some ⟨b2, 0, none⟩)), (2, bs ([])), (3, bs (bodyR false nk nv nc (x_))), (4, .int .i64 ((x_ : Int)))] g ∧ Step V w [] V_ w_ [] ∧ VT.le V28 V_ ∧ (x_ ≤ nk.length) ∧ ((bodyR false nk nv nc (x_)).length ≤ 7 + 400 * (x_))) (fun (x_ : Nat) => nk.length - x_) (0) ⟨g37, V28, rfl, hM31, VT.le.refl _, by omega, by (simp only [bodyR, headR, cond_true, cond_false, putM_len, List.length_append, List.length_cons, List.length_nil]; omega)⟩ ?_
    rintro k a_ w39 ⟨g38, Vl36, rfl, hM40, le41, hi42_0, hi42_1⟩ K42 hK42
    refine wp_seq_k (fun K43 hK43 => ?_)
    refine wp_seq_k (fun K44 hK44 => ?_)
    refine wp_reg ?_
    refine wpF_seg 2 (by kernel_rfl) ?_
    refine gF hM40 (.load 22 (.tmp 24)) (some 25) (by kernel_rfl) (Y_loadB #[.bool (false), .slice Ank (nk).length cnk, .slice Anv (nv).length cnv, .slice Anc (nc).length cnc] (fun i v hi => ((le17.trans le30).trans le41) _ _ _ (hc8 i v hi)) (off := 1) (by kernel_rfl) (.slice Ank (nk).length cnk) (by kernel_rfl)) ?_
    refine wpF_seg 2 (by kernel_rfl) ?_
    refine wpF_end _ (by kernel_rfl) (then_n (hK44 _ _ ?_))
    refine wp_if (decide (((k : Int)) < ((nk.length : Int)))) (by kernel_rfl) (fun h45 => ?_) (fun h45 => ?_)
    · -- FLt
      have p46 : (((k : Int)) < ((nk.length : Int))) := of_decide_eq_true h45
      have hks := key_short hs (k := k) (by omega)
      have hvs := hl.2.2 (k + 1) (by omega)
      refine wp_skip (then_n (hK43 _ _ ?_))
      refine wp_seq_k (fun K47 hK47 => ?_)
      refine wp_block ?_
      refine wp_seq_k (fun K48 hK48 => ?_)
      refine wp_base [(1, .pointer (some ⟨b2, 0, none⟩)), (2, bs ([])), (3, bs (bodyR false nk nv nc (k))), (4, .int .i64 ((k : Int))), (23, .int .i64 ((k : Int))), (24, .pointer (some ⟨b2, 1, none⟩)), (25, .slice Ank (nk).length cnk), (26, .int .i64 ((nk.length : Int))), (27, .bool (decide (((k : Int)) < ((nk.length : Int)))))] (by kernel_rfl) (fun g49 => ?_)
      refine wp_drawN hM40 [] no_held [] [0, 1, 2, 3, 4, 5, 6, 9, 10, 11, 12, 13] [.a 7, .p 8, .p 14, .p 15] [.p 0, .p 1, .p 2, .p 3, .p 4, .p 5, .p 6, .p 9, .p 10, .p 11, .p 12, .p 13, .s, .a 7, .p 8, .p 14, .p 15] rfl (by kernel_rfl) (by kernel_rfl) ?_
      refine h_seg 2 (by kernel_rfl) ?_
      refine gH (.load 22 (.tmp 31)) (some 32) (by kernel_rfl) (Y_loadB #[.bool (false), .slice Ank (nk).length cnk, .slice Anv (nv).length cnv, .slice Anc (nc).length cnc] (fun i v hi => ((le17.trans le30).trans le41) _ _ _ (hc8 i v hi)) (off := 1) (by kernel_rfl) (.slice Ank (nk).length cnk) (by kernel_rfl)) ?_
      refine h_seg 1 (by kernel_rfl) ?_
      refine gH_index (A := Ank) (c := cnk) (hnk.up hM40.le) .i64 ((k : Int)) (h := (by kernel_rfl : opAt _ _ _ _ _ = some (.indexAddr 22 (.tmp 32) (.tmp 33), some 34))) (e := 9) (by kernel_rfl) (by kernel_rfl) (by kernel_rfl) (k) rfl (by omega) (fun b50 o51 at_b50 => ?_)
      have c52 : Vl36 b50 o51 = some (bs (nk.getD (k) [])) := (At.str at_b50).1
      have l53 : (nk.getD (k) []).length ≤ 140737488355328 := (At.str at_b50).2
      refine gH (.load 9 (.tmp 34)) (some 35) (by kernel_rfl) (Y_loadV c52 (by kernel_rfl) (by kernel_rfl)) ?_
      refine h_seg 2 (by kernel_rfl) ?_
      refine gH (.load 22 (.tmp 39)) (some 40) (by kernel_rfl) (Y_loadB #[.bool (false), .slice Ank (nk).length cnk, .slice Anv (nv).length cnv, .slice Anc (nc).length cnc] (fun i v hi => ((le17.trans le30).trans le41) _ _ _ (hc8 i v hi)) (off := 1) (by kernel_rfl) (.slice Ank (nk).length cnk) (by kernel_rfl)) ?_
      refine h_seg 1 (by kernel_rfl) ?_
      refine gH_index (A := Ank) (c := cnk) (hnk.up hM40.le) .i64 ((k : Int)) (h := (by kernel_rfl : opAt _ _ _ _ _ = some (.indexAddr 22 (.tmp 40) (.tmp 41), some 42))) (e := 9) (by kernel_rfl) (by kernel_rfl) (by kernel_rfl) (k) rfl (by omega) (fun b54 o55 at_b54 => ?_)
      have c56 : Vl36 b54 o55 = some (bs (nk.getD (k) [])) := (At.str at_b54).1
      have l57 : (nk.getD (k) []).length ≤ 140737488355328 := (At.str at_b54).2
      refine gH (.load 9 (.tmp 42)) (some 43) (by kernel_rfl) (Y_loadV c56 (by kernel_rfl) (by kernel_rfl)) ?_
      refine h_s no_fs ?_
      refine h_a (by kernel_rfl) (by kernel_rfl) (fun w58 X59 hM60 => ?_)
      refine wpF_callP hM60 (f := 57) (caps := #[]) (h := (by kernel_rfl : opAt _ _ _ _ _ = some (.call (.mk (.value (.func 57)) #[(.tmp 36), (.const (.int .i64 1))] #[3, 3]), some 37))) (by kernel_rfl) (by kernel_rfl) (by kernel_rfl) (f57 _ _ hM60.inW ((((nk.getD (k) [])).length : Int)) (1) (by omega) (by omega) (by omega)) (fun v61 V62 w63 le64 hM65 hp66 => ?_)
      obtain ⟨rfl, x67⟩ := hp66
      have x67 : (putM [] ((((nk.getD (k) [])).length : Int)) (1) (1)).length ≤ 140737488355328 := x67
      refine wpF_end _ (by kernel_rfl) (then_n (h_d [] (by kernel_rfl) [] hM65 no_held le64 ?_))
      refine gH (.binOp .add 9 (.tmp 30) (.tmp 37) 9) (some 38) (by kernel_rfl) (Y_concat (bodyR false nk nv nc (k)) (putM [] ((((nk.getD (k) [])).length : Int)) (1) (1)) (by kernel_rfl) (by kernel_rfl) (by first | omega | (simp only [bodyR_eq, putM_len, List.length_append, List.length_cons, List.length_nil, List.length_replicate] at *; omega))) ?_
      refine gH (.binOp .add 9 (.tmp 38) (.tmp 43) 9) (some 44) (by kernel_rfl) (Y_concat (bodyR false nk nv nc (k) ++ putM [] ((((nk.getD (k) [])).length : Int)) (1) (1)) ((nk.getD (k) [])) (by kernel_rfl) (by kernel_rfl) (by first | omega | (simp only [bodyR_eq, putM_len, List.length_append, List.length_cons, List.length_nil, List.length_replicate] at *; omega))) ?_
      refine h_seg 1 (by kernel_rfl) ?_
      refine h_n (fun w68 hM69 => ?_)
      refine  (then_n (hK48 _ _ ?_))
      refine wp_seq_k (fun K70 hK70 => ?_)
      refine wp_seq_k (fun K71 hK71 => ?_)
      refine wp_reg ?_
      refine wpF_seg 1 (by kernel_rfl) ?_
      refine gF hM69 (.load 4 (.tmp 45)) (some 46) (by kernel_rfl) (Y_loadB #[.bool (false), .slice Ank (nk).length cnk, .slice Anv (nv).length cnv, .slice Anc (nc).length cnc] (fun i v hi => (((le17.trans le30).trans le41).trans le64) _ _ _ (hc8 i v hi)) (off := 0) (by kernel_rfl) (.bool (false)) (by kernel_rfl)) ?_
      refine wpF_seg 7 (by kernel_rfl) ?_
      refine wpF_end _ (by kernel_rfl) (then_n (hK71 _ _ ?_))
      refine wp_cf (by kernel_rfl) ?_
      refine wp_skip (then_n (hK70 _ _ ?_))
      refine wp_seq_k (fun K72 hK72 => ?_)
      refine wp_reg ?_
      refine wpF_seg 1 (by kernel_rfl) ?_
      refine gF hM69 (.load 4 (.tmp 69)) (some 70) (by kernel_rfl) (Y_loadB #[.bool (false), .slice Ank (nk).length cnk, .slice Anv (nv).length cnv, .slice Anc (nc).length cnc] (fun i v hi => (((le17.trans le30).trans le41).trans le64) _ _ _ (hc8 i v hi)) (off := 0) (by kernel_rfl) (.bool (false)) (by kernel_rfl)) ?_
      refine wpF_seg 3 (by kernel_rfl) ?_
      refine gF hM69 (.binOp .add 3 (.tmp 73) (.const (.int .i64 1)) 3) (some 74) (by kernel_rfl) (Y_add .i64 ((k : Int)) (1) ((k : Int) + 1) (by kernel_rfl) (by kernel_rfl) (wrap64_ok _ (by omega))) ?_
      refine wpF_seg 1 (by kernel_rfl) ?_
      refine gF hM69 (.load 23 (.tmp 75)) (some 76) (by kernel_rfl) (Y_loadB #[.bool (false), .slice Ank (nk).length cnk, .slice Anv (nv).length cnv, .slice Anc (nc).length cnc] (fun i v hi => (((le17.trans le30).trans le41).trans le64) _ _ _ (hc8 i v hi)) (off := 3) (by kernel_rfl) (.slice Anc (nc).length cnc) (by kernel_rfl)) ?_
      refine wpF_seg 3 (by kernel_rfl) ?_
      refine wpF_end _ (by kernel_rfl) (then_n (hK72 _ _ ?_))
      refine wp_if (decide (((k : Int) + 1) < ((nc.length : Int)))) (by kernel_rfl) (fun h73 => ?_) (fun h73 => ?_)
      · -- FLtt
        have p74 : (((k : Int) + 1) < ((nc.length : Int))) := of_decide_eq_true h73
        refine wp_reg ?_
        refine wpF_seg 2 (by kernel_rfl) ?_
        refine gF hM69 (.load 23 (.tmp 81)) (some 82) (by kernel_rfl) (Y_loadB #[.bool (false), .slice Ank (nk).length cnk, .slice Anv (nv).length cnv, .slice Anc (nc).length cnc] (fun i v hi => (((le17.trans le30).trans le41).trans le64) _ _ _ (hc8 i v hi)) (off := 3) (by kernel_rfl) (.slice Anc (nc).length cnc) (by kernel_rfl)) ?_
        refine wpF_seg 1 (by kernel_rfl) ?_
        refine gF hM69 (.binOp .add 3 (.tmp 83) (.const (.int .i64 1)) 3) (some 84) (by kernel_rfl) (Y_add .i64 ((k : Int)) (1) ((k : Int) + 1) (by kernel_rfl) (by kernel_rfl) (wrap64_ok _ (by omega))) ?_
        refine gF_index (A := Anc) (c := cnc) (hnc.up hM69.le) .i64 ((k : Int) + 1) (h := (by kernel_rfl : opAt _ _ _ _ _ = some (.indexAddr 23 (.tmp 82) (.tmp 84), some 85))) (e := 3) (by kernel_rfl) (by kernel_rfl) (by kernel_rfl) (k + 1) (by omega) (by omega) (fun b75 o76 at_b75 => ?_)
        have c77 : V62 b75 o76 = some (.int .i64 (nc.getD (k + 1) 0)) := (At.int at_b75).1
        have l78 : IntKind.i64.min ≤ (nc.getD (k + 1) 0) ∧ (nc.getD (k + 1) 0) ≤ IntKind.i64.max := (At.int at_b75).2
        refine gF hM69 (.load 3 (.tmp 85)) (some 86) (by kernel_rfl) (Y_loadV c77 (by kernel_rfl) (by kernel_rfl)) ?_
        refine wpF_callP hM69 (f := 57) (caps := #[]) (h := (by kernel_rfl : opAt _ _ _ _ _ = some (.call (.mk (.value (.func 57)) #[(.tmp 86), (.const (.int .i64 4))] #[3, 3]), some 87))) (by kernel_rfl) (by kernel_rfl) (by kernel_rfl) (f57 _ _ hM69.inW ((nc.getD (k + 1) 0)) (4) (by omega) (by omega) (by omega)) (fun v79 V80 w81 le82 hM83 hp84 => ?_)
        obtain ⟨rfl, x85⟩ := hp84
        have x85 : (putM [] ((nc.getD (k + 1) 0)) (4) (4)).length ≤ 140737488355328 := x85
        refine gF hM83 (.binOp .add 9 (.tmp 80) (.tmp 87) 9) (some 88) (by kernel_rfl) (Y_concat (bodyR false nk nv nc (k) ++ putM [] ((((nk.getD (k) [])).length : Int)) (1) (1) ++ (nk.getD (k) [])) (putM [] ((nc.getD (k + 1) 0)) (4) (4)) (by kernel_rfl) (by kernel_rfl) (by first | omega | (simp only [bodyR_eq, putM_len, List.length_append, List.length_cons, List.length_nil, List.length_replicate] at *; omega))) ?_
        refine wpF_seg 1 (by kernel_rfl) ?_
        refine wpF_end _ (by kernel_rfl) (blk_n (then_n (hK47 _ _ ?_)))
        refine wp_reg ?_
        refine wpF_seg 1 (by kernel_rfl) ?_
        refine gF hM83 (.binOp .add 3 (.tmp 28) (.const (.int .i64 1)) 3) (some 29) (by kernel_rfl) (Y_add .i64 ((k : Int)) (1) ((k : Int) + 1) (by kernel_rfl) (by kernel_rfl) (wrap64_ok _ (by omega))) ?_
        refine wpF_seg 1 (by kernel_rfl) ?_
        refine wpF_base [(1, .pointer (some ⟨b2, 0, none⟩)), (2, bs ([])), (3, bs (bodyR false nk nv nc (k + 1))), (4, .int .i64 ((k + 1 : Int)))] (by kernel_rfl) (fun g86 => ?_)
        refine wpF_end _ (by kernel_rfl) (then_n (hK42 _ _ (k + 1) (by omega) ?_))
        refine ⟨g86, V80, rfl, hM83, ((le41.trans le64).trans le82), ?_, ?_⟩
        · -- FLtt inv 0
          omega
        · -- FLtt inv 1
          (simp only [bodyR, cond_true, cond_false, putM_len, List.length_append, List.length_nil]; omega)
      · -- FLtf
        have p87 : ¬ (((k : Int) + 1) < ((nc.length : Int))) := of_decide_eq_false h73
        exfalso; omega
    · -- FLf
      have p88 : ¬ (((k : Int)) < ((nk.length : Int))) := of_decide_eq_false h45
      refine wp_exit (then_x (then_x (blk_hit (then_n (hK34 _ _ ?_)))))
      obtain rfl : k = nk.length := by omega
      refine wp_seq_k (fun K89 hK89 => ?_)
      refine wp_reg ?_
      refine wpF_seg 3 (by kernel_rfl) ?_
      refine gF hM40 (.binOp .sub 3 (.const (.int .i64 1024)) (.tmp 91) 3) (some 92) (by kernel_rfl) (Y_sub .i64 (1024) (((bodyR false nk nv nc ((nk.length))).length : Int)) (((1024 - (bodyR false nk nv nc nk.length).length : Nat) : Int)) (by kernel_rfl) (by kernel_rfl) (by rw [wrap64_ok _ (by simp only [bodyR_eq]; omega)]; simp only [bodyR_eq]; omega)) ?_
      refine wpF_mkSlice (K := byteK) (e := 5) (by_ := 1) (m := (1024 - (bodyR false nk nv nc nk.length).length)) (z := .int .u8 0) hM40 (h := (by kernel_rfl : opAt _ _ _ _ _ = some (.makeSlice 28 (.tmp 92) (.tmp 92), some 93))) (by kernel_rfl) (by kernel_rfl) (by kernel_rfl) rfl (by kernel_rfl) (by kernel_rfl) rfl (by kernel_rfl) 0 (fun _ => Reps.one_byte) (by omega) (fun A90 c91 V92 w93 le94 hM95 r96 => ?_)
      refine gF hM95 (.convert 28 9 (.tmp 93)) (some 94) (by kernel_rfl) (Y_toStr (A := A90) (c := c91) r96 (e := 5) (by kernel_rfl) (by kernel_rfl) (by kernel_rfl)) ?_
      refine gF hM95 (.binOp .add 9 (.tmp 89) (.tmp 94) 9) (some 95) (by kernel_rfl) (Y_concat (bodyR false nk nv nc ((nk.length))) (List.replicate ((1024 - (bodyR false nk nv nc nk.length).length)) 0) (by kernel_rfl) (by kernel_rfl) (by first | omega | (simp only [bodyR_eq, putM_len, List.length_append, List.length_cons, List.length_nil, List.length_replicate] at *; omega))) ?_
      refine wpF_seg 1 (by kernel_rfl) ?_
      refine wpF_end _ (by kernel_rfl) (then_n (hK89 _ _ ?_))
      refine wp_ret ?_
      refine retN [bs (bodyR false nk nv nc ((nk.length)) ++ List.replicate ((1024 - (bodyR false nk nv nc nk.length).length)) 0)] (bs (bodyR false nk nv nc ((nk.length)) ++ List.replicate ((1024 - (bodyR false nk nv nc nk.length).length)) 0)) Try.results33 (.tmp (by kernel_rfl) (by kernel_rfl) .nil) (by kernel_rfl) (hRet _ _ ⟨_, _, rfl, hM95.clear, ?_⟩)
      -- end FLf
      refine ⟨?_, ?_⟩
      · (simp only [pageM, bodyR_eq])
      · (simp only [pageM, List.length_append, List.length_replicate]; omega)
  | true =>
    have hbs := body_size hs
    have hl := stands_leaf hs
    refine wp_seq_k (fun K97 hK97 => ?_)
    refine wp_reg ?_
    refine wpF_box hM0 #[.bool (true), .slice Ank (nk).length cnk, .slice Anv (nv).length cnv, .slice Anc (nc).length cnc] (h := (by kernel_rfl : opAt _ _ _ _ _ = some (.box 25 (.tmp 0), some 1))) (by kernel_rfl) (fun b98 w99 hM100 => ?_)
    obtain ⟨V101, le102, hM103, hc104⟩ := hM100.settle 0 rfl
    have hM105 : Step V w [] V101 _ ([]) := hM103
    refine wpF_seg 1 (by kernel_rfl) ?_
    refine wpF_end _ (by kernel_rfl) (then_n (hK97 _ _ ?_))
    refine wp_seq_k (fun K106 hK106 => ?_)
    refine wp_reg ?_
    refine wpF_seg 1 (by kernel_rfl) ?_
    refine wpF_end _ (by kernel_rfl) (then_n (hK106 _ _ ?_))
    refine wp_seq_k (fun K107 hK107 => ?_)
    refine wp_seq_k (fun K108 hK108 => ?_)
    refine wp_reg ?_
    refine wpF_seg 1 (by kernel_rfl) ?_
    refine gF hM105 (.load 4 (.tmp 5)) (some 6) (by kernel_rfl) (Y_loadB #[.bool (true), .slice Ank (nk).length cnk, .slice Anv (nv).length cnv, .slice Anc (nc).length cnc] hc104 (off := 0) (by kernel_rfl) (.bool (true)) (by kernel_rfl)) ?_
    refine wpF_end _ (by kernel_rfl) (then_n (hK108 _ _ ?_))
    refine wp_ct (by kernel_rfl) ?_
    refine wp_reg ?_
    refine wpF_seg 1 (by kernel_rfl) ?_
    refine wpF_end _ (by kernel_rfl) (then_n (hK107 _ _ ?_))
    refine wp_seq_k (fun K109 hK109 => ?_)
    refine wp_reg ?_
    refine wpF_seg 2 (by kernel_rfl) ?_
    refine gF hM105 (.load 22 (.tmp 8)) (some 9) (by kernel_rfl) (Y_loadB #[.bool (true), .slice Ank (nk).length cnk, .slice Anv (nv).length cnv, .slice Anc (nc).length cnc] hc104 (off := 1) (by kernel_rfl) (.slice Ank (nk).length cnk) (by kernel_rfl)) ?_
    refine wpF_seg 1 (by kernel_rfl) ?_
    refine wpF_callP hM105 (f := 57) (caps := #[]) (h := (by kernel_rfl : opAt _ _ _ _ _ = some (.call (.mk (.value (.func 57)) #[(.tmp 10), (.const (.int .i64 2))] #[3, 3]), some 11))) (by kernel_rfl) (by kernel_rfl) (by kernel_rfl) (f57 _ _ hM105.inW ((nk.length : Int)) (2) (by omega) (by omega) (by omega)) (fun v110 V111 w112 le113 hM114 hp115 => ?_)
    obtain ⟨rfl, x116⟩ := hp115
    have x116 : (putM [] ((nk.length : Int)) (2) (2)).length ≤ 140737488355328 := x116
    refine gF hM114 (.binOp .add 9 (.tmp 7) (.tmp 11) 9) (some 12) (by kernel_rfl) (Y_concat (([76] : Str)) (putM [] ((nk.length : Int)) (2) (2)) (by kernel_rfl) (by kernel_rfl) (by first | omega | (simp only [bodyR_eq, putM_len, List.length_append, List.length_cons, List.length_nil, List.length_replicate] at *; omega))) ?_
    refine wpF_seg 1 (by kernel_rfl) ?_
    refine wpF_end _ (by kernel_rfl) (then_n (hK109 _ _ ?_))
    refine wp_seq_k (fun K117 hK117 => ?_)
    refine wp_seq_k (fun K118 hK118 => ?_)
    refine wp_reg ?_
    refine wpF_seg 1 (by kernel_rfl) ?_
    refine gF hM114 (.load 4 (.tmp 13)) (some 14) (by kernel_rfl) (Y_loadB #[.bool (true), .slice Ank (nk).length cnk, .slice Anv (nv).length cnv, .slice Anc (nc).length cnc] (fun i v hi => le113 _ _ _ (hc104 i v hi)) (off := 0) (by kernel_rfl) (.bool (true)) (by kernel_rfl)) ?_
    refine wpF_seg 1 (by kernel_rfl) ?_
    refine wpF_end _ (by kernel_rfl) (then_n (hK118 _ _ ?_))
    refine wp_cf (by kernel_rfl) ?_
    refine wp_skip (then_n (hK117 _ _ ?_))
    refine wp_seq_k (fun K119 hK119 => ?_)
    refine wp_seq_k (fun K120 hK120 => ?_)
    refine wp_reg ?_
    refine wpF_seg 1 (by kernel_rfl) ?_
    refine wpF_end _ (by kernel_rfl) (then_n (hK120 _ _ ?_))
    refine wp_block ?_
    refine wp_base [(1, .pointer (some ⟨b98, 0, none⟩)), (2, bs ([])), (3, bs (bodyR true nk nv nc (0))), (4, .int .i64 ((0 : Int)))] (by kernel_rfl) (fun g122 => ?_)
    refine wp_loopX (fun (x_ : Nat) a_ w_ => ∃ (g : Nat → Value) (V_ : VT), a_ = env 96 [(1, .pointer (some ⟨b98, 0, none⟩)), (2, bs ([])), (3, bs (bodyR true nk nv nc (x_))), (4, .int .i64 ((x_ : Int)))] g ∧ Step V w [] V_ w_ [] ∧ VT.le V111 V_ ∧ (x_ ≤ nk.length) ∧ ((bodyR true nk nv nc (x_)).length ≤ 7 + 400 * (x_))) (fun (x_ : Nat) => nk.length - x_) (0) ⟨g122, V111, rfl, hM114, VT.le.refl _, by omega, by (simp only [bodyR, headR, cond_true, cond_false, putM_len, List.length_append, List.length_cons, List.length_nil]; omega)⟩ ?_
    rintro k a_ w124 ⟨g123, Vl121, rfl, hM125, le126, hi127_0, hi127_1⟩ K127 hK127
    refine wp_seq_k (fun K128 hK128 => ?_)
    refine wp_seq_k (fun K129 hK129 => ?_)
    refine wp_reg ?_
    refine wpF_seg 2 (by kernel_rfl) ?_
    refine gF hM125 (.load 22 (.tmp 24)) (some 25) (by kernel_rfl) (Y_loadB #[.bool (true), .slice Ank (nk).length cnk, .slice Anv (nv).length cnv, .slice Anc (nc).length cnc] (fun i v hi => (le113.trans le126) _ _ _ (hc104 i v hi)) (off := 1) (by kernel_rfl) (.slice Ank (nk).length cnk) (by kernel_rfl)) ?_
    refine wpF_seg 2 (by kernel_rfl) ?_
    refine wpF_end _ (by kernel_rfl) (then_n (hK129 _ _ ?_))
    refine wp_if (decide (((k : Int)) < ((nk.length : Int)))) (by kernel_rfl) (fun h130 => ?_) (fun h130 => ?_)
    · -- TLt
      have p131 : (((k : Int)) < ((nk.length : Int))) := of_decide_eq_true h130
      have hks := key_short hs (k := k) (by omega)
      have hvs := hl.2.2 k (by omega)
      refine wp_skip (then_n (hK128 _ _ ?_))
      refine wp_seq_k (fun K132 hK132 => ?_)
      refine wp_block ?_
      refine wp_seq_k (fun K133 hK133 => ?_)
      refine wp_base [(1, .pointer (some ⟨b98, 0, none⟩)), (2, bs ([])), (3, bs (bodyR true nk nv nc (k))), (4, .int .i64 ((k : Int))), (23, .int .i64 ((k : Int))), (24, .pointer (some ⟨b98, 1, none⟩)), (25, .slice Ank (nk).length cnk), (26, .int .i64 ((nk.length : Int))), (27, .bool (decide (((k : Int)) < ((nk.length : Int)))))] (by kernel_rfl) (fun g134 => ?_)
      refine wp_drawN hM125 [] no_held [] [0, 1, 2, 3, 4, 5, 6, 9, 10, 11, 12, 13] [.a 7, .p 8, .p 14, .p 15] [.p 0, .p 1, .p 2, .p 3, .p 4, .p 5, .p 6, .p 9, .p 10, .p 11, .p 12, .p 13, .s, .a 7, .p 8, .p 14, .p 15] rfl (by kernel_rfl) (by kernel_rfl) ?_
      refine h_seg 2 (by kernel_rfl) ?_
      refine gH (.load 22 (.tmp 31)) (some 32) (by kernel_rfl) (Y_loadB #[.bool (true), .slice Ank (nk).length cnk, .slice Anv (nv).length cnv, .slice Anc (nc).length cnc] (fun i v hi => (le113.trans le126) _ _ _ (hc104 i v hi)) (off := 1) (by kernel_rfl) (.slice Ank (nk).length cnk) (by kernel_rfl)) ?_
      refine h_seg 1 (by kernel_rfl) ?_
      refine gH_index (A := Ank) (c := cnk) (hnk.up hM125.le) .i64 ((k : Int)) (h := (by kernel_rfl : opAt _ _ _ _ _ = some (.indexAddr 22 (.tmp 32) (.tmp 33), some 34))) (e := 9) (by kernel_rfl) (by kernel_rfl) (by kernel_rfl) (k) rfl (by omega) (fun b135 o136 at_b135 => ?_)
      have c137 : Vl121 b135 o136 = some (bs (nk.getD (k) [])) := (At.str at_b135).1
      have l138 : (nk.getD (k) []).length ≤ 140737488355328 := (At.str at_b135).2
      refine gH (.load 9 (.tmp 34)) (some 35) (by kernel_rfl) (Y_loadV c137 (by kernel_rfl) (by kernel_rfl)) ?_
      refine h_seg 2 (by kernel_rfl) ?_
      refine gH (.load 22 (.tmp 39)) (some 40) (by kernel_rfl) (Y_loadB #[.bool (true), .slice Ank (nk).length cnk, .slice Anv (nv).length cnv, .slice Anc (nc).length cnc] (fun i v hi => (le113.trans le126) _ _ _ (hc104 i v hi)) (off := 1) (by kernel_rfl) (.slice Ank (nk).length cnk) (by kernel_rfl)) ?_
      refine h_seg 1 (by kernel_rfl) ?_
      refine gH_index (A := Ank) (c := cnk) (hnk.up hM125.le) .i64 ((k : Int)) (h := (by kernel_rfl : opAt _ _ _ _ _ = some (.indexAddr 22 (.tmp 40) (.tmp 41), some 42))) (e := 9) (by kernel_rfl) (by kernel_rfl) (by kernel_rfl) (k) rfl (by omega) (fun b139 o140 at_b139 => ?_)
      have c141 : Vl121 b139 o140 = some (bs (nk.getD (k) [])) := (At.str at_b139).1
      have l142 : (nk.getD (k) []).length ≤ 140737488355328 := (At.str at_b139).2
      refine gH (.load 9 (.tmp 42)) (some 43) (by kernel_rfl) (Y_loadV c141 (by kernel_rfl) (by kernel_rfl)) ?_
      refine h_s no_fs ?_
      refine h_a (by kernel_rfl) (by kernel_rfl) (fun w143 X144 hM145 => ?_)
      refine wpF_callP hM145 (f := 57) (caps := #[]) (h := (by kernel_rfl : opAt _ _ _ _ _ = some (.call (.mk (.value (.func 57)) #[(.tmp 36), (.const (.int .i64 1))] #[3, 3]), some 37))) (by kernel_rfl) (by kernel_rfl) (by kernel_rfl) (f57 _ _ hM145.inW ((((nk.getD (k) [])).length : Int)) (1) (by omega) (by omega) (by omega)) (fun v146 V147 w148 le149 hM150 hp151 => ?_)
      obtain ⟨rfl, x152⟩ := hp151
      have x152 : (putM [] ((((nk.getD (k) [])).length : Int)) (1) (1)).length ≤ 140737488355328 := x152
      refine wpF_end _ (by kernel_rfl) (then_n (h_d [] (by kernel_rfl) [] hM150 no_held le149 ?_))
      refine gH (.binOp .add 9 (.tmp 30) (.tmp 37) 9) (some 38) (by kernel_rfl) (Y_concat (bodyR true nk nv nc (k)) (putM [] ((((nk.getD (k) [])).length : Int)) (1) (1)) (by kernel_rfl) (by kernel_rfl) (by first | omega | (simp only [bodyR_eq, putM_len, List.length_append, List.length_cons, List.length_nil, List.length_replicate] at *; omega))) ?_
      refine gH (.binOp .add 9 (.tmp 38) (.tmp 43) 9) (some 44) (by kernel_rfl) (Y_concat (bodyR true nk nv nc (k) ++ putM [] ((((nk.getD (k) [])).length : Int)) (1) (1)) ((nk.getD (k) [])) (by kernel_rfl) (by kernel_rfl) (by first | omega | (simp only [bodyR_eq, putM_len, List.length_append, List.length_cons, List.length_nil, List.length_replicate] at *; omega))) ?_
      refine h_seg 1 (by kernel_rfl) ?_
      refine h_n (fun w153 hM154 => ?_)
      refine  (then_n (hK133 _ _ ?_))
      refine wp_seq_k (fun K155 hK155 => ?_)
      refine wp_seq_k (fun K156 hK156 => ?_)
      refine wp_reg ?_
      refine wpF_seg 1 (by kernel_rfl) ?_
      refine gF hM154 (.load 4 (.tmp 45)) (some 46) (by kernel_rfl) (Y_loadB #[.bool (true), .slice Ank (nk).length cnk, .slice Anv (nv).length cnv, .slice Anc (nc).length cnc] (fun i v hi => ((le113.trans le126).trans le149) _ _ _ (hc104 i v hi)) (off := 0) (by kernel_rfl) (.bool (true)) (by kernel_rfl)) ?_
      refine wpF_seg 3 (by kernel_rfl) ?_
      refine gF hM154 (.load 22 (.tmp 49)) (some 50) (by kernel_rfl) (Y_loadB #[.bool (true), .slice Ank (nk).length cnk, .slice Anv (nv).length cnv, .slice Anc (nc).length cnc] (fun i v hi => ((le113.trans le126).trans le149) _ _ _ (hc104 i v hi)) (off := 2) (by kernel_rfl) (.slice Anv (nv).length cnv) (by kernel_rfl)) ?_
      refine wpF_seg 3 (by kernel_rfl) ?_
      refine wpF_end _ (by kernel_rfl) (then_n (hK156 _ _ ?_))
      refine wp_if (decide (((k : Int)) < ((nv.length : Int)))) (by kernel_rfl) (fun h157 => ?_) (fun h157 => ?_)
      · -- TLtt
        have p158 : (((k : Int)) < ((nv.length : Int))) := of_decide_eq_true h157
        refine wp_base [(1, .pointer (some ⟨b98, 0, none⟩)), (2, bs ([])), (3, bs (bodyR true nk nv nc (k) ++ putM [] ((((nk.getD (k) [])).length : Int)) (1) (1) ++ (nk.getD (k) []))), (4, .int .i64 ((k : Int))), (23, .int .i64 ((k : Int))), (24, .pointer (some ⟨b98, 1, none⟩)), (25, .slice Ank (nk).length cnk), (26, .int .i64 ((nk.length : Int))), (27, .bool (decide (((k : Int)) < ((nk.length : Int))))), (30, bs (bodyR true nk nv nc (k))), (31, .pointer (some ⟨b98, 1, none⟩)), (32, .slice Ank (nk).length cnk), (33, .int .i64 ((k : Int))), (34, .pointer (some ⟨b135, o136, none⟩)), (35, bs ((nk.getD (k) []))), (36, .int .i64 ((((nk.getD (k) [])).length : Int))), (37, bs (putM [] ((((nk.getD (k) [])).length : Int)) (1) (1))), (38, bs (bodyR true nk nv nc (k) ++ putM [] ((((nk.getD (k) [])).length : Int)) (1) (1))), (39, .pointer (some ⟨b98, 1, none⟩)), (40, .slice Ank (nk).length cnk), (41, .int .i64 ((k : Int))), (42, .pointer (some ⟨b139, o140, none⟩)), (43, bs ((nk.getD (k) []))), (44, bs (bodyR true nk nv nc (k) ++ putM [] ((((nk.getD (k) [])).length : Int)) (1) (1) ++ (nk.getD (k) []))), (45, .pointer (some ⟨b98, 0, none⟩)), (46, .bool (true)), (47, .bool (true)), (48, .int .i64 ((k : Int))), (49, .pointer (some ⟨b98, 2, none⟩)), (50, .slice Anv (nv).length cnv), (51, .int .i64 ((nv.length : Int))), (52, .bool (decide (((k : Int)) < ((nv.length : Int))))), (53, .bool (decide (((k : Int)) < ((nv.length : Int)))))] (by kernel_rfl) (fun g159 => ?_)
        refine wp_drawN hM154 [] no_held [] [0, 1, 2, 3, 4, 5, 6, 9, 10, 11, 12, 13] [.a 7, .p 8, .p 14, .p 15] [.p 0, .p 1, .p 2, .p 3, .p 4, .p 5, .p 6, .p 9, .p 10, .p 11, .p 12, .p 13, .s, .a 7, .p 8, .p 14, .p 15] rfl (by kernel_rfl) (by kernel_rfl) ?_
        refine h_seg 2 (by kernel_rfl) ?_
        refine gH (.load 22 (.tmp 55)) (some 56) (by kernel_rfl) (Y_loadB #[.bool (true), .slice Ank (nk).length cnk, .slice Anv (nv).length cnv, .slice Anc (nc).length cnc] (fun i v hi => ((le113.trans le126).trans le149) _ _ _ (hc104 i v hi)) (off := 2) (by kernel_rfl) (.slice Anv (nv).length cnv) (by kernel_rfl)) ?_
        refine h_seg 1 (by kernel_rfl) ?_
        refine gH_index (A := Anv) (c := cnv) (hnv.up hM154.le) .i64 ((k : Int)) (h := (by kernel_rfl : opAt _ _ _ _ _ = some (.indexAddr 22 (.tmp 56) (.tmp 57), some 58))) (e := 9) (by kernel_rfl) (by kernel_rfl) (by kernel_rfl) (k) rfl (by omega) (fun b160 o161 at_b160 => ?_)
        have c162 : V147 b160 o161 = some (bs (nv.getD (k) [])) := (At.str at_b160).1
        have l163 : (nv.getD (k) []).length ≤ 140737488355328 := (At.str at_b160).2
        refine gH (.load 9 (.tmp 58)) (some 59) (by kernel_rfl) (Y_loadV c162 (by kernel_rfl) (by kernel_rfl)) ?_
        refine h_seg 2 (by kernel_rfl) ?_
        refine gH (.load 22 (.tmp 63)) (some 64) (by kernel_rfl) (Y_loadB #[.bool (true), .slice Ank (nk).length cnk, .slice Anv (nv).length cnv, .slice Anc (nc).length cnc] (fun i v hi => ((le113.trans le126).trans le149) _ _ _ (hc104 i v hi)) (off := 2) (by kernel_rfl) (.slice Anv (nv).length cnv) (by kernel_rfl)) ?_
        refine h_seg 1 (by kernel_rfl) ?_
        refine gH_index (A := Anv) (c := cnv) (hnv.up hM154.le) .i64 ((k : Int)) (h := (by kernel_rfl : opAt _ _ _ _ _ = some (.indexAddr 22 (.tmp 64) (.tmp 65), some 66))) (e := 9) (by kernel_rfl) (by kernel_rfl) (by kernel_rfl) (k) rfl (by omega) (fun b164 o165 at_b164 => ?_)
        have c166 : V147 b164 o165 = some (bs (nv.getD (k) [])) := (At.str at_b164).1
        have l167 : (nv.getD (k) []).length ≤ 140737488355328 := (At.str at_b164).2
        refine gH (.load 9 (.tmp 66)) (some 67) (by kernel_rfl) (Y_loadV c166 (by kernel_rfl) (by kernel_rfl)) ?_
        refine h_s no_fs ?_
        refine h_a (by kernel_rfl) (by kernel_rfl) (fun w168 X169 hM170 => ?_)
        refine wpF_callP hM170 (f := 57) (caps := #[]) (h := (by kernel_rfl : opAt _ _ _ _ _ = some (.call (.mk (.value (.func 57)) #[(.tmp 60), (.const (.int .i64 2))] #[3, 3]), some 61))) (by kernel_rfl) (by kernel_rfl) (by kernel_rfl) (f57 _ _ hM170.inW ((((nv.getD (k) [])).length : Int)) (2) (by omega) (by omega) (by omega)) (fun v171 V172 w173 le174 hM175 hp176 => ?_)
        obtain ⟨rfl, x177⟩ := hp176
        have x177 : (putM [] ((((nv.getD (k) [])).length : Int)) (2) (2)).length ≤ 140737488355328 := x177
        refine wpF_end _ (by kernel_rfl) (then_n (h_d [] (by kernel_rfl) [] hM175 no_held le174 ?_))
        refine gH (.binOp .add 9 (.tmp 54) (.tmp 61) 9) (some 62) (by kernel_rfl) (Y_concat (bodyR true nk nv nc (k) ++ putM [] ((((nk.getD (k) [])).length : Int)) (1) (1) ++ (nk.getD (k) [])) (putM [] ((((nv.getD (k) [])).length : Int)) (2) (2)) (by kernel_rfl) (by kernel_rfl) (by first | omega | (simp only [bodyR_eq, putM_len, List.length_append, List.length_cons, List.length_nil, List.length_replicate] at *; omega))) ?_
        refine gH (.binOp .add 9 (.tmp 62) (.tmp 67) 9) (some 68) (by kernel_rfl) (Y_concat (bodyR true nk nv nc (k) ++ putM [] ((((nk.getD (k) [])).length : Int)) (1) (1) ++ (nk.getD (k) []) ++ putM [] ((((nv.getD (k) [])).length : Int)) (2) (2)) ((nv.getD (k) [])) (by kernel_rfl) (by kernel_rfl) (by first | omega | (simp only [bodyR_eq, putM_len, List.length_append, List.length_cons, List.length_nil, List.length_replicate] at *; omega))) ?_
        refine h_seg 1 (by kernel_rfl) ?_
        refine h_n (fun w178 hM179 => ?_)
        refine  (then_n (hK155 _ _ ?_))
        refine wp_seq_k (fun K180 hK180 => ?_)
        refine wp_reg ?_
        refine wpF_seg 1 (by kernel_rfl) ?_
        refine gF hM179 (.load 4 (.tmp 69)) (some 70) (by kernel_rfl) (Y_loadB #[.bool (true), .slice Ank (nk).length cnk, .slice Anv (nv).length cnv, .slice Anc (nc).length cnc] (fun i v hi => (((le113.trans le126).trans le149).trans le174) _ _ _ (hc104 i v hi)) (off := 0) (by kernel_rfl) (.bool (true)) (by kernel_rfl)) ?_
        refine wpF_seg 9 (by kernel_rfl) ?_
        refine wpF_end _ (by kernel_rfl) (then_n (hK180 _ _ ?_))
        refine wp_cf (by kernel_rfl) ?_
        refine wp_skip (blk_n (then_n (hK132 _ _ ?_)))
        refine wp_reg ?_
        refine wpF_seg 1 (by kernel_rfl) ?_
        refine gF hM179 (.binOp .add 3 (.tmp 28) (.const (.int .i64 1)) 3) (some 29) (by kernel_rfl) (Y_add .i64 ((k : Int)) (1) ((k : Int) + 1) (by kernel_rfl) (by kernel_rfl) (wrap64_ok _ (by omega))) ?_
        refine wpF_seg 1 (by kernel_rfl) ?_
        refine wpF_base [(1, .pointer (some ⟨b98, 0, none⟩)), (2, bs ([])), (3, bs (bodyR true nk nv nc (k + 1))), (4, .int .i64 ((k + 1 : Int)))] (by kernel_rfl) (fun g181 => ?_)
        refine wpF_end _ (by kernel_rfl) (then_n (hK127 _ _ (k + 1) (by omega) ?_))
        refine ⟨g181, V172, rfl, hM179, ((le126.trans le149).trans le174), ?_, ?_⟩
        · -- TLtt inv 0
          omega
        · -- TLtt inv 1
          (simp only [bodyR, cond_true, cond_false, putM_len, List.length_append, List.length_nil]; omega)
      · -- TLtf
        have p182 : ¬ (((k : Int)) < ((nv.length : Int))) := of_decide_eq_false h157
        exfalso; omega
    · -- TLf
      have p183 : ¬ (((k : Int)) < ((nk.length : Int))) := of_decide_eq_false h130
      refine wp_exit (then_x (then_x (blk_hit (then_n (hK119 _ _ ?_)))))
      obtain rfl : k = nk.length := by omega
      refine wp_seq_k (fun K184 hK184 => ?_)
      refine wp_reg ?_
      refine wpF_seg 3 (by kernel_rfl) ?_
      refine gF hM125 (.binOp .sub 3 (.const (.int .i64 1024)) (.tmp 91) 3) (some 92) (by kernel_rfl) (Y_sub .i64 (1024) (((bodyR true nk nv nc ((nk.length))).length : Int)) (((1024 - (bodyR true nk nv nc nk.length).length : Nat) : Int)) (by kernel_rfl) (by kernel_rfl) (by rw [wrap64_ok _ (by simp only [bodyR_eq]; omega)]; simp only [bodyR_eq]; omega)) ?_
      refine wpF_mkSlice (K := byteK) (e := 5) (by_ := 1) (m := (1024 - (bodyR true nk nv nc nk.length).length)) (z := .int .u8 0) hM125 (h := (by kernel_rfl : opAt _ _ _ _ _ = some (.makeSlice 28 (.tmp 92) (.tmp 92), some 93))) (by kernel_rfl) (by kernel_rfl) (by kernel_rfl) rfl (by kernel_rfl) (by kernel_rfl) rfl (by kernel_rfl) 0 (fun _ => Reps.one_byte) (by omega) (fun A185 c186 V187 w188 le189 hM190 r191 => ?_)
      refine gF hM190 (.convert 28 9 (.tmp 93)) (some 94) (by kernel_rfl) (Y_toStr (A := A185) (c := c186) r191 (e := 5) (by kernel_rfl) (by kernel_rfl) (by kernel_rfl)) ?_
      refine gF hM190 (.binOp .add 9 (.tmp 89) (.tmp 94) 9) (some 95) (by kernel_rfl) (Y_concat (bodyR true nk nv nc ((nk.length))) (List.replicate ((1024 - (bodyR true nk nv nc nk.length).length)) 0) (by kernel_rfl) (by kernel_rfl) (by first | omega | (simp only [bodyR_eq, putM_len, List.length_append, List.length_cons, List.length_nil, List.length_replicate] at *; omega))) ?_
      refine wpF_seg 1 (by kernel_rfl) ?_
      refine wpF_end _ (by kernel_rfl) (then_n (hK184 _ _ ?_))
      refine wp_ret ?_
      refine retN [bs (bodyR true nk nv nc ((nk.length)) ++ List.replicate ((1024 - (bodyR true nk nv nc nk.length).length)) 0)] (bs (bodyR true nk nv nc ((nk.length)) ++ List.replicate ((1024 - (bodyR true nk nv nc nk.length).length)) 0)) Try.results33 (.tmp (by kernel_rfl) (by kernel_rfl) .nil) (by kernel_rfl) (hRet _ _ ⟨_, _, rfl, hM190.clear, ?_⟩)
      -- end TLf
      refine ⟨?_, ?_⟩
      · (simp only [pageM, bodyR_eq])
      · (simp only [pageM, List.length_append, List.length_replicate]; omega)

end Go.Vk
