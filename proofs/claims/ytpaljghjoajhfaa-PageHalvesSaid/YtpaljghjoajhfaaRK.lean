/- Contracts of the page's functions, part K: printed by wip/tools/p8.py. -/
import Derived.Test.YtpaljghjoajhfaaRH
import Derived.Test.YtpaljghjoajhfaaRJ
set_option linter.unusedVariables false
set_option linter.unusedSimpArgs false
namespace Go.Vk
open Go.Proofs
set_option maxHeartbeats 4000000 in
set_option maxRecDepth 100000 in
theorem f13 (V : VT) (w : World) (hV : V.inW w) (nl : Bool) (Ank : Option Addr) (cnk : Nat) (nk : List Str) (hnk : Rd strK V Ank cnk nk) (Anv : Option Addr) (cnv : Nat) (nv : List Str) (hnv : Rd strK V Anv cnv nv) (Anc : Option Addr) (cnc : Nat) (nc : List Int) (hnc : Rd (intK .i64) V Anc cnc nc) (hk : nk.length ≤ 4096) (hv : nv.length ≤ 4096) :
    Calls Try.prog 13 #[.agg #[.bool (nl), .slice Ank (nk).length cnk, .slice Anv (nv).length cnv, .slice Anc (nc).length cnc]] w (RetP V w fun rv V' => ∃ (A1 : Option Addr), ∃ (c1 : Nat), rv = .tuple #[.slice A1 (bytesM nl nk nv nc).length c1, .int .i64 (checkM nl nk nv nc)] ∧ Rd byteK V' A1 c1 (bytesM nl nk nv nc)) := by
  have mxnk : nk.length ≤ 140737488355328 := hnk.max
  have mxnv : nv.length ≤ 140737488355328 := hnv.max
  have mxnc : nc.length ≤ 140737488355328 := hnc.max
  refine calls_env (n := 78) Try.func13 (c := _) rfl Try.ntmps13 (by kernel_rfl) (fun R hRet => ?_)
  have hM0 : Step V w [] V w [] := Step.refl (St.nilE hV)
  cases nl with
  | false =>
    refine wp_seq_k (fun K1 hK1 => ?_)
    refine wp_reg ?_
    refine wpF_box hM0 #[.bool (false), .slice Ank (nk).length cnk, .slice Anv (nv).length cnv, .slice Anc (nc).length cnc] (h := (by kernel_rfl : opAt _ _ _ _ _ = some (.box 25 (.tmp 0), some 1))) (by kernel_rfl) (fun b2 w3 hM4 => ?_)
    obtain ⟨V5, le6, hM7, hc8⟩ := hM4.settle 0 rfl
    have hM9 : Step V w [] V5 _ ([]) := hM7
    refine wpF_seg 2 (by kernel_rfl) ?_
    refine wpF_end _ (by kernel_rfl) (then_n (hK1 _ _ ?_))
    refine wp_seq_k (fun K10 hK10 => ?_)
    refine wp_seq_k (fun K11 hK11 => ?_)
    refine wp_reg ?_
    refine gF hM9 (.load 25 (.tmp 1)) (some 8) (by kernel_rfl) (Y_loadB #[.bool (false), .slice Ank (nk).length cnk, .slice Anv (nv).length cnv, .slice Anc (nc).length cnc] hc8 (off := 0) (by kernel_rfl) (.agg #[.bool (false), .slice Ank (nk).length cnk, .slice Anv (nv).length cnv, .slice Anc (nc).length cnc]) (by kernel_rfl)) ?_
    refine wpF_callP hM9 (f := 17) (caps := #[]) (h := (by kernel_rfl : opAt _ _ _ _ _ = some (.call (.mk (.value (.func 17)) #[(.tmp 8)] #[25]), some 9))) (by kernel_rfl) (by kernel_rfl) (by kernel_rfl) (f17 _ _ hM9.inW (false) Ank cnk (nk) (hnk.up hM9.le) Anv cnv (nv) (hnv.up hM9.le) Anc cnc (nc) (hnc.up hM9.le) (by omega) (by omega)) (fun v12 V13 w14 le15 hM16 hp17 => ?_)
    obtain rfl := hp17
    refine wpF_seg 1 (by kernel_rfl) ?_
    refine wpF_end _ (by kernel_rfl) (then_n (hK11 _ _ ?_))
    refine wp_seq_k (fun K18 hK18 => ?_)
    refine wp_reg ?_
    refine wpF_seg 2 (by kernel_rfl) ?_
    refine wpF_end _ (by kernel_rfl) (then_n (hK18 _ _ ?_))
    refine wp_if (!(decide ((checkM (false) (nk) (nv) (nc)) = (0)))) (by kernel_rfl) (fun h19 => ?_) (fun h19 => ?_)
    · -- Ft
      have h20 : decide ((checkM (false) (nk) (nv) (nc)) = (0)) = false := by rw [← Bool.not_not (decide _), h19]; rfl
      have p21 : ¬ ((checkM (false) (nk) (nv) (nc)) = (0)) := of_decide_eq_false h20
      refine wp_seq_k (fun K22 hK22 => ?_)
      refine wp_reg ?_
      refine wpF_seg 3 (by kernel_rfl) ?_
      refine wpF_end _ (by kernel_rfl) (then_n (hK22 _ _ ?_))
      refine wp_ret (then_r (?_))
      refine retN [.slice none 0 0, .int .i64 (checkM (false) (nk) (nv) (nc))] (.tuple #[.slice none 0 0, .int .i64 (checkM (false) (nk) (nv) (nc))]) Try.results13 (.tmp (by kernel_rfl) (by kernel_rfl) (.tmp (by kernel_rfl) (by kernel_rfl) .nil)) (by kernel_rfl) (hRet _ _ ⟨_, _, rfl, hM16.clear, ?_⟩)
      -- end Ft
      refine ⟨none, 0, ?_, ?_⟩
      · first | (simp only [bytesM, h19, h20, cond_false]; done) | (simp only [bytesM, h19, h20, cond_false]; rfl) | (have hc0 : checkM false nk nv nc = 0 := (by assumption); simp only [bytesM, h19, h20, cond_true, hc0, decide_true, pageM]; done)
      · first | exact (Rd.nil _ _) | (exact Rd.eq (Rd.nil _ _) (by simp only [bytesM, h19, h20, cond_true, cond_false, pageM]))
    · -- Ff
      have h23 : decide ((checkM (false) (nk) (nv) (nc)) = (0)) = true := by rw [← Bool.not_not (decide _), h19]; rfl
      have p24 : ((checkM (false) (nk) (nv) (nc)) = (0)) := of_decide_eq_true h23
      have hs := check_stands (by assumption : checkM false nk nv nc = 0)
      have hz := check_size (by assumption : checkM false nk nv nc = 0)
      have hbs := body_size hs
      have hl := stands_kids hs
      have hk0 := hl.2.2 0 (by omega)
      refine wp_skip (then_n (hK10 _ _ ?_))
      refine wp_seq_k (fun K25 hK25 => ?_)
      refine wp_reg ?_
      refine wpF_seg 1 (by kernel_rfl) ?_
      refine wpF_end _ (by kernel_rfl) (then_n (hK25 _ _ ?_))
      refine wp_seq_k (fun K26 hK26 => ?_)
      refine wp_seq_k (fun K27 hK27 => ?_)
      refine wp_reg ?_
      refine wpF_seg 1 (by kernel_rfl) ?_
      refine gF hM16 (.load 4 (.tmp 13)) (some 14) (by kernel_rfl) (Y_loadB #[.bool (false), .slice Ank (nk).length cnk, .slice Anv (nv).length cnv, .slice Anc (nc).length cnc] (fun i v hi => le15 _ _ _ (hc8 i v hi)) (off := 0) (by kernel_rfl) (.bool (false)) (by kernel_rfl)) ?_
      refine wpF_end _ (by kernel_rfl) (then_n (hK27 _ _ ?_))
      refine wp_cf (by kernel_rfl) ?_
      refine wp_base [(1, .pointer (some ⟨b2, 0, none⟩)), (2, .slice none 0 0), (3, .int .i64 (0)), (5, .slice none 0 0)] (by kernel_rfl) (fun g28 => ?_)
      refine wp_drawN hM16 [] no_held [] [0, 3, 4, 5, 7, 8, 9, 10] [.a 1, .a 2, .a 6, .a 11, .p 12] [.p 0, .p 3, .p 4, .p 5, .p 7, .p 8, .p 9, .p 10, .s, .a 1, .a 2, .a 6, .a 11, .p 12] rfl (by kernel_rfl) (by kernel_rfl) ?_
      refine h_seg 2 (by kernel_rfl) ?_
      refine gH (.load 22 (.tmp 25)) (some 26) (by kernel_rfl) (Y_loadB #[.bool (false), .slice Ank (nk).length cnk, .slice Anv (nv).length cnv, .slice Anc (nc).length cnc] (fun i v hi => le15 _ _ _ (hc8 i v hi)) (off := 1) (by kernel_rfl) (.slice Ank (nk).length cnk) (by kernel_rfl)) ?_
      refine h_seg 2 (by kernel_rfl) ?_
      refine gH (.load 23 (.tmp 29)) (some 30) (by kernel_rfl) (Y_loadB #[.bool (false), .slice Ank (nk).length cnk, .slice Anv (nv).length cnv, .slice Anc (nc).length cnc] (fun i v hi => le15 _ _ _ (hc8 i v hi)) (off := 3) (by kernel_rfl) (.slice Anc (nc).length cnc) (by kernel_rfl)) ?_
      refine gH_index (A := Anc) (c := cnc) (hnc.up hM16.le) .i64 (0) (h := (by kernel_rfl : opAt _ _ _ _ _ = some (.indexAddr 23 (.tmp 30) (.const (.int .i64 0)), some 31))) (e := 3) (by kernel_rfl) (by kernel_rfl) (by kernel_rfl) (0) (by omega) (by omega) (fun b29 o30 at_b29 => ?_)
      have c31 : V13 b29 o30 = some (.int .i64 (nc.getD (0) 0)) := (At.int at_b29).1
      have l32 : IntKind.i64.min ≤ (nc.getD (0) 0) ∧ (nc.getD (0) 0) ≤ IntKind.i64.max := (At.int at_b29).2
      refine gH (.load 3 (.tmp 31)) (some 32) (by kernel_rfl) (Y_loadV c31 (by kernel_rfl) (by kernel_rfl)) ?_
      refine h_s no_fs ?_
      refine h_a (by kernel_rfl) (by kernel_rfl) (fun w33 X34 hM35 => ?_)
      refine wpF_litR byteK hM35 #[.int .u8 (73)] (h := (by kernel_rfl : opAt _ _ _ _ _ = some (.buildSlice 28 1 #[(0, (.const (.int .u8 73)))], some 23))) (e := 5) (by kernel_rfl) ([(73 : UInt8)]) Reps.one_byte rfl (by simp [maxL]) (fun A36 c37 V40 w38 le41 hM39 r42 => ?_)
      refine wpF_end _ (by kernel_rfl) (then_n (h_d [] (by kernel_rfl) [] hM39 no_held le41 ?_))
      refine h_a (by kernel_rfl) (by kernel_rfl) (fun w43 X44 hM45 => ?_)
      have hM46 := hM45.nilrow byteK 5
      refine wpF_append (by_ := 1) hM46 0 rfl (h := (by kernel_rfl : opAt _ _ _ _ _ = some (.call (.mk (.builtin .append) #[(.tmp 22), (.tmp 23)] #[28, 28]), some 24))) (by kernel_rfl) (by kernel_rfl) (by kernel_rfl) (by kernel_rfl) (by kernel_rfl) (by kernel_rfl) (by kernel_rfl) (Src.rd r42) (by first | omega | (simp only [putM_len, List.length_append, List.length_cons, List.length_nil]; omega)) (fun A47 c48 w49 hM50 => ?_)
      have hM51 : Step V w [] V40 _ ([.row byteK 5 A47 c48 ([(73 : UInt8)])] ++ X44) := hM50
      refine wpF_end _ (by kernel_rfl) (then_n (h_d [] (by kernel_rfl) [.row byteK 5 A47 c48 ([(73 : UInt8)])] hM51 no_held (VT.le.refl _) ?_))
      refine h_a (by kernel_rfl) (by kernel_rfl) (fun w52 X53 hM54 => ?_)
      have hM55 := hM54.front 0 rfl
      have hM63 : Step V w [] V40 _ ([.row byteK 5 A47 c48 ([(73 : UInt8)])] ++ X53) := hM55
      refine wpF_callE [.row byteK 5 A47 c48 ([(73 : UInt8)])] ([] ++ X53) hM63 (f := 30) (caps := #[]) (h := (by kernel_rfl : opAt _ _ _ _ _ = some (.call (.mk (.value (.func 30)) #[(.tmp 24), (.tmp 27)] #[28, 3]), some 28))) (by kernel_rfl) (by kernel_rfl) (by kernel_rfl) (f30 _ _ A47 c48 ([(73 : UInt8)]) ((nk.length : Int)) (St.part (E := [.row byteK 5 A47 c48 ([(73 : UInt8)])]) (F := ([] ++ X53)) hM63.ok) (by omega) (by omega) (by first | omega | (simp only [putM_len, List.length_append, List.length_cons, List.length_nil]; omega) | (simp; done))) (fun v56 V57 w58 Eo59 le60 hM61 hp62 => ?_)
      obtain ⟨Ar63_1, cr63_1, rfl, rfl⟩ := hp62
      have hM64 : Step V w [] V57 _ ([.row byteK 5 Ar63_1 cr63_1 (putM ([(73 : UInt8)]) ((nk.length : Int)) 2 2)] ++ X53) := hM61
      refine wpF_end _ (by kernel_rfl) (then_n (h_d [] (by kernel_rfl) [.row byteK 5 Ar63_1 cr63_1 (putM ([(73 : UInt8)]) ((nk.length : Int)) 2 2)] hM64 no_held le60 ?_))
      refine h_a (by kernel_rfl) (by kernel_rfl) (fun w65 X66 hM67 => ?_)
      have hM68 := hM67.front 0 rfl
      have hM76 : Step V w [] V57 _ ([.row byteK 5 Ar63_1 cr63_1 (putM ([(73 : UInt8)]) ((nk.length : Int)) 2 2)] ++ X66) := hM68
      refine wpF_callE [.row byteK 5 Ar63_1 cr63_1 (putM ([(73 : UInt8)]) ((nk.length : Int)) 2 2)] ([] ++ X66) hM76 (f := 31) (caps := #[]) (h := (by kernel_rfl : opAt _ _ _ _ _ = some (.call (.mk (.value (.func 31)) #[(.tmp 28), (.tmp 32)] #[28, 3]), some 33))) (by kernel_rfl) (by kernel_rfl) (by kernel_rfl) (f31 _ _ Ar63_1 cr63_1 (putM ([(73 : UInt8)]) ((nk.length : Int)) 2 2) ((nc.getD (0) 0)) (St.part (E := [.row byteK 5 Ar63_1 cr63_1 (putM ([(73 : UInt8)]) ((nk.length : Int)) 2 2)]) (F := ([] ++ X66)) hM76.ok) (by omega) (by omega) (by first | omega | (simp only [putM_len, List.length_append, List.length_cons, List.length_nil]; omega) | (simp; done))) (fun v69 V70 w71 Eo72 le73 hM74 hp75 => ?_)
      obtain ⟨Ar76_1, cr76_1, rfl, rfl⟩ := hp75
      have hM77 : Step V w [] V70 _ ([.row byteK 5 Ar76_1 cr76_1 (putM (putM ([(73 : UInt8)]) ((nk.length : Int)) 2 2) ((nc.getD (0) 0)) 4 4)] ++ X66) := hM74
      refine wpF_end _ (by kernel_rfl) (then_n (h_d [] (by kernel_rfl) [.row byteK 5 Ar76_1 cr76_1 (putM (putM ([(73 : UInt8)]) ((nk.length : Int)) 2 2) ((nc.getD (0) 0)) 4 4)] hM77 no_held le73 ?_))
      refine h_seg 1 (by kernel_rfl) ?_
      refine h_n (fun w78 hM79 => ?_)
      refine  (then_n (hK26 _ _ ?_))
      refine wp_seq_k (fun K80 hK80 => ?_)
      refine wp_seq_k (fun K81 hK81 => ?_)
      refine wp_reg ?_
      refine wpF_seg 1 (by kernel_rfl) ?_
      refine gF hM79 (.load 22 (.tmp 34)) (some 35) (by kernel_rfl) (Y_loadB #[.bool (false), .slice Ank (nk).length cnk, .slice Anv (nv).length cnv, .slice Anc (nc).length cnc] (fun i v hi => (((le15.trans le41).trans le60).trans le73) _ _ _ (hc8 i v hi)) (off := 1) (by kernel_rfl) (.slice Ank (nk).length cnk) (by kernel_rfl)) ?_
      refine wpF_seg 2 (by kernel_rfl) ?_
      refine wpF_end _ (by kernel_rfl) (then_n (hK81 _ _ ?_))
      refine wp_block ?_
      refine wp_base [(1, .pointer (some ⟨b2, 0, none⟩)), (2, .slice none 0 0), (3, .int .i64 (0)), (5, .slice Ar76_1 (bodyM false nk nv nc (0)).length cr76_1), (35, .slice Ank (nk).length cnk), (36, .int .i64 ((nk.length : Int))), (37, .int .i64 ((0 : Int)))] (by kernel_rfl) (fun g83 => ?_)
      refine wp_loopX (fun (x_ : Nat) a_ w_ => ∃ (g : Nat → Value) (V_ : VT), ∃ (Ar5 : Option Addr) (cr5 : Nat), a_ = env 78 [(1, .pointer (some ⟨b2, 0, none⟩)), (2, .slice none 0 0), (3, .int .i64 (0)), (5, .slice Ar5 (bodyM false nk nv nc (x_)).length cr5), (35, .slice Ank (nk).length cnk), (36, .int .i64 ((nk.length : Int))), (37, .int .i64 ((x_ : Int)))] g ∧ Step V w [] V_ w_ [.row byteK 5 Ar5 cr5 (bodyM false nk nv nc (x_))] ∧ VT.le V70 V_ ∧ (x_ ≤ nk.length) ∧ ((bodyM false nk nv nc (x_)).length ≤ 7 + 400 * (x_))) (fun (x_ : Nat) => nk.length - x_) (0) ⟨g83, V70, Ar76_1, cr76_1, rfl, hM79, VT.le.refl _, by omega, by (simp only [bodyM, headM, cond_true, cond_false, putM_len, List.length_cons, List.length_nil]; omega)⟩ ?_
      rintro k a_ w85 ⟨g84, Vl82, Ar_885, cr_885, rfl, hM86, le87, hi88_0, hi88_1⟩ K88 hK88
      refine wp_seq_k (fun K89 hK89 => ?_)
      refine wp_reg ?_
      refine wpF_seg 1 (by kernel_rfl) ?_
      refine wpF_end _ (by kernel_rfl) (then_n (hK89 _ _ ?_))
      refine wp_seq_k (fun K90 hK90 => ?_)
      refine wp_if (decide (((k : Int)) < ((nk.length : Int)))) (by kernel_rfl) (fun h91 => ?_) (fun h91 => ?_)
      · -- FfLt
        have p92 : (((k : Int)) < ((nk.length : Int))) := of_decide_eq_true h91
        have hks := key_short hs (k := k) (by omega)
        have hvs := hl.2.2 (k + 1) (by omega)
        refine wp_skip (then_n (hK90 _ _ ?_))
        refine wp_seq_k (fun K93 hK93 => ?_)
        refine wp_block ?_
        refine wp_seq_k (fun K94 hK94 => ?_)
        refine wp_reg ?_
        refine wpF_seg 1 (by kernel_rfl) ?_
        refine gF_index (A := Ank) (c := cnk) (hnk.up hM86.le) .i64 ((k : Int)) (h := (by kernel_rfl : opAt _ _ _ _ _ = some (.indexAddr 22 (.tmp 35) (.tmp 37), some 40))) (e := 9) (by kernel_rfl) (by kernel_rfl) (by kernel_rfl) (k) rfl (by omega) (fun b95 o96 at_b95 => ?_)
        have c97 : Vl82 b95 o96 = some (bs (nk.getD (k) [])) := (At.str at_b95).1
        have l98 : (nk.getD (k) []).length ≤ 140737488355328 := (At.str at_b95).2
        refine gF hM86 (.load 9 (.tmp 40)) (some 41) (by kernel_rfl) (Y_loadV c97 (by kernel_rfl) (by kernel_rfl)) ?_
        refine wpF_seg 2 (by kernel_rfl) ?_
        refine wpF_end _ (by kernel_rfl) (then_n (hK94 _ _ ?_))
        refine wp_seq_k (fun K99 hK99 => ?_)
        refine wp_reg ?_
        refine wpF_seg 3 (by kernel_rfl) ?_
        have hM100 := hM86.front 0 rfl
        have hM108 : Step V w [] Vl82 _ ([.row byteK 5 Ar_885 cr_885 (bodyM false nk nv nc (k))]) := hM100
        refine wpF_callE [.row byteK 5 Ar_885 cr_885 (bodyM false nk nv nc (k))] ([]) hM108 (f := 32) (caps := #[]) (h := (by kernel_rfl : opAt _ _ _ _ _ = some (.call (.mk (.value (.func 32)) #[(.tmp 42), (.tmp 44)] #[28, 3]), some 45))) (by kernel_rfl) (by kernel_rfl) (by kernel_rfl) (f32 _ _ Ar_885 cr_885 (bodyM false nk nv nc (k)) ((((nk.getD (k) [])).length : Int)) (St.part (E := [.row byteK 5 Ar_885 cr_885 (bodyM false nk nv nc (k))]) (F := ([])) hM108.ok) (by omega) (by omega) (by first | omega | (simp only [putM_len, List.length_append, List.length_cons, List.length_nil]; omega) | (simp; done))) (fun v101 V102 w103 Eo104 le105 hM106 hp107 => ?_)
        obtain ⟨Ar108_1, cr108_1, rfl, rfl⟩ := hp107
        have hM109 : Step V w [] V102 _ ([.row byteK 5 Ar108_1 cr108_1 (putM (bodyM false nk nv nc (k)) ((((nk.getD (k) [])).length : Int)) 1 1)]) := hM106
        refine wpF_seg 1 (by kernel_rfl) ?_
        refine wpF_append (by_ := 1) hM109 0 rfl (h := (by kernel_rfl : opAt _ _ _ _ _ = some (.call (.mk (.builtin .append) #[(.tmp 45), (.tmp 46)] #[28, 9]), some 47))) (by kernel_rfl) (by kernel_rfl) (by kernel_rfl) (by kernel_rfl) (by kernel_rfl) (by kernel_rfl) (by kernel_rfl) (Src.str ((nk.getD (k) []))) (by first | omega | (simp only [putM_len, List.length_append, List.length_cons, List.length_nil]; omega)) (fun A110 c111 w112 hM113 => ?_)
        have hM114 : Step V w [] V102 _ ([.row byteK 5 A110 c111 (putM (bodyM false nk nv nc (k)) ((((nk.getD (k) [])).length : Int)) 1 1 ++ (nk.getD (k) []))]) := hM113
        refine wpF_seg 1 (by kernel_rfl) ?_
        refine wpF_end _ (by kernel_rfl) (then_n (hK99 _ _ ?_))
        refine wp_seq_k (fun K115 hK115 => ?_)
        refine wp_reg ?_
        refine wpF_seg 1 (by kernel_rfl) ?_
        refine gF hM114 (.load 4 (.tmp 48)) (some 49) (by kernel_rfl) (Y_loadB #[.bool (false), .slice Ank (nk).length cnk, .slice Anv (nv).length cnv, .slice Anc (nc).length cnc] (fun i v hi => (((((le15.trans le41).trans le60).trans le73).trans le87).trans le105) _ _ _ (hc8 i v hi)) (off := 0) (by kernel_rfl) (.bool (false)) (by kernel_rfl)) ?_
        refine wpF_end _ (by kernel_rfl) (then_n (hK115 _ _ ?_))
        refine wp_cf (by kernel_rfl) ?_
        refine wp_reg ?_
        refine wpF_seg 2 (by kernel_rfl) ?_
        refine gF hM114 (.load 23 (.tmp 65)) (some 66) (by kernel_rfl) (Y_loadB #[.bool (false), .slice Ank (nk).length cnk, .slice Anv (nv).length cnv, .slice Anc (nc).length cnc] (fun i v hi => (((((le15.trans le41).trans le60).trans le73).trans le87).trans le105) _ _ _ (hc8 i v hi)) (off := 3) (by kernel_rfl) (.slice Anc (nc).length cnc) (by kernel_rfl)) ?_
        refine wpF_seg 1 (by kernel_rfl) ?_
        refine gF hM114 (.binOp .add 3 (.tmp 67) (.const (.int .i64 1)) 3) (some 68) (by kernel_rfl) (Y_add .i64 ((k : Int)) (1) ((k : Int) + 1) (by kernel_rfl) (by kernel_rfl) (wrap64_ok _ (by omega))) ?_
        refine gF_index (A := Anc) (c := cnc) (hnc.up hM114.le) .i64 ((k : Int) + 1) (h := (by kernel_rfl : opAt _ _ _ _ _ = some (.indexAddr 23 (.tmp 66) (.tmp 68), some 69))) (e := 3) (by kernel_rfl) (by kernel_rfl) (by kernel_rfl) (k + 1) (by omega) (by omega) (fun b116 o117 at_b116 => ?_)
        have c118 : V102 b116 o117 = some (.int .i64 (nc.getD (k + 1) 0)) := (At.int at_b116).1
        have l119 : IntKind.i64.min ≤ (nc.getD (k + 1) 0) ∧ (nc.getD (k + 1) 0) ≤ IntKind.i64.max := (At.int at_b116).2
        refine gF hM114 (.load 3 (.tmp 69)) (some 70) (by kernel_rfl) (Y_loadV c118 (by kernel_rfl) (by kernel_rfl)) ?_
        have hM120 := hM114.front 0 rfl
        have hM128 : Step V w [] V102 _ ([.row byteK 5 A110 c111 (putM (bodyM false nk nv nc (k)) ((((nk.getD (k) [])).length : Int)) 1 1 ++ (nk.getD (k) []))]) := hM120
        refine wpF_callE [.row byteK 5 A110 c111 (putM (bodyM false nk nv nc (k)) ((((nk.getD (k) [])).length : Int)) 1 1 ++ (nk.getD (k) []))] ([]) hM128 (f := 31) (caps := #[]) (h := (by kernel_rfl : opAt _ _ _ _ _ = some (.call (.mk (.value (.func 31)) #[(.tmp 64), (.tmp 70)] #[28, 3]), some 71))) (by kernel_rfl) (by kernel_rfl) (by kernel_rfl) (f31 _ _ A110 c111 (putM (bodyM false nk nv nc (k)) ((((nk.getD (k) [])).length : Int)) 1 1 ++ (nk.getD (k) [])) ((nc.getD (k + 1) 0)) (St.part (E := [.row byteK 5 A110 c111 (putM (bodyM false nk nv nc (k)) ((((nk.getD (k) [])).length : Int)) 1 1 ++ (nk.getD (k) []))]) (F := ([])) hM128.ok) (by omega) (by omega) (by first | omega | (simp only [putM_len, List.length_append, List.length_cons, List.length_nil]; omega) | (simp; done))) (fun v121 V122 w123 Eo124 le125 hM126 hp127 => ?_)
        obtain ⟨Ar128_1, cr128_1, rfl, rfl⟩ := hp127
        have hM129 : Step V w [] V122 _ ([.row byteK 5 Ar128_1 cr128_1 (putM (putM (bodyM false nk nv nc (k)) ((((nk.getD (k) [])).length : Int)) 1 1 ++ (nk.getD (k) [])) ((nc.getD (k + 1) 0)) 4 4)]) := hM126
        refine wpF_seg 1 (by kernel_rfl) ?_
        refine wpF_end _ (by kernel_rfl) (blk_n (then_n (hK93 _ _ ?_)))
        refine wp_reg ?_
        refine gF hM129 (.binOp .add 3 (.tmp 37) (.const (.int .i64 1)) 3) (some 72) (by kernel_rfl) (Y_add .i64 ((k : Int)) (1) ((k : Int) + 1) (by kernel_rfl) (by kernel_rfl) (wrap64_ok _ (by omega))) ?_
        refine wpF_seg 1 (by kernel_rfl) ?_
        refine wpF_base [(1, .pointer (some ⟨b2, 0, none⟩)), (2, .slice none 0 0), (3, .int .i64 (0)), (5, .slice Ar128_1 (bodyM false nk nv nc (k + 1)).length cr128_1), (35, .slice Ank (nk).length cnk), (36, .int .i64 ((nk.length : Int))), (37, .int .i64 ((k + 1 : Int)))] (by kernel_rfl) (fun g130 => ?_)
        refine wpF_end _ (by kernel_rfl) (then_n (hK88 _ _ (k + 1) (by omega) ?_))
        refine ⟨g130, V122, Ar128_1, cr128_1, rfl, hM129, ((le87.trans le105).trans le125), ?_, ?_⟩
        · -- FfLt inv 0
          omega
        · -- FfLt inv 1
          (simp only [bodyM, cond_true, cond_false, putM_len, List.length_append]; omega)
      · -- FfLf
        have p131 : ¬ (((k : Int)) < ((nk.length : Int))) := of_decide_eq_false h91
        refine wp_exit (then_x (then_x (blk_hit (then_n (hK80 _ _ ?_)))))
        obtain rfl : k = nk.length := by omega
        refine wp_seq_k (fun K132 hK132 => ?_)
        refine wp_reg ?_
        refine wpF_seg 3 (by kernel_rfl) ?_
        refine gF hM86 (.binOp .sub 3 (.const (.int .i64 1024)) (.tmp 75) 3) (some 76) (by kernel_rfl) (Y_sub .i64 (1024) (((bodyM false nk nv nc ((nk.length))).length : Int)) (((1024 - (bodyM false nk nv nc nk.length).length : Nat) : Int)) (by kernel_rfl) (by kernel_rfl) (by rw [wrap64_ok _ (by omega)]; omega)) ?_
        refine wpF_append0 (by_ := 1) (m := (1024 - (bodyM false nk nv nc nk.length).length)) (z := .int .u8 0) hM86 0 rfl (h := (by kernel_rfl : opAt _ _ _ _ _ = some (.call (.mk (.builtin .append) #[(.tmp 73), (.tmp 76)] #[28, 3]), some 77))) (by kernel_rfl) (by kernel_rfl) (by kernel_rfl) rfl (by kernel_rfl) (by kernel_rfl) rfl (by kernel_rfl) (by kernel_rfl) 0 (fun _ => Reps.one_byte) (by first | omega | (simp only [putM_len, List.length_append, List.length_cons, List.length_nil]; omega)) (fun A133 c134 w135 hM136 => ?_)
        have hM137 : Step V w [] Vl82 _ ([.row byteK 5 A133 c134 (bodyM false nk nv nc ((nk.length)) ++ List.replicate ((1024 - (bodyM false nk nv nc nk.length).length)) 0)]) := hM136
        refine wpF_seg 2 (by kernel_rfl) ?_
        refine wpF_end _ (by kernel_rfl) (then_n (hK132 _ _ ?_))
        refine wp_ret ?_
        obtain ⟨V138, le139, hM140, r141⟩ := hM137.settleRow 0 rfl
        have hM142 : Step V w [] V138 _ ([]) := hM140
        refine retN [.slice A133 (bodyM false nk nv nc ((nk.length)) ++ List.replicate ((1024 - (bodyM false nk nv nc nk.length).length)) 0).length c134, .int .i64 (0)] (.tuple #[.slice A133 (bodyM false nk nv nc ((nk.length)) ++ List.replicate ((1024 - (bodyM false nk nv nc nk.length).length)) 0).length c134, .int .i64 (0)]) Try.results13 (.tmp (by kernel_rfl) (by kernel_rfl) (.tmp (by kernel_rfl) (by kernel_rfl) .nil)) (by kernel_rfl) (hRet _ _ ⟨_, _, rfl, hM142.clear, ?_⟩)
        -- end FfLf
        refine ⟨A133, c134, ?_, ?_⟩
        · first | (simp only [bytesM, h19, h23, h91, cond_false]; done) | (simp only [bytesM, h19, h23, h91, cond_false]; rfl) | (have hc0 : checkM false nk nv nc = 0 := (by assumption); simp only [bytesM, h19, h23, h91, cond_true, hc0, decide_true, pageM]; done)
        · first | exact r141 | (exact Rd.eq r141 (by simp only [bytesM, h19, h23, h91, cond_true, cond_false, pageM]))
  | true =>
    refine wp_seq_k (fun K143 hK143 => ?_)
    refine wp_reg ?_
    refine wpF_box hM0 #[.bool (true), .slice Ank (nk).length cnk, .slice Anv (nv).length cnv, .slice Anc (nc).length cnc] (h := (by kernel_rfl : opAt _ _ _ _ _ = some (.box 25 (.tmp 0), some 1))) (by kernel_rfl) (fun b144 w145 hM146 => ?_)
    obtain ⟨V147, le148, hM149, hc150⟩ := hM146.settle 0 rfl
    have hM151 : Step V w [] V147 _ ([]) := hM149
    refine wpF_seg 2 (by kernel_rfl) ?_
    refine wpF_end _ (by kernel_rfl) (then_n (hK143 _ _ ?_))
    refine wp_seq_k (fun K152 hK152 => ?_)
    refine wp_seq_k (fun K153 hK153 => ?_)
    refine wp_reg ?_
    refine gF hM151 (.load 25 (.tmp 1)) (some 8) (by kernel_rfl) (Y_loadB #[.bool (true), .slice Ank (nk).length cnk, .slice Anv (nv).length cnv, .slice Anc (nc).length cnc] hc150 (off := 0) (by kernel_rfl) (.agg #[.bool (true), .slice Ank (nk).length cnk, .slice Anv (nv).length cnv, .slice Anc (nc).length cnc]) (by kernel_rfl)) ?_
    refine wpF_callP hM151 (f := 17) (caps := #[]) (h := (by kernel_rfl : opAt _ _ _ _ _ = some (.call (.mk (.value (.func 17)) #[(.tmp 8)] #[25]), some 9))) (by kernel_rfl) (by kernel_rfl) (by kernel_rfl) (f17 _ _ hM151.inW (true) Ank cnk (nk) (hnk.up hM151.le) Anv cnv (nv) (hnv.up hM151.le) Anc cnc (nc) (hnc.up hM151.le) (by omega) (by omega)) (fun v154 V155 w156 le157 hM158 hp159 => ?_)
    obtain rfl := hp159
    refine wpF_seg 1 (by kernel_rfl) ?_
    refine wpF_end _ (by kernel_rfl) (then_n (hK153 _ _ ?_))
    refine wp_seq_k (fun K160 hK160 => ?_)
    refine wp_reg ?_
    refine wpF_seg 2 (by kernel_rfl) ?_
    refine wpF_end _ (by kernel_rfl) (then_n (hK160 _ _ ?_))
    refine wp_if (!(decide ((checkM (true) (nk) (nv) (nc)) = (0)))) (by kernel_rfl) (fun h161 => ?_) (fun h161 => ?_)
    · -- Tt
      have h162 : decide ((checkM (true) (nk) (nv) (nc)) = (0)) = false := by rw [← Bool.not_not (decide _), h161]; rfl
      have p163 : ¬ ((checkM (true) (nk) (nv) (nc)) = (0)) := of_decide_eq_false h162
      refine wp_seq_k (fun K164 hK164 => ?_)
      refine wp_reg ?_
      refine wpF_seg 3 (by kernel_rfl) ?_
      refine wpF_end _ (by kernel_rfl) (then_n (hK164 _ _ ?_))
      refine wp_ret (then_r (?_))
      refine retN [.slice none 0 0, .int .i64 (checkM (true) (nk) (nv) (nc))] (.tuple #[.slice none 0 0, .int .i64 (checkM (true) (nk) (nv) (nc))]) Try.results13 (.tmp (by kernel_rfl) (by kernel_rfl) (.tmp (by kernel_rfl) (by kernel_rfl) .nil)) (by kernel_rfl) (hRet _ _ ⟨_, _, rfl, hM158.clear, ?_⟩)
      -- end Tt
      refine ⟨none, 0, ?_, ?_⟩
      · first | (simp only [bytesM, h161, h162, cond_false]; done) | (simp only [bytesM, h161, h162, cond_false]; rfl) | (have hc0 : checkM true nk nv nc = 0 := (by assumption); simp only [bytesM, h161, h162, cond_true, hc0, decide_true, pageM]; done)
      · first | exact (Rd.nil _ _) | (exact Rd.eq (Rd.nil _ _) (by simp only [bytesM, h161, h162, cond_true, cond_false, pageM]))
    · -- Tf
      have h165 : decide ((checkM (true) (nk) (nv) (nc)) = (0)) = true := by rw [← Bool.not_not (decide _), h161]; rfl
      have p166 : ((checkM (true) (nk) (nv) (nc)) = (0)) := of_decide_eq_true h165
      have hs := check_stands (by assumption : checkM true nk nv nc = 0)
      have hz := check_size (by assumption : checkM true nk nv nc = 0)
      have hbs := body_size hs
      have hl := stands_leaf hs
      refine wp_skip (then_n (hK152 _ _ ?_))
      refine wp_seq_k (fun K167 hK167 => ?_)
      refine wp_reg ?_
      refine wpF_seg 1 (by kernel_rfl) ?_
      refine wpF_end _ (by kernel_rfl) (then_n (hK167 _ _ ?_))
      refine wp_seq_k (fun K168 hK168 => ?_)
      refine wp_seq_k (fun K169 hK169 => ?_)
      refine wp_reg ?_
      refine wpF_seg 1 (by kernel_rfl) ?_
      refine gF hM158 (.load 4 (.tmp 13)) (some 14) (by kernel_rfl) (Y_loadB #[.bool (true), .slice Ank (nk).length cnk, .slice Anv (nv).length cnv, .slice Anc (nc).length cnc] (fun i v hi => le157 _ _ _ (hc150 i v hi)) (off := 0) (by kernel_rfl) (.bool (true)) (by kernel_rfl)) ?_
      refine wpF_end _ (by kernel_rfl) (then_n (hK169 _ _ ?_))
      refine wp_ct (by kernel_rfl) ?_
      refine wp_base [(1, .pointer (some ⟨b144, 0, none⟩)), (2, .slice none 0 0), (3, .int .i64 (0)), (5, .slice none 0 0)] (by kernel_rfl) (fun g170 => ?_)
      refine wp_drawN hM158 [] no_held [] [0, 3, 4, 5] [.a 1, .a 2, .a 6, .p 7] [.p 0, .p 3, .p 4, .p 5, .s, .a 1, .a 2, .a 6, .p 7] rfl (by kernel_rfl) (by kernel_rfl) ?_
      refine h_seg 2 (by kernel_rfl) ?_
      refine gH (.load 22 (.tmp 18)) (some 19) (by kernel_rfl) (Y_loadB #[.bool (true), .slice Ank (nk).length cnk, .slice Anv (nv).length cnv, .slice Anc (nc).length cnc] (fun i v hi => le157 _ _ _ (hc150 i v hi)) (off := 1) (by kernel_rfl) (.slice Ank (nk).length cnk) (by kernel_rfl)) ?_
      refine h_seg 1 (by kernel_rfl) ?_
      refine h_s no_fs ?_
      refine h_a (by kernel_rfl) (by kernel_rfl) (fun w171 X172 hM173 => ?_)
      refine wpF_litR byteK hM173 #[.int .u8 (76)] (h := (by kernel_rfl : opAt _ _ _ _ _ = some (.buildSlice 28 1 #[(0, (.const (.int .u8 76)))], some 16))) (e := 5) (by kernel_rfl) ([(76 : UInt8)]) Reps.one_byte rfl (by simp [maxL]) (fun A174 c175 V178 w176 le179 hM177 r180 => ?_)
      refine wpF_end _ (by kernel_rfl) (then_n (h_d [] (by kernel_rfl) [] hM177 no_held le179 ?_))
      refine h_a (by kernel_rfl) (by kernel_rfl) (fun w181 X182 hM183 => ?_)
      have hM184 := hM183.nilrow byteK 5
      refine wpF_append (by_ := 1) hM184 0 rfl (h := (by kernel_rfl : opAt _ _ _ _ _ = some (.call (.mk (.builtin .append) #[(.tmp 15), (.tmp 16)] #[28, 28]), some 17))) (by kernel_rfl) (by kernel_rfl) (by kernel_rfl) (by kernel_rfl) (by kernel_rfl) (by kernel_rfl) (by kernel_rfl) (Src.rd r180) (by first | omega | (simp only [putM_len, List.length_append, List.length_cons, List.length_nil]; omega)) (fun A185 c186 w187 hM188 => ?_)
      have hM189 : Step V w [] V178 _ ([.row byteK 5 A185 c186 ([(76 : UInt8)])] ++ X182) := hM188
      refine wpF_end _ (by kernel_rfl) (then_n (h_d [] (by kernel_rfl) [.row byteK 5 A185 c186 ([(76 : UInt8)])] hM189 no_held (VT.le.refl _) ?_))
      refine h_a (by kernel_rfl) (by kernel_rfl) (fun w190 X191 hM192 => ?_)
      have hM193 := hM192.front 0 rfl
      have hM201 : Step V w [] V178 _ ([.row byteK 5 A185 c186 ([(76 : UInt8)])] ++ X191) := hM193
      refine wpF_callE [.row byteK 5 A185 c186 ([(76 : UInt8)])] ([] ++ X191) hM201 (f := 30) (caps := #[]) (h := (by kernel_rfl : opAt _ _ _ _ _ = some (.call (.mk (.value (.func 30)) #[(.tmp 17), (.tmp 20)] #[28, 3]), some 21))) (by kernel_rfl) (by kernel_rfl) (by kernel_rfl) (f30 _ _ A185 c186 ([(76 : UInt8)]) ((nk.length : Int)) (St.part (E := [.row byteK 5 A185 c186 ([(76 : UInt8)])]) (F := ([] ++ X191)) hM201.ok) (by omega) (by omega) (by first | omega | (simp only [putM_len, List.length_append, List.length_cons, List.length_nil]; omega) | (simp; done))) (fun v194 V195 w196 Eo197 le198 hM199 hp200 => ?_)
      obtain ⟨Ar201_1, cr201_1, rfl, rfl⟩ := hp200
      have hM202 : Step V w [] V195 _ ([.row byteK 5 Ar201_1 cr201_1 (putM ([(76 : UInt8)]) ((nk.length : Int)) 2 2)] ++ X191) := hM199
      refine wpF_end _ (by kernel_rfl) (then_n (h_d [] (by kernel_rfl) [.row byteK 5 Ar201_1 cr201_1 (putM ([(76 : UInt8)]) ((nk.length : Int)) 2 2)] hM202 no_held le198 ?_))
      refine h_seg 1 (by kernel_rfl) ?_
      refine h_n (fun w203 hM204 => ?_)
      refine  (then_n (hK168 _ _ ?_))
      refine wp_seq_k (fun K205 hK205 => ?_)
      refine wp_seq_k (fun K206 hK206 => ?_)
      refine wp_reg ?_
      refine wpF_seg 1 (by kernel_rfl) ?_
      refine gF hM204 (.load 22 (.tmp 34)) (some 35) (by kernel_rfl) (Y_loadB #[.bool (true), .slice Ank (nk).length cnk, .slice Anv (nv).length cnv, .slice Anc (nc).length cnc] (fun i v hi => ((le157.trans le179).trans le198) _ _ _ (hc150 i v hi)) (off := 1) (by kernel_rfl) (.slice Ank (nk).length cnk) (by kernel_rfl)) ?_
      refine wpF_seg 2 (by kernel_rfl) ?_
      refine wpF_end _ (by kernel_rfl) (then_n (hK206 _ _ ?_))
      refine wp_block ?_
      refine wp_base [(1, .pointer (some ⟨b144, 0, none⟩)), (2, .slice none 0 0), (3, .int .i64 (0)), (5, .slice Ar201_1 (bodyM true nk nv nc (0)).length cr201_1), (35, .slice Ank (nk).length cnk), (36, .int .i64 ((nk.length : Int))), (37, .int .i64 ((0 : Int)))] (by kernel_rfl) (fun g208 => ?_)
      refine wp_loopX (fun (x_ : Nat) a_ w_ => ∃ (g : Nat → Value) (V_ : VT), ∃ (Ar5 : Option Addr) (cr5 : Nat), a_ = env 78 [(1, .pointer (some ⟨b144, 0, none⟩)), (2, .slice none 0 0), (3, .int .i64 (0)), (5, .slice Ar5 (bodyM true nk nv nc (x_)).length cr5), (35, .slice Ank (nk).length cnk), (36, .int .i64 ((nk.length : Int))), (37, .int .i64 ((x_ : Int)))] g ∧ Step V w [] V_ w_ [.row byteK 5 Ar5 cr5 (bodyM true nk nv nc (x_))] ∧ VT.le V195 V_ ∧ (x_ ≤ nk.length) ∧ ((bodyM true nk nv nc (x_)).length ≤ 7 + 400 * (x_))) (fun (x_ : Nat) => nk.length - x_) (0) ⟨g208, V195, Ar201_1, cr201_1, rfl, hM204, VT.le.refl _, by omega, by (simp only [bodyM, headM, cond_true, cond_false, putM_len, List.length_cons, List.length_nil]; omega)⟩ ?_
      rintro k a_ w210 ⟨g209, Vl207, Ar_2135, cr_2135, rfl, hM211, le212, hi213_0, hi213_1⟩ K213 hK213
      refine wp_seq_k (fun K214 hK214 => ?_)
      refine wp_reg ?_
      refine wpF_seg 1 (by kernel_rfl) ?_
      refine wpF_end _ (by kernel_rfl) (then_n (hK214 _ _ ?_))
      refine wp_seq_k (fun K215 hK215 => ?_)
      refine wp_if (decide (((k : Int)) < ((nk.length : Int)))) (by kernel_rfl) (fun h216 => ?_) (fun h216 => ?_)
      · -- TfLt
        have p217 : (((k : Int)) < ((nk.length : Int))) := of_decide_eq_true h216
        have hks := key_short hs (k := k) (by omega)
        have hvs := hl.2.2 k (by omega)
        refine wp_skip (then_n (hK215 _ _ ?_))
        refine wp_seq_k (fun K218 hK218 => ?_)
        refine wp_block ?_
        refine wp_seq_k (fun K219 hK219 => ?_)
        refine wp_reg ?_
        refine wpF_seg 1 (by kernel_rfl) ?_
        refine gF_index (A := Ank) (c := cnk) (hnk.up hM211.le) .i64 ((k : Int)) (h := (by kernel_rfl : opAt _ _ _ _ _ = some (.indexAddr 22 (.tmp 35) (.tmp 37), some 40))) (e := 9) (by kernel_rfl) (by kernel_rfl) (by kernel_rfl) (k) rfl (by omega) (fun b220 o221 at_b220 => ?_)
        have c222 : Vl207 b220 o221 = some (bs (nk.getD (k) [])) := (At.str at_b220).1
        have l223 : (nk.getD (k) []).length ≤ 140737488355328 := (At.str at_b220).2
        refine gF hM211 (.load 9 (.tmp 40)) (some 41) (by kernel_rfl) (Y_loadV c222 (by kernel_rfl) (by kernel_rfl)) ?_
        refine wpF_seg 2 (by kernel_rfl) ?_
        refine wpF_end _ (by kernel_rfl) (then_n (hK219 _ _ ?_))
        refine wp_seq_k (fun K224 hK224 => ?_)
        refine wp_reg ?_
        refine wpF_seg 3 (by kernel_rfl) ?_
        have hM225 := hM211.front 0 rfl
        have hM233 : Step V w [] Vl207 _ ([.row byteK 5 Ar_2135 cr_2135 (bodyM true nk nv nc (k))]) := hM225
        refine wpF_callE [.row byteK 5 Ar_2135 cr_2135 (bodyM true nk nv nc (k))] ([]) hM233 (f := 32) (caps := #[]) (h := (by kernel_rfl : opAt _ _ _ _ _ = some (.call (.mk (.value (.func 32)) #[(.tmp 42), (.tmp 44)] #[28, 3]), some 45))) (by kernel_rfl) (by kernel_rfl) (by kernel_rfl) (f32 _ _ Ar_2135 cr_2135 (bodyM true nk nv nc (k)) ((((nk.getD (k) [])).length : Int)) (St.part (E := [.row byteK 5 Ar_2135 cr_2135 (bodyM true nk nv nc (k))]) (F := ([])) hM233.ok) (by omega) (by omega) (by first | omega | (simp only [putM_len, List.length_append, List.length_cons, List.length_nil]; omega) | (simp; done))) (fun v226 V227 w228 Eo229 le230 hM231 hp232 => ?_)
        obtain ⟨Ar233_1, cr233_1, rfl, rfl⟩ := hp232
        have hM234 : Step V w [] V227 _ ([.row byteK 5 Ar233_1 cr233_1 (putM (bodyM true nk nv nc (k)) ((((nk.getD (k) [])).length : Int)) 1 1)]) := hM231
        refine wpF_seg 1 (by kernel_rfl) ?_
        refine wpF_append (by_ := 1) hM234 0 rfl (h := (by kernel_rfl : opAt _ _ _ _ _ = some (.call (.mk (.builtin .append) #[(.tmp 45), (.tmp 46)] #[28, 9]), some 47))) (by kernel_rfl) (by kernel_rfl) (by kernel_rfl) (by kernel_rfl) (by kernel_rfl) (by kernel_rfl) (by kernel_rfl) (Src.str ((nk.getD (k) []))) (by first | omega | (simp only [putM_len, List.length_append, List.length_cons, List.length_nil]; omega)) (fun A235 c236 w237 hM238 => ?_)
        have hM239 : Step V w [] V227 _ ([.row byteK 5 A235 c236 (putM (bodyM true nk nv nc (k)) ((((nk.getD (k) [])).length : Int)) 1 1 ++ (nk.getD (k) []))]) := hM238
        refine wpF_seg 1 (by kernel_rfl) ?_
        refine wpF_end _ (by kernel_rfl) (then_n (hK224 _ _ ?_))
        refine wp_seq_k (fun K240 hK240 => ?_)
        refine wp_reg ?_
        refine wpF_seg 1 (by kernel_rfl) ?_
        refine gF hM239 (.load 4 (.tmp 48)) (some 49) (by kernel_rfl) (Y_loadB #[.bool (true), .slice Ank (nk).length cnk, .slice Anv (nv).length cnv, .slice Anc (nc).length cnc] (fun i v hi => ((((le157.trans le179).trans le198).trans le212).trans le230) _ _ _ (hc150 i v hi)) (off := 0) (by kernel_rfl) (.bool (true)) (by kernel_rfl)) ?_
        refine wpF_end _ (by kernel_rfl) (then_n (hK240 _ _ ?_))
        refine wp_ct (by kernel_rfl) ?_
        refine wp_base [(1, .pointer (some ⟨b144, 0, none⟩)), (2, .slice none 0 0), (3, .int .i64 (0)), (5, .slice A235 (putM (bodyM true nk nv nc (k)) ((((nk.getD (k) [])).length : Int)) 1 1 ++ (nk.getD (k) [])).length c236), (6, .int .i64 ((k : Int))), (7, bs ((nk.getD (k) []))), (35, .slice Ank (nk).length cnk), (36, .int .i64 ((nk.length : Int))), (37, .int .i64 ((k : Int))), (38, .bool (decide (((k : Int)) < ((nk.length : Int))))), (39, .int .i64 ((k : Int))), (40, .pointer (some ⟨b220, o221, none⟩)), (41, bs ((nk.getD (k) []))), (42, .slice Ar_2135 (bodyM true nk nv nc (k)).length cr_2135), (43, bs ((nk.getD (k) []))), (44, .int .i64 ((((nk.getD (k) [])).length : Int))), (45, .slice Ar233_1 (putM (bodyM true nk nv nc (k)) ((((nk.getD (k) [])).length : Int)) 1 1).length cr233_1), (46, bs ((nk.getD (k) []))), (47, .slice A235 (putM (bodyM true nk nv nc (k)) ((((nk.getD (k) [])).length : Int)) 1 1 ++ (nk.getD (k) [])).length c236), (48, .pointer (some ⟨b144, 0, none⟩)), (49, .bool (true))] (by kernel_rfl) (fun g241 => ?_)
        refine wp_drawN hM239 [] no_held [] [0, 1, 2, 3, 4, 5, 6, 8, 9, 10, 11, 12] [.a 7, .a 13, .p 14] [.p 0, .p 1, .p 2, .p 3, .p 4, .p 5, .p 6, .p 8, .p 9, .p 10, .p 11, .p 12, .s, .a 7, .a 13, .p 14] rfl (by kernel_rfl) (by kernel_rfl) ?_
        refine h_seg 2 (by kernel_rfl) ?_
        refine gH (.load 22 (.tmp 51)) (some 52) (by kernel_rfl) (Y_loadB #[.bool (true), .slice Ank (nk).length cnk, .slice Anv (nv).length cnv, .slice Anc (nc).length cnc] (fun i v hi => ((((le157.trans le179).trans le198).trans le212).trans le230) _ _ _ (hc150 i v hi)) (off := 2) (by kernel_rfl) (.slice Anv (nv).length cnv) (by kernel_rfl)) ?_
        refine h_seg 1 (by kernel_rfl) ?_
        refine gH_index (A := Anv) (c := cnv) (hnv.up hM239.le) .i64 ((k : Int)) (h := (by kernel_rfl : opAt _ _ _ _ _ = some (.indexAddr 22 (.tmp 52) (.tmp 53), some 54))) (e := 9) (by kernel_rfl) (by kernel_rfl) (by kernel_rfl) (k) rfl (by omega) (fun b242 o243 at_b242 => ?_)
        have c244 : V227 b242 o243 = some (bs (nv.getD (k) [])) := (At.str at_b242).1
        have l245 : (nv.getD (k) []).length ≤ 140737488355328 := (At.str at_b242).2
        refine gH (.load 9 (.tmp 54)) (some 55) (by kernel_rfl) (Y_loadV c244 (by kernel_rfl) (by kernel_rfl)) ?_
        refine h_seg 2 (by kernel_rfl) ?_
        refine gH (.load 22 (.tmp 58)) (some 59) (by kernel_rfl) (Y_loadB #[.bool (true), .slice Ank (nk).length cnk, .slice Anv (nv).length cnv, .slice Anc (nc).length cnc] (fun i v hi => ((((le157.trans le179).trans le198).trans le212).trans le230) _ _ _ (hc150 i v hi)) (off := 2) (by kernel_rfl) (.slice Anv (nv).length cnv) (by kernel_rfl)) ?_
        refine h_seg 1 (by kernel_rfl) ?_
        refine gH_index (A := Anv) (c := cnv) (hnv.up hM239.le) .i64 ((k : Int)) (h := (by kernel_rfl : opAt _ _ _ _ _ = some (.indexAddr 22 (.tmp 59) (.tmp 60), some 61))) (e := 9) (by kernel_rfl) (by kernel_rfl) (by kernel_rfl) (k) rfl (by omega) (fun b246 o247 at_b246 => ?_)
        have c248 : V227 b246 o247 = some (bs (nv.getD (k) [])) := (At.str at_b246).1
        have l249 : (nv.getD (k) []).length ≤ 140737488355328 := (At.str at_b246).2
        refine gH (.load 9 (.tmp 61)) (some 62) (by kernel_rfl) (Y_loadV c248 (by kernel_rfl) (by kernel_rfl)) ?_
        refine h_s no_fs ?_
        refine h_a (by kernel_rfl) (by kernel_rfl) (fun w250 X251 hM252 => ?_)
        have hM253 := hM252.front 0 rfl
        have hM261 : Step V w [] V227 _ ([.row byteK 5 A235 c236 (putM (bodyM true nk nv nc (k)) ((((nk.getD (k) [])).length : Int)) 1 1 ++ (nk.getD (k) []))] ++ X251) := hM253
        refine wpF_callE [.row byteK 5 A235 c236 (putM (bodyM true nk nv nc (k)) ((((nk.getD (k) [])).length : Int)) 1 1 ++ (nk.getD (k) []))] ([] ++ X251) hM261 (f := 30) (caps := #[]) (h := (by kernel_rfl : opAt _ _ _ _ _ = some (.call (.mk (.value (.func 30)) #[(.tmp 50), (.tmp 56)] #[28, 3]), some 57))) (by kernel_rfl) (by kernel_rfl) (by kernel_rfl) (f30 _ _ A235 c236 (putM (bodyM true nk nv nc (k)) ((((nk.getD (k) [])).length : Int)) 1 1 ++ (nk.getD (k) [])) ((((nv.getD (k) [])).length : Int)) (St.part (E := [.row byteK 5 A235 c236 (putM (bodyM true nk nv nc (k)) ((((nk.getD (k) [])).length : Int)) 1 1 ++ (nk.getD (k) []))]) (F := ([] ++ X251)) hM261.ok) (by omega) (by omega) (by first | omega | (simp only [putM_len, List.length_append, List.length_cons, List.length_nil]; omega) | (simp; done))) (fun v254 V255 w256 Eo257 le258 hM259 hp260 => ?_)
        obtain ⟨Ar261_1, cr261_1, rfl, rfl⟩ := hp260
        have hM262 : Step V w [] V255 _ ([.row byteK 5 Ar261_1 cr261_1 (putM (putM (bodyM true nk nv nc (k)) ((((nk.getD (k) [])).length : Int)) 1 1 ++ (nk.getD (k) [])) ((((nv.getD (k) [])).length : Int)) 2 2)] ++ X251) := hM259
        refine wpF_end _ (by kernel_rfl) (then_n (h_d [] (by kernel_rfl) [.row byteK 5 Ar261_1 cr261_1 (putM (putM (bodyM true nk nv nc (k)) ((((nk.getD (k) [])).length : Int)) 1 1 ++ (nk.getD (k) [])) ((((nv.getD (k) [])).length : Int)) 2 2)] hM262 no_held le258 ?_))
        refine h_a (by kernel_rfl) (by kernel_rfl) (fun w263 X264 hM265 => ?_)
        refine wpF_append (by_ := 1) hM265 0 rfl (h := (by kernel_rfl : opAt _ _ _ _ _ = some (.call (.mk (.builtin .append) #[(.tmp 57), (.tmp 62)] #[28, 9]), some 63))) (by kernel_rfl) (by kernel_rfl) (by kernel_rfl) (by kernel_rfl) (by kernel_rfl) (by kernel_rfl) (by kernel_rfl) (Src.str ((nv.getD (k) []))) (by first | omega | (simp only [putM_len, List.length_append, List.length_cons, List.length_nil]; omega)) (fun A266 c267 w268 hM269 => ?_)
        have hM270 : Step V w [] V255 _ ([.row byteK 5 A266 c267 (putM (putM (bodyM true nk nv nc (k)) ((((nk.getD (k) [])).length : Int)) 1 1 ++ (nk.getD (k) [])) ((((nv.getD (k) [])).length : Int)) 2 2 ++ (nv.getD (k) []))] ++ X264) := hM269
        refine wpF_end _ (by kernel_rfl) (then_n (h_d [] (by kernel_rfl) [.row byteK 5 A266 c267 (putM (putM (bodyM true nk nv nc (k)) ((((nk.getD (k) [])).length : Int)) 1 1 ++ (nk.getD (k) [])) ((((nv.getD (k) [])).length : Int)) 2 2 ++ (nv.getD (k) []))] hM270 no_held (VT.le.refl _) ?_))
        refine h_seg 1 (by kernel_rfl) ?_
        refine h_n (fun w271 hM272 => ?_)
        refine  (blk_n (then_n (hK218 _ _ ?_)))
        refine wp_reg ?_
        refine gF hM272 (.binOp .add 3 (.tmp 37) (.const (.int .i64 1)) 3) (some 72) (by kernel_rfl) (Y_add .i64 ((k : Int)) (1) ((k : Int) + 1) (by kernel_rfl) (by kernel_rfl) (wrap64_ok _ (by omega))) ?_
        refine wpF_seg 1 (by kernel_rfl) ?_
        refine wpF_base [(1, .pointer (some ⟨b144, 0, none⟩)), (2, .slice none 0 0), (3, .int .i64 (0)), (5, .slice A266 (bodyM true nk nv nc (k + 1)).length c267), (35, .slice Ank (nk).length cnk), (36, .int .i64 ((nk.length : Int))), (37, .int .i64 ((k + 1 : Int)))] (by kernel_rfl) (fun g273 => ?_)
        refine wpF_end _ (by kernel_rfl) (then_n (hK213 _ _ (k + 1) (by omega) ?_))
        refine ⟨g273, V255, A266, c267, rfl, hM272, ((le212.trans le230).trans le258), ?_, ?_⟩
        · -- TfLt inv 0
          omega
        · -- TfLt inv 1
          (simp only [bodyM, cond_true, cond_false, putM_len, List.length_append]; omega)
      · -- TfLf
        have p274 : ¬ (((k : Int)) < ((nk.length : Int))) := of_decide_eq_false h216
        refine wp_exit (then_x (then_x (blk_hit (then_n (hK205 _ _ ?_)))))
        obtain rfl : k = nk.length := by omega
        refine wp_seq_k (fun K275 hK275 => ?_)
        refine wp_reg ?_
        refine wpF_seg 3 (by kernel_rfl) ?_
        refine gF hM211 (.binOp .sub 3 (.const (.int .i64 1024)) (.tmp 75) 3) (some 76) (by kernel_rfl) (Y_sub .i64 (1024) (((bodyM true nk nv nc ((nk.length))).length : Int)) (((1024 - (bodyM true nk nv nc nk.length).length : Nat) : Int)) (by kernel_rfl) (by kernel_rfl) (by rw [wrap64_ok _ (by omega)]; omega)) ?_
        refine wpF_append0 (by_ := 1) (m := (1024 - (bodyM true nk nv nc nk.length).length)) (z := .int .u8 0) hM211 0 rfl (h := (by kernel_rfl : opAt _ _ _ _ _ = some (.call (.mk (.builtin .append) #[(.tmp 73), (.tmp 76)] #[28, 3]), some 77))) (by kernel_rfl) (by kernel_rfl) (by kernel_rfl) rfl (by kernel_rfl) (by kernel_rfl) rfl (by kernel_rfl) (by kernel_rfl) 0 (fun _ => Reps.one_byte) (by first | omega | (simp only [putM_len, List.length_append, List.length_cons, List.length_nil]; omega)) (fun A276 c277 w278 hM279 => ?_)
        have hM280 : Step V w [] Vl207 _ ([.row byteK 5 A276 c277 (bodyM true nk nv nc ((nk.length)) ++ List.replicate ((1024 - (bodyM true nk nv nc nk.length).length)) 0)]) := hM279
        refine wpF_seg 2 (by kernel_rfl) ?_
        refine wpF_end _ (by kernel_rfl) (then_n (hK275 _ _ ?_))
        refine wp_ret ?_
        obtain ⟨V281, le282, hM283, r284⟩ := hM280.settleRow 0 rfl
        have hM285 : Step V w [] V281 _ ([]) := hM283
        refine retN [.slice A276 (bodyM true nk nv nc ((nk.length)) ++ List.replicate ((1024 - (bodyM true nk nv nc nk.length).length)) 0).length c277, .int .i64 (0)] (.tuple #[.slice A276 (bodyM true nk nv nc ((nk.length)) ++ List.replicate ((1024 - (bodyM true nk nv nc nk.length).length)) 0).length c277, .int .i64 (0)]) Try.results13 (.tmp (by kernel_rfl) (by kernel_rfl) (.tmp (by kernel_rfl) (by kernel_rfl) .nil)) (by kernel_rfl) (hRet _ _ ⟨_, _, rfl, hM285.clear, ?_⟩)
        -- end TfLf
        refine ⟨A276, c277, ?_, ?_⟩
        · first | (simp only [bytesM, h161, h165, h216, cond_false]; done) | (simp only [bytesM, h161, h165, h216, cond_false]; rfl) | (have hc0 : checkM true nk nv nc = 0 := (by assumption); simp only [bytesM, h161, h165, h216, cond_true, hc0, decide_true, pageM]; done)
        · first | exact r284 | (exact Rd.eq r284 (by simp only [bytesM, h161, h165, h216, cond_true, cond_false, pageM]))

end Go.Vk
