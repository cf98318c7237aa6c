/- Contracts of the second seat's functions, part O: printed by wip/tools/st.py. -/
import Derived.Test.YtnibbocbefnnnaaRA
import Derived.Test.YtnibbocbefnnnaaRB
import Derived.Test.YtnibbocbefnnnaaRC
set_option linter.unusedVariables false
set_option linter.unusedSimpArgs false
namespace Go.Vk
open Go.Proofs
set_option maxHeartbeats 4000000 in
set_option maxRecDepth 100000 in
theorem f61 (V : VT) (w : World) (hV : V.inW w) (Al : Option Addr) (cl : Nat) (l : List Str) (hl : Rd strK V Al cl l) (Am : Option Addr) (cm : Nat) (m : List ((Str × Str))) (hm : Rd (prK strK strK) V Am cm m) (h5 : l.length ≤ 100000) :
    Calls Try.prog 61 #[.slice Al (l).length cl, .slice Am (m).length cm] w (RetP V w fun rv V' => ∃ (A1 : Option Addr), ∃ (c1 : Nat), ∃ (A2 : Option Addr), ∃ (c2 : Nat), rv = .tuple #[.agg #[.slice A1 (mkK l m).length c1, .slice A2 (m).length c2], .bool (mkOk l m)] ∧ Rd strK V' A1 c1 (mkK l m) ∧ Rd (prK strK strK) V' A2 c2 (m)) := by
  have mxl : l.length ≤ 140737488355328 := hl.max
  have mxm : m.length ≤ 140737488355328 := hm.max
  refine calls_env (n := 43) Try.func61 (c := _) rfl Try.ntmps61 (by kernel_rfl) (fun R hRet => ?_)
  have hM0 : Step V w [] V w [] := Step.refl (St.nilE hV)
  refine wp_seq_k (fun K1 hK1 => ?_)
  refine wp_reg ?_
  refine wpF_alloc hM0 #[.slice none 0 0, .slice none 0 0] (h := (by kernel_rfl : opAt _ _ _ _ _ = some (.alloc 25, some 4))) (by kernel_rfl) (fun b2 w3 hM4 => ?_)
  refine wpF_seg 1 (by kernel_rfl) ?_
  refine wpF_end _ (by kernel_rfl) (then_n (hK1 _ _ ?_))
  refine wp_seq_k (fun K5 hK5 => ?_)
  refine wp_reg ?_
  refine wpF_alloc hM4 #[.slice none 0 0, .slice none 0 0] (h := (by kernel_rfl : opAt _ _ _ _ _ = some (.alloc 25, some 6))) (by kernel_rfl) (fun b6 w7 hM8 => ?_)
  refine wpF_end _ (by kernel_rfl) (then_n (hK5 _ _ ?_))
  refine wp_seq_k (fun K9 hK9 => ?_)
  refine wp_seq_k (fun K10 hK10 => ?_)
  refine wp_reg ?_
  refine wpF_seg 1 (by kernel_rfl) ?_
  refine wpF_end _ (by kernel_rfl) (then_n (hK10 _ _ ?_))
  refine wp_block ?_
  have hM12 := hM8.nilrow strK 9
  have hM13 : Step V w [] V _ ([.row strK 9 none 0 (([] : List Str)), .blk b6 (.cells #[.slice none 0 0, .slice none 0 0] 25), .blk b2 (.cells #[.slice none 0 0, .slice none 0 0] 25)]) := hM12
  refine wp_base [(0, .slice Al (l).length cl), (1, .slice Am (m).length cm), (4, .pointer (some ⟨b2, 0, none⟩)), (5, .bool (false)), (6, .pointer (some ⟨b6, 0, none⟩)), (7, .int .i64 ((0 : Int)))] (by kernel_rfl) (fun g14 => ?_)
  refine wp_loopX (fun (x_ : Nat × List Str) a_ w_ => ∃ (g : Nat → Value) (V_ : VT), ∃ (Arc6_0 : Option Addr) (crc6_0 : Nat), a_ = env 43 [(0, .slice Al (l).length cl), (1, .slice Am (m).length cm), (4, .pointer (some ⟨b2, 0, none⟩)), (5, .bool (false)), (6, .pointer (some ⟨b6, 0, none⟩)), (7, .int .i64 ((x_.1 : Int)))] g ∧ Step V w [] V_ w_ [.row strK 9 Arc6_0 crc6_0 (x_.2), .blk b6 (.cells #[.slice Arc6_0 (x_.2).length crc6_0, .slice none 0 0] 25), .blk b2 (.cells #[.slice none 0 0, .slice none 0 0] 25)] ∧ VT.le V V_ ∧ (x_.1 ≤ l.length) ∧ (x_.2 = mkK (l.take (x_.1)) m) ∧ ((x_.2).length ≤ x_.1)) (fun (x_ : Nat × List Str) => l.length - x_.1) ((0 : Nat), (([] : List Str) : List Str)) ⟨g14, V, none, 0, rfl, hM13, VT.le.refl _, by omega, by rfl, by simp⟩ ?_
  rintro ⟨k, o⟩ a_ w16 ⟨g15, Vl11, Ar_19c6_0, cr_19c6_0, rfl, hM17, le18, hi19_0, hi19_1, hi19_2⟩ K19 hK19
  replace hi19_0 : k ≤ l.length := hi19_0
  replace hi19_1 : o = mkK (l.take (k)) m := hi19_1
  replace hi19_2 : (o).length ≤ k := hi19_2
  refine wp_seq_k (fun K20 hK20 => ?_)
  refine wp_seq_k (fun K21 hK21 => ?_)
  refine wp_reg ?_
  refine wpF_seg 4 (by kernel_rfl) ?_
  refine wpF_end _ (by kernel_rfl) (then_n (hK21 _ _ ?_))
  refine wp_if (decide (((k : Int)) < ((l.length : Int)))) (by kernel_rfl) (fun h22 => ?_) (fun h22 => ?_)
  · -- Lt
    have p23 : (((k : Int)) < ((l.length : Int))) := of_decide_eq_true h22
    refine wp_skip (then_n (hK20 _ _ ?_))
    refine wp_seq_k (fun K24 hK24 => ?_)
    refine wp_block ?_
    refine wp_seq_k (fun K25 hK25 => ?_)
    refine wp_reg ?_
    refine wpF_seg 3 (by kernel_rfl) ?_
    refine gF_index (A := Al) (c := cl) (hl.up hM17.le) .i64 ((k : Int)) (h := (by kernel_rfl : opAt _ _ _ _ _ = some (.indexAddr 22 (.tmp 15) (.tmp 16), some 17))) (e := 9) (by kernel_rfl) (by kernel_rfl) (by kernel_rfl) (k) rfl (by omega) (fun b26 o27 at_b26 => ?_)
    have c28 : Vl11 b26 o27 = some (bs (l.getD (k) [])) := (At.str at_b26).1
    have l29 : (l.getD (k) []).length ≤ 140737488355328 := (At.str at_b26).2
    refine gF hM17 (.load 9 (.tmp 17)) (some 18) (by kernel_rfl) (Y_loadV c28 (by kernel_rfl) (by kernel_rfl)) ?_
    refine wpF_callP hM17 (f := 69) (caps := #[]) (h := (by kernel_rfl : opAt _ _ _ _ _ = some (.call (.mk (.value (.func 69)) #[(.tmp 14), (.tmp 18)] #[23, 9]), some 19))) (by kernel_rfl) (by kernel_rfl) (by kernel_rfl) (f69 _ _ hM17.inW Am cm (m) (hm.up hM17.le) ((l.getD (k) [])) (l29)) (fun v30 V31 w32 le33 hM34 hp35 => ?_)
    obtain rfl := hp35
    refine wpF_seg 1 (by kernel_rfl) ?_
    refine wpF_end _ (by kernel_rfl) (then_n (hK25 _ _ ?_))
    refine wp_if (!(spB (m) ((l.getD (k) [])))) (by kernel_rfl) (fun h36 => ?_) (fun h36 => ?_)
    · -- Ltt
      have h37 : (spB (m) ((l.getD (k) []))) = false := by simpa using h36
      refine wp_base [(0, .slice Al (l).length cl), (1, .slice Am (m).length cm), (4, .pointer (some ⟨b2, 0, none⟩)), (5, .bool (false)), (6, .pointer (some ⟨b6, 0, none⟩)), (7, .int .i64 ((k : Int))), (8, .int .i64 ((k : Int))), (9, .slice Al (l).length cl), (10, .int .i64 ((l.length : Int))), (11, .bool (decide (((k : Int)) < ((l.length : Int))))), (14, .slice Am (m).length cm), (15, .slice Al (l).length cl), (16, .int .i64 ((k : Int))), (17, .pointer (some ⟨b26, o27, none⟩)), (18, bs ((l.getD (k) []))), (19, .bool (spB (m) ((l.getD (k) [])))), (20, .bool (!(spB (m) ((l.getD (k) [])))))] (by kernel_rfl) (fun g38 => ?_)
      refine wp_drawN hM34 [(.blk b6 (.cells #[.slice Ar_19c6_0 (o).length cr_19c6_0, .slice none 0 0] 25), 9)] (and_held 1 rfl no_held) [] [0, 1, 2, 3, 4, 5] [.a 6, .a 7, .p 8, .a 9] [.p 0, .p 1, .p 2, .p 3, .p 4, .p 5, .s, .a 6, .a 7, .p 8, .a 9] rfl (by kernel_rfl) (by kernel_rfl) ?_
      refine h_seg 1 (by kernel_rfl) ?_
      refine gH (.load 22 (.tmp 21)) (some 22) (by kernel_rfl) (Y_load 0 (by kernel_rfl : (FOf _ _ _)[0]? = some (.blk b6 (.cells #[.slice Ar_19c6_0 (o).length cr_19c6_0, .slice none 0 0] 25))) (off := 0) (by kernel_rfl) (.slice Ar_19c6_0 (o).length cr_19c6_0) (by kernel_rfl)) ?_
      refine h_seg 2 (by kernel_rfl) ?_
      refine gH_index (A := Al) (c := cl) (hl.up hM34.le) .i64 ((k : Int)) (h := (by kernel_rfl : opAt _ _ _ _ _ = some (.indexAddr 22 (.tmp 23) (.tmp 24), some 25))) (e := 9) (by kernel_rfl) (by kernel_rfl) (by kernel_rfl) (k) rfl (by omega) (fun b39 o40 at_b39 => ?_)
      have c41 : V31 b39 o40 = some (bs (l.getD (k) [])) := (At.str at_b39).1
      have l42 : (l.getD (k) []).length ≤ 140737488355328 := (At.str at_b39).2
      refine gH (.load 9 (.tmp 25)) (some 26) (by kernel_rfl) (Y_loadV c41 (by kernel_rfl) (by kernel_rfl)) ?_
      refine h_s no_fs ?_
      refine h_a (by kernel_rfl) (by kernel_rfl) (fun w43 X44 hM45 => ?_)
      refine wpF_litR strK hM45 #[bs ((l.getD (k) []))] (h := (by kernel_rfl : opAt _ _ _ _ _ = some (.buildSlice 22 1 #[(0, (.tmp 26))], some 27))) (e := 9) (by kernel_rfl) (([(l.getD (k) [])] : List Str)) (Reps.one_str (l42)) rfl (by simp [maxL]) (fun A46 c47 V50 w48 le51 hM49 r52 => ?_)
      refine wpF_end _ (by kernel_rfl) (then_n (h_d [(.blk b6 (.cells #[.slice Ar_19c6_0 (o).length cr_19c6_0, .slice none 0 0] 25), 9)] (by kernel_rfl) [.row strK 9 Ar_19c6_0 cr_19c6_0 (o), .blk b6 (.cells #[.slice Ar_19c6_0 (o).length cr_19c6_0, .slice none 0 0] 25), .blk b2 (.cells #[.slice none 0 0, .slice none 0 0] 25)] hM49 (and_held 1 rfl no_held) le51 ?_))
      refine h_a (by kernel_rfl) (by kernel_rfl) (fun w53 X54 hM55 => ?_)
      refine wpF_append (by_ := 16) hM55 0 rfl (h := (by kernel_rfl : opAt _ _ _ _ _ = some (.call (.mk (.builtin .append) #[(.tmp 22), (.tmp 27)] #[22, 22]), some 28))) (by kernel_rfl) (by kernel_rfl) (by kernel_rfl) (by kernel_rfl) (by kernel_rfl) (by kernel_rfl) (by kernel_rfl) (Src.rd r52) (by first | omega | (simp only [List.length_append, List.length_cons, List.length_nil]; omega)) (fun A56 c57 w58 hM59 => ?_)
      have hM60 : Step V w [] V50 _ ([.row strK 9 A56 c57 (o ++ ([(l.getD (k) [])] : List Str)), .blk b6 (.cells #[.slice Ar_19c6_0 (o).length cr_19c6_0, .slice none 0 0] 25), .blk b2 (.cells #[.slice none 0 0, .slice none 0 0] 25)] ++ X54) := hM59
      refine wpF_end _ (by kernel_rfl) (then_n (h_d [(.blk b6 (.cells #[.slice Ar_19c6_0 (o).length cr_19c6_0, .slice none 0 0] 25), 9)] (by kernel_rfl) [.row strK 9 A56 c57 (o ++ ([(l.getD (k) [])] : List Str)), .blk b6 (.cells #[.slice Ar_19c6_0 (o).length cr_19c6_0, .slice none 0 0] 25), .blk b2 (.cells #[.slice none 0 0, .slice none 0 0] 25)] hM60 (and_held 1 rfl no_held) (VT.le.refl _) ?_))
      refine h_seg 1 (by kernel_rfl) ?_
      refine h_a (by kernel_rfl) (by kernel_rfl) (fun w61 X62 hM63 => ?_)
      refine wpF_store hM63 1 rfl (h := (by kernel_rfl : opAt _ _ _ _ _ = some (.store 22 (.tmp 29) (.tmp 28), none))) (off := 0) (by kernel_rfl) #[.slice A56 (o ++ ([(l.getD (k) [])] : List Str)).length c57] (by kernel_rfl) (by kernel_rfl) (by kernel_rfl) (by kernel_rfl) (fun w65 hM64 => ?_)
      have hM66 : Step V w [] V50 _ ([.row strK 9 A56 c57 (o ++ ([(l.getD (k) [])] : List Str)), .blk b6 (.cells #[.slice A56 (o ++ ([(l.getD (k) [])] : List Str)).length c57, .slice none 0 0] 25), .blk b2 (.cells #[.slice none 0 0, .slice none 0 0] 25)] ++ X62) := hM64
      refine wpF_end _ (by kernel_rfl) (then_n (h_d [] (by kernel_rfl) [.row strK 9 A56 c57 (o ++ ([(l.getD (k) [])] : List Str)), .blk b6 (.cells #[.slice A56 (o ++ ([(l.getD (k) [])] : List Str)).length c57, .slice none 0 0] 25), .blk b2 (.cells #[.slice none 0 0, .slice none 0 0] 25)] hM66 no_held (VT.le.refl _) ?_))
      refine h_n (fun w67 hM68 => ?_)
      refine  (blk_n (then_n (hK24 _ _ ?_)))
      refine wp_reg ?_
      refine wpF_seg 1 (by kernel_rfl) ?_
      refine gF hM68 (.binOp .add 3 (.tmp 12) (.const (.int .i64 1)) 3) (some 13) (by kernel_rfl) (Y_add .i64 ((k : Int)) (1) ((k : Int) + 1) (by kernel_rfl) (by kernel_rfl) (wrap64_ok _ (by omega))) ?_
      refine wpF_seg 1 (by kernel_rfl) ?_
      refine wpF_base [(0, .slice Al (l).length cl), (1, .slice Am (m).length cm), (4, .pointer (some ⟨b2, 0, none⟩)), (5, .bool (false)), (6, .pointer (some ⟨b6, 0, none⟩)), (7, .int .i64 ((k + 1 : Int)))] (by kernel_rfl) (fun g69 => ?_)
      refine wpF_end _ (by kernel_rfl) (then_n (hK19 _ _ (k + 1, o ++ ([(l.getD (k) [])] : List Str)) (by omega) ?_))
      refine ⟨g69, V50, A56, c57, rfl, hM68, hM68.le, ?_, ?_, ?_⟩
      · -- Ltt inv 0
        omega
      · -- Ltt inv 1
        exact mk_yes (by assumption) (by omega) (by assumption)
      · -- Ltt inv 2
        first | omega | (simp only [List.length_append, List.length_cons, List.length_nil]; omega)
    · -- Ltf
      have h70 : (spB (m) ((l.getD (k) []))) = true := by simpa using h36
      refine wp_skip (blk_n (then_n (hK24 _ _ ?_)))
      refine wp_reg ?_
      refine wpF_seg 1 (by kernel_rfl) ?_
      refine gF hM34 (.binOp .add 3 (.tmp 12) (.const (.int .i64 1)) 3) (some 13) (by kernel_rfl) (Y_add .i64 ((k : Int)) (1) ((k : Int) + 1) (by kernel_rfl) (by kernel_rfl) (wrap64_ok _ (by omega))) ?_
      refine wpF_seg 1 (by kernel_rfl) ?_
      refine wpF_base [(0, .slice Al (l).length cl), (1, .slice Am (m).length cm), (4, .pointer (some ⟨b2, 0, none⟩)), (5, .bool (false)), (6, .pointer (some ⟨b6, 0, none⟩)), (7, .int .i64 ((k + 1 : Int)))] (by kernel_rfl) (fun g71 => ?_)
      refine wpF_end _ (by kernel_rfl) (then_n (hK19 _ _ (k + 1, o) (by omega) ?_))
      refine ⟨g71, V31, Ar_19c6_0, cr_19c6_0, rfl, hM34, hM34.le, ?_, ?_, ?_⟩
      · -- Ltf inv 0
        omega
      · -- Ltf inv 1
        exact mk_no (by assumption) (by omega) (by assumption)
      · -- Ltf inv 2
        first | omega | (simp only [List.length_append, List.length_cons, List.length_nil]; omega)
  · -- Lf
    have p72 : ¬ (((k : Int)) < ((l.length : Int))) := of_decide_eq_false h22
    refine wp_exit (then_x (then_x (blk_hit (then_n (hK9 _ _ ?_)))))
    obtain rfl : k = l.length := by omega
    refine wp_seq_k (fun K73 hK73 => ?_)
    refine wp_reg ?_
    refine wpF_seg 2 (by kernel_rfl) ?_
    refine wpF_store hM17 1 rfl (h := (by kernel_rfl : opAt _ _ _ _ _ = some (.store 23 (.tmp 31) (.tmp 30), none))) (off := 1) (by kernel_rfl) #[.slice Am (m).length cm] (by kernel_rfl) (by kernel_rfl) (by kernel_rfl) (by kernel_rfl) (fun w75 hM74 => ?_)
    have hM76 : Step V w [] Vl11 _ ([.row strK 9 Ar_19c6_0 cr_19c6_0 (o), .blk b6 (.cells #[.slice Ar_19c6_0 (o).length cr_19c6_0, .slice Am (m).length cm] 25), .blk b2 (.cells #[.slice none 0 0, .slice none 0 0] 25)]) := hM74
    refine wpF_end _ (by kernel_rfl) (then_n (hK73 _ _ ?_))
    refine wp_seq_k (fun K77 hK77 => ?_)
    refine wp_base [(4, .pointer (some ⟨b2, 0, none⟩)), (5, .bool (false)), (6, .pointer (some ⟨b6, 0, none⟩)), (7, .int .i64 (((l.length) : Int)))] (by kernel_rfl) (fun g78 => ?_)
    refine wp_drawN hM76 [(.blk b6 (.cells #[.slice Ar_19c6_0 (o).length cr_19c6_0, .slice Am (m).length cm] 25), 9999)] (and_held 1 rfl no_held) [] [0, 1, 2, 3, 4, 5, 6, 7, 8, 9, 10] [.a 11, .p 12] [.p 0, .p 1, .p 2, .p 3, .p 4, .p 5, .p 6, .p 7, .p 8, .p 9, .p 10, .s, .a 11, .p 12] rfl (by kernel_rfl) (by kernel_rfl) ?_
    refine gH (.load 25 (.tmp 6)) (some 32) (by kernel_rfl) (Y_load 0 (by kernel_rfl : (FOf _ _ _)[0]? = some (.blk b6 (.cells #[.slice Ar_19c6_0 (o).length cr_19c6_0, .slice Am (m).length cm] 25))) (off := 0) (by kernel_rfl) (.agg #[.slice Ar_19c6_0 (o).length cr_19c6_0, .slice Am (m).length cm]) (by kernel_rfl)) ?_
    refine h_seg 1 (by kernel_rfl) ?_
    refine gH (.load 22 (.tmp 33)) (some 34) (by kernel_rfl) (Y_load 0 (by kernel_rfl : (FOf _ _ _)[0]? = some (.blk b6 (.cells #[.slice Ar_19c6_0 (o).length cr_19c6_0, .slice Am (m).length cm] 25))) (off := 0) (by kernel_rfl) (.slice Ar_19c6_0 (o).length cr_19c6_0) (by kernel_rfl)) ?_
    refine h_seg 3 (by kernel_rfl) ?_
    refine h_caseB 37 (decide (((o.length : Int)) ≤ (64))) (by kernel_rfl) (by kernel_rfl) (fun h79 => ?_) (fun h79 => ?_)
    · -- Lft
      have p80 : (((o.length : Int)) ≤ (64)) := of_decide_eq_true h79
      refine h_seg 1 (by kernel_rfl) ?_
      refine gH (.load 23 (.tmp 38)) (some 39) (by kernel_rfl) (Y_load 0 (by kernel_rfl : (FOf _ _ _)[0]? = some (.blk b6 (.cells #[.slice Ar_19c6_0 (o).length cr_19c6_0, .slice Am (m).length cm] 25))) (off := 1) (by kernel_rfl) (.slice Am (m).length cm) (by kernel_rfl)) ?_
      refine h_seg 3 (by kernel_rfl) ?_
      refine h_s no_fs ?_
      refine h_a (by kernel_rfl) (by kernel_rfl) (fun w81 X82 hM83 => ?_)
      refine wpF_store hM83 2 rfl (h := (by kernel_rfl : opAt _ _ _ _ _ = some (.store 25 (.tmp 4) (.tmp 32), none))) (off := 0) (by kernel_rfl) #[.slice Ar_19c6_0 (o).length cr_19c6_0, .slice Am (m).length cm] (by kernel_rfl) (by kernel_rfl) (by kernel_rfl) (by kernel_rfl) (fun w85 hM84 => ?_)
      have hM86 : Step V w [] Vl11 _ ([.row strK 9 Ar_19c6_0 cr_19c6_0 (o), .blk b6 (.cells #[.slice Ar_19c6_0 (o).length cr_19c6_0, .slice Am (m).length cm] 25), .blk b2 (.cells #[.slice Ar_19c6_0 (o).length cr_19c6_0, .slice Am (m).length cm] 25)] ++ X82) := hM84
      refine wpF_end _ (by kernel_rfl) (then_n (h_d [(.blk b6 (.cells #[.slice Ar_19c6_0 (o).length cr_19c6_0, .slice Am (m).length cm] 25), 9999)] (by kernel_rfl) [.row strK 9 Ar_19c6_0 cr_19c6_0 (o), .blk b6 (.cells #[.slice Ar_19c6_0 (o).length cr_19c6_0, .slice Am (m).length cm] 25), .blk b2 (.cells #[.slice Ar_19c6_0 (o).length cr_19c6_0, .slice Am (m).length cm] 25)] hM86 (and_held 1 rfl no_held) (VT.le.refl _) ?_))
      refine h_seg 1 (by kernel_rfl) ?_
      refine h_n (fun w87 hM88 => ?_)
      refine  (then_n (hK77 _ _ ?_))
      refine wp_ret ?_
      obtain ⟨V89, le90, hM91, r92⟩ := hM88.settleRow 0 rfl
      have hM93 : Step V w [] V89 _ ([.blk b6 (.cells #[.slice Ar_19c6_0 (o).length cr_19c6_0, .slice Am (m).length cm] 25), .blk b2 (.cells #[.slice Ar_19c6_0 (o).length cr_19c6_0, .slice Am (m).length cm] 25)]) := hM91
      refine retN [.agg #[.slice Ar_19c6_0 (o).length cr_19c6_0, .slice Am (m).length cm], .bool (decide (((m.length : Int)) ≤ (64)))] (.tuple #[.agg #[.slice Ar_19c6_0 (o).length cr_19c6_0, .slice Am (m).length cm], .bool (decide (((m.length : Int)) ≤ (64)))]) Try.results61 (.cell (by kernel_rfl) (by kernel_rfl) hM93 1 rfl (by kernel_rfl) (.tmp (by kernel_rfl) (by kernel_rfl) .nil)) (by kernel_rfl) (hRet _ _ ⟨_, _, rfl, hM93.clear, ?_⟩)
      -- end Lft
      have ho : o = mkK l m := by have hh := (by assumption : o = mkK (l.take l.length) m); rwa [List.take_length] at hh
      refine ⟨Ar_19c6_0, cr_19c6_0, Am, cm, ?_, ?_, ?_⟩
      · subst ho; simp only [mkOk_le, h22, h79, Bool.true_and, Bool.false_and, Bool.and_true, Bool.and_false, Bool.not_true, Bool.not_false] <;> rfl
      · first | exact r92 | (exact Rd.eq r92 (by first | exact ho | rfl))
      · first | exact (hm.up hM93.le) | (exact Rd.eq (hm.up hM93.le) (by first | exact ho | rfl))
    · -- Lff
      have p94 : ¬ (((o.length : Int)) ≤ (64)) := of_decide_eq_false h79
      refine h_seg 5 (by kernel_rfl) ?_
      refine h_s no_fs ?_
      refine h_a (by kernel_rfl) (by kernel_rfl) (fun w95 X96 hM97 => ?_)
      refine wpF_store hM97 2 rfl (h := (by kernel_rfl : opAt _ _ _ _ _ = some (.store 25 (.tmp 4) (.tmp 32), none))) (off := 0) (by kernel_rfl) #[.slice Ar_19c6_0 (o).length cr_19c6_0, .slice Am (m).length cm] (by kernel_rfl) (by kernel_rfl) (by kernel_rfl) (by kernel_rfl) (fun w99 hM98 => ?_)
      have hM100 : Step V w [] Vl11 _ ([.row strK 9 Ar_19c6_0 cr_19c6_0 (o), .blk b6 (.cells #[.slice Ar_19c6_0 (o).length cr_19c6_0, .slice Am (m).length cm] 25), .blk b2 (.cells #[.slice Ar_19c6_0 (o).length cr_19c6_0, .slice Am (m).length cm] 25)] ++ X96) := hM98
      refine wpF_end _ (by kernel_rfl) (then_n (h_d [(.blk b6 (.cells #[.slice Ar_19c6_0 (o).length cr_19c6_0, .slice Am (m).length cm] 25), 9999)] (by kernel_rfl) [.row strK 9 Ar_19c6_0 cr_19c6_0 (o), .blk b6 (.cells #[.slice Ar_19c6_0 (o).length cr_19c6_0, .slice Am (m).length cm] 25), .blk b2 (.cells #[.slice Ar_19c6_0 (o).length cr_19c6_0, .slice Am (m).length cm] 25)] hM100 (and_held 1 rfl no_held) (VT.le.refl _) ?_))
      refine h_seg 1 (by kernel_rfl) ?_
      refine h_n (fun w101 hM102 => ?_)
      refine  (then_n (hK77 _ _ ?_))
      refine wp_ret ?_
      obtain ⟨V103, le104, hM105, r106⟩ := hM102.settleRow 0 rfl
      have hM107 : Step V w [] V103 _ ([.blk b6 (.cells #[.slice Ar_19c6_0 (o).length cr_19c6_0, .slice Am (m).length cm] 25), .blk b2 (.cells #[.slice Ar_19c6_0 (o).length cr_19c6_0, .slice Am (m).length cm] 25)]) := hM105
      refine retN [.agg #[.slice Ar_19c6_0 (o).length cr_19c6_0, .slice Am (m).length cm], .bool (false)] (.tuple #[.agg #[.slice Ar_19c6_0 (o).length cr_19c6_0, .slice Am (m).length cm], .bool (false)]) Try.results61 (.cell (by kernel_rfl) (by kernel_rfl) hM107 1 rfl (by kernel_rfl) (.tmp (by kernel_rfl) (by kernel_rfl) .nil)) (by kernel_rfl) (hRet _ _ ⟨_, _, rfl, hM107.clear, ?_⟩)
      -- end Lff
      have ho : o = mkK l m := by have hh := (by assumption : o = mkK (l.take l.length) m); rwa [List.take_length] at hh
      refine ⟨Ar_19c6_0, cr_19c6_0, Am, cm, ?_, ?_, ?_⟩
      · subst ho; simp only [mkOk_le, h22, h79, Bool.true_and, Bool.false_and, Bool.and_true, Bool.and_false, Bool.not_true, Bool.not_false] <;> rfl
      · first | exact r106 | (exact Rd.eq r106 (by first | exact ho | rfl))
      · first | exact (hm.up hM107.le) | (exact Rd.eq (hm.up hM107.le) (by first | exact ho | rfl))

set_option maxHeartbeats 4000000 in
set_option maxRecDepth 100000 in
theorem f19 (V : VT) (w : World) (hV : V.inW w) (Ark : Option Addr) (crk : Nat) (rk : List Str) (hrk : Rd strK V Ark crk rk) (Arq : Option Addr) (crq : Nat) (rq : List ((Str × Str))) (hrq : Rd (prK strK strK) V Arq crq rq) (y : Str) (hy : y.length ≤ maxL) :
    Calls Try.prog 19 #[.agg #[.slice Ark (rk).length crk, .slice Arq (rq).length crq], bs (y)] w (RetP V w fun rv V' => ∃ (A1 : Option Addr), ∃ (c1 : Nat), ∃ (A2 : Option Addr), ∃ (c2 : Nat), rv = .tuple #[.agg #[.slice A1 (rkK rk rq y).length c1, .slice A2 (rkS rk rq y).length c2], .int .i64 (rkE rk rq y)] ∧ Rd strK V' A1 c1 (rkK rk rq y) ∧ Rd (prK strK strK) V' A2 c2 (rkS rk rq y)) := by
  have mxrk : rk.length ≤ 140737488355328 := hrk.max
  have mxrq : rq.length ≤ 140737488355328 := hrq.max
  have mxy : y.length ≤ 140737488355328 := hy
  refine calls_env (n := 70) Try.func19 (c := _) rfl Try.ntmps19 (by kernel_rfl) (fun R hRet => ?_)
  have hM0 : Step V w [] V w [] := Step.refl (St.nilE hV)
  refine wp_seq_k (fun K1 hK1 => ?_)
  refine wp_reg ?_
  refine wpF_box hM0 #[.slice Ark (rk).length crk, .slice Arq (rq).length crq] (h := (by kernel_rfl : opAt _ _ _ _ _ = some (.box 25 (.tmp 0), some 2))) (by kernel_rfl) (fun b2 w3 hM4 => ?_)
  refine wpF_alloc hM4 #[.slice none 0 0, .slice none 0 0] (h := (by kernel_rfl : opAt _ _ _ _ _ = some (.alloc 25, some 4))) (by kernel_rfl) (fun b5 w6 hM7 => ?_)
  refine wpF_seg 1 (by kernel_rfl) ?_
  refine wpF_end _ (by kernel_rfl) (then_n (hK1 _ _ ?_))
  refine wp_seq_k (fun K8 hK8 => ?_)
  refine wp_seq_k (fun K9 hK9 => ?_)
  refine wp_reg ?_
  refine gF hM7 (.load 25 (.tmp 2)) (some 11) (by kernel_rfl) (Y_load 1 rfl (off := 0) (by kernel_rfl) (.agg #[.slice Ark (rk).length crk, .slice Arq (rq).length crq]) (by kernel_rfl)) ?_
  refine wpF_callP hM7 (f := 59) (caps := #[]) (h := (by kernel_rfl : opAt _ _ _ _ _ = some (.call (.mk (.value (.func 59)) #[(.tmp 11)] #[25]), some 12))) (by kernel_rfl) (by kernel_rfl) (by kernel_rfl) (f59 _ _ hM7.inW Ark crk (rk) hrk Arq crq (rq) hrq) (fun v10 V11 w12 le13 hM14 hp15 => ?_)
  obtain rfl := hp15
  refine wpF_seg 1 (by kernel_rfl) ?_
  refine wpF_end _ (by kernel_rfl) (then_n (hK9 _ _ ?_))
  refine wp_if (!(rightB (rk) (rq))) (by kernel_rfl) (fun h16 => ?_) (fun h16 => ?_)
  · -- t
    have h17 : (rightB (rk) (rq)) = false := by simpa using h16
    refine wp_seq_k (fun K18 hK18 => ?_)
    refine wp_reg ?_
    refine wpF_seg 1 (by kernel_rfl) ?_
    refine wpF_store hM14 0 rfl (h := (by kernel_rfl : opAt _ _ _ _ _ = some (.store 25 (.tmp 4) (.tmp 14), none))) (off := 0) (by kernel_rfl) #[.slice none 0 0, .slice none 0 0] (by kernel_rfl) (by kernel_rfl) (by kernel_rfl) (by kernel_rfl) (fun w20 hM19 => ?_)
    have hM21 : Step V w [] V11 _ ([.blk b5 (.cells #[.slice none 0 0, .slice none 0 0] 25), .blk b2 (.cells #[.slice Ark (rk).length crk, .slice Arq (rq).length crq] 25)]) := hM19
    refine wpF_seg 1 (by kernel_rfl) ?_
    refine wpF_end _ (by kernel_rfl) (then_n (hK18 _ _ ?_))
    refine wp_ret (then_r (?_))
    refine retN [.agg #[.slice none 0 0, .slice none 0 0], .int .i64 (4)] (.tuple #[.agg #[.slice none 0 0, .slice none 0 0], .int .i64 (4)]) Try.results19 (.cell (by kernel_rfl) (by kernel_rfl) hM21 0 rfl (by kernel_rfl) (.tmp (by kernel_rfl) (by kernel_rfl) .nil)) (by kernel_rfl) (hRet _ _ ⟨_, _, rfl, hM21.clear, ?_⟩)
    -- end t
    refine ⟨none, 0, none, 0, ?_, ?_, ?_⟩
    · first | (simp only [rkK, rkS, rkE, mdK, mdS, mdE, refK, hrun, h16, h17, cond_true, cond_false] <;> rfl) | (simp only [rkK, rkS, rkE, h16, h17, cond_false] <;> rfl)
    · first | exact (Rd.nil _ _) | (exact Rd.eq (Rd.nil _ _) (by first | (simp only [rkK, rkS, rkE, mdK, mdS, mdE, refK, hrun, h16, h17, cond_true, cond_false]; done) | (simp only [rkK, rkS, rkE, h16, h17, cond_false]; done)))
    · first | exact (Rd.nil _ _) | (exact Rd.eq (Rd.nil _ _) (by first | (simp only [rkK, rkS, rkE, mdK, mdS, mdE, refK, hrun, h16, h17, cond_true, cond_false]; done) | (simp only [rkK, rkS, rkE, h16, h17, cond_false]; done)))
  · -- f
    have h22 : (rightB (rk) (rq)) = true := by simpa using h16
    have hrl := right_len (by assumption : rightB rk rq = true)
    refine wp_skip (then_n (hK8 _ _ ?_))
    refine wp_seq_k (fun K23 hK23 => ?_)
    refine wp_reg ?_
    refine wpF_seg 1 (by kernel_rfl) ?_
    refine wpF_end _ (by kernel_rfl) (then_n (hK23 _ _ ?_))
    refine wp_seq_k (fun K24 hK24 => ?_)
    refine wp_reg ?_
    refine wpF_seg 1 (by kernel_rfl) ?_
    refine wpF_end _ (by kernel_rfl) (then_n (hK24 _ _ ?_))
    refine wp_seq_k (fun K25 hK25 => ?_)
    refine wp_seq_k (fun K26 hK26 => ?_)
    refine wp_reg ?_
    refine wpF_seg 1 (by kernel_rfl) ?_
    refine wpF_end _ (by kernel_rfl) (then_n (hK26 _ _ ?_))
    refine wp_block ?_
    have hM28 := hM14.nilrow strK 9
    have hM29 : Step V w [] V11 _ ([.row strK 9 none 0 (([] : List Str)), .blk b5 (.cells #[.slice none 0 0, .slice none 0 0] 25), .blk b2 (.cells #[.slice Ark (rk).length crk, .slice Arq (rq).length crq] 25)]) := hM28
    refine wp_base [(1, bs (y)), (2, .pointer (some ⟨b2, 0, none⟩)), (4, .pointer (some ⟨b5, 0, none⟩)), (5, .int .i64 (0)), (6, .slice none (([] : List Str)).length 0), (7, .bool (false)), (8, .int .i64 ((0 : Int)))] (by kernel_rfl) (fun g30 => ?_)
    refine wp_loopX (fun (x_ : Nat × List Str × Bool) a_ w_ => ∃ (g : Nat → Value) (V_ : VT), ∃ (Ar6 : Option Addr) (cr6 : Nat), a_ = env 70 [(1, bs (y)), (2, .pointer (some ⟨b2, 0, none⟩)), (4, .pointer (some ⟨b5, 0, none⟩)), (5, .int .i64 (0)), (6, .slice Ar6 (x_.2.1).length cr6), (7, .bool (x_.2.2)), (8, .int .i64 ((x_.1 : Int)))] g ∧ Step V w [] V_ w_ [.row strK 9 Ar6 cr6 (x_.2.1), .blk b5 (.cells #[.slice none 0 0, .slice none 0 0] 25), .blk b2 (.cells #[.slice Ark (rk).length crk, .slice Arq (rq).length crq] 25)] ∧ VT.le V11 V_ ∧ (x_.1 ≤ rk.length) ∧ (runK rk y x_.1 = (x_.2.1, x_.2.2)) ∧ ((x_.2.1).length ≤ 2 * (x_.1))) (fun (x_ : Nat × List Str × Bool) => rk.length - x_.1) ((0 : Nat), (([] : List Str) : List Str), (false : Bool)) ⟨g30, V11, none, 0, rfl, hM29, VT.le.refl _, by omega, by rfl, by simp⟩ ?_
    rintro ⟨k, o, ld⟩ a_ w32 ⟨g31, Vl27, Ar_356, cr_356, rfl, hM33, le34, hi35_0, hi35_1, hi35_2⟩ K35 hK35
    replace hi35_0 : k ≤ rk.length := hi35_0
    replace hi35_1 : runK rk y k = (o, ld) := hi35_1
    replace hi35_2 : (o).length ≤ 2 * (k) := hi35_2
    refine wp_seq_k (fun K36 hK36 => ?_)
    refine wp_seq_k (fun K37 hK37 => ?_)
    refine wp_reg ?_
    refine wpF_seg 2 (by kernel_rfl) ?_
    refine gF hM33 (.load 22 (.tmp 16)) (some 17) (by kernel_rfl) (Y_load 2 rfl (off := 0) (by kernel_rfl) (.slice Ark (rk).length crk) (by kernel_rfl)) ?_
    refine wpF_seg 2 (by kernel_rfl) ?_
    refine wpF_end _ (by kernel_rfl) (then_n (hK37 _ _ ?_))
    refine wp_if (decide (((k : Int)) < ((rk.length : Int)))) (by kernel_rfl) (fun h38 => ?_) (fun h38 => ?_)
    · -- fLt
      have p39 : (((k : Int)) < ((rk.length : Int))) := of_decide_eq_true h38
      refine wp_skip (then_n (hK36 _ _ ?_))
      refine wp_seq_k (fun K40 hK40 => ?_)
      refine wp_block ?_
      refine wp_seq_k (fun K41 hK41 => ?_)
      refine wp_seq_k (fun K42 hK42 => ?_)
      refine wp_reg ?_
      refine wpF_seg 3 (by kernel_rfl) ?_
      refine wpF_caseB 24 (!ld) (by kernel_rfl) (by kernel_rfl) (fun h43 => ?_) (fun h43 => ?_)
      · -- fLtt
        have h44 : (ld) = false := by simpa using h43
        refine wpF_seg 1 (by kernel_rfl) ?_
        refine gF hM33 (.load 22 (.tmp 25)) (some 26) (by kernel_rfl) (Y_load 2 rfl (off := 0) (by kernel_rfl) (.slice Ark (rk).length crk) (by kernel_rfl)) ?_
        refine wpF_seg 1 (by kernel_rfl) ?_
        refine gF_index (A := Ark) (c := crk) (hrk.up hM33.le) .i64 ((k : Int)) (h := (by kernel_rfl : opAt _ _ _ _ _ = some (.indexAddr 22 (.tmp 26) (.tmp 27), some 28))) (e := 9) (by kernel_rfl) (by kernel_rfl) (by kernel_rfl) (k) rfl (by omega) (fun b45 o46 at_b45 => ?_)
        have c47 : Vl27 b45 o46 = some (bs (rk.getD (k) [])) := (At.str at_b45).1
        have l48 : (rk.getD (k) []).length ≤ 140737488355328 := (At.str at_b45).2
        refine gF hM33 (.load 9 (.tmp 28)) (some 29) (by kernel_rfl) (Y_loadV c47 (by kernel_rfl) (by kernel_rfl)) ?_
        refine wpF_seg 1 (by kernel_rfl) ?_
        refine wpF_callP hM33 (f := 60) (caps := #[]) (h := (by kernel_rfl : opAt _ _ _ _ _ = some (.call (.mk (.value (.func 60)) #[(.tmp 29), (.tmp 30)] #[9, 9]), some 31))) (by kernel_rfl) (by kernel_rfl) (by kernel_rfl) (f60 _ _ hM33.inW ((rk.getD (k) [])) (l48) (y) (hy)) (fun v49 V50 w51 le52 hM53 hp54 => ?_)
        obtain rfl := hp54
        refine wpF_seg 2 (by kernel_rfl) ?_
        refine wpF_end _ (by kernel_rfl) (then_n (hK42 _ _ ?_))
        refine wp_if (!(decide (((rk.getD (k) [])) < (y)))) (by kernel_rfl) (fun h55 => ?_) (fun h55 => ?_)
        · -- fLttt
          have h56 : decide (((rk.getD (k) [])) < (y)) = false := by rw [← Bool.not_not (decide _), h55]; rfl
          have p57 : ¬ (((rk.getD (k) [])) < (y)) := of_decide_eq_false h56
          refine wp_seq_k (fun K58 hK58 => ?_)
          refine wp_reg ?_
          refine wpF_seg 2 (by kernel_rfl) ?_
          refine wpF_litR strK hM53 #[bs (y)] (h := (by kernel_rfl : opAt _ _ _ _ _ = some (.buildSlice 22 1 #[(0, (.tmp 35))], some 36))) (e := 9) (by kernel_rfl) (([y] : List Str)) (Reps.one_str (hy)) rfl (by simp [maxL]) (fun A59 c60 V63 w61 le64 hM62 r65 => ?_)
          refine wpF_append (by_ := 16) hM62 0 rfl (h := (by kernel_rfl : opAt _ _ _ _ _ = some (.call (.mk (.builtin .append) #[(.tmp 34), (.tmp 36)] #[22, 22]), some 37))) (by kernel_rfl) (by kernel_rfl) (by kernel_rfl) (by kernel_rfl) (by kernel_rfl) (by kernel_rfl) (by kernel_rfl) (Src.rd r65) (by first | omega | (simp only [List.length_append, List.length_cons, List.length_nil]; omega)) (fun A66 c67 w68 hM69 => ?_)
          have hM70 : Step V w [] V63 _ ([.row strK 9 A66 c67 (o ++ ([y] : List Str)), .blk b5 (.cells #[.slice none 0 0, .slice none 0 0] 25), .blk b2 (.cells #[.slice Ark (rk).length crk, .slice Arq (rq).length crq] 25)]) := hM69
          refine wpF_seg 1 (by kernel_rfl) ?_
          refine wpF_end _ (by kernel_rfl) (then_n (hK58 _ _ ?_))
          refine wp_reg ?_
          refine wpF_seg 1 (by kernel_rfl) ?_
          refine wpF_end _ (by kernel_rfl) (then_n (hK41 _ _ ?_))
          refine wp_seq_k (fun K71 hK71 => ?_)
          refine wp_reg ?_
          refine wpF_seg 1 (by kernel_rfl) ?_
          refine gF hM70 (.load 22 (.tmp 38)) (some 39) (by kernel_rfl) (Y_load 2 rfl (off := 0) (by kernel_rfl) (.slice Ark (rk).length crk) (by kernel_rfl)) ?_
          refine wpF_seg 1 (by kernel_rfl) ?_
          refine gF_index (A := Ark) (c := crk) (hrk.up hM70.le) .i64 ((k : Int)) (h := (by kernel_rfl : opAt _ _ _ _ _ = some (.indexAddr 22 (.tmp 39) (.tmp 40), some 41))) (e := 9) (by kernel_rfl) (by kernel_rfl) (by kernel_rfl) (k) rfl (by omega) (fun b72 o73 at_b72 => ?_)
          have c74 : V63 b72 o73 = some (bs (rk.getD (k) [])) := (At.str at_b72).1
          have l75 : (rk.getD (k) []).length ≤ 140737488355328 := (At.str at_b72).2
          refine gF hM70 (.load 9 (.tmp 41)) (some 42) (by kernel_rfl) (Y_loadV c74 (by kernel_rfl) (by kernel_rfl)) ?_
          refine wpF_seg 2 (by kernel_rfl) ?_
          refine wpF_end _ (by kernel_rfl) (then_n (hK71 _ _ ?_))
          refine wp_if (!(decide (((rk.getD (k) [])) = (y)))) (by kernel_rfl) (fun h76 => ?_) (fun h76 => ?_)
          · -- fLtttt
            have h77 : decide (((rk.getD (k) [])) = (y)) = false := by rw [← Bool.not_not (decide _), h76]; rfl
            have p78 : ¬ (((rk.getD (k) [])) = (y)) := of_decide_eq_false h77
            refine wp_reg ?_
            refine wpF_seg 2 (by kernel_rfl) ?_
            refine gF hM70 (.load 22 (.tmp 46)) (some 47) (by kernel_rfl) (Y_load 2 rfl (off := 0) (by kernel_rfl) (.slice Ark (rk).length crk) (by kernel_rfl)) ?_
            refine wpF_seg 1 (by kernel_rfl) ?_
            refine gF_index (A := Ark) (c := crk) (hrk.up hM70.le) .i64 ((k : Int)) (h := (by kernel_rfl : opAt _ _ _ _ _ = some (.indexAddr 22 (.tmp 47) (.tmp 48), some 49))) (e := 9) (by kernel_rfl) (by kernel_rfl) (by kernel_rfl) (k) rfl (by omega) (fun b79 o80 at_b79 => ?_)
            have c81 : V63 b79 o80 = some (bs (rk.getD (k) [])) := (At.str at_b79).1
            have l82 : (rk.getD (k) []).length ≤ 140737488355328 := (At.str at_b79).2
            refine gF hM70 (.load 9 (.tmp 49)) (some 50) (by kernel_rfl) (Y_loadV c81 (by kernel_rfl) (by kernel_rfl)) ?_
            refine wpF_litR strK hM70 #[bs ((rk.getD (k) []))] (h := (by kernel_rfl : opAt _ _ _ _ _ = some (.buildSlice 22 1 #[(0, (.tmp 50))], some 51))) (e := 9) (by kernel_rfl) (([(rk.getD (k) [])] : List Str)) (Reps.one_str (l82)) rfl (by simp [maxL]) (fun A83 c84 V87 w85 le88 hM86 r89 => ?_)
            refine wpF_append (by_ := 16) hM86 0 rfl (h := (by kernel_rfl : opAt _ _ _ _ _ = some (.call (.mk (.builtin .append) #[(.tmp 45), (.tmp 51)] #[22, 22]), some 52))) (by kernel_rfl) (by kernel_rfl) (by kernel_rfl) (by kernel_rfl) (by kernel_rfl) (by kernel_rfl) (by kernel_rfl) (Src.rd r89) (by first | omega | (simp only [List.length_append, List.length_cons, List.length_nil]; omega)) (fun A90 c91 w92 hM93 => ?_)
            have hM94 : Step V w [] V87 _ ([.row strK 9 A90 c91 (o ++ ([y] : List Str) ++ ([(rk.getD (k) [])] : List Str)), .blk b5 (.cells #[.slice none 0 0, .slice none 0 0] 25), .blk b2 (.cells #[.slice Ark (rk).length crk, .slice Arq (rq).length crq] 25)]) := hM93
            refine wpF_seg 1 (by kernel_rfl) ?_
            refine wpF_end _ (by kernel_rfl) (blk_n (then_n (hK40 _ _ ?_)))
            refine wp_reg ?_
            refine wpF_seg 1 (by kernel_rfl) ?_
            refine gF hM94 (.binOp .add 3 (.tmp 20) (.const (.int .i64 1)) 3) (some 21) (by kernel_rfl) (Y_add .i64 ((k : Int)) (1) ((k : Int) + 1) (by kernel_rfl) (by kernel_rfl) (wrap64_ok _ (by omega))) ?_
            refine wpF_seg 1 (by kernel_rfl) ?_
            refine wpF_base [(1, bs (y)), (2, .pointer (some ⟨b2, 0, none⟩)), (4, .pointer (some ⟨b5, 0, none⟩)), (5, .int .i64 (0)), (6, .slice A90 (o ++ ([y] : List Str) ++ ([(rk.getD (k) [])] : List Str)).length c91), (7, .bool (true)), (8, .int .i64 ((k + 1 : Int)))] (by kernel_rfl) (fun g95 => ?_)
            refine wpF_end _ (by kernel_rfl) (then_n (hK35 _ _ (k + 1, o ++ ([y] : List Str) ++ ([(rk.getD (k) [])] : List Str), true) (by omega) ?_))
            refine ⟨g95, V87, A90, c91, rfl, hM94, (((le34.trans le52).trans le64).trans le88), ?_, ?_, ?_⟩
            · -- fLtttt inv 0
              omega
            · -- fLtttt inv 1
              rw [runK_n (by assumption)]; exact stepK_a (by assumption) (by assumption) (by assumption)
            · -- fLtttt inv 2
              first | omega | (simp only [List.length_append, List.length_cons, List.length_nil]; omega)
          · -- fLtttf
            have h96 : decide (((rk.getD (k) [])) = (y)) = true := by rw [← Bool.not_not (decide _), h76]; rfl
            have p97 : (((rk.getD (k) [])) = (y)) := of_decide_eq_true h96
            refine wp_skip (blk_n (then_n (hK40 _ _ ?_)))
            refine wp_reg ?_
            refine wpF_seg 1 (by kernel_rfl) ?_
            refine gF hM70 (.binOp .add 3 (.tmp 20) (.const (.int .i64 1)) 3) (some 21) (by kernel_rfl) (Y_add .i64 ((k : Int)) (1) ((k : Int) + 1) (by kernel_rfl) (by kernel_rfl) (wrap64_ok _ (by omega))) ?_
            refine wpF_seg 1 (by kernel_rfl) ?_
            refine wpF_base [(1, bs (y)), (2, .pointer (some ⟨b2, 0, none⟩)), (4, .pointer (some ⟨b5, 0, none⟩)), (5, .int .i64 (0)), (6, .slice A66 (o ++ ([y] : List Str)).length c67), (7, .bool (true)), (8, .int .i64 ((k + 1 : Int)))] (by kernel_rfl) (fun g98 => ?_)
            refine wpF_end _ (by kernel_rfl) (then_n (hK35 _ _ (k + 1, o ++ ([y] : List Str), true) (by omega) ?_))
            refine ⟨g98, V63, A66, c67, rfl, hM70, ((le34.trans le52).trans le64), ?_, ?_, ?_⟩
            · -- fLtttf inv 0
              omega
            · -- fLtttf inv 1
              rw [runK_n (by assumption)]; exact stepK_b (by assumption) (by assumption) (by assumption)
            · -- fLtttf inv 2
              first | omega | (simp only [List.length_append, List.length_cons, List.length_nil]; omega)
        · -- fLttf
          have h99 : decide (((rk.getD (k) [])) < (y)) = true := by rw [← Bool.not_not (decide _), h55]; rfl
          have p100 : (((rk.getD (k) [])) < (y)) := of_decide_eq_true h99
          refine wp_skip (then_n (hK41 _ _ ?_))
          refine wp_seq_k (fun K101 hK101 => ?_)
          refine wp_reg ?_
          refine wpF_seg 1 (by kernel_rfl) ?_
          refine gF hM53 (.load 22 (.tmp 38)) (some 39) (by kernel_rfl) (Y_load 2 rfl (off := 0) (by kernel_rfl) (.slice Ark (rk).length crk) (by kernel_rfl)) ?_
          refine wpF_seg 1 (by kernel_rfl) ?_
          refine gF_index (A := Ark) (c := crk) (hrk.up hM53.le) .i64 ((k : Int)) (h := (by kernel_rfl : opAt _ _ _ _ _ = some (.indexAddr 22 (.tmp 39) (.tmp 40), some 41))) (e := 9) (by kernel_rfl) (by kernel_rfl) (by kernel_rfl) (k) rfl (by omega) (fun b102 o103 at_b102 => ?_)
          have c104 : V50 b102 o103 = some (bs (rk.getD (k) [])) := (At.str at_b102).1
          have l105 : (rk.getD (k) []).length ≤ 140737488355328 := (At.str at_b102).2
          refine gF hM53 (.load 9 (.tmp 41)) (some 42) (by kernel_rfl) (Y_loadV c104 (by kernel_rfl) (by kernel_rfl)) ?_
          refine wpF_seg 2 (by kernel_rfl) ?_
          refine wpF_end _ (by kernel_rfl) (then_n (hK101 _ _ ?_))
          refine wp_if (!(decide (((rk.getD (k) [])) = (y)))) (by kernel_rfl) (fun h106 => ?_) (fun h106 => ?_)
          · -- fLttft
            have h107 : decide (((rk.getD (k) [])) = (y)) = false := by rw [← Bool.not_not (decide _), h106]; rfl
            have p108 : ¬ (((rk.getD (k) [])) = (y)) := of_decide_eq_false h107
            refine wp_reg ?_
            refine wpF_seg 2 (by kernel_rfl) ?_
            refine gF hM53 (.load 22 (.tmp 46)) (some 47) (by kernel_rfl) (Y_load 2 rfl (off := 0) (by kernel_rfl) (.slice Ark (rk).length crk) (by kernel_rfl)) ?_
            refine wpF_seg 1 (by kernel_rfl) ?_
            refine gF_index (A := Ark) (c := crk) (hrk.up hM53.le) .i64 ((k : Int)) (h := (by kernel_rfl : opAt _ _ _ _ _ = some (.indexAddr 22 (.tmp 47) (.tmp 48), some 49))) (e := 9) (by kernel_rfl) (by kernel_rfl) (by kernel_rfl) (k) rfl (by omega) (fun b109 o110 at_b109 => ?_)
            have c111 : V50 b109 o110 = some (bs (rk.getD (k) [])) := (At.str at_b109).1
            have l112 : (rk.getD (k) []).length ≤ 140737488355328 := (At.str at_b109).2
            refine gF hM53 (.load 9 (.tmp 49)) (some 50) (by kernel_rfl) (Y_loadV c111 (by kernel_rfl) (by kernel_rfl)) ?_
            refine wpF_litR strK hM53 #[bs ((rk.getD (k) []))] (h := (by kernel_rfl : opAt _ _ _ _ _ = some (.buildSlice 22 1 #[(0, (.tmp 50))], some 51))) (e := 9) (by kernel_rfl) (([(rk.getD (k) [])] : List Str)) (Reps.one_str (l112)) rfl (by simp [maxL]) (fun A113 c114 V117 w115 le118 hM116 r119 => ?_)
            refine wpF_append (by_ := 16) hM116 0 rfl (h := (by kernel_rfl : opAt _ _ _ _ _ = some (.call (.mk (.builtin .append) #[(.tmp 45), (.tmp 51)] #[22, 22]), some 52))) (by kernel_rfl) (by kernel_rfl) (by kernel_rfl) (by kernel_rfl) (by kernel_rfl) (by kernel_rfl) (by kernel_rfl) (Src.rd r119) (by first | omega | (simp only [List.length_append, List.length_cons, List.length_nil]; omega)) (fun A120 c121 w122 hM123 => ?_)
            have hM124 : Step V w [] V117 _ ([.row strK 9 A120 c121 (o ++ ([(rk.getD (k) [])] : List Str)), .blk b5 (.cells #[.slice none 0 0, .slice none 0 0] 25), .blk b2 (.cells #[.slice Ark (rk).length crk, .slice Arq (rq).length crq] 25)]) := hM123
            refine wpF_seg 1 (by kernel_rfl) ?_
            refine wpF_end _ (by kernel_rfl) (blk_n (then_n (hK40 _ _ ?_)))
            refine wp_reg ?_
            refine wpF_seg 1 (by kernel_rfl) ?_
            refine gF hM124 (.binOp .add 3 (.tmp 20) (.const (.int .i64 1)) 3) (some 21) (by kernel_rfl) (Y_add .i64 ((k : Int)) (1) ((k : Int) + 1) (by kernel_rfl) (by kernel_rfl) (wrap64_ok _ (by omega))) ?_
            refine wpF_seg 1 (by kernel_rfl) ?_
            refine wpF_base [(1, bs (y)), (2, .pointer (some ⟨b2, 0, none⟩)), (4, .pointer (some ⟨b5, 0, none⟩)), (5, .int .i64 (0)), (6, .slice A120 (o ++ ([(rk.getD (k) [])] : List Str)).length c121), (7, .bool (ld)), (8, .int .i64 ((k + 1 : Int)))] (by kernel_rfl) (fun g125 => ?_)
            refine wpF_end _ (by kernel_rfl) (then_n (hK35 _ _ (k + 1, o ++ ([(rk.getD (k) [])] : List Str), ld) (by omega) ?_))
            refine ⟨g125, V117, A120, c121, rfl, hM124, ((le34.trans le52).trans le118), ?_, ?_, ?_⟩
            · -- fLttft inv 0
              omega
            · -- fLttft inv 1
              rw [runK_n (by assumption)]; exact stepK_c (by assumption) (by assumption)
            · -- fLttft inv 2
              first | omega | (simp only [List.length_append, List.length_cons, List.length_nil]; omega)
          · -- fLttff
            have h126 : decide (((rk.getD (k) [])) = (y)) = true := by rw [← Bool.not_not (decide _), h106]; rfl
            have p127 : (((rk.getD (k) [])) = (y)) := of_decide_eq_true h126
            refine wp_skip (blk_n (then_n (hK40 _ _ ?_)))
            refine wp_reg ?_
            refine wpF_seg 1 (by kernel_rfl) ?_
            refine gF hM53 (.binOp .add 3 (.tmp 20) (.const (.int .i64 1)) 3) (some 21) (by kernel_rfl) (Y_add .i64 ((k : Int)) (1) ((k : Int) + 1) (by kernel_rfl) (by kernel_rfl) (wrap64_ok _ (by omega))) ?_
            refine wpF_seg 1 (by kernel_rfl) ?_
            refine wpF_base [(1, bs (y)), (2, .pointer (some ⟨b2, 0, none⟩)), (4, .pointer (some ⟨b5, 0, none⟩)), (5, .int .i64 (0)), (6, .slice Ar_356 (o).length cr_356), (7, .bool (ld)), (8, .int .i64 ((k + 1 : Int)))] (by kernel_rfl) (fun g128 => ?_)
            refine wpF_end _ (by kernel_rfl) (then_n (hK35 _ _ (k + 1, o, ld) (by omega) ?_))
            refine ⟨g128, V50, Ar_356, cr_356, rfl, hM53, (le34.trans le52), ?_, ?_, ?_⟩
            · -- fLttff inv 0
              omega
            · -- fLttff inv 1
              rw [runK_n (by assumption)]; exact stepK_d (by assumption) (by assumption)
            · -- fLttff inv 2
              first | omega | (simp only [List.length_append, List.length_cons, List.length_nil]; omega)
      · -- fLtf
        have h129 : (ld) = true := by simpa using h43
        refine wpF_seg 9 (by kernel_rfl) ?_
        refine wpF_end _ (by kernel_rfl) (then_n (hK42 _ _ ?_))
        refine wp_cf (by kernel_rfl) ?_
        refine wp_skip (then_n (hK41 _ _ ?_))
        refine wp_seq_k (fun K130 hK130 => ?_)
        refine wp_reg ?_
        refine wpF_seg 1 (by kernel_rfl) ?_
        refine gF hM33 (.load 22 (.tmp 38)) (some 39) (by kernel_rfl) (Y_load 2 rfl (off := 0) (by kernel_rfl) (.slice Ark (rk).length crk) (by kernel_rfl)) ?_
        refine wpF_seg 1 (by kernel_rfl) ?_
        refine gF_index (A := Ark) (c := crk) (hrk.up hM33.le) .i64 ((k : Int)) (h := (by kernel_rfl : opAt _ _ _ _ _ = some (.indexAddr 22 (.tmp 39) (.tmp 40), some 41))) (e := 9) (by kernel_rfl) (by kernel_rfl) (by kernel_rfl) (k) rfl (by omega) (fun b131 o132 at_b131 => ?_)
        have c133 : Vl27 b131 o132 = some (bs (rk.getD (k) [])) := (At.str at_b131).1
        have l134 : (rk.getD (k) []).length ≤ 140737488355328 := (At.str at_b131).2
        refine gF hM33 (.load 9 (.tmp 41)) (some 42) (by kernel_rfl) (Y_loadV c133 (by kernel_rfl) (by kernel_rfl)) ?_
        refine wpF_seg 2 (by kernel_rfl) ?_
        refine wpF_end _ (by kernel_rfl) (then_n (hK130 _ _ ?_))
        refine wp_if (!(decide (((rk.getD (k) [])) = (y)))) (by kernel_rfl) (fun h135 => ?_) (fun h135 => ?_)
        · -- fLtft
          have h136 : decide (((rk.getD (k) [])) = (y)) = false := by rw [← Bool.not_not (decide _), h135]; rfl
          have p137 : ¬ (((rk.getD (k) [])) = (y)) := of_decide_eq_false h136
          refine wp_reg ?_
          refine wpF_seg 2 (by kernel_rfl) ?_
          refine gF hM33 (.load 22 (.tmp 46)) (some 47) (by kernel_rfl) (Y_load 2 rfl (off := 0) (by kernel_rfl) (.slice Ark (rk).length crk) (by kernel_rfl)) ?_
          refine wpF_seg 1 (by kernel_rfl) ?_
          refine gF_index (A := Ark) (c := crk) (hrk.up hM33.le) .i64 ((k : Int)) (h := (by kernel_rfl : opAt _ _ _ _ _ = some (.indexAddr 22 (.tmp 47) (.tmp 48), some 49))) (e := 9) (by kernel_rfl) (by kernel_rfl) (by kernel_rfl) (k) rfl (by omega) (fun b138 o139 at_b138 => ?_)
          have c140 : Vl27 b138 o139 = some (bs (rk.getD (k) [])) := (At.str at_b138).1
          have l141 : (rk.getD (k) []).length ≤ 140737488355328 := (At.str at_b138).2
          refine gF hM33 (.load 9 (.tmp 49)) (some 50) (by kernel_rfl) (Y_loadV c140 (by kernel_rfl) (by kernel_rfl)) ?_
          refine wpF_litR strK hM33 #[bs ((rk.getD (k) []))] (h := (by kernel_rfl : opAt _ _ _ _ _ = some (.buildSlice 22 1 #[(0, (.tmp 50))], some 51))) (e := 9) (by kernel_rfl) (([(rk.getD (k) [])] : List Str)) (Reps.one_str (l141)) rfl (by simp [maxL]) (fun A142 c143 V146 w144 le147 hM145 r148 => ?_)
          refine wpF_append (by_ := 16) hM145 0 rfl (h := (by kernel_rfl : opAt _ _ _ _ _ = some (.call (.mk (.builtin .append) #[(.tmp 45), (.tmp 51)] #[22, 22]), some 52))) (by kernel_rfl) (by kernel_rfl) (by kernel_rfl) (by kernel_rfl) (by kernel_rfl) (by kernel_rfl) (by kernel_rfl) (Src.rd r148) (by first | omega | (simp only [List.length_append, List.length_cons, List.length_nil]; omega)) (fun A149 c150 w151 hM152 => ?_)
          have hM153 : Step V w [] V146 _ ([.row strK 9 A149 c150 (o ++ ([(rk.getD (k) [])] : List Str)), .blk b5 (.cells #[.slice none 0 0, .slice none 0 0] 25), .blk b2 (.cells #[.slice Ark (rk).length crk, .slice Arq (rq).length crq] 25)]) := hM152
          refine wpF_seg 1 (by kernel_rfl) ?_
          refine wpF_end _ (by kernel_rfl) (blk_n (then_n (hK40 _ _ ?_)))
          refine wp_reg ?_
          refine wpF_seg 1 (by kernel_rfl) ?_
          refine gF hM153 (.binOp .add 3 (.tmp 20) (.const (.int .i64 1)) 3) (some 21) (by kernel_rfl) (Y_add .i64 ((k : Int)) (1) ((k : Int) + 1) (by kernel_rfl) (by kernel_rfl) (wrap64_ok _ (by omega))) ?_
          refine wpF_seg 1 (by kernel_rfl) ?_
          refine wpF_base [(1, bs (y)), (2, .pointer (some ⟨b2, 0, none⟩)), (4, .pointer (some ⟨b5, 0, none⟩)), (5, .int .i64 (0)), (6, .slice A149 (o ++ ([(rk.getD (k) [])] : List Str)).length c150), (7, .bool (ld)), (8, .int .i64 ((k + 1 : Int)))] (by kernel_rfl) (fun g154 => ?_)
          refine wpF_end _ (by kernel_rfl) (then_n (hK35 _ _ (k + 1, o ++ ([(rk.getD (k) [])] : List Str), ld) (by omega) ?_))
          refine ⟨g154, V146, A149, c150, rfl, hM153, (le34.trans le147), ?_, ?_, ?_⟩
          · -- fLtft inv 0
            omega
          · -- fLtft inv 1
            rw [runK_n (by assumption)]; exact stepK_e (by assumption) (by assumption)
          · -- fLtft inv 2
            first | omega | (simp only [List.length_append, List.length_cons, List.length_nil]; omega)
        · -- fLtff
          have h155 : decide (((rk.getD (k) [])) = (y)) = true := by rw [← Bool.not_not (decide _), h135]; rfl
          have p156 : (((rk.getD (k) [])) = (y)) := of_decide_eq_true h155
          refine wp_skip (blk_n (then_n (hK40 _ _ ?_)))
          refine wp_reg ?_
          refine wpF_seg 1 (by kernel_rfl) ?_
          refine gF hM33 (.binOp .add 3 (.tmp 20) (.const (.int .i64 1)) 3) (some 21) (by kernel_rfl) (Y_add .i64 ((k : Int)) (1) ((k : Int) + 1) (by kernel_rfl) (by kernel_rfl) (wrap64_ok _ (by omega))) ?_
          refine wpF_seg 1 (by kernel_rfl) ?_
          refine wpF_base [(1, bs (y)), (2, .pointer (some ⟨b2, 0, none⟩)), (4, .pointer (some ⟨b5, 0, none⟩)), (5, .int .i64 (0)), (6, .slice Ar_356 (o).length cr_356), (7, .bool (ld)), (8, .int .i64 ((k + 1 : Int)))] (by kernel_rfl) (fun g157 => ?_)
          refine wpF_end _ (by kernel_rfl) (then_n (hK35 _ _ (k + 1, o, ld) (by omega) ?_))
          refine ⟨g157, Vl27, Ar_356, cr_356, rfl, hM33, le34, ?_, ?_, ?_⟩
          · -- fLtff inv 0
            omega
          · -- fLtff inv 1
            rw [runK_n (by assumption)]; exact stepK_f (by assumption) (by assumption)
          · -- fLtff inv 2
            first | omega | (simp only [List.length_append, List.length_cons, List.length_nil]; omega)
    · -- fLf
      have p158 : ¬ (((k : Int)) < ((rk.length : Int))) := of_decide_eq_false h38
      refine wp_exit (then_x (then_x (blk_hit (then_n (hK25 _ _ ?_)))))
      obtain rfl : k = rk.length := by omega
      refine wp_seq_k (fun K159 hK159 => ?_)
      refine wp_seq_k (fun K160 hK160 => ?_)
      refine wp_reg ?_
      refine wpF_seg 2 (by kernel_rfl) ?_
      refine wpF_end _ (by kernel_rfl) (then_n (hK160 _ _ ?_))
      refine wp_if (!ld) (by kernel_rfl) (fun h161 => ?_) (fun h161 => ?_)
      · -- fLft
        have h162 : (ld) = false := by simpa using h161
        refine wp_reg ?_
        refine wpF_seg 2 (by kernel_rfl) ?_
        refine wpF_litR strK hM33 #[bs (y)] (h := (by kernel_rfl : opAt _ _ _ _ _ = some (.buildSlice 22 1 #[(0, (.tmp 56))], some 57))) (e := 9) (by kernel_rfl) (([y] : List Str)) (Reps.one_str (hy)) rfl (by simp [maxL]) (fun A163 c164 V167 w165 le168 hM166 r169 => ?_)
        refine wpF_append (by_ := 16) hM166 0 rfl (h := (by kernel_rfl : opAt _ _ _ _ _ = some (.call (.mk (.builtin .append) #[(.tmp 55), (.tmp 57)] #[22, 22]), some 58))) (by kernel_rfl) (by kernel_rfl) (by kernel_rfl) (by kernel_rfl) (by kernel_rfl) (by kernel_rfl) (by kernel_rfl) (Src.rd r169) (by first | omega | (simp only [List.length_append, List.length_cons, List.length_nil]; omega)) (fun A170 c171 w172 hM173 => ?_)
        have hM174 : Step V w [] V167 _ ([.row strK 9 A170 c171 (o ++ ([y] : List Str)), .blk b5 (.cells #[.slice none 0 0, .slice none 0 0] 25), .blk b2 (.cells #[.slice Ark (rk).length crk, .slice Arq (rq).length crq] 25)]) := hM173
        refine wpF_seg 1 (by kernel_rfl) ?_
        refine wpF_end _ (by kernel_rfl) (then_n (hK159 _ _ ?_))
        refine wp_seq_k (fun K175 hK175 => ?_)
        refine wp_reg ?_
        refine wpF_seg 2 (by kernel_rfl) ?_
        refine gF hM174 (.load 23 (.tmp 61)) (some 62) (by kernel_rfl) (Y_load 2 rfl (off := 1) (by kernel_rfl) (.slice Arq (rq).length crq) (by kernel_rfl)) ?_
        obtain ⟨V176, le177, hM178, r179⟩ := hM174.settleRow 0 rfl
        have hM180 : Step V w [] V176 _ ([.blk b5 (.cells #[.slice none 0 0, .slice none 0 0] 25), .blk b2 (.cells #[.slice Ark (rk).length crk, .slice Arq (rq).length crq] 25)]) := hM178
        refine wpF_callP hM180 (f := 61) (caps := #[]) (h := (by kernel_rfl : opAt _ _ _ _ _ = some (.call (.mk (.value (.func 61)) #[(.tmp 60), (.tmp 62)] #[22, 23]), some 63))) (by kernel_rfl) (by kernel_rfl) (by kernel_rfl) (f61 _ _ hM180.inW A170 c171 (o ++ ([y] : List Str)) r179 Arq crq (rq) (hrq.up hM180.le) (by first | omega | (simp only [List.length_append, List.length_cons, List.length_nil]; omega))) (fun v181 V182 w183 le184 hM185 hp186 => ?_)
        obtain ⟨Ar186_1, cr186_1, Ar186_2, cr186_2, rfl, r187, r188⟩ := hp186
        have l189 : (mkK (o ++ ([y] : List Str)) (rq)).length ≤ 140737488355328 := r187.max
        have l190 : ((rq)).length ≤ 140737488355328 := r188.max
        refine wpF_seg 3 (by kernel_rfl) ?_
        refine wpF_alloc hM185 #[.slice none 0 0, .slice none 0 0] (h := (by kernel_rfl : opAt _ _ _ _ _ = some (.alloc 25, some 9))) (by kernel_rfl) (fun b191 w192 hM193 => ?_)
        refine wpF_store hM193 0 rfl (h := (by kernel_rfl : opAt _ _ _ _ _ = some (.store 25 (.tmp 9) (.tmp 64), none))) (off := 0) (by kernel_rfl) #[.slice Ar186_1 (mkK (o ++ ([y] : List Str)) (rq)).length cr186_1, .slice Ar186_2 ((rq)).length cr186_2] (by kernel_rfl) (by kernel_rfl) (by kernel_rfl) (by kernel_rfl) (fun w195 hM194 => ?_)
        have hM196 : Step V w [] V182 _ ([.blk b191 (.cells #[.slice Ar186_1 (mkK (o ++ ([y] : List Str)) (rq)).length cr186_1, .slice Ar186_2 ((rq)).length cr186_2] 25), .blk b5 (.cells #[.slice none 0 0, .slice none 0 0] 25), .blk b2 (.cells #[.slice Ark (rk).length crk, .slice Arq (rq).length crq] 25)]) := hM194
        refine wpF_seg 1 (by kernel_rfl) ?_
        refine wpF_end _ (by kernel_rfl) (then_n (hK175 _ _ ?_))
        refine wp_seq_k (fun K197 hK197 => ?_)
        refine wp_seq_k (fun K198 hK198 => ?_)
        refine wp_reg ?_
        refine wpF_seg 2 (by kernel_rfl) ?_
        refine wpF_end _ (by kernel_rfl) (then_n (hK198 _ _ ?_))
        refine wp_if (!(mkOk (o ++ ([y] : List Str)) (rq))) (by kernel_rfl) (fun h199 => ?_) (fun h199 => ?_)
        · -- fLftt
          have h200 : (mkOk (o ++ ([y] : List Str)) (rq)) = false := by simpa using h199
          refine wp_seq_k (fun K201 hK201 => ?_)
          refine wp_reg ?_
          refine wpF_seg 1 (by kernel_rfl) ?_
          refine wpF_store hM196 1 rfl (h := (by kernel_rfl : opAt _ _ _ _ _ = some (.store 25 (.tmp 4) (.tmp 68), none))) (off := 0) (by kernel_rfl) #[.slice none 0 0, .slice none 0 0] (by kernel_rfl) (by kernel_rfl) (by kernel_rfl) (by kernel_rfl) (fun w203 hM202 => ?_)
          have hM204 : Step V w [] V182 _ ([.blk b191 (.cells #[.slice Ar186_1 (mkK (o ++ ([y] : List Str)) (rq)).length cr186_1, .slice Ar186_2 ((rq)).length cr186_2] 25), .blk b5 (.cells #[.slice none 0 0, .slice none 0 0] 25), .blk b2 (.cells #[.slice Ark (rk).length crk, .slice Arq (rq).length crq] 25)]) := hM202
          refine wpF_seg 1 (by kernel_rfl) ?_
          refine wpF_end _ (by kernel_rfl) (then_n (hK201 _ _ ?_))
          refine wp_ret (then_r (?_))
          refine retN [.agg #[.slice none 0 0, .slice none 0 0], .int .i64 (9)] (.tuple #[.agg #[.slice none 0 0, .slice none 0 0], .int .i64 (9)]) Try.results19 (.cell (by kernel_rfl) (by kernel_rfl) hM204 1 rfl (by kernel_rfl) (.tmp (by kernel_rfl) (by kernel_rfl) .nil)) (by kernel_rfl) (hRet _ _ ⟨_, _, rfl, hM204.clear, ?_⟩)
          -- end fLftt
          have hrun := (by assumption : runK rk y rk.length = (o, ld))
          refine ⟨none, 0, none, 0, ?_, ?_, ?_⟩
          · first | (simp only [rkK, rkS, rkE, mdK, mdS, mdE, refK, hrun, h16, h161, h162, h199, h200, h22, h38, cond_true, cond_false] <;> rfl) | (simp only [rkK, rkS, rkE, h16, h161, h162, h199, h200, h22, h38, cond_false] <;> rfl)
          · first | exact (Rd.nil _ _) | (exact Rd.eq (Rd.nil _ _) (by first | (simp only [rkK, rkS, rkE, mdK, mdS, mdE, refK, hrun, h16, h161, h162, h199, h200, h22, h38, cond_true, cond_false]; done) | (simp only [rkK, rkS, rkE, h16, h161, h162, h199, h200, h22, h38, cond_false]; done)))
          · first | exact (Rd.nil _ _) | (exact Rd.eq (Rd.nil _ _) (by first | (simp only [rkK, rkS, rkE, mdK, mdS, mdE, refK, hrun, h16, h161, h162, h199, h200, h22, h38, cond_true, cond_false]; done) | (simp only [rkK, rkS, rkE, h16, h161, h162, h199, h200, h22, h38, cond_false]; done)))
        · -- fLftf
          have h205 : (mkOk (o ++ ([y] : List Str)) (rq)) = true := by simpa using h199
          refine wp_skip (then_n (hK197 _ _ ?_))
          refine wp_seq_k (fun K206 hK206 => ?_)
          refine wp_reg ?_
          refine gF hM196 (.load 25 (.tmp 9)) (some 69) (by kernel_rfl) (Y_load 0 rfl (off := 0) (by kernel_rfl) (.agg #[.slice Ar186_1 (mkK (o ++ ([y] : List Str)) (rq)).length cr186_1, .slice Ar186_2 ((rq)).length cr186_2]) (by kernel_rfl)) ?_
          refine wpF_store hM196 1 rfl (h := (by kernel_rfl : opAt _ _ _ _ _ = some (.store 25 (.tmp 4) (.tmp 69), none))) (off := 0) (by kernel_rfl) #[.slice Ar186_1 (mkK (o ++ ([y] : List Str)) (rq)).length cr186_1, .slice Ar186_2 ((rq)).length cr186_2] (by kernel_rfl) (by kernel_rfl) (by kernel_rfl) (by kernel_rfl) (fun w208 hM207 => ?_)
          have hM209 : Step V w [] V182 _ ([.blk b191 (.cells #[.slice Ar186_1 (mkK (o ++ ([y] : List Str)) (rq)).length cr186_1, .slice Ar186_2 ((rq)).length cr186_2] 25), .blk b5 (.cells #[.slice Ar186_1 (mkK (o ++ ([y] : List Str)) (rq)).length cr186_1, .slice Ar186_2 ((rq)).length cr186_2] 25), .blk b2 (.cells #[.slice Ark (rk).length crk, .slice Arq (rq).length crq] 25)]) := hM207
          refine wpF_seg 1 (by kernel_rfl) ?_
          refine wpF_end _ (by kernel_rfl) (then_n (hK206 _ _ ?_))
          refine wp_ret ?_
          refine retN [.agg #[.slice Ar186_1 (mkK (o ++ ([y] : List Str)) (rq)).length cr186_1, .slice Ar186_2 ((rq)).length cr186_2], .int .i64 (0)] (.tuple #[.agg #[.slice Ar186_1 (mkK (o ++ ([y] : List Str)) (rq)).length cr186_1, .slice Ar186_2 ((rq)).length cr186_2], .int .i64 (0)]) Try.results19 (.cell (by kernel_rfl) (by kernel_rfl) hM209 1 rfl (by kernel_rfl) (.tmp (by kernel_rfl) (by kernel_rfl) .nil)) (by kernel_rfl) (hRet _ _ ⟨_, _, rfl, hM209.clear, ?_⟩)
          -- end fLftf
          have hrun := (by assumption : runK rk y rk.length = (o, ld))
          refine ⟨Ar186_1, cr186_1, Ar186_2, cr186_2, ?_, ?_, ?_⟩
          · first | (simp only [rkK, rkS, rkE, mdK, mdS, mdE, refK, hrun, h16, h161, h162, h199, h205, h22, h38, cond_true, cond_false] <;> rfl) | (simp only [rkK, rkS, rkE, h16, h161, h162, h199, h205, h22, h38, cond_false] <;> rfl)
          · first | exact r187 | (exact Rd.eq r187 (by first | (simp only [rkK, rkS, rkE, mdK, mdS, mdE, refK, hrun, h16, h161, h162, h199, h205, h22, h38, cond_true, cond_false]; done) | (simp only [rkK, rkS, rkE, h16, h161, h162, h199, h205, h22, h38, cond_false]; done)))
          · first | exact r188 | (exact Rd.eq r188 (by first | (simp only [rkK, rkS, rkE, mdK, mdS, mdE, refK, hrun, h16, h161, h162, h199, h205, h22, h38, cond_true, cond_false]; done) | (simp only [rkK, rkS, rkE, h16, h161, h162, h199, h205, h22, h38, cond_false]; done)))
      · -- fLff
        have h210 : (ld) = true := by simpa using h161
        refine wp_skip (then_n (hK159 _ _ ?_))
        refine wp_seq_k (fun K211 hK211 => ?_)
        refine wp_reg ?_
        refine wpF_seg 2 (by kernel_rfl) ?_
        refine gF hM33 (.load 23 (.tmp 61)) (some 62) (by kernel_rfl) (Y_load 2 rfl (off := 1) (by kernel_rfl) (.slice Arq (rq).length crq) (by kernel_rfl)) ?_
        obtain ⟨V212, le213, hM214, r215⟩ := hM33.settleRow 0 rfl
        have hM216 : Step V w [] V212 _ ([.blk b5 (.cells #[.slice none 0 0, .slice none 0 0] 25), .blk b2 (.cells #[.slice Ark (rk).length crk, .slice Arq (rq).length crq] 25)]) := hM214
        refine wpF_callP hM216 (f := 61) (caps := #[]) (h := (by kernel_rfl : opAt _ _ _ _ _ = some (.call (.mk (.value (.func 61)) #[(.tmp 60), (.tmp 62)] #[22, 23]), some 63))) (by kernel_rfl) (by kernel_rfl) (by kernel_rfl) (f61 _ _ hM216.inW Ar_356 cr_356 (o) r215 Arq crq (rq) (hrq.up hM216.le) (by first | omega | (simp only [List.length_append, List.length_cons, List.length_nil]; omega))) (fun v217 V218 w219 le220 hM221 hp222 => ?_)
        obtain ⟨Ar222_1, cr222_1, Ar222_2, cr222_2, rfl, r223, r224⟩ := hp222
        have l225 : (mkK (o) (rq)).length ≤ 140737488355328 := r223.max
        have l226 : ((rq)).length ≤ 140737488355328 := r224.max
        refine wpF_seg 3 (by kernel_rfl) ?_
        refine wpF_alloc hM221 #[.slice none 0 0, .slice none 0 0] (h := (by kernel_rfl : opAt _ _ _ _ _ = some (.alloc 25, some 9))) (by kernel_rfl) (fun b227 w228 hM229 => ?_)
        refine wpF_store hM229 0 rfl (h := (by kernel_rfl : opAt _ _ _ _ _ = some (.store 25 (.tmp 9) (.tmp 64), none))) (off := 0) (by kernel_rfl) #[.slice Ar222_1 (mkK (o) (rq)).length cr222_1, .slice Ar222_2 ((rq)).length cr222_2] (by kernel_rfl) (by kernel_rfl) (by kernel_rfl) (by kernel_rfl) (fun w231 hM230 => ?_)
        have hM232 : Step V w [] V218 _ ([.blk b227 (.cells #[.slice Ar222_1 (mkK (o) (rq)).length cr222_1, .slice Ar222_2 ((rq)).length cr222_2] 25), .blk b5 (.cells #[.slice none 0 0, .slice none 0 0] 25), .blk b2 (.cells #[.slice Ark (rk).length crk, .slice Arq (rq).length crq] 25)]) := hM230
        refine wpF_seg 1 (by kernel_rfl) ?_
        refine wpF_end _ (by kernel_rfl) (then_n (hK211 _ _ ?_))
        refine wp_seq_k (fun K233 hK233 => ?_)
        refine wp_seq_k (fun K234 hK234 => ?_)
        refine wp_reg ?_
        refine wpF_seg 2 (by kernel_rfl) ?_
        refine wpF_end _ (by kernel_rfl) (then_n (hK234 _ _ ?_))
        refine wp_if (!(mkOk (o) (rq))) (by kernel_rfl) (fun h235 => ?_) (fun h235 => ?_)
        · -- fLfft
          have h236 : (mkOk (o) (rq)) = false := by simpa using h235
          refine wp_seq_k (fun K237 hK237 => ?_)
          refine wp_reg ?_
          refine wpF_seg 1 (by kernel_rfl) ?_
          refine wpF_store hM232 1 rfl (h := (by kernel_rfl : opAt _ _ _ _ _ = some (.store 25 (.tmp 4) (.tmp 68), none))) (off := 0) (by kernel_rfl) #[.slice none 0 0, .slice none 0 0] (by kernel_rfl) (by kernel_rfl) (by kernel_rfl) (by kernel_rfl) (fun w239 hM238 => ?_)
          have hM240 : Step V w [] V218 _ ([.blk b227 (.cells #[.slice Ar222_1 (mkK (o) (rq)).length cr222_1, .slice Ar222_2 ((rq)).length cr222_2] 25), .blk b5 (.cells #[.slice none 0 0, .slice none 0 0] 25), .blk b2 (.cells #[.slice Ark (rk).length crk, .slice Arq (rq).length crq] 25)]) := hM238
          refine wpF_seg 1 (by kernel_rfl) ?_
          refine wpF_end _ (by kernel_rfl) (then_n (hK237 _ _ ?_))
          refine wp_ret (then_r (?_))
          refine retN [.agg #[.slice none 0 0, .slice none 0 0], .int .i64 (9)] (.tuple #[.agg #[.slice none 0 0, .slice none 0 0], .int .i64 (9)]) Try.results19 (.cell (by kernel_rfl) (by kernel_rfl) hM240 1 rfl (by kernel_rfl) (.tmp (by kernel_rfl) (by kernel_rfl) .nil)) (by kernel_rfl) (hRet _ _ ⟨_, _, rfl, hM240.clear, ?_⟩)
          -- end fLfft
          have hrun := (by assumption : runK rk y rk.length = (o, ld))
          refine ⟨none, 0, none, 0, ?_, ?_, ?_⟩
          · first | (simp only [rkK, rkS, rkE, mdK, mdS, mdE, refK, hrun, h16, h161, h210, h22, h235, h236, h38, cond_true, cond_false] <;> rfl) | (simp only [rkK, rkS, rkE, h16, h161, h210, h22, h235, h236, h38, cond_false] <;> rfl)
          · first | exact (Rd.nil _ _) | (exact Rd.eq (Rd.nil _ _) (by first | (simp only [rkK, rkS, rkE, mdK, mdS, mdE, refK, hrun, h16, h161, h210, h22, h235, h236, h38, cond_true, cond_false]; done) | (simp only [rkK, rkS, rkE, h16, h161, h210, h22, h235, h236, h38, cond_false]; done)))
          · first | exact (Rd.nil _ _) | (exact Rd.eq (Rd.nil _ _) (by first | (simp only [rkK, rkS, rkE, mdK, mdS, mdE, refK, hrun, h16, h161, h210, h22, h235, h236, h38, cond_true, cond_false]; done) | (simp only [rkK, rkS, rkE, h16, h161, h210, h22, h235, h236, h38, cond_false]; done)))
        · -- fLfff
          have h241 : (mkOk (o) (rq)) = true := by simpa using h235
          refine wp_skip (then_n (hK233 _ _ ?_))
          refine wp_seq_k (fun K242 hK242 => ?_)
          refine wp_reg ?_
          refine gF hM232 (.load 25 (.tmp 9)) (some 69) (by kernel_rfl) (Y_load 0 rfl (off := 0) (by kernel_rfl) (.agg #[.slice Ar222_1 (mkK (o) (rq)).length cr222_1, .slice Ar222_2 ((rq)).length cr222_2]) (by kernel_rfl)) ?_
          refine wpF_store hM232 1 rfl (h := (by kernel_rfl : opAt _ _ _ _ _ = some (.store 25 (.tmp 4) (.tmp 69), none))) (off := 0) (by kernel_rfl) #[.slice Ar222_1 (mkK (o) (rq)).length cr222_1, .slice Ar222_2 ((rq)).length cr222_2] (by kernel_rfl) (by kernel_rfl) (by kernel_rfl) (by kernel_rfl) (fun w244 hM243 => ?_)
          have hM245 : Step V w [] V218 _ ([.blk b227 (.cells #[.slice Ar222_1 (mkK (o) (rq)).length cr222_1, .slice Ar222_2 ((rq)).length cr222_2] 25), .blk b5 (.cells #[.slice Ar222_1 (mkK (o) (rq)).length cr222_1, .slice Ar222_2 ((rq)).length cr222_2] 25), .blk b2 (.cells #[.slice Ark (rk).length crk, .slice Arq (rq).length crq] 25)]) := hM243
          refine wpF_seg 1 (by kernel_rfl) ?_
          refine wpF_end _ (by kernel_rfl) (then_n (hK242 _ _ ?_))
          refine wp_ret ?_
          refine retN [.agg #[.slice Ar222_1 (mkK (o) (rq)).length cr222_1, .slice Ar222_2 ((rq)).length cr222_2], .int .i64 (0)] (.tuple #[.agg #[.slice Ar222_1 (mkK (o) (rq)).length cr222_1, .slice Ar222_2 ((rq)).length cr222_2], .int .i64 (0)]) Try.results19 (.cell (by kernel_rfl) (by kernel_rfl) hM245 1 rfl (by kernel_rfl) (.tmp (by kernel_rfl) (by kernel_rfl) .nil)) (by kernel_rfl) (hRet _ _ ⟨_, _, rfl, hM245.clear, ?_⟩)
          -- end fLfff
          have hrun := (by assumption : runK rk y rk.length = (o, ld))
          refine ⟨Ar222_1, cr222_1, Ar222_2, cr222_2, ?_, ?_, ?_⟩
          · first | (simp only [rkK, rkS, rkE, mdK, mdS, mdE, refK, hrun, h16, h161, h210, h22, h235, h241, h38, cond_true, cond_false] <;> rfl) | (simp only [rkK, rkS, rkE, h16, h161, h210, h22, h235, h241, h38, cond_false] <;> rfl)
          · first | exact r223 | (exact Rd.eq r223 (by first | (simp only [rkK, rkS, rkE, mdK, mdS, mdE, refK, hrun, h16, h161, h210, h22, h235, h241, h38, cond_true, cond_false]; done) | (simp only [rkK, rkS, rkE, h16, h161, h210, h22, h235, h241, h38, cond_false]; done)))
          · first | exact r224 | (exact Rd.eq r224 (by first | (simp only [rkK, rkS, rkE, mdK, mdS, mdE, refK, hrun, h16, h161, h210, h22, h235, h241, h38, cond_true, cond_false]; done) | (simp only [rkK, rkS, rkE, h16, h161, h210, h22, h235, h241, h38, cond_false]; done)))

end Go.Vk
