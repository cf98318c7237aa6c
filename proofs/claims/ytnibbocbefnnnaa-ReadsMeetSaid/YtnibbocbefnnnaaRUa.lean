import Derived.Test.YtnibbocbefnnnaaRB
import Derived.Test.YtnibbocbefnnnaaRC
import Derived.Test.YtnibbocbefnnnaaRIt
import Derived.Test.YtnibbocbefnnnaaRMathRd
import Derived.Test.YtnibbocbefnnnaaRMathSp
import Derived.Test.YtnibbocbefnnnaaRMathSq
import Derived.Test.YtnibbocbefnnnaaRMathSr
import Derived.Test.YtnibbocbefnnnaaRPlainSp
import Derived.Test.YtnibbocbefnnnaaRSp
import Derived.Test.YtnibbocbefnnnaaRSq
set_option linter.unusedVariables false
set_option linter.unusedSimpArgs false
namespace Go.Vk
open Go.Proofs
variable {D : List Deferred}
set_option maxHeartbeats 4000000 in
set_option maxRecDepth 100000 in
theorem f26 (V : VT) (w : World) (hV : V.inW w) (Ark : Option Addr) (crk : Nat) (rk : List Str) (hrk : Rd strK V Ark crk rk) (Arq : Option Addr) (crq : Nat) (rq : List ((Str × Str))) (hrq : Rd (prK strK strK) V Arq crq rq) (y : Str) (hy : y.length ≤ maxL) :
    Calls Try.prog 26 #[.agg #[.slice Ark (rk).length crk, .slice Arq (rq).length crq], bs (y)] w (RetP V w fun rv V' => rv = .bool (coB rk rq y)) := by
  have mxrk : rk.length ≤ 140737488355328 := hrk.max
  have mxrq : rq.length ≤ 140737488355328 := hrq.max
  have mxy : y.length ≤ 140737488355328 := hy
  refine calls_env (n := 27) Try.func26 (c := _) rfl Try.ntmps26 (by kernel_rfl) (fun R hRet => ?_)
  have hM0 : Step V w [] V w [] := Step.refl (St.nilE hV)
  refine wp_seq_k (fun K1 hK1 => ?_)
  refine wp_reg ?_
  refine wpF_box hM0 #[.slice Ark (rk).length crk, .slice Arq (rq).length crq] (h := (by kernel_rfl : opAt _ _ _ _ _ = some (.box 25 (.tmp 0), some 2))) (by kernel_rfl) (fun b2 w3 hM4 => ?_)
  refine wpF_seg 1 (by kernel_rfl) ?_
  refine wpF_end _ (by kernel_rfl) (then_n (hK1 _ _ ?_))
  refine wp_seq_k (fun K5 hK5 => ?_)
  refine wp_seq_k (fun K6 hK6 => ?_)
  refine wp_reg ?_
  refine gF hM4 (.load 25 (.tmp 2)) (some 6) (by kernel_rfl) (Y_load 0 rfl (off := 0) (by kernel_rfl) (.agg #[.slice Ark (rk).length crk, .slice Arq (rq).length crq]) (by kernel_rfl)) ?_
  refine wpF_callP hM4 (f := 59) (caps := #[]) (h := (by kernel_rfl : opAt _ _ _ _ _ = some (.call (.mk (.value (.func 59)) #[(.tmp 6)] #[25]), some 7))) (by kernel_rfl) (by kernel_rfl) (by kernel_rfl) (f59 _ _ hM4.inW Ark crk (rk) hrk Arq crq (rq) hrq) (fun v7 V8 w9 le10 hM11 hp12 => ?_)
  obtain rfl := hp12
  refine wpF_seg 1 (by kernel_rfl) ?_
  refine wpF_end _ (by kernel_rfl) (then_n (hK6 _ _ ?_))
  refine wp_if (!(rightB (rk) (rq))) (by kernel_rfl) (fun h13 => ?_) (fun h13 => ?_)
  · -- t
    have h14 : (rightB (rk) (rq)) = false := by simpa using h13
    refine wp_seq_k (fun K15 hK15 => ?_)
    refine wp_reg ?_
    refine wpF_seg 1 (by kernel_rfl) ?_
    refine wpF_end _ (by kernel_rfl) (then_n (hK15 _ _ ?_))
    refine wp_ret (then_r (?_))
    refine retN [.bool (false)] (.bool (false)) Try.results26 (.tmp (by kernel_rfl) (by kernel_rfl) .nil) (by kernel_rfl) (hRet _ _ ⟨_, _, rfl, hM11.clear, ?_⟩)
    -- end t
    rw [co_n (by assumption)]
  · -- f
    have h16 : (rightB (rk) (rq)) = true := by simpa using h13
    refine wp_skip (then_n (hK5 _ _ ?_))
    refine wp_seq_k (fun K17 hK17 => ?_)
    refine wp_seq_k (fun K18 hK18 => ?_)
    refine wp_reg ?_
    refine wpF_seg 1 (by kernel_rfl) ?_
    refine wpF_end _ (by kernel_rfl) (then_n (hK18 _ _ ?_))
    refine wp_block ?_
    refine wp_base [(1, bs (y)), (2, .pointer (some ⟨b2, 0, none⟩)), (5, .int .i64 ((0 : Int)))] (by kernel_rfl) (fun g20 => ?_)
    refine wp_loopX (fun (x_ : Nat) a_ w_ => ∃ (g : Nat → Value) (V_ : VT), a_ = env [] 27 [(1, bs (y)), (2, .pointer (some ⟨b2, 0, none⟩)), (5, .int .i64 ((x_ : Int)))] g ∧ Step V w [] V_ w_ [.blk b2 (.cells #[.slice Ark (rk).length crk, .slice Arq (rq).length crq] 25)] ∧ VT.le V8 V_ ∧ (x_ ≤ rk.length) ∧ (∀ i, i < x_ → ¬ (rk.getD i []) = y)) (fun (x_ : Nat) => rk.length - x_) (0) ⟨g20, V8, rfl, hM11, VT.le.refl _, by omega, by (intro i hi; omega)⟩ ?_
    rintro k a_ w22 ⟨g21, Vl19, rfl, hM23, le24, hi25_0, hi25_1⟩ K25 hK25
    refine wp_seq_k (fun K26 hK26 => ?_)
    refine wp_seq_k (fun K27 hK27 => ?_)
    refine wp_reg ?_
    refine wpF_seg 2 (by kernel_rfl) ?_
    refine gF hM23 (.load 22 (.tmp 10)) (some 11) (by kernel_rfl) (Y_load 0 rfl (off := 0) (by kernel_rfl) (.slice Ark (rk).length crk) (by kernel_rfl)) ?_
    refine wpF_seg 2 (by kernel_rfl) ?_
    refine wpF_end _ (by kernel_rfl) (then_n (hK27 _ _ ?_))
    refine wp_if (decide (((k : Int)) < ((rk.length : Int)))) (by kernel_rfl) (fun h28 => ?_) (fun h28 => ?_)
    · -- fLt
      have p29 : (((k : Int)) < ((rk.length : Int))) := of_decide_eq_true h28
      refine wp_skip (then_n (hK26 _ _ ?_))
      refine wp_seq_k (fun K30 hK30 => ?_)
      refine wp_block ?_
      refine wp_seq_k (fun K31 hK31 => ?_)
      refine wp_reg ?_
      refine wpF_seg 1 (by kernel_rfl) ?_
      refine gF hM23 (.load 22 (.tmp 16)) (some 17) (by kernel_rfl) (Y_load 0 rfl (off := 0) (by kernel_rfl) (.slice Ark (rk).length crk) (by kernel_rfl)) ?_
      refine wpF_seg 1 (by kernel_rfl) ?_
      refine gF_index (A := Ark) (c := crk) (hrk.up hM23.le) .i64 ((k : Int)) (h := (by kernel_rfl : opAt _ _ _ _ _ = some (.indexAddr 22 (.tmp 17) (.tmp 18), some 19))) (e := 9) (by kernel_rfl) (by kernel_rfl) (by kernel_rfl) (k) rfl (by omega) (fun b32 o33 at_b32 => ?_)
      have c34 : Vl19 b32 o33 = some (bs (rk.getD (k) [])) := (At.str at_b32).1
      have l35 : (rk.getD (k) []).length ≤ 140737488355328 := (At.str at_b32).2
      refine gF hM23 (.load 9 (.tmp 19)) (some 20) (by kernel_rfl) (Y_loadV c34 (by kernel_rfl) (by kernel_rfl)) ?_
      refine wpF_seg 2 (by kernel_rfl) ?_
      refine wpF_end _ (by kernel_rfl) (then_n (hK31 _ _ ?_))
      refine wp_if (decide (((rk.getD (k) [])) = (y))) (by kernel_rfl) (fun h36 => ?_) (fun h36 => ?_)
      · -- fLtt
        have p37 : (((rk.getD (k) [])) = (y)) := of_decide_eq_true h36
        refine wp_seq_k (fun K38 hK38 => ?_)
        refine wp_reg ?_
        refine wpF_seg 1 (by kernel_rfl) ?_
        refine wpF_end _ (by kernel_rfl) (then_n (hK38 _ _ ?_))
        refine wp_ret (blk_r (then_r (then_r (blk_r (then_r (?_))))))
        refine retN [.bool (true)] (.bool (true)) Try.results26 (.tmp (by kernel_rfl) (by kernel_rfl) .nil) (by kernel_rfl) (hRet _ _ ⟨_, _, rfl, hM23.clear, ?_⟩)
        -- end fLtt
        rw [co_at (k := k) (by assumption) (by omega) (by assumption)]
      · -- fLtf
        have p39 : ¬ (((rk.getD (k) [])) = (y)) := of_decide_eq_false h36
        refine wp_skip (blk_n (then_n (hK30 _ _ ?_)))
        refine wp_reg ?_
        refine wpF_seg 1 (by kernel_rfl) ?_
        refine gF hM23 (.binOp .add 3 (.tmp 14) (.const (.int .i64 1)) 3) (some 15) (by kernel_rfl) (Y_add .i64 ((k : Int)) (1) ((k : Int) + 1) (by kernel_rfl) (by kernel_rfl) (wrap64_ok _ (by omega))) ?_
        refine wpF_seg 1 (by kernel_rfl) ?_
        refine wpF_base [(1, bs (y)), (2, .pointer (some ⟨b2, 0, none⟩)), (5, .int .i64 ((k + 1 : Int)))] (by kernel_rfl) (fun g40 => ?_)
        refine wpF_end _ (by kernel_rfl) (then_n (hK25 _ _ (k + 1) (by omega) ?_))
        refine ⟨g40, Vl19, rfl, hM23, le24, ?_, ?_⟩
        · -- fLtf inv 0
          omega
        · -- fLtf inv 1
          exact all_one (by assumption) (by assumption)
    · -- fLf
      have p41 : ¬ (((k : Int)) < ((rk.length : Int))) := of_decide_eq_false h28
      refine wp_exit (then_x (then_x (blk_hit (then_n (hK17 _ _ ?_)))))
      obtain rfl : k = rk.length := by omega
      refine wp_seq_k (fun K42 hK42 => ?_)
      refine wp_reg ?_
      refine wpF_seg 1 (by kernel_rfl) ?_
      refine gF hM23 (.load 23 (.tmp 23)) (some 24) (by kernel_rfl) (Y_load 0 rfl (off := 1) (by kernel_rfl) (.slice Arq (rq).length crq) (by kernel_rfl)) ?_
      refine wpF_seg 1 (by kernel_rfl) ?_
      refine wpF_callP hM23 (f := 69) (caps := #[]) (h := (by kernel_rfl : opAt _ _ _ _ _ = some (.call (.mk (.value (.func 69)) #[(.tmp 24), (.tmp 25)] #[23, 9]), some 26))) (by kernel_rfl) (by kernel_rfl) (by kernel_rfl) (f69 _ _ hM23.inW Arq crq (rq) (hrq.up hM23.le) (y) (hy)) (fun v43 V44 w45 le46 hM47 hp48 => ?_)
      obtain rfl := hp48
      refine wpF_seg 1 (by kernel_rfl) ?_
      refine wpF_end _ (by kernel_rfl) (then_n (hK42 _ _ ?_))
      refine wp_ret ?_
      refine retN [.bool (spB (rq) (y))] (.bool (spB (rq) (y))) Try.results26 (.tmp (by kernel_rfl) (by kernel_rfl) .nil) (by kernel_rfl) (hRet _ _ ⟨_, _, rfl, hM47.clear, ?_⟩)
      -- end fLf
      rw [co_sp (by assumption) (by assumption)]

set_option maxHeartbeats 4000000 in
set_option maxRecDepth 100000 in
theorem f28 (V : VT) (w : World) (hV : V.inW w) (Ark : Option Addr) (crk : Nat) (rk : List Str) (hrk : Rd strK V Ark crk rk) (Arq : Option Addr) (crq : Nat) (rq : List ((Str × Str))) (hrq : Rd (prK strK strK) V Arq crq rq) (Al : Option Addr) (cl : Nat) (l : List ((Str × Str × Bool))) (hl : Rd (prK strK (prK strK boolK)) V Al cl l) :
    Calls Try.prog 28 #[.agg #[.slice Ark (rk).length crk, .slice Arq (rq).length crq], .slice Al (l).length cl] w (RetP V w fun rv V' => rv = .bool (hitB rk rq l)) := by
  have mxrk : rk.length ≤ 140737488355328 := hrk.max
  have mxrq : rq.length ≤ 140737488355328 := hrq.max
  have mxl : l.length ≤ 140737488355328 := hl.max
  refine calls_env (n := 19) Try.func28 (c := _) rfl Try.ntmps28 (by kernel_rfl) (fun R hRet => ?_)
  have hM0 : Step V w [] V w [] := Step.refl (St.nilE hV)
  refine wp_seq_k (fun K1 hK1 => ?_)
  refine wp_reg ?_
  refine wpF_box hM0 #[.slice Ark (rk).length crk, .slice Arq (rq).length crq] (h := (by kernel_rfl : opAt _ _ _ _ _ = some (.box 25 (.tmp 0), some 2))) (by kernel_rfl) (fun b2 w3 hM4 => ?_)
  obtain ⟨V5, le6, hM7, hc8⟩ := hM4.settle 0 rfl
  have hM9 : Step V w [] V5 _ ([]) := hM7
  refine wpF_seg 1 (by kernel_rfl) ?_
  refine wpF_end _ (by kernel_rfl) (then_n (hK1 _ _ ?_))
  refine wp_seq_k (fun K10 hK10 => ?_)
  refine wp_seq_k (fun K11 hK11 => ?_)
  refine wp_reg ?_
  refine wpF_seg 1 (by kernel_rfl) ?_
  refine wpF_end _ (by kernel_rfl) (then_n (hK11 _ _ ?_))
  refine wp_block ?_
  refine wp_base [(1, .slice Al (l).length cl), (2, .pointer (some ⟨b2, 0, none⟩)), (5, .int .i64 ((0 : Int)))] (by kernel_rfl) (fun g13 => ?_)
  refine wp_loopX (fun (x_ : Nat) a_ w_ => ∃ (g : Nat → Value) (V_ : VT), a_ = env [] 19 [(1, .slice Al (l).length cl), (2, .pointer (some ⟨b2, 0, none⟩)), (5, .int .i64 ((x_ : Int)))] g ∧ Step V w [] V_ w_ [] ∧ VT.le V5 V_ ∧ (x_ ≤ l.length) ∧ (∀ i, i < x_ → coB rk rq (l.getD i ([], [], false)).1 = false)) (fun (x_ : Nat) => l.length - x_) (0) ⟨g13, V5, rfl, hM9, VT.le.refl _, by omega, by (intro i hi; omega)⟩ ?_
  rintro k a_ w15 ⟨g14, Vl12, rfl, hM16, le17, hi18_0, hi18_1⟩ K18 hK18
  refine wp_seq_k (fun K19 hK19 => ?_)
  refine wp_seq_k (fun K20 hK20 => ?_)
  refine wp_reg ?_
  refine wpF_seg 4 (by kernel_rfl) ?_
  refine wpF_end _ (by kernel_rfl) (then_n (hK20 _ _ ?_))
  refine wp_if (decide (((k : Int)) < ((l.length : Int)))) (by kernel_rfl) (fun h21 => ?_) (fun h21 => ?_)
  · -- Lt
    have p22 : (((k : Int)) < ((l.length : Int))) := of_decide_eq_true h21
    refine wp_skip (then_n (hK19 _ _ ?_))
    refine wp_seq_k (fun K23 hK23 => ?_)
    refine wp_block ?_
    refine wp_seq_k (fun K24 hK24 => ?_)
    refine wp_base [(1, .slice Al (l).length cl), (2, .pointer (some ⟨b2, 0, none⟩)), (5, .int .i64 ((k : Int))), (6, .int .i64 ((k : Int))), (7, .slice Al (l).length cl), (8, .int .i64 ((l.length : Int))), (9, .bool (decide (((k : Int)) < ((l.length : Int)))))] (by kernel_rfl) (fun g25 => ?_)
    refine wp_drawN hM16 [] no_held [] [0, 1, 2, 3, 4, 5] [.a 6] [.p 0, .p 1, .p 2, .p 3, .p 4, .p 5, .s, .a 6] rfl (by kernel_rfl) (by kernel_rfl) ?_
    refine gH (.load 25 (.tmp 2)) (some 12) (by kernel_rfl) (Y_loadB #[.slice Ark (rk).length crk, .slice Arq (rq).length crq] (fun i v hi => le17 _ _ _ (hc8 i v hi)) (off := 0) (by kernel_rfl) (.agg #[.slice Ark (rk).length crk, .slice Arq (rq).length crq]) (by kernel_rfl)) ?_
    refine h_seg 2 (by kernel_rfl) ?_
    refine gH_index (A := Al) (c := cl) (hl.up hM16.le) .i64 ((k : Int)) (h := (by kernel_rfl : opAt _ _ _ _ _ = some (.indexAddr 45 (.tmp 13) (.tmp 14), some 15))) (e := 105) (by kernel_rfl) (by kernel_rfl) (by kernel_rfl) (k) rfl (by omega) (fun b26 o27 at_b26 => ?_)
    have c28 : Vl12 b26 o27 = some (bs (l.getD (k) ([], [], false)).1) := (At.str (At.pr at_b26).1).1
    have l29 : (l.getD (k) ([], [], false)).1.length ≤ 140737488355328 := (At.str (At.pr at_b26).1).2
    have c30 : Vl12 b26 (o27 + 1) = some (bs (l.getD (k) ([], [], false)).2.1) := (At.str (At.pr (At.pr at_b26).2).1).1
    have l31 : (l.getD (k) ([], [], false)).2.1.length ≤ 140737488355328 := (At.str (At.pr (At.pr at_b26).2).1).2
    have c32 : Vl12 b26 (o27 + 2) = some (.bool (l.getD (k) ([], [], false)).2.2) := At.bool (At.pr (At.pr at_b26).2).2
    refine h_seg 1 (by kernel_rfl) ?_
    refine gH (.load 9 (.tmp 16)) (some 17) (by kernel_rfl) (Y_loadV c28 (by kernel_rfl) (by kernel_rfl)) ?_
    refine h_s no_fs ?_
    refine h_a (by kernel_rfl) (by kernel_rfl) (fun w33 X34 hM35 => ?_)
    refine wpF_callP hM35 (f := 26) (caps := #[]) (h := (by kernel_rfl : opAt _ _ _ _ _ = some (.call (.mk (.value (.func 26)) #[(.tmp 12), (.tmp 17)] #[25, 9]), some 18))) (by kernel_rfl) (by kernel_rfl) (by kernel_rfl) (f26 _ _ hM35.inW Ark crk (rk) (hrk.up hM35.le) Arq crq (rq) (hrq.up hM35.le) ((l.getD (k) ([], [], false)).1) (l29)) (fun v36 V37 w38 le39 hM40 hp41 => ?_)
    obtain rfl := hp41
    refine wpF_end _ (by kernel_rfl) (then_n (h_d [] (by kernel_rfl) [] hM40 no_held le39 ?_))
    refine h_n (fun w42 hM43 => ?_)
    refine  (then_n (hK24 _ _ ?_))
    refine wp_if (coB (rk) (rq) ((l.getD (k) ([], [], false)).1)) (by kernel_rfl) (fun h44 => ?_) (fun h44 => ?_)
    · -- Ltt
      refine wp_seq_k (fun K45 hK45 => ?_)
      refine wp_reg ?_
      refine wpF_seg 1 (by kernel_rfl) ?_
      refine wpF_end _ (by kernel_rfl) (then_n (hK45 _ _ ?_))
      refine wp_ret (blk_r (then_r (then_r (blk_r (then_r (?_))))))
      refine retN [.bool (true)] (.bool (true)) Try.results28 (.tmp (by kernel_rfl) (by kernel_rfl) .nil) (by kernel_rfl) (hRet _ _ ⟨_, _, rfl, hM43.clear, ?_⟩)
      -- end Ltt
      rw [hit_yes (k := k) (by omega) (by assumption)]
    · -- Ltf
      refine wp_skip (blk_n (then_n (hK23 _ _ ?_)))
      refine wp_reg ?_
      refine wpF_seg 1 (by kernel_rfl) ?_
      refine gF hM43 (.binOp .add 3 (.tmp 10) (.const (.int .i64 1)) 3) (some 11) (by kernel_rfl) (Y_add .i64 ((k : Int)) (1) ((k : Int) + 1) (by kernel_rfl) (by kernel_rfl) (wrap64_ok _ (by omega))) ?_
      refine wpF_seg 1 (by kernel_rfl) ?_
      refine wpF_base [(1, .slice Al (l).length cl), (2, .pointer (some ⟨b2, 0, none⟩)), (5, .int .i64 ((k + 1 : Int)))] (by kernel_rfl) (fun g46 => ?_)
      refine wpF_end _ (by kernel_rfl) (then_n (hK18 _ _ (k + 1) (by omega) ?_))
      refine ⟨g46, V37, rfl, hM43, (le17.trans le39), ?_, ?_⟩
      · -- Ltf inv 0
        omega
      · -- Ltf inv 1
        exact all_one (by assumption) (by assumption)
  · -- Lf
    have p47 : ¬ (((k : Int)) < ((l.length : Int))) := of_decide_eq_false h21
    refine wp_exit (then_x (then_x (blk_hit (then_n (hK10 _ _ ?_)))))
    obtain rfl : k = l.length := by omega
    refine wp_seq_k (fun K48 hK48 => ?_)
    refine wp_reg ?_
    refine wpF_seg 1 (by kernel_rfl) ?_
    refine wpF_end _ (by kernel_rfl) (then_n (hK48 _ _ ?_))
    refine wp_ret ?_
    refine retN [.bool (false)] (.bool (false)) Try.results28 (.tmp (by kernel_rfl) (by kernel_rfl) .nil) (by kernel_rfl) (hRet _ _ ⟨_, _, rfl, hM16.clear, ?_⟩)
    -- end Lf
    rw [hit_no (by assumption)]

set_option maxHeartbeats 4000000 in
set_option maxRecDepth 100000 in
theorem f32 (V : VT) (w : World) (hV : V.inW w) (Ark : Option Addr) (crk : Nat) (rk : List Str) (hrk : Rd strK V Ark crk rk) (Arq : Option Addr) (crq : Nat) (rq : List ((Str × Str))) (hrq : Rd (prK strK strK) V Arq crq rq) (AsL : Option Addr) (csL : Nat) (sL : List ((Str × (List ((Int × Str × Bool)))))) (hsL : Rd (prK strK (slK (prK (intK .i64) (prK strK boolK)))) V AsL csL sL) (sa : Int) (sb : Int) (t : Int) (h5 : ∀ i, i < sL.length → (sL.getD i ([], [])).1.length ≤ 1000) :
    Calls Try.prog 32 #[.agg #[.slice Ark (rk).length crk, .slice Arq (rq).length crq], .agg #[.slice AsL (sL).length csL, .int .i64 (sa), .int .i64 (sb)], .int .i64 (t)] w (RetP V w fun rv V' => rv = .bool (rstB rk rq sL t)) := by
  have mxrk : rk.length ≤ 140737488355328 := hrk.max
  have mxrq : rq.length ≤ 140737488355328 := hrq.max
  have mxsL : sL.length ≤ 140737488355328 := hsL.max
  refine calls_env (n := 41) Try.func32 (c := _) rfl Try.ntmps32 (by kernel_rfl) (fun R hRet => ?_)
  have hM0 : Step V w [] V w [] := Step.refl (St.nilE hV)
  refine wp_seq_k (fun K1 hK1 => ?_)
  refine wp_reg ?_
  refine wpF_box hM0 #[.slice Ark (rk).length crk, .slice Arq (rq).length crq] (h := (by kernel_rfl : opAt _ _ _ _ _ = some (.box 25 (.tmp 0), some 3))) (by kernel_rfl) (fun b2 w3 hM4 => ?_)
  obtain ⟨V5, le6, hM7, hc8⟩ := hM4.settle 0 rfl
  have hM9 : Step V w [] V5 _ ([]) := hM7
  refine wpF_box hM9 #[.slice AsL (sL).length csL, .int .i64 (sa), .int .i64 (sb)] (h := (by kernel_rfl : opAt _ _ _ _ _ = some (.box 50 (.tmp 1), some 4))) (by kernel_rfl) (fun b10 w11 hM12 => ?_)
  obtain ⟨V13, le14, hM15, hc16⟩ := hM12.settle 0 rfl
  have hM17 : Step V w [] V13 _ ([]) := hM15
  refine wpF_seg 1 (by kernel_rfl) ?_
  refine wpF_end _ (by kernel_rfl) (then_n (hK1 _ _ ?_))
  refine wp_seq_k (fun K18 hK18 => ?_)
  refine wp_seq_k (fun K19 hK19 => ?_)
  refine wp_reg ?_
  refine wpF_seg 1 (by kernel_rfl) ?_
  refine wpF_end _ (by kernel_rfl) (then_n (hK19 _ _ ?_))
  refine wp_block ?_
  refine wp_base [(2, .int .i64 (t)), (3, .pointer (some ⟨b2, 0, none⟩)), (4, .pointer (some ⟨b10, 0, none⟩)), (7, .int .i64 ((0 : Int)))] (by kernel_rfl) (fun g21 => ?_)
  refine wp_loopX (fun (x_ : Nat) a_ w_ => ∃ (g : Nat → Value) (V_ : VT), a_ = env [] 41 [(2, .int .i64 (t)), (3, .pointer (some ⟨b2, 0, none⟩)), (4, .pointer (some ⟨b10, 0, none⟩)), (7, .int .i64 ((x_ : Int)))] g ∧ Step V w [] V_ w_ [] ∧ VT.le V13 V_ ∧ (x_ ≤ sL.length) ∧ (∀ i, i < x_ → (coB rk rq (sL.getD i ([], [])).1 && rsiK t (sL.getD i ([], [])).1 ((sL.getD i ([], [])).1 ++ [0]) sL) = false)) (fun (x_ : Nat) => sL.length - x_) (0) ⟨g21, V13, rfl, hM17, VT.le.refl _, by omega, by (intro i hi; omega)⟩ ?_
  rintro k a_ w23 ⟨g22, Vl20, rfl, hM24, le25, hi26_0, hi26_1⟩ K26 hK26
  refine wp_seq_k (fun K27 hK27 => ?_)
  refine wp_seq_k (fun K28 hK28 => ?_)
  refine wp_reg ?_
  refine wpF_seg 2 (by kernel_rfl) ?_
  refine gF hM24 (.load 46 (.tmp 9)) (some 10) (by kernel_rfl) (Y_loadB #[.slice AsL (sL).length csL, .int .i64 (sa), .int .i64 (sb)] (fun i v hi => le25 _ _ _ (hc16 i v hi)) (off := 0) (by kernel_rfl) (.slice AsL (sL).length csL) (by kernel_rfl)) ?_
  refine wpF_seg 2 (by kernel_rfl) ?_
  refine wpF_end _ (by kernel_rfl) (then_n (hK28 _ _ ?_))
  refine wp_if (decide (((k : Int)) < ((sL.length : Int)))) (by kernel_rfl) (fun h29 => ?_) (fun h29 => ?_)
  · -- Lt
    have p30 : (((k : Int)) < ((sL.length : Int))) := of_decide_eq_true h29
    have h5k := h5 k (by omega)
    refine wp_skip (then_n (hK27 _ _ ?_))
    refine wp_seq_k (fun K31 hK31 => ?_)
    refine wp_block ?_
    refine wp_seq_k (fun K32 hK32 => ?_)
    refine wp_base [(2, .int .i64 (t)), (3, .pointer (some ⟨b2, 0, none⟩)), (4, .pointer (some ⟨b10, 0, none⟩)), (7, .int .i64 ((k : Int))), (8, .int .i64 ((k : Int))), (9, .pointer (some ⟨b10, 0, none⟩)), (10, .slice AsL (sL).length csL), (11, .int .i64 ((sL.length : Int))), (12, .bool (decide (((k : Int)) < ((sL.length : Int)))))] (by kernel_rfl) (fun g33 => ?_)
    refine wp_drawN hM24 [] no_held [] [0, 1, 2, 3, 4, 5, 6] [.a 7, .p 8, .p 9, .p 10, .p 11, .p 12, .p 13, .p 14, .p 15, .p 16, .p 17, .p 18, .p 19, .p 20, .p 21, .p 22, .p 23, .a 24, .p 25] [.p 0, .p 1, .p 2, .p 3, .p 4, .p 5, .p 6, .s, .a 7, .p 8, .p 9, .p 10, .p 11, .p 12, .p 13, .p 14, .p 15, .p 16, .p 17, .p 18, .p 19, .p 20, .p 21, .p 22, .p 23, .a 24, .p 25] rfl (by kernel_rfl) (by kernel_rfl) ?_
    refine gH (.load 25 (.tmp 3)) (some 15) (by kernel_rfl) (Y_loadB #[.slice Ark (rk).length crk, .slice Arq (rq).length crq] (fun i v hi => (le14.trans le25) _ _ _ (hc8 i v hi)) (off := 0) (by kernel_rfl) (.agg #[.slice Ark (rk).length crk, .slice Arq (rq).length crq]) (by kernel_rfl)) ?_
    refine h_seg 1 (by kernel_rfl) ?_
    refine gH (.load 46 (.tmp 16)) (some 17) (by kernel_rfl) (Y_loadB #[.slice AsL (sL).length csL, .int .i64 (sa), .int .i64 (sb)] (fun i v hi => le25 _ _ _ (hc16 i v hi)) (off := 0) (by kernel_rfl) (.slice AsL (sL).length csL) (by kernel_rfl)) ?_
    refine h_seg 1 (by kernel_rfl) ?_
    refine gH_index (A := AsL) (c := csL) (hsL.up hM24.le) .i64 ((k : Int)) (h := (by kernel_rfl : opAt _ _ _ _ _ = some (.indexAddr 46 (.tmp 17) (.tmp 18), some 19))) (e := 80) (by kernel_rfl) (by kernel_rfl) (by kernel_rfl) (k) rfl (by omega) (fun b34 o35 at_b34 => ?_)
    have c36 : Vl20 b34 o35 = some (bs (sL.getD (k) ([], [])).1) := (At.str (At.pr at_b34).1).1
    have l37 : (sL.getD (k) ([], [])).1.length ≤ 140737488355328 := (At.str (At.pr at_b34).1).2
    obtain ⟨A38, c39, c40, r41⟩ := At.sl (At.pr at_b34).2
    have c40 : Vl20 b34 (o35 + 1) = some (.slice A38 ((sL.getD (k) ([], [])).2).length c39) := c40
    have r41 : Rd (prK (intK .i64) (prK strK boolK)) Vl20 A38 c39 ((sL.getD (k) ([], [])).2) := r41
    have l42 : ((sL.getD (k) ([], [])).2).length ≤ 140737488355328 := r41.max
    refine h_seg 1 (by kernel_rfl) ?_
    refine gH (.load 9 (.tmp 20)) (some 21) (by kernel_rfl) (Y_loadV c36 (by kernel_rfl) (by kernel_rfl)) ?_
    refine h_s no_fs ?_
    refine h_a (by kernel_rfl) (by kernel_rfl) (fun w43 X44 hM45 => ?_)
    refine wpF_callP hM45 (f := 26) (caps := #[]) (h := (by kernel_rfl : opAt _ _ _ _ _ = some (.call (.mk (.value (.func 26)) #[(.tmp 15), (.tmp 21)] #[25, 9]), some 22))) (by kernel_rfl) (by kernel_rfl) (by kernel_rfl) (f26 _ _ hM45.inW Ark crk (rk) (hrk.up hM45.le) Arq crq (rq) (hrq.up hM45.le) ((sL.getD (k) ([], [])).1) (l37)) (fun v46 V47 w48 le49 hM50 hp51 => ?_)
    obtain rfl := hp51
    refine wpF_end _ (by kernel_rfl) (then_n (h_d [] (by kernel_rfl) [] hM50 no_held le49 ?_))
    refine h_seg 1 (by kernel_rfl) ?_
    refine h_caseB 23 (coB (rk) (rq) ((sL.getD (k) ([], [])).1)) (by kernel_rfl) (by kernel_rfl) (fun h52 => ?_) (fun h52 => ?_)
    · -- Ltt
      refine gH (.load 50 (.tmp 4)) (some 24) (by kernel_rfl) (Y_loadB #[.slice AsL (sL).length csL, .int .i64 (sa), .int .i64 (sb)] (fun i v hi => (le25.trans le49) _ _ _ (hc16 i v hi)) (off := 0) (by kernel_rfl) (.agg #[.slice AsL (sL).length csL, .int .i64 (sa), .int .i64 (sb)]) (by kernel_rfl)) ?_
      refine h_seg 1 (by kernel_rfl) ?_
      refine gH (.load 46 (.tmp 25)) (some 26) (by kernel_rfl) (Y_loadB #[.slice AsL (sL).length csL, .int .i64 (sa), .int .i64 (sb)] (fun i v hi => (le25.trans le49) _ _ _ (hc16 i v hi)) (off := 0) (by kernel_rfl) (.slice AsL (sL).length csL) (by kernel_rfl)) ?_
      refine h_seg 1 (by kernel_rfl) ?_
      refine gH_index (A := AsL) (c := csL) (hsL.up hM50.le) .i64 ((k : Int)) (h := (by kernel_rfl : opAt _ _ _ _ _ = some (.indexAddr 46 (.tmp 26) (.tmp 27), some 28))) (e := 80) (by kernel_rfl) (by kernel_rfl) (by kernel_rfl) (k) rfl (by omega) (fun b53 o54 at_b53 => ?_)
      have c55 : V47 b53 o54 = some (bs (sL.getD (k) ([], [])).1) := (At.str (At.pr at_b53).1).1
      have l56 : (sL.getD (k) ([], [])).1.length ≤ 140737488355328 := (At.str (At.pr at_b53).1).2
      obtain ⟨A57, c58, c59, r60⟩ := At.sl (At.pr at_b53).2
      have c59 : V47 b53 (o54 + 1) = some (.slice A57 ((sL.getD (k) ([], [])).2).length c58) := c59
      have r60 : Rd (prK (intK .i64) (prK strK boolK)) V47 A57 c58 ((sL.getD (k) ([], [])).2) := r60
      have l61 : ((sL.getD (k) ([], [])).2).length ≤ 140737488355328 := r60.max
      refine h_seg 1 (by kernel_rfl) ?_
      refine gH (.load 9 (.tmp 29)) (some 30) (by kernel_rfl) (Y_loadV c55 (by kernel_rfl) (by kernel_rfl)) ?_
      refine h_seg 1 (by kernel_rfl) ?_
      refine gH (.load 46 (.tmp 31)) (some 32) (by kernel_rfl) (Y_loadB #[.slice AsL (sL).length csL, .int .i64 (sa), .int .i64 (sb)] (fun i v hi => (le25.trans le49) _ _ _ (hc16 i v hi)) (off := 0) (by kernel_rfl) (.slice AsL (sL).length csL) (by kernel_rfl)) ?_
      refine h_seg 1 (by kernel_rfl) ?_
      refine gH_index (A := AsL) (c := csL) (hsL.up hM50.le) .i64 ((k : Int)) (h := (by kernel_rfl : opAt _ _ _ _ _ = some (.indexAddr 46 (.tmp 32) (.tmp 33), some 34))) (e := 80) (by kernel_rfl) (by kernel_rfl) (by kernel_rfl) (k) rfl (by omega) (fun b62 o63 at_b62 => ?_)
      have c64 : V47 b62 o63 = some (bs (sL.getD (k) ([], [])).1) := (At.str (At.pr at_b62).1).1
      have l65 : (sL.getD (k) ([], [])).1.length ≤ 140737488355328 := (At.str (At.pr at_b62).1).2
      obtain ⟨A66, c67, c68, r69⟩ := At.sl (At.pr at_b62).2
      have c68 : V47 b62 (o63 + 1) = some (.slice A66 ((sL.getD (k) ([], [])).2).length c67) := c68
      have r69 : Rd (prK (intK .i64) (prK strK boolK)) V47 A66 c67 ((sL.getD (k) ([], [])).2) := r69
      have l70 : ((sL.getD (k) ([], [])).2).length ≤ 140737488355328 := r69.max
      refine h_seg 1 (by kernel_rfl) ?_
      refine gH (.load 9 (.tmp 35)) (some 36) (by kernel_rfl) (Y_loadV c64 (by kernel_rfl) (by kernel_rfl)) ?_
      refine gH (.binOp .add 9 (.tmp 36) (.const (.string (ByteArray.mk #[0]))) 9) (some 37) (by kernel_rfl) (Y_concat ((sL.getD (k) ([], [])).1) (([0] : Str)) (by kernel_rfl) (by kernel_rfl) (by simp only [List.length_append, List.length_cons, List.length_nil]; omega)) ?_
      refine h_seg 1 (by kernel_rfl) ?_
      refine h_a (by kernel_rfl) (by kernel_rfl) (fun w71 X72 hM73 => ?_)
      refine wpF_callP hM73 (f := 80) (caps := #[]) (h := (by kernel_rfl : opAt _ _ _ _ _ = some (.call (.mk (.value (.func 80)) #[(.tmp 24), (.tmp 30), (.tmp 37), (.tmp 38)] #[50, 9, 9, 3]), some 39))) (by kernel_rfl) (by kernel_rfl) (by kernel_rfl) (f80 _ _ hM73.inW AsL csL (sL) (hsL.up hM73.le) (sa) (sb) ((sL.getD (k) ([], [])).1) (l56) ((sL.getD (k) ([], [])).1 ++ ([0] : Str)) (by first | decide | (simp only [maxL, List.length_append, List.length_cons, List.length_nil]; omega)) (t)) (fun v74 V75 w76 le77 hM78 hp79 => ?_)
      obtain rfl := hp79
      refine wpF_end _ (by kernel_rfl) (then_n (h_d [] (by kernel_rfl) [] hM78 no_held le77 ?_))
      refine h_seg 1 (by kernel_rfl) ?_
      refine h_n (fun w80 hM81 => ?_)
      refine  (then_n (hK32 _ _ ?_))
      refine wp_if (rsiK (t) ((sL.getD (k) ([], [])).1) ((sL.getD (k) ([], [])).1 ++ ([0] : Str)) (sL)) (by kernel_rfl) (fun h82 => ?_) (fun h82 => ?_)
      · -- Lttt
        refine wp_seq_k (fun K83 hK83 => ?_)
        refine wp_reg ?_
        refine wpF_seg 1 (by kernel_rfl) ?_
        refine wpF_end _ (by kernel_rfl) (then_n (hK83 _ _ ?_))
        refine wp_ret (blk_r (then_r (then_r (blk_r (then_r (?_))))))
        refine retN [.bool (true)] (.bool (true)) Try.results32 (.tmp (by kernel_rfl) (by kernel_rfl) .nil) (by kernel_rfl) (hRet _ _ ⟨_, _, rfl, hM81.clear, ?_⟩)
        -- end Lttt
        rw [rst_yes (k := k) (by omega) (by assumption) (by assumption)]
      · -- Lttf
        refine wp_skip (blk_n (then_n (hK31 _ _ ?_)))
        refine wp_reg ?_
        refine wpF_seg 1 (by kernel_rfl) ?_
        refine gF hM81 (.binOp .add 3 (.tmp 13) (.const (.int .i64 1)) 3) (some 14) (by kernel_rfl) (Y_add .i64 ((k : Int)) (1) ((k : Int) + 1) (by kernel_rfl) (by kernel_rfl) (wrap64_ok _ (by omega))) ?_
        refine wpF_seg 1 (by kernel_rfl) ?_
        refine wpF_base [(2, .int .i64 (t)), (3, .pointer (some ⟨b2, 0, none⟩)), (4, .pointer (some ⟨b10, 0, none⟩)), (7, .int .i64 ((k + 1 : Int)))] (by kernel_rfl) (fun g84 => ?_)
        refine wpF_end _ (by kernel_rfl) (then_n (hK26 _ _ (k + 1) (by omega) ?_))
        refine ⟨g84, V75, rfl, hM81, ((le25.trans le49).trans le77), ?_, ?_⟩
        · -- Lttf inv 0
          omega
        · -- Lttf inv 1
          exact all_one (by assumption) (and_no (by first | exact .inl (by assumption) | exact .inr (by assumption)))
    · -- Ltf
      refine h_seg 15 (by kernel_rfl) ?_
      refine h_a (by kernel_rfl) (by kernel_rfl) (fun w85 X86 hM87 => ?_)
      refine wpF_seg 1 (by kernel_rfl) ?_
      refine wpF_end _ (by kernel_rfl) (then_n (h_d [] (by kernel_rfl) [] hM87 no_held (VT.le.refl _) ?_))
      refine h_seg 1 (by kernel_rfl) ?_
      refine h_n (fun w88 hM89 => ?_)
      refine  (then_n (hK32 _ _ ?_))
      refine wp_cf (by kernel_rfl) ?_
      refine wp_skip (blk_n (then_n (hK31 _ _ ?_)))
      refine wp_reg ?_
      refine wpF_seg 1 (by kernel_rfl) ?_
      refine gF hM89 (.binOp .add 3 (.tmp 13) (.const (.int .i64 1)) 3) (some 14) (by kernel_rfl) (Y_add .i64 ((k : Int)) (1) ((k : Int) + 1) (by kernel_rfl) (by kernel_rfl) (wrap64_ok _ (by omega))) ?_
      refine wpF_seg 1 (by kernel_rfl) ?_
      refine wpF_base [(2, .int .i64 (t)), (3, .pointer (some ⟨b2, 0, none⟩)), (4, .pointer (some ⟨b10, 0, none⟩)), (7, .int .i64 ((k + 1 : Int)))] (by kernel_rfl) (fun g90 => ?_)
      refine wpF_end _ (by kernel_rfl) (then_n (hK26 _ _ (k + 1) (by omega) ?_))
      refine ⟨g90, V47, rfl, hM89, (le25.trans le49), ?_, ?_⟩
      · -- Ltf inv 0
        omega
      · -- Ltf inv 1
        exact all_one (by assumption) (and_no (by first | exact .inl (by assumption) | exact .inr (by assumption)))
  · -- Lf
    have p91 : ¬ (((k : Int)) < ((sL.length : Int))) := of_decide_eq_false h29
    refine wp_exit (then_x (then_x (blk_hit (then_n (hK18 _ _ ?_)))))
    obtain rfl : k = sL.length := by omega
    refine wp_seq_k (fun K92 hK92 => ?_)
    refine wp_reg ?_
    refine wpF_seg 1 (by kernel_rfl) ?_
    refine wpF_end _ (by kernel_rfl) (then_n (hK92 _ _ ?_))
    refine wp_ret ?_
    refine retN [.bool (false)] (.bool (false)) Try.results32 (.tmp (by kernel_rfl) (by kernel_rfl) .nil) (by kernel_rfl) (hRet _ _ ⟨_, _, rfl, hM24.clear, ?_⟩)
    -- end Lf
    rw [rst_no (by assumption)]

end Go.Vk
