import Derived.Test.YtnibbocbefnnnaaRIt
import Derived.Test.YtnibbocbefnnnaaRMathSp
import Derived.Test.YtnibbocbefnnnaaRMathSq
import Derived.Test.YtnibbocbefnnnaaRMathSr
import Derived.Test.YtnibbocbefnnnaaRPlainSp
import Derived.Test.YtnibbocbefnnnaaRSf
import Derived.Test.YtnibbocbefnnnaaRSg
import Derived.Test.YtnibbocbefnnnaaRSi
import Derived.Test.YtnibbocbefnnnaaRSk
import Derived.Test.YtnibbocbefnnnaaRSm
import Derived.Test.YtnibbocbefnnnaaRSp
import Derived.Test.YtnibbocbefnnnaaRSt
import Derived.Test.YtnibbocbefnnnaaRSv
set_option linter.unusedVariables false
set_option linter.unusedSimpArgs false
namespace Go.Vk
open Go.Proofs
variable {D : List Deferred}
set_option maxHeartbeats 4000000 in
set_option maxRecDepth 100000 in
theorem f12 (V : VT) (w : World) (hV : V.inW w) (Al : Option Addr) (cl : Nat) (l : List ((Int × Int × (List ((Str × Str × Bool)))))) (hl : Rd (prK (intK .i64) (prK (intK .i64) (slK (prK strK (prK strK boolK))))) V Al cl l) (f : Str) (hf : f.length ≤ maxL) (u : Str) (hu : u.length ≤ maxL) (t : Int) (n : Int) :
    Calls Try.prog 12 #[.slice Al (l).length cl, bs (f), bs (u), .int .i64 (t), .int .i64 (n)] w (RetP V w fun rv V' => rv = .bool (true)) := by
  have mxl : l.length ≤ 140737488355328 := hl.max
  have mxf : f.length ≤ 140737488355328 := hf
  have mxu : u.length ≤ 140737488355328 := hu
  refine calls_env (n := 204) Try.func12 (c := _) rfl Try.ntmps12 (by kernel_rfl) (fun R hRet => ?_)
  have hM0 : Step V w [] V w [] := Step.refl (St.nilE hV)
  refine wp_seq_k (fun K1 hK1 => ?_)
  refine wp_reg ?_
  refine wpF_seg 1 (by kernel_rfl) ?_
  refine wpF_end _ (by kernel_rfl) (then_n (hK1 _ _ ?_))
  refine wp_seq_k (fun K2 hK2 => ?_)
  refine wp_seq_k (fun K3 hK3 => ?_)
  refine wp_reg ?_
  refine wpF_seg 1 (by kernel_rfl) ?_
  refine wpF_callP hM0 (f := 48) (caps := #[]) (h := (by kernel_rfl : opAt _ _ _ _ _ = some (.call (.mk (.value (.func 48)) #[(.tmp 28)] #[84]), some 29))) (by kernel_rfl) (by kernel_rfl) (by kernel_rfl) (f48 _ _ hM0.inW Al cl (l) hl) (fun v4 V5 w6 le7 hM8 hp9 => ?_)
  obtain rfl := hp9
  refine wpF_seg 1 (by kernel_rfl) ?_
  refine wpF_end _ (by kernel_rfl) (then_n (hK3 _ _ ?_))
  refine wp_if (!(fewB (l))) (by kernel_rfl) (fun h10 => ?_) (fun h10 => ?_)
  · -- t
    have h11 : (fewB (l)) = false := by simpa using h10
    refine wp_seq_k (fun K12 hK12 => ?_)
    refine wp_reg ?_
    refine wpF_callP hM8 (f := 34) (caps := #[]) (h := (by kernel_rfl : opAt _ _ _ _ _ = some (.call (.mk (.value (.func 34)) #[] #[]), some 31))) (by kernel_rfl) (by kernel_rfl) (by kernel_rfl) (f34 _ _ hM8.inW ) (fun v13 V14 w15 le16 hM17 hp18 => ?_)
    obtain rfl := hp18
    refine wpF_seg 1 (by kernel_rfl) ?_
    refine wpF_end _ (by kernel_rfl) (then_n (hK12 _ _ ?_))
    refine wp_ret (then_r (?_))
    refine retN [.bool (true)] (.bool (true)) Try.results12 (.tmp (by kernel_rfl) (by kernel_rfl) .nil) (by kernel_rfl) (hRet _ _ ⟨_, _, rfl, hM17.clear, ?_⟩)
    -- end t
    rfl
  · -- f
    have h19 : (fewB (l)) = true := by simpa using h10
    have hfew : fewB l = true := by assumption
    refine wp_skip (then_n (hK2 _ _ ?_))
    refine wp_seq_k (fun K20 hK20 => ?_)
    refine wp_reg ?_
    have hM28 : Step V w [] V5 _ ([]) := hM8
    refine wpF_callE [] ([]) hM28 (f := 33) (caps := #[]) (h := (by kernel_rfl : opAt _ _ _ _ _ = some (.call (.mk (.value (.func 33)) #[] #[]), some 32))) (by kernel_rfl) (by kernel_rfl) (by kernel_rfl) (f33 _ _ hM28.inW) (fun v21 V22 w23 Eo24 le25 hM26 hp27 => ?_)
    obtain ⟨br28_1, Ar28_1, cr28_1, mr28_1, rfl, rfl⟩ := hp27
    have hM29 : Step V w [] V22 _ ([spE br28_1 Ar28_1 cr28_1 mr28_1 (([] : List Item)) (0) (0)]) := hM26
    refine wpF_seg 1 (by kernel_rfl) ?_
    refine wpF_end _ (by kernel_rfl) (then_n (hK20 _ _ ?_))
    refine wp_seq_k (fun K30 hK30 => ?_)
    refine wp_reg ?_
    refine wpF_alloc hM29 #[.slice none 0 0, .int .i64 (0), .int .i64 (0)] (h := (by kernel_rfl : opAt _ _ _ _ _ = some (.alloc 50, some 12))) (by kernel_rfl) (fun b31 w32 hM33 => ?_)
    refine wpF_end _ (by kernel_rfl) (then_n (hK30 _ _ ?_))
    refine wp_seq_k (fun K34 hK34 => ?_)
    refine wp_seq_k (fun K35 hK35 => ?_)
    refine wp_reg ?_
    refine wpF_seg 1 (by kernel_rfl) ?_
    refine wpF_end _ (by kernel_rfl) (then_n (hK35 _ _ ?_))
    refine wp_block ?_
    refine wp_base [(0, .slice Al (l).length cl), (1, bs (f)), (2, bs (u)), (3, .int .i64 (t)), (4, .int .i64 (n)), (10, .bool (false)), (11, .pointer (some ⟨br28_1, 0, none⟩)), (12, .pointer (some ⟨b31, 0, none⟩)), (13, .int .i64 ((0 : Int)))] (by kernel_rfl) (fun g37 => ?_)
    refine wp_loopX (fun (x_ : Nat × List Item × Int × Int) a_ w_ => ∃ (g : Nat → Value) (V_ : VT), ∃ (Ars11 : Option Addr) (crs11 : Nat) (Arbs11 Arms11 : Nat), ∃ (Arfc12_0 : Option Addr) (crfc12_0 : Nat), a_ = env [] 204 [(0, .slice Al (l).length cl), (1, bs (f)), (2, bs (u)), (3, .int .i64 (t)), (4, .int .i64 (n)), (10, .bool (false)), (11, .pointer (some ⟨Arbs11, 0, none⟩)), (12, .pointer (some ⟨b31, 0, none⟩)), (13, .int .i64 ((x_.1 : Int)))] g ∧ Step V w [] V_ w_ [.blk b31 (.cells #[.slice Arfc12_0 (x_.2.1).length crfc12_0, .int .i64 (x_.2.2.1), .int .i64 (x_.2.2.2)] 50), spE Arbs11 Ars11 crs11 Arms11 (x_.2.1) (x_.2.2.1) (x_.2.2.2)] ∧ VT.le V22 V_ ∧ Rd (prK strK (slK (prK (intK .i64) (prK strK boolK)))) V_ Arfc12_0 crfc12_0 (x_.2.1) ∧ (x_.1 ≤ l.length) ∧ (Good (0 + fewN l (x_.1)) (x_.2.1, x_.2.2.1, x_.2.2.2))) (fun (x_ : Nat × List Item × Int × Int) => l.length - x_.1) ((0 : Nat), (([] : List Item) : List Item), (0 : Int), (0 : Int)) ⟨g37, V22, Ar28_1, cr28_1, br28_1, mr28_1, none, 0, rfl, hM33, VT.le.refl _, (Rd.nil _ _), by omega, by exact good_0⟩ ?_
    rintro ⟨k, L, a, b⟩ a_ w39 ⟨g38, Vl36, Ar_42s11, cr_42s11, Ar_42bs11, Ar_42ms11, Ar_42fc12_0, cr_42fc12_0, rfl, hM40, le41, hfAr_42fc12_0, hi42_0, hi42_1⟩ K42 hK42
    replace hi42_0 : k ≤ l.length := hi42_0
    replace hi42_1 : Good (0 + fewN l (k)) (L, a, b) := hi42_1
    refine wp_seq_k (fun K43 hK43 => ?_)
    refine wp_seq_k (fun K44 hK44 => ?_)
    refine wp_reg ?_
    refine wpF_seg 5 (by kernel_rfl) ?_
    refine wpF_caseB 37 (decide (((k : Int)) < ((l.length : Int)))) (by kernel_rfl) (by kernel_rfl) (fun h45 => ?_) (fun h45 => ?_)
    · -- fLt
      have p46 : (((k : Int)) < ((l.length : Int))) := of_decide_eq_true h45
      have hgood := (by assumption : Good (0 + fewN l k) (L, a, b))
      have hfk := fewK_iff.1 hfew k (by omega)
      have hfs := few_step (l := l) (k := k) (by omega)
      have hst := stp_in hfk.2
      have hgo := hgood
      have hgn := good_next (l := l) (k := k) (by omega) hgood
      have hgl := hgo.2.1
      have hnl := hgn.2.1
      simp only [Nat.zero_add] at hgl hnl
      refine wpF_seg 1 (by kernel_rfl) ?_
      refine gF hM40 (.binOp .neq 53 (.tmp 38) (.const (.pointer none)) 53) (some 39) (by kernel_rfl) (Y_neq (.pointer (some ⟨Ar_42bs11, 0, none⟩)) (.pointer none) (false) (by kernel_rfl) (by kernel_rfl) (by kernel_rfl)) ?_
      refine wpF_seg 1 (by kernel_rfl) ?_
      refine wpF_end _ (by kernel_rfl) (then_n (hK44 _ _ ?_))
      refine wp_ct (by kernel_rfl) ?_
      refine wp_skip (then_n (hK43 _ _ ?_))
      refine wp_seq_k (fun K47 hK47 => ?_)
      refine wp_block ?_
      refine wp_seq_k (fun K48 hK48 => ?_)
      refine wp_base [(0, .slice Al (l).length cl), (1, bs (f)), (2, bs (u)), (3, .int .i64 (t)), (4, .int .i64 (n)), (10, .bool (false)), (11, .pointer (some ⟨Ar_42bs11, 0, none⟩)), (12, .pointer (some ⟨b31, 0, none⟩)), (13, .int .i64 ((k : Int))), (33, .int .i64 ((k : Int))), (34, .slice Al (l).length cl), (35, .int .i64 ((l.length : Int))), (36, .bool (decide (((k : Int)) < ((l.length : Int))))), (37, .bool (true)), (38, .pointer (some ⟨Ar_42bs11, 0, none⟩)), (39, .bool (true)), (40, .bool (true))] (by kernel_rfl) (fun g49 => ?_)
      refine wp_drawN hM40 [(.blk b31 (.cells #[.slice Ar_42fc12_0 (L).length cr_42fc12_0, .int .i64 (a), .int .i64 (b)] 50), 9999)] (and_held 0 rfl no_held) [⟨11, fun b_ => .pointer (some ⟨b_, 0, none⟩), #[.slice none 0 0, .int .i64 (0), .int .i64 (0)], 50⟩] [0, 1, 2, 3, 4, 5] [.a 6, .p 7, .p 8, .p 9, .p 10, .f 11, .p 12, .a 13, .p 14] [.p 0, .p 1, .p 2, .p 3, .p 4, .p 5, .s, .a 6, .p 7, .p 8, .p 9, .p 10, .f 11, .p 12, .a 13, .p 14] rfl (by kernel_rfl) (by kernel_rfl) ?_
      refine h_seg 1 (by kernel_rfl) ?_
      refine gH (.load 50 (.tmp 12)) (some 45) (by kernel_rfl) (Y_load 0 (by kernel_rfl : (FOf _ _ _)[0]? = some (.blk b31 (.cells #[.slice Ar_42fc12_0 (L).length cr_42fc12_0, .int .i64 (a), .int .i64 (b)] 50))) (off := 0) (by kernel_rfl) (.agg #[.slice Ar_42fc12_0 (L).length cr_42fc12_0, .int .i64 (a), .int .i64 (b)]) (by kernel_rfl)) ?_
      refine h_seg 2 (by kernel_rfl) ?_
      refine gH_index (A := Al) (c := cl) (hl.up hM40.le) .i64 ((k : Int)) (h := (by kernel_rfl : opAt _ _ _ _ _ = some (.indexAddr 84 (.tmp 46) (.tmp 47), some 48))) (e := 89) (by kernel_rfl) (by kernel_rfl) (by kernel_rfl) (k) rfl (by omega) (fun b50 o51 at_b50 => ?_)
      have c52 : Vl36 b50 o51 = some (.int .i64 (l.getD (k) (0, 0, [])).1) := (At.int (At.pr at_b50).1).1
      have l53 : IntKind.i64.min ≤ (l.getD (k) (0, 0, [])).1 ∧ (l.getD (k) (0, 0, [])).1 ≤ IntKind.i64.max := (At.int (At.pr at_b50).1).2
      have c54 : Vl36 b50 (o51 + 1) = some (.int .i64 (l.getD (k) (0, 0, [])).2.1) := (At.int (At.pr (At.pr at_b50).2).1).1
      have l55 : IntKind.i64.min ≤ (l.getD (k) (0, 0, [])).2.1 ∧ (l.getD (k) (0, 0, [])).2.1 ≤ IntKind.i64.max := (At.int (At.pr (At.pr at_b50).2).1).2
      obtain ⟨A56, c57, c58, r59⟩ := At.sl (At.pr (At.pr at_b50).2).2
      have c58 : Vl36 b50 (o51 + 2) = some (.slice A56 ((l.getD (k) (0, 0, [])).2.2).length c57) := c58
      have r59 : Rd (prK strK (prK strK boolK)) Vl36 A56 c57 ((l.getD (k) (0, 0, [])).2.2) := r59
      have l60 : ((l.getD (k) (0, 0, [])).2.2).length ≤ 140737488355328 := r59.max
      refine gH (.load 89 (.tmp 48)) (some 49) (by kernel_rfl) (Y_loadS (b := b50) (off := o51) [.int .i64 ((l.getD (k) (0, 0, [])).1), .int .i64 ((l.getD (k) (0, 0, [])).2.1), .slice A56 ((l.getD (k) (0, 0, [])).2.2).length c57] (cells3 c52 c54 c58) (by kernel_rfl) (by kernel_rfl) (by kernel_rfl)) ?_
      refine h_s (and_fs (fre_alloc (h := (by kernel_rfl : opAt _ _ _ _ _ = some (.alloc 50, some 15))) (by kernel_rfl)) no_fs) ?_
      refine h_a (by kernel_rfl) (by kernel_rfl) (fun w61 X62 hM63 => ?_)
      have hM64 := hM63.front 1 rfl
      have hM72 : Step V w [] Vl36 _ ([spE Ar_42bs11 Ar_42s11 cr_42s11 Ar_42ms11 (L) (a) (b), .blk b31 (.cells #[.slice Ar_42fc12_0 (L).length cr_42fc12_0, .int .i64 (a), .int .i64 (b)] 50)] ++ X62) := hM64
      refine wpF_callE [spE Ar_42bs11 Ar_42s11 cr_42s11 Ar_42ms11 (L) (a) (b)] ([.blk b31 (.cells #[.slice Ar_42fc12_0 (L).length cr_42fc12_0, .int .i64 (a), .int .i64 (b)] 50)] ++ X62) hM72 (f := 49) (caps := #[]) (h := (by kernel_rfl : opAt _ _ _ _ _ = some (.call (.mk (.value (.func 49)) #[(.tmp 44), (.tmp 45), (.tmp 49)] #[53, 50, 89]), some 50))) (by kernel_rfl) (by kernel_rfl) (by kernel_rfl) (f49 _ _ Ar_42bs11 Ar_42s11 cr_42s11 Ar_42ms11 (L) (a) (b) Ar_42fc12_0 cr_42fc12_0 (L) hfAr_42fc12_0 (a) (b) ((l.getD (k) (0, 0, [])).1) ((l.getD (k) (0, 0, [])).2.1) A56 c57 ((l.getD (k) (0, 0, [])).2.2) r59 (St.part (E := [spE Ar_42bs11 Ar_42s11 cr_42s11 Ar_42ms11 (L) (a) (b)]) (F := ([.blk b31 (.cells #[.slice Ar_42fc12_0 (L).length cr_42fc12_0, .int .i64 (a), .int .i64 (b)] 50)] ++ X62)) hM72.ok) (by exact hgo.1) (by rfl) (by rfl) (by rfl) (by omega) (by omega) (by exact fun y => Nat.le_trans (hgo.2.2 y) (by omega)) (by omega)) (fun v65 V66 w67 Eo68 le69 hM70 hp71 => ?_)
      obtain ⟨br72_1, Ar72_1, cr72_1, mr72_1, Ar72_2, cr72_2, rfl, rfl, r73⟩ := hp71
      have hM74 : Step V w [] V66 _ ([spE br72_1 Ar72_1 cr72_1 mr72_1 (stpS (L) (a) (b) ((l.getD (k) (0, 0, [])).1) ((l.getD (k) (0, 0, [])).2.1) ((l.getD (k) (0, 0, [])).2.2)) (stpT (a) ((l.getD (k) (0, 0, [])).1) ((l.getD (k) (0, 0, [])).2.1) ((l.getD (k) (0, 0, [])).2.2)) (stpM (a) (b) ((l.getD (k) (0, 0, [])).1) ((l.getD (k) (0, 0, [])).2.1)), .blk b31 (.cells #[.slice Ar_42fc12_0 (L).length cr_42fc12_0, .int .i64 (a), .int .i64 (b)] 50)] ++ X62) := hM70
      have l75 : (stpS (L) (a) (b) ((l.getD (k) (0, 0, [])).1) ((l.getD (k) (0, 0, [])).2.1) ((l.getD (k) (0, 0, [])).2.2)).length ≤ 140737488355328 := r73.max
      refine wpF_end _ (by kernel_rfl) (then_n (h_d [(.blk b31 (.cells #[.slice Ar_42fc12_0 (L).length cr_42fc12_0, .int .i64 (a), .int .i64 (b)] 50), 9999)] (by kernel_rfl) [spE br72_1 Ar72_1 cr72_1 mr72_1 (stpS (L) (a) (b) ((l.getD (k) (0, 0, [])).1) ((l.getD (k) (0, 0, [])).2.1) ((l.getD (k) (0, 0, [])).2.2)) (stpT (a) ((l.getD (k) (0, 0, [])).1) ((l.getD (k) (0, 0, [])).2.1) ((l.getD (k) (0, 0, [])).2.2)) (stpM (a) (b) ((l.getD (k) (0, 0, [])).1) ((l.getD (k) (0, 0, [])).2.1)), .blk b31 (.cells #[.slice Ar_42fc12_0 (L).length cr_42fc12_0, .int .i64 (a), .int .i64 (b)] 50)] hM74 (and_held 1 rfl no_held) le69 ?_))
      refine h_seg 4 (by kernel_rfl) ?_
      refine h_f (d := 15) ⟨11, fun b_ => .pointer (some ⟨b_, 0, none⟩), #[.slice none 0 0, .int .i64 (0), .int .i64 (0)], 50⟩ (by kernel_rfl) (by kernel_rfl) (by kernel_rfl) (fun b76 => ?_)
      refine h_seg 1 (by kernel_rfl) ?_
      refine h_a (by kernel_rfl) (by kernel_rfl) (fun w77 X78 hM79 => ?_)
      refine wpF_store hM79 0 rfl (h := (by kernel_rfl : opAt _ _ _ _ _ = some (.store 50 (.tmp 15) (.tmp 52), none))) (off := 0) (by kernel_rfl) #[.slice Ar72_2 (stpS (L) (a) (b) ((l.getD (k) (0, 0, [])).1) ((l.getD (k) (0, 0, [])).2.1) ((l.getD (k) (0, 0, [])).2.2)).length cr72_2, .int .i64 (stpT (a) ((l.getD (k) (0, 0, [])).1) ((l.getD (k) (0, 0, [])).2.1) ((l.getD (k) (0, 0, [])).2.2)), .int .i64 (stpM (a) (b) ((l.getD (k) (0, 0, [])).1) ((l.getD (k) (0, 0, [])).2.1))] (by kernel_rfl) (by kernel_rfl) (by kernel_rfl) (by kernel_rfl) (fun w81 hM80 => ?_)
      have hM82 : Step V w [] V66 _ ([.blk b76 (.cells #[.slice Ar72_2 (stpS (L) (a) (b) ((l.getD (k) (0, 0, [])).1) ((l.getD (k) (0, 0, [])).2.1) ((l.getD (k) (0, 0, [])).2.2)).length cr72_2, .int .i64 (stpT (a) ((l.getD (k) (0, 0, [])).1) ((l.getD (k) (0, 0, [])).2.1) ((l.getD (k) (0, 0, [])).2.2)), .int .i64 (stpM (a) (b) ((l.getD (k) (0, 0, [])).1) ((l.getD (k) (0, 0, [])).2.1))] 50), spE br72_1 Ar72_1 cr72_1 mr72_1 (stpS (L) (a) (b) ((l.getD (k) (0, 0, [])).1) ((l.getD (k) (0, 0, [])).2.1) ((l.getD (k) (0, 0, [])).2.2)) (stpT (a) ((l.getD (k) (0, 0, [])).1) ((l.getD (k) (0, 0, [])).2.1) ((l.getD (k) (0, 0, [])).2.2)) (stpM (a) (b) ((l.getD (k) (0, 0, [])).1) ((l.getD (k) (0, 0, [])).2.1)), .blk b31 (.cells #[.slice Ar_42fc12_0 (L).length cr_42fc12_0, .int .i64 (a), .int .i64 (b)] 50)] ++ X78) := hM80
      refine wpF_end _ (by kernel_rfl) (then_n (h_d [(.blk b31 (.cells #[.slice Ar_42fc12_0 (L).length cr_42fc12_0, .int .i64 (a), .int .i64 (b)] 50), 9999)] (by kernel_rfl) [.blk b76 (.cells #[.slice Ar72_2 (stpS (L) (a) (b) ((l.getD (k) (0, 0, [])).1) ((l.getD (k) (0, 0, [])).2.1) ((l.getD (k) (0, 0, [])).2.2)).length cr72_2, .int .i64 (stpT (a) ((l.getD (k) (0, 0, [])).1) ((l.getD (k) (0, 0, [])).2.1) ((l.getD (k) (0, 0, [])).2.2)), .int .i64 (stpM (a) (b) ((l.getD (k) (0, 0, [])).1) ((l.getD (k) (0, 0, [])).2.1))] 50), spE br72_1 Ar72_1 cr72_1 mr72_1 (stpS (L) (a) (b) ((l.getD (k) (0, 0, [])).1) ((l.getD (k) (0, 0, [])).2.1) ((l.getD (k) (0, 0, [])).2.2)) (stpT (a) ((l.getD (k) (0, 0, [])).1) ((l.getD (k) (0, 0, [])).2.1) ((l.getD (k) (0, 0, [])).2.2)) (stpM (a) (b) ((l.getD (k) (0, 0, [])).1) ((l.getD (k) (0, 0, [])).2.1)), .blk b31 (.cells #[.slice Ar_42fc12_0 (L).length cr_42fc12_0, .int .i64 (a), .int .i64 (b)] 50)] hM82 (and_held 2 rfl no_held) (VT.le.refl _) ?_))
      refine h_seg 1 (by kernel_rfl) ?_
      refine h_n (fun w83 hM84 => ?_)
      refine  (then_n (hK48 _ _ ?_))
      refine wp_base [(0, .slice Al (l).length cl), (1, bs (f)), (2, bs (u)), (3, .int .i64 (t)), (4, .int .i64 (n)), (10, .bool (false)), (11, .pointer (some ⟨Ar_42bs11, 0, none⟩)), (12, .pointer (some ⟨b31, 0, none⟩)), (13, .int .i64 ((k : Int))), (14, .pointer (some ⟨br72_1, 0, none⟩)), (15, .pointer (some ⟨b76, 0, none⟩)), (16, .bool (true)), (33, .int .i64 ((k : Int))), (34, .slice Al (l).length cl), (35, .int .i64 ((l.length : Int))), (36, .bool (decide (((k : Int)) < ((l.length : Int))))), (37, .bool (true)), (38, .pointer (some ⟨Ar_42bs11, 0, none⟩)), (39, .bool (true)), (40, .bool (true)), (43, .tuple #[.pointer (some ⟨br72_1, 0, none⟩), .agg #[.slice Ar72_2 (stpS (L) (a) (b) ((l.getD (k) (0, 0, [])).1) ((l.getD (k) (0, 0, [])).2.1) ((l.getD (k) (0, 0, [])).2.2)).length cr72_2, .int .i64 (stpT (a) ((l.getD (k) (0, 0, [])).1) ((l.getD (k) (0, 0, [])).2.1) ((l.getD (k) (0, 0, [])).2.2)), .int .i64 (stpM (a) (b) ((l.getD (k) (0, 0, [])).1) ((l.getD (k) (0, 0, [])).2.1))], .bool (true)]), (44, .pointer (some ⟨Ar_42bs11, 0, none⟩)), (45, .agg #[.slice Ar_42fc12_0 (L).length cr_42fc12_0, .int .i64 (a), .int .i64 (b)]), (46, .slice Al (l).length cl), (47, .int .i64 ((k : Int))), (48, .pointer (some ⟨b50, o51, none⟩)), (49, .agg #[.int .i64 ((l.getD (k) (0, 0, [])).1), .int .i64 ((l.getD (k) (0, 0, [])).2.1), .slice A56 ((l.getD (k) (0, 0, [])).2.2).length c57]), (50, .tuple #[.pointer (some ⟨br72_1, 0, none⟩), .agg #[.slice Ar72_2 (stpS (L) (a) (b) ((l.getD (k) (0, 0, [])).1) ((l.getD (k) (0, 0, [])).2.1) ((l.getD (k) (0, 0, [])).2.2)).length cr72_2, .int .i64 (stpT (a) ((l.getD (k) (0, 0, [])).1) ((l.getD (k) (0, 0, [])).2.1) ((l.getD (k) (0, 0, [])).2.2)), .int .i64 (stpM (a) (b) ((l.getD (k) (0, 0, [])).1) ((l.getD (k) (0, 0, [])).2.1))], .bool (true)]), (51, .pointer (some ⟨br72_1, 0, none⟩)), (52, .agg #[.slice Ar72_2 (stpS (L) (a) (b) ((l.getD (k) (0, 0, [])).1) ((l.getD (k) (0, 0, [])).2.1) ((l.getD (k) (0, 0, [])).2.2)).length cr72_2, .int .i64 (stpT (a) ((l.getD (k) (0, 0, [])).1) ((l.getD (k) (0, 0, [])).2.1) ((l.getD (k) (0, 0, [])).2.2)), .int .i64 (stpM (a) (b) ((l.getD (k) (0, 0, [])).1) ((l.getD (k) (0, 0, [])).2.1))]), (53, .bool (true))] (by kernel_rfl) (fun g85 => ?_)
      refine wp_drawN hM84 [(.blk b76 (.cells #[.slice Ar72_2 (stpS (L) (a) (b) ((l.getD (k) (0, 0, [])).1) ((l.getD (k) (0, 0, [])).2.1) ((l.getD (k) (0, 0, [])).2.2)).length cr72_2, .int .i64 (stpT (a) ((l.getD (k) (0, 0, [])).1) ((l.getD (k) (0, 0, [])).2.1) ((l.getD (k) (0, 0, [])).2.2)), .int .i64 (stpM (a) (b) ((l.getD (k) (0, 0, [])).1) ((l.getD (k) (0, 0, [])).2.1))] 50), 9999)] (and_held 0 rfl no_held) [] [0, 1, 2] [.a 3] [.p 0, .p 1, .p 2, .s, .a 3] rfl (by kernel_rfl) (by kernel_rfl) ?_
      refine h_seg 1 (by kernel_rfl) ?_
      refine gH (.load 50 (.tmp 15)) (some 55) (by kernel_rfl) (Y_load 0 (by kernel_rfl : (FOf _ _ _)[0]? = some (.blk b76 (.cells #[.slice Ar72_2 (stpS (L) (a) (b) ((l.getD (k) (0, 0, [])).1) ((l.getD (k) (0, 0, [])).2.1) ((l.getD (k) (0, 0, [])).2.2)).length cr72_2, .int .i64 (stpT (a) ((l.getD (k) (0, 0, [])).1) ((l.getD (k) (0, 0, [])).2.1) ((l.getD (k) (0, 0, [])).2.2)), .int .i64 (stpM (a) (b) ((l.getD (k) (0, 0, [])).1) ((l.getD (k) (0, 0, [])).2.1))] 50))) (off := 0) (by kernel_rfl) (.agg #[.slice Ar72_2 (stpS (L) (a) (b) ((l.getD (k) (0, 0, [])).1) ((l.getD (k) (0, 0, [])).2.1) ((l.getD (k) (0, 0, [])).2.2)).length cr72_2, .int .i64 (stpT (a) ((l.getD (k) (0, 0, [])).1) ((l.getD (k) (0, 0, [])).2.1) ((l.getD (k) (0, 0, [])).2.2)), .int .i64 (stpM (a) (b) ((l.getD (k) (0, 0, [])).1) ((l.getD (k) (0, 0, [])).2.1))]) (by kernel_rfl)) ?_
      refine h_seg 1 (by kernel_rfl) ?_
      refine h_s no_fs ?_
      refine h_a (by kernel_rfl) (by kernel_rfl) (fun w86 X87 hM88 => ?_)
      refine wpF_store hM88 2 rfl (h := (by kernel_rfl : opAt _ _ _ _ _ = some (.store 50 (.tmp 12) (.tmp 55), none))) (off := 0) (by kernel_rfl) #[.slice Ar72_2 (stpS (L) (a) (b) ((l.getD (k) (0, 0, [])).1) ((l.getD (k) (0, 0, [])).2.1) ((l.getD (k) (0, 0, [])).2.2)).length cr72_2, .int .i64 (stpT (a) ((l.getD (k) (0, 0, [])).1) ((l.getD (k) (0, 0, [])).2.1) ((l.getD (k) (0, 0, [])).2.2)), .int .i64 (stpM (a) (b) ((l.getD (k) (0, 0, [])).1) ((l.getD (k) (0, 0, [])).2.1))] (by kernel_rfl) (by kernel_rfl) (by kernel_rfl) (by kernel_rfl) (fun w90 hM89 => ?_)
      have hM91 : Step V w [] V66 _ ([.blk b76 (.cells #[.slice Ar72_2 (stpS (L) (a) (b) ((l.getD (k) (0, 0, [])).1) ((l.getD (k) (0, 0, [])).2.1) ((l.getD (k) (0, 0, [])).2.2)).length cr72_2, .int .i64 (stpT (a) ((l.getD (k) (0, 0, [])).1) ((l.getD (k) (0, 0, [])).2.1) ((l.getD (k) (0, 0, [])).2.2)), .int .i64 (stpM (a) (b) ((l.getD (k) (0, 0, [])).1) ((l.getD (k) (0, 0, [])).2.1))] 50), spE br72_1 Ar72_1 cr72_1 mr72_1 (stpS (L) (a) (b) ((l.getD (k) (0, 0, [])).1) ((l.getD (k) (0, 0, [])).2.1) ((l.getD (k) (0, 0, [])).2.2)) (stpT (a) ((l.getD (k) (0, 0, [])).1) ((l.getD (k) (0, 0, [])).2.1) ((l.getD (k) (0, 0, [])).2.2)) (stpM (a) (b) ((l.getD (k) (0, 0, [])).1) ((l.getD (k) (0, 0, [])).2.1)), .blk b31 (.cells #[.slice Ar72_2 (stpS (L) (a) (b) ((l.getD (k) (0, 0, [])).1) ((l.getD (k) (0, 0, [])).2.1) ((l.getD (k) (0, 0, [])).2.2)).length cr72_2, .int .i64 (stpT (a) ((l.getD (k) (0, 0, [])).1) ((l.getD (k) (0, 0, [])).2.1) ((l.getD (k) (0, 0, [])).2.2)), .int .i64 (stpM (a) (b) ((l.getD (k) (0, 0, [])).1) ((l.getD (k) (0, 0, [])).2.1))] 50)] ++ X87) := hM89
      refine wpF_end _ (by kernel_rfl) (then_n (h_d [(.blk b76 (.cells #[.slice Ar72_2 (stpS (L) (a) (b) ((l.getD (k) (0, 0, [])).1) ((l.getD (k) (0, 0, [])).2.1) ((l.getD (k) (0, 0, [])).2.2)).length cr72_2, .int .i64 (stpT (a) ((l.getD (k) (0, 0, [])).1) ((l.getD (k) (0, 0, [])).2.1) ((l.getD (k) (0, 0, [])).2.2)), .int .i64 (stpM (a) (b) ((l.getD (k) (0, 0, [])).1) ((l.getD (k) (0, 0, [])).2.1))] 50), 9999)] (by kernel_rfl) [.blk b76 (.cells #[.slice Ar72_2 (stpS (L) (a) (b) ((l.getD (k) (0, 0, [])).1) ((l.getD (k) (0, 0, [])).2.1) ((l.getD (k) (0, 0, [])).2.2)).length cr72_2, .int .i64 (stpT (a) ((l.getD (k) (0, 0, [])).1) ((l.getD (k) (0, 0, [])).2.1) ((l.getD (k) (0, 0, [])).2.2)), .int .i64 (stpM (a) (b) ((l.getD (k) (0, 0, [])).1) ((l.getD (k) (0, 0, [])).2.1))] 50), spE br72_1 Ar72_1 cr72_1 mr72_1 (stpS (L) (a) (b) ((l.getD (k) (0, 0, [])).1) ((l.getD (k) (0, 0, [])).2.1) ((l.getD (k) (0, 0, [])).2.2)) (stpT (a) ((l.getD (k) (0, 0, [])).1) ((l.getD (k) (0, 0, [])).2.1) ((l.getD (k) (0, 0, [])).2.2)) (stpM (a) (b) ((l.getD (k) (0, 0, [])).1) ((l.getD (k) (0, 0, [])).2.1)), .blk b31 (.cells #[.slice Ar72_2 (stpS (L) (a) (b) ((l.getD (k) (0, 0, [])).1) ((l.getD (k) (0, 0, [])).2.1) ((l.getD (k) (0, 0, [])).2.2)).length cr72_2, .int .i64 (stpT (a) ((l.getD (k) (0, 0, [])).1) ((l.getD (k) (0, 0, [])).2.1) ((l.getD (k) (0, 0, [])).2.2)), .int .i64 (stpM (a) (b) ((l.getD (k) (0, 0, [])).1) ((l.getD (k) (0, 0, [])).2.1))] 50)] hM91 (and_held 0 rfl no_held) (VT.le.refl _) ?_))
      refine h_n (fun w92 hM93 => ?_)
      refine  (blk_n (then_n (hK47 _ _ ?_)))
      refine wp_reg ?_
      refine wpF_seg 1 (by kernel_rfl) ?_
      refine gF hM93 (.binOp .add 3 (.tmp 41) (.const (.int .i64 1)) 3) (some 42) (by kernel_rfl) (Y_add .i64 ((k : Int)) (1) ((k : Int) + 1) (by kernel_rfl) (by kernel_rfl) (wrap64_ok _ (by omega))) ?_
      refine wpF_seg 1 (by kernel_rfl) ?_
      refine wpF_base [(0, .slice Al (l).length cl), (1, bs (f)), (2, bs (u)), (3, .int .i64 (t)), (4, .int .i64 (n)), (10, .bool (false)), (11, .pointer (some ⟨br72_1, 0, none⟩)), (12, .pointer (some ⟨b31, 0, none⟩)), (13, .int .i64 ((k + 1 : Int)))] (by kernel_rfl) (fun g94 => ?_)
      have hM95 := (hM93.front 0 rfl).drop
      have hM96 := hM95.front 0 rfl
      have hM97 := hM96.front 1 rfl
      refine wpF_end _ (by kernel_rfl) (then_n (hK42 _ _ (k + 1, stpS (L) (a) (b) ((l.getD (k) (0, 0, [])).1) ((l.getD (k) (0, 0, [])).2.1) ((l.getD (k) (0, 0, [])).2.2), stpT (a) ((l.getD (k) (0, 0, [])).1) ((l.getD (k) (0, 0, [])).2.1) ((l.getD (k) (0, 0, [])).2.2), stpM (a) (b) ((l.getD (k) (0, 0, [])).1) ((l.getD (k) (0, 0, [])).2.1)) (by omega) ?_))
      refine ⟨g94, V66, Ar72_1, cr72_1, br72_1, mr72_1, Ar72_2, cr72_2, rfl, hM97, (le41.trans le69), r73, ?_, ?_⟩
      · -- fLt inv 0
        omega
      · -- fLt inv 1
        exact good_next (by omega) (by assumption)
    · -- fLf
      have p98 : ¬ (((k : Int)) < ((l.length : Int))) := of_decide_eq_false h45
      have hk : k = l.length := by omega
      have hgn : Good (0 + fewN l l.length) (L, a, b) := by rw [← hk]; assumption
      have hf2 := few_all hfew
      have hnl := hgn.2.1
      simp only [Nat.zero_add] at hnl
      have hup : UP (keysOf L) := (ld_spi hgn.1).1
      refine wpF_seg 3 (by kernel_rfl) ?_
      refine wpF_end _ (by kernel_rfl) (then_n (hK44 _ _ ?_))
      refine wp_cf (by kernel_rfl) ?_
      refine wp_exit (then_x (then_x (blk_hit (then_n (hK34 _ _ ?_)))))
      obtain rfl : k = l.length := by omega
      refine wp_seq_k (fun K99 hK99 => ?_)
      refine wp_seq_k (fun K100 hK100 => ?_)
      refine wp_reg ?_
      refine wpF_seg 1 (by kernel_rfl) ?_
      refine gF hM40 (.binOp .eql 53 (.tmp 56) (.const (.pointer none)) 53) (some 57) (by kernel_rfl) (Y_eql (.pointer (some ⟨Ar_42bs11, 0, none⟩)) (.pointer none) (false) (by kernel_rfl) (by kernel_rfl) (by kernel_rfl)) ?_
      refine wpF_end _ (by kernel_rfl) (then_n (hK100 _ _ ?_))
      refine wp_cf (by kernel_rfl) ?_
      refine wp_skip (then_n (hK99 _ _ ?_))
      refine wp_seq_k (fun K101 hK101 => ?_)
      refine wp_reg ?_
      refine wpF_seg 4 (by kernel_rfl) ?_
      have hM102 := hM40.front 1 rfl
      have hM110 : Step V w [] Vl36 _ ([spE Ar_42bs11 Ar_42s11 cr_42s11 Ar_42ms11 (L) (a) (b), .blk b31 (.cells #[.slice Ar_42fc12_0 (L).length cr_42fc12_0, .int .i64 (a), .int .i64 (b)] 50)]) := hM102
      refine wpF_callE [spE Ar_42bs11 Ar_42s11 cr_42s11 Ar_42ms11 (L) (a) (b)] ([.blk b31 (.cells #[.slice Ar_42fc12_0 (L).length cr_42fc12_0, .int .i64 (a), .int .i64 (b)] 50)]) hM110 (f := 37) (caps := #[]) (h := (by kernel_rfl : opAt _ _ _ _ _ = some (.call (.mk (.value (.func 37)) #[(.tmp 59), (.tmp 60), (.tmp 61), (.tmp 62), (.const (.int .i64 (-1)))] #[53, 9, 9, 3, 3]), some 63))) (by kernel_rfl) (by kernel_rfl) (by kernel_rfl) (f37 _ _ Ar_42bs11 Ar_42s11 cr_42s11 Ar_42ms11 (L) (a) (b) (f) (hf) (u) (hu) (t) (-1) (St.part (E := [spE Ar_42bs11 Ar_42s11 cr_42s11 Ar_42ms11 (L) (a) (b)]) (F := ([.blk b31 (.cells #[.slice Ar_42fc12_0 (L).length cr_42fc12_0, .int .i64 (a), .int .i64 (b)] 50)])) hM110.ok) (by omega)) (fun v103 V104 w105 Eo106 le107 hM108 hp109 => ?_)
      obtain ⟨Ar110_1, cr110_1, rfl, rfl, r111⟩ := hp109
      have hM112 : Step V w [] V104 _ ([spE Ar_42bs11 Ar_42s11 cr_42s11 Ar_42ms11 ((L)) ((a)) ((b)), .blk b31 (.cells #[.slice Ar_42fc12_0 (L).length cr_42fc12_0, .int .i64 (a), .int .i64 (b)] 50)]) := hM108
      have l113 : (scnR (L) (a) (b) (f) (u) (t) (-1)).length ≤ 140737488355328 := r111.max
      refine wpF_seg 5 (by kernel_rfl) ?_
      refine wpF_end _ (by kernel_rfl) (then_n (hK101 _ _ ?_))
      refine wp_seq_k (fun K114 hK114 => ?_)
      refine wp_reg ?_
      refine wpF_seg 5 (by kernel_rfl) ?_
      have hM115 := hM112.front 0 rfl
      have hM123 : Step V w [] V104 _ ([spE Ar_42bs11 Ar_42s11 cr_42s11 Ar_42ms11 ((L)) ((a)) ((b)), .blk b31 (.cells #[.slice Ar_42fc12_0 (L).length cr_42fc12_0, .int .i64 (a), .int .i64 (b)] 50)]) := hM115
      refine wpF_callE [spE Ar_42bs11 Ar_42s11 cr_42s11 Ar_42ms11 ((L)) ((a)) ((b))] ([.blk b31 (.cells #[.slice Ar_42fc12_0 (L).length cr_42fc12_0, .int .i64 (a), .int .i64 (b)] 50)]) hM123 (f := 37) (caps := #[]) (h := (by kernel_rfl : opAt _ _ _ _ _ = some (.call (.mk (.value (.func 37)) #[(.tmp 67), (.tmp 68), (.tmp 69), (.tmp 70), (.tmp 71)] #[53, 9, 9, 3, 3]), some 72))) (by kernel_rfl) (by kernel_rfl) (by kernel_rfl) (f37 _ _ Ar_42bs11 Ar_42s11 cr_42s11 Ar_42ms11 ((L)) ((a)) ((b)) (f) (hf) (u) (hu) (t) (n) (St.part (E := [spE Ar_42bs11 Ar_42s11 cr_42s11 Ar_42ms11 ((L)) ((a)) ((b))]) (F := ([.blk b31 (.cells #[.slice Ar_42fc12_0 (L).length cr_42fc12_0, .int .i64 (a), .int .i64 (b)] 50)])) hM123.ok) (by omega)) (fun v116 V117 w118 Eo119 le120 hM121 hp122 => ?_)
      obtain ⟨Ar123_1, cr123_1, rfl, rfl, r124⟩ := hp122
      have hM125 : Step V w [] V117 _ ([spE Ar_42bs11 Ar_42s11 cr_42s11 Ar_42ms11 (((L))) (((a))) (((b))), .blk b31 (.cells #[.slice Ar_42fc12_0 (L).length cr_42fc12_0, .int .i64 (a), .int .i64 (b)] 50)]) := hM121
      have l126 : (scnR ((L)) ((a)) ((b)) (f) (u) (t) (n)).length ≤ 140737488355328 := r124.max
      refine wpF_seg 5 (by kernel_rfl) ?_
      refine wpF_end _ (by kernel_rfl) (then_n (hK114 _ _ ?_))
      refine wp_seq_k (fun K127 hK127 => ?_)
      refine wp_seq_k (fun K128 hK128 => ?_)
      refine wp_reg ?_
      refine wpF_seg 4 (by kernel_rfl) ?_
      have h129 : (decide ((kepE (t) (a) (b)) = (kepE (t) ((a)) ((b))))) = true := by exact decide_eq_true rfl
      have p130 : ((kepE (t) (a) (b)) = (kepE (t) ((a)) ((b)))) := of_decide_eq_true h129
      refine wpF_slot 78 (.bool (!(decide ((kepE (t) (a) (b)) = (kepE (t) ((a)) ((b))))))) (.bool false) (by kernel_rfl) (by kernel_rfl) (by rw [(show (!(decide ((kepE (t) (a) (b)) = (kepE (t) ((a)) ((b)))))) = false from by rw [h129]; rfl)]) ?_
      refine wpF_seg 3 (by kernel_rfl) ?_
      refine wpF_end _ (by kernel_rfl) (then_n (hK128 _ _ ?_))
      refine wp_if (!(decide ((kepE (t) (a) (b)) = (0)))) (by kernel_rfl) (fun h131 => ?_) (fun h131 => ?_)
      · -- fLft
        have h132 : decide ((kepE (t) (a) (b)) = (0)) = false := by rw [← Bool.not_not (decide _), h131]; rfl
        have p133 : ¬ ((kepE (t) (a) (b)) = (0)) := of_decide_eq_false h132
        refine wp_seq_k (fun K134 hK134 => ?_)
        refine wp_reg ?_
        refine wpF_seg 4 (by kernel_rfl) ?_
        refine wpF_slot 85 (.bool (decide ((kepE (t) (a) (b)) = (kepE (t) ((a)) ((b)))))) (.bool true) (by kernel_rfl) (by kernel_rfl) (by rw [h129]) ?_
        refine wpF_seg 2 (by kernel_rfl) ?_
        have hM135 := hM125.front 0 rfl
        have hM143 : Step V w [] V117 _ ([spE Ar_42bs11 Ar_42s11 cr_42s11 Ar_42ms11 (((L))) (((a))) (((b))), .blk b31 (.cells #[.slice Ar_42fc12_0 (L).length cr_42fc12_0, .int .i64 (a), .int .i64 (b)] 50)]) := hM135
        refine wpF_callE [spE Ar_42bs11 Ar_42s11 cr_42s11 Ar_42ms11 (((L))) (((a))) (((b)))] ([.blk b31 (.cells #[.slice Ar_42fc12_0 (L).length cr_42fc12_0, .int .i64 (a), .int .i64 (b)] 50)]) hM143 (f := 43) (caps := #[]) (h := (by kernel_rfl : opAt _ _ _ _ _ = some (.call (.mk (.value (.func 43)) #[(.tmp 87)] #[53]), some 88))) (by kernel_rfl) (by kernel_rfl) (by kernel_rfl) (f43 _ _ Ar_42bs11 Ar_42s11 cr_42s11 Ar_42ms11 (((L))) (((a))) (((b))) (St.part (E := [spE Ar_42bs11 Ar_42s11 cr_42s11 Ar_42ms11 (((L))) (((a))) (((b)))]) (F := ([.blk b31 (.cells #[.slice Ar_42fc12_0 (L).length cr_42fc12_0, .int .i64 (a), .int .i64 (b)] 50)])) hM143.ok)) (fun v136 V137 w138 Eo139 le140 hM141 hp142 => ?_)
        obtain ⟨rfl, rfl⟩ := hp142
        have hM144 : Step V w [] V137 _ ([spE Ar_42bs11 Ar_42s11 cr_42s11 Ar_42ms11 ((((L)))) ((((a)))) ((((b)))), .blk b31 (.cells #[.slice Ar_42fc12_0 (L).length cr_42fc12_0, .int .i64 (a), .int .i64 (b)] 50)]) := hM141
        refine wpF_seg 2 (by kernel_rfl) ?_
        refine wpF_caseB 90 (decide ((t) < ((((b)))))) (by kernel_rfl) (by kernel_rfl) (fun h145 => ?_) (fun h145 => ?_)
        · -- fLftt
          have p146 : ((t) < ((((b))))) := of_decide_eq_true h145
          refine wpF_seg 4 (by kernel_rfl) ?_
          have h147 : (decide ((kepE (t) (a) (b)) = (12))) = true := by exact decide_eq_true (kep_lo (by assumption))
          have p148 : ((kepE (t) (a) (b)) = (12)) := of_decide_eq_true h147
          refine wpF_slot 94 (.bool (decide ((kepE (t) (a) (b)) = (12)))) (.bool true) (by kernel_rfl) (by kernel_rfl) (by rw [h147]) ?_
          refine wpF_seg 16 (by kernel_rfl) ?_
          have h149 : (decide ((((scnR (L) (a) (b) (f) (u) (t) (-1)).length : Int)) = (0))) = true := by exact decide_eq_true (by rw [scn_no (by assumption)]; rfl)
          have p150 : ((((scnR (L) (a) (b) (f) (u) (t) (-1)).length : Int)) = (0)) := of_decide_eq_true h149
          refine wpF_slot 110 (.bool (decide ((((scnR (L) (a) (b) (f) (u) (t) (-1)).length : Int)) = (0)))) (.bool true) (by kernel_rfl) (by kernel_rfl) (by rw [h149]) ?_
          refine wpF_callP hM144 (f := 34) (caps := #[]) (h := (by kernel_rfl : opAt _ _ _ _ _ = some (.call (.mk (.value (.func 34)) #[] #[]), some 111))) (by kernel_rfl) (by kernel_rfl) (by kernel_rfl) (f34 _ _ hM144.inW ) (fun v151 V152 w153 le154 hM155 hp156 => ?_)
          obtain rfl := hp156
          refine wpF_seg 2 (by kernel_rfl) ?_
          refine wpF_end _ (by kernel_rfl) (then_n (hK134 _ _ ?_))
          refine wp_ret (then_r (?_))
          refine retN [.bool (true)] (.bool (true)) Try.results12 (.tmp (by kernel_rfl) (by kernel_rfl) .nil) (by kernel_rfl) (hRet _ _ ⟨_, _, rfl, hM155.clear, ?_⟩)
          -- end fLftt
          rfl
        · -- fLftf
          have p157 : ¬ ((t) < ((((b))))) := of_decide_eq_false h145
          refine wpF_seg 6 (by kernel_rfl) ?_
          have hM158 := hM144.front 0 rfl
          have hM166 : Step V w [] V137 _ ([spE Ar_42bs11 Ar_42s11 cr_42s11 Ar_42ms11 ((((L)))) ((((a)))) ((((b)))), .blk b31 (.cells #[.slice Ar_42fc12_0 (L).length cr_42fc12_0, .int .i64 (a), .int .i64 (b)] 50)]) := hM158
          refine wpF_callE [spE Ar_42bs11 Ar_42s11 cr_42s11 Ar_42ms11 ((((L)))) ((((a)))) ((((b))))] ([.blk b31 (.cells #[.slice Ar_42fc12_0 (L).length cr_42fc12_0, .int .i64 (a), .int .i64 (b)] 50)]) hM166 (f := 39) (caps := #[]) (h := (by kernel_rfl : opAt _ _ _ _ _ = some (.call (.mk (.value (.func 39)) #[(.tmp 96)] #[53]), some 97))) (by kernel_rfl) (by kernel_rfl) (by kernel_rfl) (f39 _ _ Ar_42bs11 Ar_42s11 cr_42s11 Ar_42ms11 ((((L)))) ((((a)))) ((((b)))) (St.part (E := [spE Ar_42bs11 Ar_42s11 cr_42s11 Ar_42ms11 ((((L)))) ((((a)))) ((((b))))]) (F := ([.blk b31 (.cells #[.slice Ar_42fc12_0 (L).length cr_42fc12_0, .int .i64 (a), .int .i64 (b)] 50)])) hM166.ok)) (fun v159 V160 w161 Eo162 le163 hM164 hp165 => ?_)
          obtain ⟨rfl, rfl⟩ := hp165
          have hM167 : Step V w [] V160 _ ([spE Ar_42bs11 Ar_42s11 cr_42s11 Ar_42ms11 (((((L))))) (((((a))))) (((((b))))), .blk b31 (.cells #[.slice Ar_42fc12_0 (L).length cr_42fc12_0, .int .i64 (a), .int .i64 (b)] 50)]) := hM164
          refine wpF_seg 2 (by kernel_rfl) ?_
          have h168 : (decide ((((((a))))) < (t))) = true := by exact decide_eq_true (kep_hi (by assumption) (by assumption)).1
          have p169 : ((((((a))))) < (t)) := of_decide_eq_true h168
          refine wpF_slot 99 (.bool (decide ((((((a))))) < (t)))) (.bool true) (by kernel_rfl) (by kernel_rfl) (by rw [h168]) ?_
          refine wpF_seg 6 (by kernel_rfl) ?_
          have h170 : (decide ((kepE (t) (a) (b)) = (13))) = true := by exact decide_eq_true (kep_hi (by assumption) (by assumption)).2
          have p171 : ((kepE (t) (a) (b)) = (13)) := of_decide_eq_true h170
          refine wpF_slot 105 (.bool (decide ((kepE (t) (a) (b)) = (13)))) (.bool true) (by kernel_rfl) (by kernel_rfl) (by rw [h170]) ?_
          refine wpF_seg 5 (by kernel_rfl) ?_
          have h172 : (decide ((((scnR (L) (a) (b) (f) (u) (t) (-1)).length : Int)) = (0))) = true := by exact decide_eq_true (by rw [scn_no (by assumption)]; rfl)
          have p173 : ((((scnR (L) (a) (b) (f) (u) (t) (-1)).length : Int)) = (0)) := of_decide_eq_true h172
          refine wpF_slot 110 (.bool (decide ((((scnR (L) (a) (b) (f) (u) (t) (-1)).length : Int)) = (0)))) (.bool true) (by kernel_rfl) (by kernel_rfl) (by rw [h172]) ?_
          refine wpF_callP hM167 (f := 34) (caps := #[]) (h := (by kernel_rfl : opAt _ _ _ _ _ = some (.call (.mk (.value (.func 34)) #[] #[]), some 111))) (by kernel_rfl) (by kernel_rfl) (by kernel_rfl) (f34 _ _ hM167.inW ) (fun v174 V175 w176 le177 hM178 hp179 => ?_)
          obtain rfl := hp179
          refine wpF_seg 2 (by kernel_rfl) ?_
          refine wpF_end _ (by kernel_rfl) (then_n (hK134 _ _ ?_))
          refine wp_ret (then_r (?_))
          refine retN [.bool (true)] (.bool (true)) Try.results12 (.tmp (by kernel_rfl) (by kernel_rfl) .nil) (by kernel_rfl) (hRet _ _ ⟨_, _, rfl, hM178.clear, ?_⟩)
          -- end fLftf
          rfl
      · -- fLff
        have h180 : decide ((kepE (t) (a) (b)) = (0)) = true := by rw [← Bool.not_not (decide _), h131]; rfl
        have p181 : ((kepE (t) (a) (b)) = (0)) := of_decide_eq_true h180
        have hk0 : kepE t a b = 0 := by assumption
        refine wp_skip (then_n (hK127 _ _ ?_))
        refine wp_seq_k (fun K182 hK182 => ?_)
        refine wp_reg ?_
        refine wpF_seg 3 (by kernel_rfl) ?_
        refine wpF_end _ (by kernel_rfl) (then_n (hK182 _ _ ?_))
        refine wp_seq_k (fun K183 hK183 => ?_)
        refine wp_seq_k (fun K184 hK184 => ?_)
        refine wp_reg ?_
        refine wpF_seg 2 (by kernel_rfl) ?_
        refine wpF_end _ (by kernel_rfl) (then_n (hK184 _ _ ?_))
        refine wp_if (decide ((0) ≤ (n))) (by kernel_rfl) (fun h185 => ?_) (fun h185 => ?_)
        · -- fLfft
          have p186 : ((0) ≤ (n)) := of_decide_eq_true h185
          refine wp_reg ?_
          refine wpF_seg 2 (by kernel_rfl) ?_
          refine gF hM125 (.call (.mk (.builtin .min) #[(.tmp 117), (.tmp 118)] #[3, 3])) (some 119) (by kernel_rfl) (Y_minI .i64 (((scnR (L) (a) (b) (f) (u) (t) (-1)).length : Int)) (n) (by kernel_rfl) (by kernel_rfl)) ?_
          refine wpF_seg 1 (by kernel_rfl) ?_
          refine wpF_end _ (by kernel_rfl) (then_n (hK183 _ _ ?_))
          refine wp_seq_k (fun K187 hK187 => ?_)
          refine wp_seq_k (fun K188 hK188 => ?_)
          refine wp_reg ?_
          refine wpF_seg 5 (by kernel_rfl) ?_
          have h189 : (decide ((((scnR ((L)) ((a)) ((b)) (f) (u) (t) (n)).length : Int)) = ((if (n) < (((scnR (L) (a) (b) (f) (u) (t) (-1)).length : Int)) then (n) else (((scnR (L) (a) (b) (f) (u) (t) (-1)).length : Int)))))) = true := by first | exact decide_eq_true (scn_min (by omega)).symm | (refine decide_eq_true ?_; rw [scn_neg (by omega)])
          have p190 : ((((scnR ((L)) ((a)) ((b)) (f) (u) (t) (n)).length : Int)) = ((if (n) < (((scnR (L) (a) (b) (f) (u) (t) (-1)).length : Int)) then (n) else (((scnR (L) (a) (b) (f) (u) (t) (-1)).length : Int))))) := of_decide_eq_true h189
          refine wpF_slot 124 (.bool (!(decide ((((scnR ((L)) ((a)) ((b)) (f) (u) (t) (n)).length : Int)) = ((if (n) < (((scnR (L) (a) (b) (f) (u) (t) (-1)).length : Int)) then (n) else (((scnR (L) (a) (b) (f) (u) (t) (-1)).length : Int)))))))) (.bool false) (by kernel_rfl) (by kernel_rfl) (by rw [(show (!(decide ((((scnR ((L)) ((a)) ((b)) (f) (u) (t) (n)).length : Int)) = ((if (n) < (((scnR (L) (a) (b) (f) (u) (t) (-1)).length : Int)) then (n) else (((scnR (L) (a) (b) (f) (u) (t) (-1)).length : Int))))))) = false from by rw [h189]; rfl)]) ?_
          refine wpF_seg 3 (by kernel_rfl) ?_
          refine gF_slice (A := Ar110_1) (c := cr110_1) (r111.up le120) (h := (by kernel_rfl : opAt _ _ _ _ _ = some (.slice 60 (.tmp 126) none (some (.tmp 127)) none, some 128))) (e := 93) (by kernel_rfl) (by kernel_rfl) (0) (((if (n) < (((scnR (L) (a) (b) (f) (u) (t) (-1)).length : Int)) then (n) else (((scnR (L) (a) (b) (f) (u) (t) (-1)).length : Int)))).toNat) rfl ⟨.i64, by rw [show ((((if (n) < (((scnR (L) (a) (b) (f) (u) (t) (-1)).length : Int)) then (n) else (((scnR (L) (a) (b) (f) (u) (t) (-1)).length : Int)))).toNat : Nat) : Int) = (if (n) < (((scnR (L) (a) (b) (f) (u) (t) (-1)).length : Int)) then (n) else (((scnR (L) (a) (b) (f) (u) (t) (-1)).length : Int))) from by omega]; kernel_rfl⟩ (by omega) (by omega) ((scnR (L) (a) (b) (f) (u) (t) (-1)).take (((if (n) < (((scnR (L) (a) (b) (f) (u) (t) (-1)).length : Int)) then (n) else (((scnR (L) (a) (b) (f) (u) (t) (-1)).length : Int)))).toNat)) (by simp) (fun A191 c192 r193 => ?_)
          refine wpF_callP hM125 (f := 38) (caps := #[]) (h := (by kernel_rfl : opAt _ _ _ _ _ = some (.call (.mk (.value (.func 38)) #[(.tmp 125), (.tmp 128)] #[60, 60]), some 129))) (by kernel_rfl) (by kernel_rfl) (by kernel_rfl) (f38 _ _ hM125.inW Ar123_1 cr123_1 (scnR ((L)) ((a)) ((b)) (f) (u) (t) (n)) r124 A191 c192 ((scnR (L) (a) (b) (f) (u) (t) (-1)).take (((if (n) < (((scnR (L) (a) (b) (f) (u) (t) (-1)).length : Int)) then (n) else (((scnR (L) (a) (b) (f) (u) (t) (-1)).length : Int)))).toNat)) r193) (fun v194 V195 w196 le197 hM198 hp199 => ?_)
          obtain rfl := hp199
          refine wpF_seg 2 (by kernel_rfl) ?_
          refine wpF_end _ (by kernel_rfl) (then_n (hK188 _ _ ?_))
          have h200 : (decide ((scnR ((L)) ((a)) ((b)) (f) (u) (t) (n)) = ((scnR (L) (a) (b) (f) (u) (t) (-1)).take (((if (n) < (((scnR (L) (a) (b) (f) (u) (t) (-1)).length : Int)) then (n) else (((scnR (L) (a) (b) (f) (u) (t) (-1)).length : Int)))).toNat)))) = true := by first | (refine decide_eq_true ?_; rw [scn_min (by omega), Int.toNat_natCast]; exact scn_take) | (refine decide_eq_true ?_; rw [scn_neg (by omega), List.take_length])
          have p201 : ((scnR ((L)) ((a)) ((b)) (f) (u) (t) (n)) = ((scnR (L) (a) (b) (f) (u) (t) (-1)).take (((if (n) < (((scnR (L) (a) (b) (f) (u) (t) (-1)).length : Int)) then (n) else (((scnR (L) (a) (b) (f) (u) (t) (-1)).length : Int)))).toNat))) := of_decide_eq_true h200
          refine wp_slot 131 (.bool (!(decide ((scnR ((L)) ((a)) ((b)) (f) (u) (t) (n)) = ((scnR (L) (a) (b) (f) (u) (t) (-1)).take (((if (n) < (((scnR (L) (a) (b) (f) (u) (t) (-1)).length : Int)) then (n) else (((scnR (L) (a) (b) (f) (u) (t) (-1)).length : Int)))).toNat)))))) (.bool false) (by kernel_rfl) (by rw [(show (!(decide ((scnR ((L)) ((a)) ((b)) (f) (u) (t) (n)) = ((scnR (L) (a) (b) (f) (u) (t) (-1)).take (((if (n) < (((scnR (L) (a) (b) (f) (u) (t) (-1)).length : Int)) then (n) else (((scnR (L) (a) (b) (f) (u) (t) (-1)).length : Int)))).toNat))))) = false from by rw [h200]; rfl)]) ?_
          refine wp_cf (by kernel_rfl) ?_
          refine wp_skip (then_n (hK187 _ _ ?_))
          refine wp_seq_k (fun K202 hK202 => ?_)
          refine wp_reg ?_
          refine wpF_seg 1 (by kernel_rfl) ?_
          refine wpF_end _ (by kernel_rfl) (then_n (hK202 _ _ ?_))
          refine wp_seq_k (fun K203 hK203 => ?_)
          refine wp_reg ?_
          refine wpF_seg 1 (by kernel_rfl) ?_
          have hM204 := hM198.front 0 rfl
          have hM212 : Step V w [] V195 _ ([spE Ar_42bs11 Ar_42s11 cr_42s11 Ar_42ms11 (((L))) (((a))) (((b))), .blk b31 (.cells #[.slice Ar_42fc12_0 (L).length cr_42fc12_0, .int .i64 (a), .int .i64 (b)] 50)]) := hM204
          refine wpF_callE [spE Ar_42bs11 Ar_42s11 cr_42s11 Ar_42ms11 (((L))) (((a))) (((b)))] ([.blk b31 (.cells #[.slice Ar_42fc12_0 (L).length cr_42fc12_0, .int .i64 (a), .int .i64 (b)] 50)]) hM212 (f := 44) (caps := #[]) (h := (by kernel_rfl : opAt _ _ _ _ _ = some (.call (.mk (.value (.func 44)) #[(.tmp 132)] #[53]), some 133))) (by kernel_rfl) (by kernel_rfl) (by kernel_rfl) (f44 _ _ Ar_42bs11 Ar_42s11 cr_42s11 Ar_42ms11 (((L))) (((a))) (((b))) (St.part (E := [spE Ar_42bs11 Ar_42s11 cr_42s11 Ar_42ms11 (((L))) (((a))) (((b)))]) (F := ([.blk b31 (.cells #[.slice Ar_42fc12_0 (L).length cr_42fc12_0, .int .i64 (a), .int .i64 (b)] 50)])) hM212.ok) (by omega) (by exact fun y => Nat.le_trans (hgn.2.2 y) (by omega))) (fun v205 V206 w207 Eo208 le209 hM210 hp211 => ?_)
          obtain ⟨Ar212_1, cr212_1, rfl, rfl, r213⟩ := hp211
          have hM214 : Step V w [] V206 _ ([spE Ar_42bs11 Ar_42s11 cr_42s11 Ar_42ms11 ((((L)))) ((((a)))) ((((b)))), .blk b31 (.cells #[.slice Ar_42fc12_0 (L).length cr_42fc12_0, .int .i64 (a), .int .i64 (b)] 50)]) := hM210
          have l215 : ((((L)))).length ≤ 140737488355328 := r213.max
          refine wpF_seg 1 (by kernel_rfl) ?_
          refine wpF_end _ (by kernel_rfl) (then_n (hK203 _ _ ?_))
          refine wp_seq_k (fun K216 hK216 => ?_)
          refine wp_seq_k (fun K217 hK217 => ?_)
          refine wp_reg ?_
          refine wpF_seg 1 (by kernel_rfl) ?_
          refine wpF_end _ (by kernel_rfl) (then_n (hK217 _ _ ?_))
          refine wp_block ?_
          refine wp_base [(1, bs (f)), (2, bs (u)), (3, .int .i64 (t)), (11, .pointer (some ⟨Ar_42bs11, 0, none⟩)), (17, .slice Ar110_1 (scnR (L) (a) (b) (f) (u) (t) (-1)).length cr110_1), (22, .int .i64 ((0 : Int))), (23, .slice Ar212_1 ((((L)))).length cr212_1), (24, .int .i64 ((0 : Int)))] (by kernel_rfl) (fun g219 => ?_)
          refine wp_loopX (fun (x_ : Nat × Nat) a_ w_ => ∃ (g : Nat → Value) (V_ : VT), a_ = env [] 204 [(1, bs (f)), (2, bs (u)), (3, .int .i64 (t)), (11, .pointer (some ⟨Ar_42bs11, 0, none⟩)), (17, .slice Ar110_1 (scnR (L) (a) (b) (f) (u) (t) (-1)).length cr110_1), (22, .int .i64 ((x_.2 : Int))), (23, .slice Ar212_1 ((((L)))).length cr212_1), (24, .int .i64 ((x_.1 : Int)))] g ∧ Step V w [] V_ w_ [spE Ar_42bs11 Ar_42s11 cr_42s11 Ar_42ms11 ((((L)))) ((((a)))) ((((b)))), .blk b31 (.cells #[.slice Ar_42fc12_0 (L).length cr_42fc12_0, .int .i64 (a), .int .i64 (b)] 50)] ∧ VT.le V206 V_ ∧ (x_.1 ≤ L.length) ∧ (x_.2 = atN L t f u (x_.1))) (fun (x_ : Nat × Nat) => L.length - x_.1) ((0 : Nat), (0 : Nat)) ⟨g219, V206, rfl, hM214, VT.le.refl _, by omega, by rfl⟩ ?_
          rintro ⟨j, q⟩ a_ w221 ⟨g220, Vl218, rfl, hM222, le223, hi224_0, hi224_1⟩ K224 hK224
          refine wp_seq_k (fun K225 hK225 => ?_)
          refine wp_seq_k (fun K226 hK226 => ?_)
          refine wp_reg ?_
          refine wpF_seg 4 (by kernel_rfl) ?_
          refine wpF_end _ (by kernel_rfl) (then_n (hK226 _ _ ?_))
          refine wp_if (decide (((j : Int)) < ((((((L)))).length : Int)))) (by kernel_rfl) (fun h227 => ?_) (fun h227 => ?_)
          · -- fLfftLt
            have p228 : (((j : Int)) < ((((((L)))).length : Int))) := of_decide_eq_true h227
            refine wp_skip (then_n (hK225 _ _ ?_))
            refine wp_seq_k (fun K229 hK229 => ?_)
            refine wp_block ?_
            refine wp_seq_k (fun K230 hK230 => ?_)
            refine wp_reg ?_
            refine wpF_seg 3 (by kernel_rfl) ?_
            refine gF_index (A := Ar212_1) (c := cr212_1) (r213.up le223) .i64 ((j : Int)) (h := (by kernel_rfl : opAt _ _ _ _ _ = some (.indexAddr 46 (.tmp 142) (.tmp 143), some 144))) (e := 80) (by kernel_rfl) (by kernel_rfl) (by kernel_rfl) (j) rfl (by omega) (fun b231 o232 at_b231 => ?_)
            have c233 : Vl218 b231 o232 = some (bs (((((L)))).getD (j) ([], [])).1) := (At.str (At.pr at_b231).1).1
            have l234 : (((((L)))).getD (j) ([], [])).1.length ≤ 140737488355328 := (At.str (At.pr at_b231).1).2
            obtain ⟨A235, c236, c237, r238⟩ := At.sl (At.pr at_b231).2
            have c237 : Vl218 b231 (o232 + 1) = some (.slice A235 ((((((L)))).getD (j) ([], [])).2).length c236) := c237
            have r238 : Rd (prK (intK .i64) (prK strK boolK)) Vl218 A235 c236 ((((((L)))).getD (j) ([], [])).2) := r238
            have l239 : ((((((L)))).getD (j) ([], [])).2).length ≤ 140737488355328 := r238.max
            refine wpF_seg 1 (by kernel_rfl) ?_
            refine gF hM222 (.load 9 (.tmp 145)) (some 146) (by kernel_rfl) (Y_loadV c233 (by kernel_rfl) (by kernel_rfl)) ?_
            refine wpF_seg 1 (by kernel_rfl) ?_
            have hM240 := hM222.front 0 rfl
            have hM248 : Step V w [] Vl218 _ ([spE Ar_42bs11 Ar_42s11 cr_42s11 Ar_42ms11 ((((L)))) ((((a)))) ((((b)))), .blk b31 (.cells #[.slice Ar_42fc12_0 (L).length cr_42fc12_0, .int .i64 (a), .int .i64 (b)] 50)]) := hM240
            refine wpF_callE [spE Ar_42bs11 Ar_42s11 cr_42s11 Ar_42ms11 ((((L)))) ((((a)))) ((((b))))] ([.blk b31 (.cells #[.slice Ar_42fc12_0 (L).length cr_42fc12_0, .int .i64 (a), .int .i64 (b)] 50)]) hM248 (f := 40) (caps := #[]) (h := (by kernel_rfl : opAt _ _ _ _ _ = some (.call (.mk (.value (.func 40)) #[(.tmp 141), (.tmp 146), (.tmp 147)] #[53, 9, 3]), some 148))) (by kernel_rfl) (by kernel_rfl) (by kernel_rfl) (f40 _ _ Ar_42bs11 Ar_42s11 cr_42s11 Ar_42ms11 ((((L)))) ((((a)))) ((((b)))) ((((((L)))).getD (j) ([], [])).1) (l234) (t) (St.part (E := [spE Ar_42bs11 Ar_42s11 cr_42s11 Ar_42ms11 ((((L)))) ((((a)))) ((((b))))]) (F := ([.blk b31 (.cells #[.slice Ar_42fc12_0 (L).length cr_42fc12_0, .int .i64 (a), .int .i64 (b)] 50)])) hM248.ok)) (fun v241 V242 w243 Eo244 le245 hM246 hp247 => ?_)
            obtain ⟨rfl, rfl, x249⟩ := hp247
            have hM250 : Step V w [] V242 _ ([spE Ar_42bs11 Ar_42s11 cr_42s11 Ar_42ms11 (((((L))))) (((((a))))) (((((b))))), .blk b31 (.cells #[.slice Ar_42fc12_0 (L).length cr_42fc12_0, .int .i64 (a), .int .i64 (b)] 50)]) := hM246
            have x249 : (getS ((((L)))) ((((a)))) ((((b)))) ((((((L)))).getD (j) ([], [])).1) (t)).length ≤ 140737488355328 := x249
            refine wpF_seg 5 (by kernel_rfl) ?_
            refine wpF_end _ (by kernel_rfl) (then_n (hK230 _ _ ?_))
            refine wp_seq_k (fun K251 hK251 => ?_)
            refine wp_reg ?_
            refine wpF_seg 2 (by kernel_rfl) ?_
            refine gF_index (A := Ar212_1) (c := cr212_1) (r213.up (le223.trans le245)) .i64 ((j : Int)) (h := (by kernel_rfl : opAt _ _ _ _ _ = some (.indexAddr 46 (.tmp 151) (.tmp 152), some 153))) (e := 80) (by kernel_rfl) (by kernel_rfl) (by kernel_rfl) (j) rfl (by omega) (fun b252 o253 at_b252 => ?_)
            have c254 : V242 b252 o253 = some (bs (((((L)))).getD (j) ([], [])).1) := (At.str (At.pr at_b252).1).1
            have l255 : (((((L)))).getD (j) ([], [])).1.length ≤ 140737488355328 := (At.str (At.pr at_b252).1).2
            obtain ⟨A256, c257, c258, r259⟩ := At.sl (At.pr at_b252).2
            have c258 : V242 b252 (o253 + 1) = some (.slice A256 ((((((L)))).getD (j) ([], [])).2).length c257) := c258
            have r259 : Rd (prK (intK .i64) (prK strK boolK)) V242 A256 c257 ((((((L)))).getD (j) ([], [])).2) := r259
            have l260 : ((((((L)))).getD (j) ([], [])).2).length ≤ 140737488355328 := r259.max
            refine wpF_seg 1 (by kernel_rfl) ?_
            refine gF hM250 (.load 9 (.tmp 154)) (some 155) (by kernel_rfl) (Y_loadV c254 (by kernel_rfl) (by kernel_rfl)) ?_
            refine wpF_seg 3 (by kernel_rfl) ?_
            refine wpF_caseB 158 (!(decide (((((((L)))).getD (j) ([], [])).1) < (f)))) (by kernel_rfl) (by kernel_rfl) (fun h261 => ?_) (fun h261 => ?_)
            · -- fLfftLtt
              have h262 : decide (((((((L)))).getD (j) ([], [])).1) < (f)) = false := by rw [← Bool.not_not (decide _), h261]; rfl
              have p263 : ¬ (((((((L)))).getD (j) ([], [])).1) < (f)) := of_decide_eq_false h262
              refine wpF_seg 3 (by kernel_rfl) ?_
              refine wpF_caseB 161 (decide ((u) = ([]))) (by kernel_rfl) (by kernel_rfl) (fun h264 => ?_) (fun h264 => ?_)
              · -- fLfftLttt
                have p265 : ((u) = ([])) := of_decide_eq_true h264
                refine wpF_seg 10 (by kernel_rfl) ?_
                refine wpF_end _ (by kernel_rfl) (then_n (hK251 _ _ ?_))
                refine wp_seq_k (fun K266 hK266 => ?_)
                refine wp_seq_k (fun K267 hK267 => ?_)
                refine wp_reg ?_
                refine wpF_seg 3 (by kernel_rfl) ?_
                refine wpF_caseB 173 (!(decide ((getE ((((L)))) ((((a)))) ((((b)))) ((((((L)))).getD (j) ([], [])).1) (t)) = (0)))) (by kernel_rfl) (by kernel_rfl) (fun h268 => ?_) (fun h268 => ?_)
                · -- fLfftLtttt
                  have h269 : decide ((getE ((((L)))) ((((a)))) ((((b)))) ((((((L)))).getD (j) ([], [])).1) (t)) = (0)) = false := by rw [← Bool.not_not (decide _), h268]; rfl
                  have p270 : ¬ ((getE ((((L)))) ((((a)))) ((((b)))) ((((((L)))).getD (j) ([], [])).1) (t)) = (0)) := of_decide_eq_false h269
                  refine wpF_seg 3 (by kernel_rfl) ?_
                  refine wpF_end _ (by kernel_rfl) (then_n (hK267 _ _ ?_))
                  refine wp_ct (by kernel_rfl) ?_
                  refine wp_exit (then_x (blk_hit (then_n (hK229 _ _ ?_))))
                  refine wp_reg ?_
                  refine wpF_seg 1 (by kernel_rfl) ?_
                  refine gF hM250 (.binOp .add 3 (.tmp 138) (.const (.int .i64 1)) 3) (some 139) (by kernel_rfl) (Y_add .i64 ((j : Int)) (1) ((j : Int) + 1) (by kernel_rfl) (by kernel_rfl) (wrap64_ok _ (by omega))) ?_
                  refine wpF_seg 1 (by kernel_rfl) ?_
                  refine wpF_base [(1, bs (f)), (2, bs (u)), (3, .int .i64 (t)), (11, .pointer (some ⟨Ar_42bs11, 0, none⟩)), (17, .slice Ar110_1 (scnR (L) (a) (b) (f) (u) (t) (-1)).length cr110_1), (22, .int .i64 ((q : Int))), (23, .slice Ar212_1 ((((L)))).length cr212_1), (24, .int .i64 ((j + 1 : Int)))] (by kernel_rfl) (fun g271 => ?_)
                  refine wpF_end _ (by kernel_rfl) (then_n (hK224 _ _ (j + 1, q) (by omega) ?_))
                  refine ⟨g271, V242, rfl, hM250, (le223.trans le245), ?_, ?_⟩
                  · -- fLfftLtttt inv 0
                    omega
                  · -- fLfftLtttt inv 1
                    exact atN_no hk0 hup (by omega) (by assumption) (by first | exact .inl (by assumption) | exact .inr (fun hw => hw.1 (by assumption)) | exact .inr (fun hw => hw.2.elim (by assumption) (by assumption)))
                · -- fLfftLtttf
                  have h272 : decide ((getE ((((L)))) ((((a)))) ((((b)))) ((((((L)))).getD (j) ([], [])).1) (t)) = (0)) = true := by rw [← Bool.not_not (decide _), h268]; rfl
                  have p273 : ((getE ((((L)))) ((((a)))) ((((b)))) ((((((L)))).getD (j) ([], [])).1) (t)) = (0)) := of_decide_eq_true h272
                  have hy := atN_yes (k := j) (q := q) hk0 hup (by omega) (by assumption) (by assumption) ⟨by assumption, by first | exact .inl (by assumption) | exact .inr (by assumption)⟩
                  refine wpF_seg 3 (by kernel_rfl) ?_
                  refine wpF_end _ (by kernel_rfl) (then_n (hK267 _ _ ?_))
                  refine wp_cf (by kernel_rfl) ?_
                  refine wp_skip (then_n (hK266 _ _ ?_))
                  refine wp_seq_k (fun K274 hK274 => ?_)
                  refine wp_seq_k (fun K275 hK275 => ?_)
                  refine wp_base [(1, bs (f)), (2, bs (u)), (3, .int .i64 (t)), (11, .pointer (some ⟨Ar_42bs11, 0, none⟩)), (17, .slice Ar110_1 (scnR (L) (a) (b) (f) (u) (t) (-1)).length cr110_1), (22, .int .i64 ((q : Int))), (23, .slice Ar212_1 ((((L)))).length cr212_1), (24, .int .i64 ((j : Int))), (25, bs (getS ((((L)))) ((((a)))) ((((b)))) ((((((L)))).getD (j) ([], [])).1) (t))), (26, .int .i64 (getE ((((L)))) ((((a)))) ((((b)))) ((((((L)))).getD (j) ([], [])).1) (t))), (27, .bool (true)), (134, .int .i64 ((j : Int))), (135, .slice Ar212_1 ((((L)))).length cr212_1), (136, .int .i64 ((((((L)))).length : Int))), (137, .bool (decide (((j : Int)) < ((((((L)))).length : Int))))), (140, .tuple #[bs (getS ((((L)))) ((((a)))) ((((b)))) ((((((L)))).getD (j) ([], [])).1) (t)), .int .i64 (getE ((((L)))) ((((a)))) ((((b)))) ((((((L)))).getD (j) ([], [])).1) (t))]), (141, .pointer (some ⟨Ar_42bs11, 0, none⟩)), (142, .slice Ar212_1 ((((L)))).length cr212_1), (143, .int .i64 ((j : Int))), (144, .pointer (some ⟨b231, o232, none⟩)), (145, .pointer (some ⟨b231, o232, none⟩)), (146, bs ((((((L)))).getD (j) ([], [])).1)), (147, .int .i64 (t)), (148, .tuple #[bs (getS ((((L)))) ((((a)))) ((((b)))) ((((((L)))).getD (j) ([], [])).1) (t)), .int .i64 (getE ((((L)))) ((((a)))) ((((b)))) ((((((L)))).getD (j) ([], [])).1) (t))]), (149, bs (getS ((((L)))) ((((a)))) ((((b)))) ((((((L)))).getD (j) ([], [])).1) (t))), (150, .int .i64 (getE ((((L)))) ((((a)))) ((((b)))) ((((((L)))).getD (j) ([], [])).1) (t))), (151, .slice Ar212_1 ((((L)))).length cr212_1), (152, .int .i64 ((j : Int))), (153, .pointer (some ⟨b252, o253, none⟩)), (154, .pointer (some ⟨b252, o253, none⟩)), (155, bs ((((((L)))).getD (j) ([], [])).1)), (156, bs (f)), (157, .bool (!(decide (((((((L)))).getD (j) ([], [])).1) < (f))))), (158, .bool (true)), (159, bs (u)), (160, .bool (decide ((u) = ([])))), (161, .bool (true)), (169, .bool (true)), (170, .bool (true)), (171, .int .i64 (getE ((((L)))) ((((a)))) ((((b)))) ((((((L)))).getD (j) ([], [])).1) (t))), (172, .bool (!(decide ((getE ((((L)))) ((((a)))) ((((b)))) ((((((L)))).getD (j) ([], [])).1) (t)) = (0))))), (173, .bool (false)), (174, .bool (true)), (175, .bool (false)), (176, .bool (false))] (by kernel_rfl) (fun g276 => ?_)
                  refine wp_drawN hM250 [] no_held [] [0, 1, 2, 3, 4, 5, 6, 7, 8, 9, 10, 11, 12, 13, 14, 15, 16, 17] [] [.p 0, .p 1, .p 2, .p 3, .p 4, .p 5, .p 6, .p 7, .p 8, .p 9, .p 10, .p 11, .p 12, .p 13, .p 14, .p 15, .p 16, .p 17, .s] rfl (by kernel_rfl) (by kernel_rfl) ?_
                  refine h_seg 5 (by kernel_rfl) ?_
                  have h277 : (decide ((((scnR (L) (a) (b) (f) (u) (t) (-1)).length : Int)) ≤ ((q : Int)))) = false := by exact decide_eq_false (by have := hy.2.1; omega)
                  have p278 : ¬ ((((scnR (L) (a) (b) (f) (u) (t) (-1)).length : Int)) ≤ ((q : Int))) := of_decide_eq_false h277
                  refine h_slot 181 (.bool (decide ((((scnR (L) (a) (b) (f) (u) (t) (-1)).length : Int)) ≤ ((q : Int))))) (.bool false) (by kernel_rfl) (by kernel_rfl) (by rw [h277]) ?_
                  refine h_seg 2 (by kernel_rfl) ?_
                  refine gH_index (A := Ar110_1) (c := cr110_1) (r111.up ((((le120.trans le197).trans le209).trans le223).trans le245)) .i64 ((q : Int)) (h := (by kernel_rfl : opAt _ _ _ _ _ = some (.indexAddr 60 (.tmp 182) (.tmp 183), some 184))) (e := 93) (by kernel_rfl) (by kernel_rfl) (by kernel_rfl) (q) rfl (by omega) (fun b279 o280 at_b279 => ?_)
                  have c281 : V242 b279 o280 = some (bs ((scnR (L) (a) (b) (f) (u) (t) (-1)).getD (q) ([], [])).1) := (At.str (At.pr at_b279).1).1
                  have l282 : ((scnR (L) (a) (b) (f) (u) (t) (-1)).getD (q) ([], [])).1.length ≤ 140737488355328 := (At.str (At.pr at_b279).1).2
                  have c283 : V242 b279 (o280 + 1) = some (bs ((scnR (L) (a) (b) (f) (u) (t) (-1)).getD (q) ([], [])).2) := (At.str (At.pr at_b279).2).1
                  have l284 : ((scnR (L) (a) (b) (f) (u) (t) (-1)).getD (q) ([], [])).2.length ≤ 140737488355328 := (At.str (At.pr at_b279).2).2
                  refine gH (.load 93 (.tmp 184)) (some 185) (by kernel_rfl) (Y_loadS (b := b279) (off := o280) [bs (((scnR (L) (a) (b) (f) (u) (t) (-1)).getD (q) ([], [])).1), bs (((scnR (L) (a) (b) (f) (u) (t) (-1)).getD (q) ([], [])).2)] (cells2 c281 c283) (by kernel_rfl) (by kernel_rfl) (by kernel_rfl)) ?_
                  refine h_seg 2 (by kernel_rfl) ?_
                  refine gH_index (A := Ar212_1) (c := cr212_1) (r213.up (le223.trans le245)) .i64 ((j : Int)) (h := (by kernel_rfl : opAt _ _ _ _ _ = some (.indexAddr 46 (.tmp 186) (.tmp 187), some 188))) (e := 80) (by kernel_rfl) (by kernel_rfl) (by kernel_rfl) (j) rfl (by omega) (fun b285 o286 at_b285 => ?_)
                  have c287 : V242 b285 o286 = some (bs (((((L)))).getD (j) ([], [])).1) := (At.str (At.pr at_b285).1).1
                  have l288 : (((((L)))).getD (j) ([], [])).1.length ≤ 140737488355328 := (At.str (At.pr at_b285).1).2
                  obtain ⟨A289, c290, c291, r292⟩ := At.sl (At.pr at_b285).2
                  have c291 : V242 b285 (o286 + 1) = some (.slice A289 ((((((L)))).getD (j) ([], [])).2).length c290) := c291
                  have r292 : Rd (prK (intK .i64) (prK strK boolK)) V242 A289 c290 ((((((L)))).getD (j) ([], [])).2) := r292
                  have l293 : ((((((L)))).getD (j) ([], [])).2).length ≤ 140737488355328 := r292.max
                  refine h_seg 1 (by kernel_rfl) ?_
                  refine gH (.load 9 (.tmp 189)) (some 190) (by kernel_rfl) (Y_loadV c287 (by kernel_rfl) (by kernel_rfl)) ?_
                  refine h_seg 2 (by kernel_rfl) ?_
                  refine gH (.binOp .neq 93 (.tmp 185) (.tmp 192) 93) (some 193) (by kernel_rfl) (Y_neqSpan (((scnR (L) (a) (b) (f) (u) (t) (-1)).getD (q) ([], [])).1) (((scnR (L) (a) (b) (f) (u) (t) (-1)).getD (q) ([], [])).2) ((((((L)))).getD (j) ([], [])).1) (getS ((((L)))) ((((a)))) ((((b)))) ((((((L)))).getD (j) ([], [])).1) (t)) (by kernel_rfl) (by kernel_rfl) (by kernel_rfl)) ?_
                  refine h_seg 1 (by kernel_rfl) ?_
                  refine h_s no_fs ?_
                  refine h_n (fun w294 hM295 => ?_)
                  refine  (then_n (hK275 _ _ ?_))
                  have h296 : (sameP (((scnR (L) (a) (b) (f) (u) (t) (-1)).getD (q) ([], [])).1) (((scnR (L) (a) (b) (f) (u) (t) (-1)).getD (q) ([], [])).2) ((((((L)))).getD (j) ([], [])).1) (getS ((((L)))) ((((a)))) ((((b)))) ((((((L)))).getD (j) ([], [])).1) (t))) = true := by simp only [hy.2.2, sameP, decide_true, Bool.and_self]
                  refine wp_slot 194 (.bool (!(sameP (((scnR (L) (a) (b) (f) (u) (t) (-1)).getD (q) ([], [])).1) (((scnR (L) (a) (b) (f) (u) (t) (-1)).getD (q) ([], [])).2) ((((((L)))).getD (j) ([], [])).1) (getS ((((L)))) ((((a)))) ((((b)))) ((((((L)))).getD (j) ([], [])).1) (t))))) (.bool false) (by kernel_rfl) (by rw [(show (!(sameP (((scnR (L) (a) (b) (f) (u) (t) (-1)).getD (q) ([], [])).1) (((scnR (L) (a) (b) (f) (u) (t) (-1)).getD (q) ([], [])).2) ((((((L)))).getD (j) ([], [])).1) (getS ((((L)))) ((((a)))) ((((b)))) ((((((L)))).getD (j) ([], [])).1) (t)))) = false from by rw [h296]; rfl)]) ?_
                  refine wp_cf (by kernel_rfl) ?_
                  refine wp_skip (then_n (hK274 _ _ ?_))
                  refine wp_reg ?_
                  refine wpF_seg 1 (by kernel_rfl) ?_
                  refine gF hM295 (.binOp .add 3 (.tmp 195) (.const (.int .i64 1)) 3) (some 196) (by kernel_rfl) (Y_add .i64 ((q : Int)) (1) ((q : Int) + 1) (by kernel_rfl) (by kernel_rfl) (wrap64_ok _ (by omega))) ?_
                  refine wpF_seg 1 (by kernel_rfl) ?_
                  refine wpF_end _ (by kernel_rfl) (blk_n (then_n (hK229 _ _ ?_)))
                  refine wp_reg ?_
                  refine wpF_seg 1 (by kernel_rfl) ?_
                  refine gF hM295 (.binOp .add 3 (.tmp 138) (.const (.int .i64 1)) 3) (some 139) (by kernel_rfl) (Y_add .i64 ((j : Int)) (1) ((j : Int) + 1) (by kernel_rfl) (by kernel_rfl) (wrap64_ok _ (by omega))) ?_
                  refine wpF_seg 1 (by kernel_rfl) ?_
                  refine wpF_base [(1, bs (f)), (2, bs (u)), (3, .int .i64 (t)), (11, .pointer (some ⟨Ar_42bs11, 0, none⟩)), (17, .slice Ar110_1 (scnR (L) (a) (b) (f) (u) (t) (-1)).length cr110_1), (22, .int .i64 ((q + 1 : Int))), (23, .slice Ar212_1 ((((L)))).length cr212_1), (24, .int .i64 ((j + 1 : Int)))] (by kernel_rfl) (fun g297 => ?_)
                  refine wpF_end _ (by kernel_rfl) (then_n (hK224 _ _ (j + 1, q + 1) (by omega) ?_))
                  refine ⟨g297, V242, rfl, hM295, (le223.trans le245), ?_, ?_⟩
                  · -- fLfftLtttf inv 0
                    omega
                  · -- fLfftLtttf inv 1
                    exact hy.1
              · -- fLfftLttf
                have p298 : ¬ ((u) = ([])) := of_decide_eq_false h264
                refine wpF_seg 2 (by kernel_rfl) ?_
                refine gF_index (A := Ar212_1) (c := cr212_1) (r213.up (le223.trans le245)) .i64 ((j : Int)) (h := (by kernel_rfl : opAt _ _ _ _ _ = some (.indexAddr 46 (.tmp 162) (.tmp 163), some 164))) (e := 80) (by kernel_rfl) (by kernel_rfl) (by kernel_rfl) (j) rfl (by omega) (fun b299 o300 at_b299 => ?_)
                have c301 : V242 b299 o300 = some (bs (((((L)))).getD (j) ([], [])).1) := (At.str (At.pr at_b299).1).1
                have l302 : (((((L)))).getD (j) ([], [])).1.length ≤ 140737488355328 := (At.str (At.pr at_b299).1).2
                obtain ⟨A303, c304, c305, r306⟩ := At.sl (At.pr at_b299).2
                have c305 : V242 b299 (o300 + 1) = some (.slice A303 ((((((L)))).getD (j) ([], [])).2).length c304) := c305
                have r306 : Rd (prK (intK .i64) (prK strK boolK)) V242 A303 c304 ((((((L)))).getD (j) ([], [])).2) := r306
                have l307 : ((((((L)))).getD (j) ([], [])).2).length ≤ 140737488355328 := r306.max
                refine wpF_seg 1 (by kernel_rfl) ?_
                refine gF hM250 (.load 9 (.tmp 165)) (some 166) (by kernel_rfl) (Y_loadV c301 (by kernel_rfl) (by kernel_rfl)) ?_
                refine wpF_seg 5 (by kernel_rfl) ?_
                refine wpF_end _ (by kernel_rfl) (then_n (hK251 _ _ ?_))
                refine wp_seq_k (fun K308 hK308 => ?_)
                refine wp_seq_k (fun K309 hK309 => ?_)
                refine wp_reg ?_
                refine wpF_seg 3 (by kernel_rfl) ?_
                refine wpF_caseB 173 (!(decide ((getE ((((L)))) ((((a)))) ((((b)))) ((((((L)))).getD (j) ([], [])).1) (t)) = (0)))) (by kernel_rfl) (by kernel_rfl) (fun h310 => ?_) (fun h310 => ?_)
                · -- fLfftLttft
                  have h311 : decide ((getE ((((L)))) ((((a)))) ((((b)))) ((((((L)))).getD (j) ([], [])).1) (t)) = (0)) = false := by rw [← Bool.not_not (decide _), h310]; rfl
                  have p312 : ¬ ((getE ((((L)))) ((((a)))) ((((b)))) ((((((L)))).getD (j) ([], [])).1) (t)) = (0)) := of_decide_eq_false h311
                  refine wpF_seg 3 (by kernel_rfl) ?_
                  refine wpF_end _ (by kernel_rfl) (then_n (hK309 _ _ ?_))
                  refine wp_ct (by kernel_rfl) ?_
                  refine wp_exit (then_x (blk_hit (then_n (hK229 _ _ ?_))))
                  refine wp_reg ?_
                  refine wpF_seg 1 (by kernel_rfl) ?_
                  refine gF hM250 (.binOp .add 3 (.tmp 138) (.const (.int .i64 1)) 3) (some 139) (by kernel_rfl) (Y_add .i64 ((j : Int)) (1) ((j : Int) + 1) (by kernel_rfl) (by kernel_rfl) (wrap64_ok _ (by omega))) ?_
                  refine wpF_seg 1 (by kernel_rfl) ?_
                  refine wpF_base [(1, bs (f)), (2, bs (u)), (3, .int .i64 (t)), (11, .pointer (some ⟨Ar_42bs11, 0, none⟩)), (17, .slice Ar110_1 (scnR (L) (a) (b) (f) (u) (t) (-1)).length cr110_1), (22, .int .i64 ((q : Int))), (23, .slice Ar212_1 ((((L)))).length cr212_1), (24, .int .i64 ((j + 1 : Int)))] (by kernel_rfl) (fun g313 => ?_)
                  refine wpF_end _ (by kernel_rfl) (then_n (hK224 _ _ (j + 1, q) (by omega) ?_))
                  refine ⟨g313, V242, rfl, hM250, (le223.trans le245), ?_, ?_⟩
                  · -- fLfftLttft inv 0
                    omega
                  · -- fLfftLttft inv 1
                    exact atN_no hk0 hup (by omega) (by assumption) (by first | exact .inl (by assumption) | exact .inr (fun hw => hw.1 (by assumption)) | exact .inr (fun hw => hw.2.elim (by assumption) (by assumption)))
                · -- fLfftLttff
                  have h314 : decide ((getE ((((L)))) ((((a)))) ((((b)))) ((((((L)))).getD (j) ([], [])).1) (t)) = (0)) = true := by rw [← Bool.not_not (decide _), h310]; rfl
                  have p315 : ((getE ((((L)))) ((((a)))) ((((b)))) ((((((L)))).getD (j) ([], [])).1) (t)) = (0)) := of_decide_eq_true h314
                  refine wpF_seg 3 (by kernel_rfl) ?_
                  refine wpF_end _ (by kernel_rfl) (then_n (hK309 _ _ ?_))
                  refine wp_if (!(decide (((((((L)))).getD (j) ([], [])).1) < (u)))) (by kernel_rfl) (fun h316 => ?_) (fun h316 => ?_)
                  · -- fLfftLttfft
                    have h317 : decide (((((((L)))).getD (j) ([], [])).1) < (u)) = false := by rw [← Bool.not_not (decide _), h316]; rfl
                    have p318 : ¬ (((((((L)))).getD (j) ([], [])).1) < (u)) := of_decide_eq_false h317
                    refine wp_exit (then_x (blk_hit (then_n (hK229 _ _ ?_))))
                    refine wp_reg ?_
                    refine wpF_seg 1 (by kernel_rfl) ?_
                    refine gF hM250 (.binOp .add 3 (.tmp 138) (.const (.int .i64 1)) 3) (some 139) (by kernel_rfl) (Y_add .i64 ((j : Int)) (1) ((j : Int) + 1) (by kernel_rfl) (by kernel_rfl) (wrap64_ok _ (by omega))) ?_
                    refine wpF_seg 1 (by kernel_rfl) ?_
                    refine wpF_base [(1, bs (f)), (2, bs (u)), (3, .int .i64 (t)), (11, .pointer (some ⟨Ar_42bs11, 0, none⟩)), (17, .slice Ar110_1 (scnR (L) (a) (b) (f) (u) (t) (-1)).length cr110_1), (22, .int .i64 ((q : Int))), (23, .slice Ar212_1 ((((L)))).length cr212_1), (24, .int .i64 ((j + 1 : Int)))] (by kernel_rfl) (fun g319 => ?_)
                    refine wpF_end _ (by kernel_rfl) (then_n (hK224 _ _ (j + 1, q) (by omega) ?_))
                    refine ⟨g319, V242, rfl, hM250, (le223.trans le245), ?_, ?_⟩
                    · -- fLfftLttfft inv 0
                      omega
                    · -- fLfftLttfft inv 1
                      exact atN_no hk0 hup (by omega) (by assumption) (by first | exact .inl (by assumption) | exact .inr (fun hw => hw.1 (by assumption)) | exact .inr (fun hw => hw.2.elim (by assumption) (by assumption)))
                  · -- fLfftLttfff
                    have h320 : decide (((((((L)))).getD (j) ([], [])).1) < (u)) = true := by rw [← Bool.not_not (decide _), h316]; rfl
                    have p321 : (((((((L)))).getD (j) ([], [])).1) < (u)) := of_decide_eq_true h320
                    have hy := atN_yes (k := j) (q := q) hk0 hup (by omega) (by assumption) (by assumption) ⟨by assumption, by first | exact .inl (by assumption) | exact .inr (by assumption)⟩
                    refine wp_skip (then_n (hK308 _ _ ?_))
                    refine wp_seq_k (fun K322 hK322 => ?_)
                    refine wp_seq_k (fun K323 hK323 => ?_)
                    refine wp_base [(1, bs (f)), (2, bs (u)), (3, .int .i64 (t)), (11, .pointer (some ⟨Ar_42bs11, 0, none⟩)), (17, .slice Ar110_1 (scnR (L) (a) (b) (f) (u) (t) (-1)).length cr110_1), (22, .int .i64 ((q : Int))), (23, .slice Ar212_1 ((((L)))).length cr212_1), (24, .int .i64 ((j : Int))), (25, bs (getS ((((L)))) ((((a)))) ((((b)))) ((((((L)))).getD (j) ([], [])).1) (t))), (26, .int .i64 (getE ((((L)))) ((((a)))) ((((b)))) ((((((L)))).getD (j) ([], [])).1) (t))), (27, .bool (decide (((((((L)))).getD (j) ([], [])).1) < (u)))), (134, .int .i64 ((j : Int))), (135, .slice Ar212_1 ((((L)))).length cr212_1), (136, .int .i64 ((((((L)))).length : Int))), (137, .bool (decide (((j : Int)) < ((((((L)))).length : Int))))), (140, .tuple #[bs (getS ((((L)))) ((((a)))) ((((b)))) ((((((L)))).getD (j) ([], [])).1) (t)), .int .i64 (getE ((((L)))) ((((a)))) ((((b)))) ((((((L)))).getD (j) ([], [])).1) (t))]), (141, .pointer (some ⟨Ar_42bs11, 0, none⟩)), (142, .slice Ar212_1 ((((L)))).length cr212_1), (143, .int .i64 ((j : Int))), (144, .pointer (some ⟨b231, o232, none⟩)), (145, .pointer (some ⟨b231, o232, none⟩)), (146, bs ((((((L)))).getD (j) ([], [])).1)), (147, .int .i64 (t)), (148, .tuple #[bs (getS ((((L)))) ((((a)))) ((((b)))) ((((((L)))).getD (j) ([], [])).1) (t)), .int .i64 (getE ((((L)))) ((((a)))) ((((b)))) ((((((L)))).getD (j) ([], [])).1) (t))]), (149, bs (getS ((((L)))) ((((a)))) ((((b)))) ((((((L)))).getD (j) ([], [])).1) (t))), (150, .int .i64 (getE ((((L)))) ((((a)))) ((((b)))) ((((((L)))).getD (j) ([], [])).1) (t))), (151, .slice Ar212_1 ((((L)))).length cr212_1), (152, .int .i64 ((j : Int))), (153, .pointer (some ⟨b252, o253, none⟩)), (154, .pointer (some ⟨b252, o253, none⟩)), (155, bs ((((((L)))).getD (j) ([], [])).1)), (156, bs (f)), (157, .bool (!(decide (((((((L)))).getD (j) ([], [])).1) < (f))))), (158, .bool (true)), (159, bs (u)), (160, .bool (decide ((u) = ([])))), (161, .bool (false)), (162, .slice Ar212_1 ((((L)))).length cr212_1), (163, .int .i64 ((j : Int))), (164, .pointer (some ⟨b299, o300, none⟩)), (165, .pointer (some ⟨b299, o300, none⟩)), (166, bs ((((((L)))).getD (j) ([], [])).1)), (167, bs (u)), (168, .bool (decide (((((((L)))).getD (j) ([], [])).1) < (u)))), (169, .bool (decide (((((((L)))).getD (j) ([], [])).1) < (u)))), (170, .bool (decide (((((((L)))).getD (j) ([], [])).1) < (u)))), (171, .int .i64 (getE ((((L)))) ((((a)))) ((((b)))) ((((((L)))).getD (j) ([], [])).1) (t))), (172, .bool (!(decide ((getE ((((L)))) ((((a)))) ((((b)))) ((((((L)))).getD (j) ([], [])).1) (t)) = (0))))), (173, .bool (false)), (174, .bool (decide (((((((L)))).getD (j) ([], [])).1) < (u)))), (175, .bool (!(decide (((((((L)))).getD (j) ([], [])).1) < (u))))), (176, .bool (!(decide (((((((L)))).getD (j) ([], [])).1) < (u)))))] (by kernel_rfl) (fun g324 => ?_)
                    refine wp_drawN hM250 [] no_held [] [0, 1, 2, 3, 4, 5, 6, 7, 8, 9, 10, 11, 12, 13, 14, 15, 16, 17] [] [.p 0, .p 1, .p 2, .p 3, .p 4, .p 5, .p 6, .p 7, .p 8, .p 9, .p 10, .p 11, .p 12, .p 13, .p 14, .p 15, .p 16, .p 17, .s] rfl (by kernel_rfl) (by kernel_rfl) ?_
                    refine h_seg 5 (by kernel_rfl) ?_
                    have h325 : (decide ((((scnR (L) (a) (b) (f) (u) (t) (-1)).length : Int)) ≤ ((q : Int)))) = false := by exact decide_eq_false (by have := hy.2.1; omega)
                    have p326 : ¬ ((((scnR (L) (a) (b) (f) (u) (t) (-1)).length : Int)) ≤ ((q : Int))) := of_decide_eq_false h325
                    refine h_slot 181 (.bool (decide ((((scnR (L) (a) (b) (f) (u) (t) (-1)).length : Int)) ≤ ((q : Int))))) (.bool false) (by kernel_rfl) (by kernel_rfl) (by rw [h325]) ?_
                    refine h_seg 2 (by kernel_rfl) ?_
                    refine gH_index (A := Ar110_1) (c := cr110_1) (r111.up ((((le120.trans le197).trans le209).trans le223).trans le245)) .i64 ((q : Int)) (h := (by kernel_rfl : opAt _ _ _ _ _ = some (.indexAddr 60 (.tmp 182) (.tmp 183), some 184))) (e := 93) (by kernel_rfl) (by kernel_rfl) (by kernel_rfl) (q) rfl (by omega) (fun b327 o328 at_b327 => ?_)
                    have c329 : V242 b327 o328 = some (bs ((scnR (L) (a) (b) (f) (u) (t) (-1)).getD (q) ([], [])).1) := (At.str (At.pr at_b327).1).1
                    have l330 : ((scnR (L) (a) (b) (f) (u) (t) (-1)).getD (q) ([], [])).1.length ≤ 140737488355328 := (At.str (At.pr at_b327).1).2
                    have c331 : V242 b327 (o328 + 1) = some (bs ((scnR (L) (a) (b) (f) (u) (t) (-1)).getD (q) ([], [])).2) := (At.str (At.pr at_b327).2).1
                    have l332 : ((scnR (L) (a) (b) (f) (u) (t) (-1)).getD (q) ([], [])).2.length ≤ 140737488355328 := (At.str (At.pr at_b327).2).2
                    refine gH (.load 93 (.tmp 184)) (some 185) (by kernel_rfl) (Y_loadS (b := b327) (off := o328) [bs (((scnR (L) (a) (b) (f) (u) (t) (-1)).getD (q) ([], [])).1), bs (((scnR (L) (a) (b) (f) (u) (t) (-1)).getD (q) ([], [])).2)] (cells2 c329 c331) (by kernel_rfl) (by kernel_rfl) (by kernel_rfl)) ?_
                    refine h_seg 2 (by kernel_rfl) ?_
                    refine gH_index (A := Ar212_1) (c := cr212_1) (r213.up (le223.trans le245)) .i64 ((j : Int)) (h := (by kernel_rfl : opAt _ _ _ _ _ = some (.indexAddr 46 (.tmp 186) (.tmp 187), some 188))) (e := 80) (by kernel_rfl) (by kernel_rfl) (by kernel_rfl) (j) rfl (by omega) (fun b333 o334 at_b333 => ?_)
                    have c335 : V242 b333 o334 = some (bs (((((L)))).getD (j) ([], [])).1) := (At.str (At.pr at_b333).1).1
                    have l336 : (((((L)))).getD (j) ([], [])).1.length ≤ 140737488355328 := (At.str (At.pr at_b333).1).2
                    obtain ⟨A337, c338, c339, r340⟩ := At.sl (At.pr at_b333).2
                    have c339 : V242 b333 (o334 + 1) = some (.slice A337 ((((((L)))).getD (j) ([], [])).2).length c338) := c339
                    have r340 : Rd (prK (intK .i64) (prK strK boolK)) V242 A337 c338 ((((((L)))).getD (j) ([], [])).2) := r340
                    have l341 : ((((((L)))).getD (j) ([], [])).2).length ≤ 140737488355328 := r340.max
                    refine h_seg 1 (by kernel_rfl) ?_
                    refine gH (.load 9 (.tmp 189)) (some 190) (by kernel_rfl) (Y_loadV c335 (by kernel_rfl) (by kernel_rfl)) ?_
                    refine h_seg 2 (by kernel_rfl) ?_
                    refine gH (.binOp .neq 93 (.tmp 185) (.tmp 192) 93) (some 193) (by kernel_rfl) (Y_neqSpan (((scnR (L) (a) (b) (f) (u) (t) (-1)).getD (q) ([], [])).1) (((scnR (L) (a) (b) (f) (u) (t) (-1)).getD (q) ([], [])).2) ((((((L)))).getD (j) ([], [])).1) (getS ((((L)))) ((((a)))) ((((b)))) ((((((L)))).getD (j) ([], [])).1) (t)) (by kernel_rfl) (by kernel_rfl) (by kernel_rfl)) ?_
                    refine h_seg 1 (by kernel_rfl) ?_
                    refine h_s no_fs ?_
                    refine h_n (fun w342 hM343 => ?_)
                    refine  (then_n (hK323 _ _ ?_))
                    have h344 : (sameP (((scnR (L) (a) (b) (f) (u) (t) (-1)).getD (q) ([], [])).1) (((scnR (L) (a) (b) (f) (u) (t) (-1)).getD (q) ([], [])).2) ((((((L)))).getD (j) ([], [])).1) (getS ((((L)))) ((((a)))) ((((b)))) ((((((L)))).getD (j) ([], [])).1) (t))) = true := by simp only [hy.2.2, sameP, decide_true, Bool.and_self]
                    refine wp_slot 194 (.bool (!(sameP (((scnR (L) (a) (b) (f) (u) (t) (-1)).getD (q) ([], [])).1) (((scnR (L) (a) (b) (f) (u) (t) (-1)).getD (q) ([], [])).2) ((((((L)))).getD (j) ([], [])).1) (getS ((((L)))) ((((a)))) ((((b)))) ((((((L)))).getD (j) ([], [])).1) (t))))) (.bool false) (by kernel_rfl) (by rw [(show (!(sameP (((scnR (L) (a) (b) (f) (u) (t) (-1)).getD (q) ([], [])).1) (((scnR (L) (a) (b) (f) (u) (t) (-1)).getD (q) ([], [])).2) ((((((L)))).getD (j) ([], [])).1) (getS ((((L)))) ((((a)))) ((((b)))) ((((((L)))).getD (j) ([], [])).1) (t)))) = false from by rw [h344]; rfl)]) ?_
                    refine wp_cf (by kernel_rfl) ?_
                    refine wp_skip (then_n (hK322 _ _ ?_))
                    refine wp_reg ?_
                    refine wpF_seg 1 (by kernel_rfl) ?_
                    refine gF hM343 (.binOp .add 3 (.tmp 195) (.const (.int .i64 1)) 3) (some 196) (by kernel_rfl) (Y_add .i64 ((q : Int)) (1) ((q : Int) + 1) (by kernel_rfl) (by kernel_rfl) (wrap64_ok _ (by omega))) ?_
                    refine wpF_seg 1 (by kernel_rfl) ?_
                    refine wpF_end _ (by kernel_rfl) (blk_n (then_n (hK229 _ _ ?_)))
                    refine wp_reg ?_
                    refine wpF_seg 1 (by kernel_rfl) ?_
                    refine gF hM343 (.binOp .add 3 (.tmp 138) (.const (.int .i64 1)) 3) (some 139) (by kernel_rfl) (Y_add .i64 ((j : Int)) (1) ((j : Int) + 1) (by kernel_rfl) (by kernel_rfl) (wrap64_ok _ (by omega))) ?_
                    refine wpF_seg 1 (by kernel_rfl) ?_
                    refine wpF_base [(1, bs (f)), (2, bs (u)), (3, .int .i64 (t)), (11, .pointer (some ⟨Ar_42bs11, 0, none⟩)), (17, .slice Ar110_1 (scnR (L) (a) (b) (f) (u) (t) (-1)).length cr110_1), (22, .int .i64 ((q + 1 : Int))), (23, .slice Ar212_1 ((((L)))).length cr212_1), (24, .int .i64 ((j + 1 : Int)))] (by kernel_rfl) (fun g345 => ?_)
                    refine wpF_end _ (by kernel_rfl) (then_n (hK224 _ _ (j + 1, q + 1) (by omega) ?_))
                    refine ⟨g345, V242, rfl, hM343, (le223.trans le245), ?_, ?_⟩
                    · -- fLfftLttfff inv 0
                      omega
                    · -- fLfftLttfff inv 1
                      exact hy.1
            · -- fLfftLtf
              have h346 : decide (((((((L)))).getD (j) ([], [])).1) < (f)) = true := by rw [← Bool.not_not (decide _), h261]; rfl
              have p347 : (((((((L)))).getD (j) ([], [])).1) < (f)) := of_decide_eq_true h346
              refine wpF_seg 13 (by kernel_rfl) ?_
              refine wpF_end _ (by kernel_rfl) (then_n (hK251 _ _ ?_))
              refine wp_seq_k (fun K348 hK348 => ?_)
              refine wp_seq_k (fun K349 hK349 => ?_)
              refine wp_reg ?_
              refine wpF_seg 3 (by kernel_rfl) ?_
              refine wpF_caseB 173 (!(decide ((getE ((((L)))) ((((a)))) ((((b)))) ((((((L)))).getD (j) ([], [])).1) (t)) = (0)))) (by kernel_rfl) (by kernel_rfl) (fun h350 => ?_) (fun h350 => ?_)
              · -- fLfftLtft
                have h351 : decide ((getE ((((L)))) ((((a)))) ((((b)))) ((((((L)))).getD (j) ([], [])).1) (t)) = (0)) = false := by rw [← Bool.not_not (decide _), h350]; rfl
                have p352 : ¬ ((getE ((((L)))) ((((a)))) ((((b)))) ((((((L)))).getD (j) ([], [])).1) (t)) = (0)) := of_decide_eq_false h351
                refine wpF_seg 3 (by kernel_rfl) ?_
                refine wpF_end _ (by kernel_rfl) (then_n (hK349 _ _ ?_))
                refine wp_ct (by kernel_rfl) ?_
                refine wp_exit (then_x (blk_hit (then_n (hK229 _ _ ?_))))
                refine wp_reg ?_
                refine wpF_seg 1 (by kernel_rfl) ?_
                refine gF hM250 (.binOp .add 3 (.tmp 138) (.const (.int .i64 1)) 3) (some 139) (by kernel_rfl) (Y_add .i64 ((j : Int)) (1) ((j : Int) + 1) (by kernel_rfl) (by kernel_rfl) (wrap64_ok _ (by omega))) ?_
                refine wpF_seg 1 (by kernel_rfl) ?_
                refine wpF_base [(1, bs (f)), (2, bs (u)), (3, .int .i64 (t)), (11, .pointer (some ⟨Ar_42bs11, 0, none⟩)), (17, .slice Ar110_1 (scnR (L) (a) (b) (f) (u) (t) (-1)).length cr110_1), (22, .int .i64 ((q : Int))), (23, .slice Ar212_1 ((((L)))).length cr212_1), (24, .int .i64 ((j + 1 : Int)))] (by kernel_rfl) (fun g353 => ?_)
                refine wpF_end _ (by kernel_rfl) (then_n (hK224 _ _ (j + 1, q) (by omega) ?_))
                refine ⟨g353, V242, rfl, hM250, (le223.trans le245), ?_, ?_⟩
                · -- fLfftLtft inv 0
                  omega
                · -- fLfftLtft inv 1
                  exact atN_no hk0 hup (by omega) (by assumption) (by first | exact .inl (by assumption) | exact .inr (fun hw => hw.1 (by assumption)) | exact .inr (fun hw => hw.2.elim (by assumption) (by assumption)))
              · -- fLfftLtff
                have h354 : decide ((getE ((((L)))) ((((a)))) ((((b)))) ((((((L)))).getD (j) ([], [])).1) (t)) = (0)) = true := by rw [← Bool.not_not (decide _), h350]; rfl
                have p355 : ((getE ((((L)))) ((((a)))) ((((b)))) ((((((L)))).getD (j) ([], [])).1) (t)) = (0)) := of_decide_eq_true h354
                refine wpF_seg 3 (by kernel_rfl) ?_
                refine wpF_end _ (by kernel_rfl) (then_n (hK349 _ _ ?_))
                refine wp_ct (by kernel_rfl) ?_
                refine wp_exit (then_x (blk_hit (then_n (hK229 _ _ ?_))))
                refine wp_reg ?_
                refine wpF_seg 1 (by kernel_rfl) ?_
                refine gF hM250 (.binOp .add 3 (.tmp 138) (.const (.int .i64 1)) 3) (some 139) (by kernel_rfl) (Y_add .i64 ((j : Int)) (1) ((j : Int) + 1) (by kernel_rfl) (by kernel_rfl) (wrap64_ok _ (by omega))) ?_
                refine wpF_seg 1 (by kernel_rfl) ?_
                refine wpF_base [(1, bs (f)), (2, bs (u)), (3, .int .i64 (t)), (11, .pointer (some ⟨Ar_42bs11, 0, none⟩)), (17, .slice Ar110_1 (scnR (L) (a) (b) (f) (u) (t) (-1)).length cr110_1), (22, .int .i64 ((q : Int))), (23, .slice Ar212_1 ((((L)))).length cr212_1), (24, .int .i64 ((j + 1 : Int)))] (by kernel_rfl) (fun g356 => ?_)
                refine wpF_end _ (by kernel_rfl) (then_n (hK224 _ _ (j + 1, q) (by omega) ?_))
                refine ⟨g356, V242, rfl, hM250, (le223.trans le245), ?_, ?_⟩
                · -- fLfftLtff inv 0
                  omega
                · -- fLfftLtff inv 1
                  exact atN_no hk0 hup (by omega) (by assumption) (by first | exact .inl (by assumption) | exact .inr (fun hw => hw.1 (by assumption)) | exact .inr (fun hw => hw.2.elim (by assumption) (by assumption)))
          · -- fLfftLf
            have p357 : ¬ (((j : Int)) < ((((((L)))).length : Int))) := of_decide_eq_false h227
            refine wp_exit (then_x (then_x (blk_hit (then_n (hK216 _ _ ?_)))))
            obtain rfl : j = L.length := by omega
            refine wp_seq_k (fun K358 hK358 => ?_)
            refine wp_reg ?_
            refine wpF_seg 5 (by kernel_rfl) ?_
            have h359 : (decide (((q : Int)) = (((scnR (L) (a) (b) (f) (u) (t) (-1)).length : Int)))) = true := by refine decide_eq_true ?_; rw [(by assumption : q = atN L t f u L.length), atN_end hk0 hup]
            have p360 : (((q : Int)) = (((scnR (L) (a) (b) (f) (u) (t) (-1)).length : Int))) := of_decide_eq_true h359
            refine wpF_slot 201 (.bool (decide (((q : Int)) = (((scnR (L) (a) (b) (f) (u) (t) (-1)).length : Int))))) (.bool true) (by kernel_rfl) (by kernel_rfl) (by rw [h359]) ?_
            refine wpF_callP hM222 (f := 34) (caps := #[]) (h := (by kernel_rfl : opAt _ _ _ _ _ = some (.call (.mk (.value (.func 34)) #[] #[]), some 202))) (by kernel_rfl) (by kernel_rfl) (by kernel_rfl) (f34 _ _ hM222.inW ) (fun v361 V362 w363 le364 hM365 hp366 => ?_)
            obtain rfl := hp366
            refine wpF_seg 2 (by kernel_rfl) ?_
            refine wpF_end _ (by kernel_rfl) (then_n (hK358 _ _ ?_))
            refine wp_ret ?_
            refine retN [.bool (true)] (.bool (true)) Try.results12 (.tmp (by kernel_rfl) (by kernel_rfl) .nil) (by kernel_rfl) (hRet _ _ ⟨_, _, rfl, hM365.clear, ?_⟩)
            -- end fLfftLf
            rfl
        · -- fLfff
          have p367 : ¬ ((0) ≤ (n)) := of_decide_eq_false h185
          refine wp_skip (then_n (hK183 _ _ ?_))
          refine wp_seq_k (fun K368 hK368 => ?_)
          refine wp_seq_k (fun K369 hK369 => ?_)
          refine wp_reg ?_
          refine wpF_seg 5 (by kernel_rfl) ?_
          have h370 : (decide ((((scnR ((L)) ((a)) ((b)) (f) (u) (t) (n)).length : Int)) = (((scnR (L) (a) (b) (f) (u) (t) (-1)).length : Int)))) = true := by first | exact decide_eq_true (scn_min (by omega)).symm | (refine decide_eq_true ?_; rw [scn_neg (by omega)])
          have p371 : ((((scnR ((L)) ((a)) ((b)) (f) (u) (t) (n)).length : Int)) = (((scnR (L) (a) (b) (f) (u) (t) (-1)).length : Int))) := of_decide_eq_true h370
          refine wpF_slot 124 (.bool (!(decide ((((scnR ((L)) ((a)) ((b)) (f) (u) (t) (n)).length : Int)) = (((scnR (L) (a) (b) (f) (u) (t) (-1)).length : Int)))))) (.bool false) (by kernel_rfl) (by kernel_rfl) (by rw [(show (!(decide ((((scnR ((L)) ((a)) ((b)) (f) (u) (t) (n)).length : Int)) = (((scnR (L) (a) (b) (f) (u) (t) (-1)).length : Int))))) = false from by rw [h370]; rfl)]) ?_
          refine wpF_seg 3 (by kernel_rfl) ?_
          refine gF_slice (A := Ar110_1) (c := cr110_1) (r111.up le120) (h := (by kernel_rfl : opAt _ _ _ _ _ = some (.slice 60 (.tmp 126) none (some (.tmp 127)) none, some 128))) (e := 93) (by kernel_rfl) (by kernel_rfl) (0) ((scnR (L) (a) (b) (f) (u) (t) (-1)).length) rfl ⟨.i64, by kernel_rfl⟩ (by omega) (by omega) ((scnR (L) (a) (b) (f) (u) (t) (-1)).take ((scnR (L) (a) (b) (f) (u) (t) (-1)).length)) (by simp) (fun A372 c373 r374 => ?_)
          refine wpF_callP hM125 (f := 38) (caps := #[]) (h := (by kernel_rfl : opAt _ _ _ _ _ = some (.call (.mk (.value (.func 38)) #[(.tmp 125), (.tmp 128)] #[60, 60]), some 129))) (by kernel_rfl) (by kernel_rfl) (by kernel_rfl) (f38 _ _ hM125.inW Ar123_1 cr123_1 (scnR ((L)) ((a)) ((b)) (f) (u) (t) (n)) r124 A372 c373 ((scnR (L) (a) (b) (f) (u) (t) (-1)).take ((scnR (L) (a) (b) (f) (u) (t) (-1)).length)) r374) (fun v375 V376 w377 le378 hM379 hp380 => ?_)
          obtain rfl := hp380
          refine wpF_seg 2 (by kernel_rfl) ?_
          refine wpF_end _ (by kernel_rfl) (then_n (hK369 _ _ ?_))
          have h381 : (decide ((scnR ((L)) ((a)) ((b)) (f) (u) (t) (n)) = ((scnR (L) (a) (b) (f) (u) (t) (-1)).take ((scnR (L) (a) (b) (f) (u) (t) (-1)).length)))) = true := by first | (refine decide_eq_true ?_; rw [scn_min (by omega), Int.toNat_natCast]; exact scn_take) | (refine decide_eq_true ?_; rw [scn_neg (by omega), List.take_length])
          have p382 : ((scnR ((L)) ((a)) ((b)) (f) (u) (t) (n)) = ((scnR (L) (a) (b) (f) (u) (t) (-1)).take ((scnR (L) (a) (b) (f) (u) (t) (-1)).length))) := of_decide_eq_true h381
          refine wp_slot 131 (.bool (!(decide ((scnR ((L)) ((a)) ((b)) (f) (u) (t) (n)) = ((scnR (L) (a) (b) (f) (u) (t) (-1)).take ((scnR (L) (a) (b) (f) (u) (t) (-1)).length)))))) (.bool false) (by kernel_rfl) (by rw [(show (!(decide ((scnR ((L)) ((a)) ((b)) (f) (u) (t) (n)) = ((scnR (L) (a) (b) (f) (u) (t) (-1)).take ((scnR (L) (a) (b) (f) (u) (t) (-1)).length))))) = false from by rw [h381]; rfl)]) ?_
          refine wp_cf (by kernel_rfl) ?_
          refine wp_skip (then_n (hK368 _ _ ?_))
          refine wp_seq_k (fun K383 hK383 => ?_)
          refine wp_reg ?_
          refine wpF_seg 1 (by kernel_rfl) ?_
          refine wpF_end _ (by kernel_rfl) (then_n (hK383 _ _ ?_))
          refine wp_seq_k (fun K384 hK384 => ?_)
          refine wp_reg ?_
          refine wpF_seg 1 (by kernel_rfl) ?_
          have hM385 := hM379.front 0 rfl
          have hM393 : Step V w [] V376 _ ([spE Ar_42bs11 Ar_42s11 cr_42s11 Ar_42ms11 (((L))) (((a))) (((b))), .blk b31 (.cells #[.slice Ar_42fc12_0 (L).length cr_42fc12_0, .int .i64 (a), .int .i64 (b)] 50)]) := hM385
          refine wpF_callE [spE Ar_42bs11 Ar_42s11 cr_42s11 Ar_42ms11 (((L))) (((a))) (((b)))] ([.blk b31 (.cells #[.slice Ar_42fc12_0 (L).length cr_42fc12_0, .int .i64 (a), .int .i64 (b)] 50)]) hM393 (f := 44) (caps := #[]) (h := (by kernel_rfl : opAt _ _ _ _ _ = some (.call (.mk (.value (.func 44)) #[(.tmp 132)] #[53]), some 133))) (by kernel_rfl) (by kernel_rfl) (by kernel_rfl) (f44 _ _ Ar_42bs11 Ar_42s11 cr_42s11 Ar_42ms11 (((L))) (((a))) (((b))) (St.part (E := [spE Ar_42bs11 Ar_42s11 cr_42s11 Ar_42ms11 (((L))) (((a))) (((b)))]) (F := ([.blk b31 (.cells #[.slice Ar_42fc12_0 (L).length cr_42fc12_0, .int .i64 (a), .int .i64 (b)] 50)])) hM393.ok) (by omega) (by exact fun y => Nat.le_trans (hgn.2.2 y) (by omega))) (fun v386 V387 w388 Eo389 le390 hM391 hp392 => ?_)
          obtain ⟨Ar393_1, cr393_1, rfl, rfl, r394⟩ := hp392
          have hM395 : Step V w [] V387 _ ([spE Ar_42bs11 Ar_42s11 cr_42s11 Ar_42ms11 ((((L)))) ((((a)))) ((((b)))), .blk b31 (.cells #[.slice Ar_42fc12_0 (L).length cr_42fc12_0, .int .i64 (a), .int .i64 (b)] 50)]) := hM391
          have l396 : ((((L)))).length ≤ 140737488355328 := r394.max
          refine wpF_seg 1 (by kernel_rfl) ?_
          refine wpF_end _ (by kernel_rfl) (then_n (hK384 _ _ ?_))
          refine wp_seq_k (fun K397 hK397 => ?_)
          refine wp_seq_k (fun K398 hK398 => ?_)
          refine wp_reg ?_
          refine wpF_seg 1 (by kernel_rfl) ?_
          refine wpF_end _ (by kernel_rfl) (then_n (hK398 _ _ ?_))
          refine wp_block ?_
          refine wp_base [(1, bs (f)), (2, bs (u)), (3, .int .i64 (t)), (11, .pointer (some ⟨Ar_42bs11, 0, none⟩)), (17, .slice Ar110_1 (scnR (L) (a) (b) (f) (u) (t) (-1)).length cr110_1), (22, .int .i64 ((0 : Int))), (23, .slice Ar393_1 ((((L)))).length cr393_1), (24, .int .i64 ((0 : Int)))] (by kernel_rfl) (fun g400 => ?_)
          refine wp_loopX (fun (x_ : Nat × Nat) a_ w_ => ∃ (g : Nat → Value) (V_ : VT), a_ = env [] 204 [(1, bs (f)), (2, bs (u)), (3, .int .i64 (t)), (11, .pointer (some ⟨Ar_42bs11, 0, none⟩)), (17, .slice Ar110_1 (scnR (L) (a) (b) (f) (u) (t) (-1)).length cr110_1), (22, .int .i64 ((x_.2 : Int))), (23, .slice Ar393_1 ((((L)))).length cr393_1), (24, .int .i64 ((x_.1 : Int)))] g ∧ Step V w [] V_ w_ [spE Ar_42bs11 Ar_42s11 cr_42s11 Ar_42ms11 ((((L)))) ((((a)))) ((((b)))), .blk b31 (.cells #[.slice Ar_42fc12_0 (L).length cr_42fc12_0, .int .i64 (a), .int .i64 (b)] 50)] ∧ VT.le V387 V_ ∧ (x_.1 ≤ L.length) ∧ (x_.2 = atN L t f u (x_.1))) (fun (x_ : Nat × Nat) => L.length - x_.1) ((0 : Nat), (0 : Nat)) ⟨g400, V387, rfl, hM395, VT.le.refl _, by omega, by rfl⟩ ?_
          rintro ⟨j, q⟩ a_ w402 ⟨g401, Vl399, rfl, hM403, le404, hi405_0, hi405_1⟩ K405 hK405
          refine wp_seq_k (fun K406 hK406 => ?_)
          refine wp_seq_k (fun K407 hK407 => ?_)
          refine wp_reg ?_
          refine wpF_seg 4 (by kernel_rfl) ?_
          refine wpF_end _ (by kernel_rfl) (then_n (hK407 _ _ ?_))
          refine wp_if (decide (((j : Int)) < ((((((L)))).length : Int)))) (by kernel_rfl) (fun h408 => ?_) (fun h408 => ?_)
          · -- fLfffLt
            have p409 : (((j : Int)) < ((((((L)))).length : Int))) := of_decide_eq_true h408
            refine wp_skip (then_n (hK406 _ _ ?_))
            refine wp_seq_k (fun K410 hK410 => ?_)
            refine wp_block ?_
            refine wp_seq_k (fun K411 hK411 => ?_)
            refine wp_reg ?_
            refine wpF_seg 3 (by kernel_rfl) ?_
            refine gF_index (A := Ar393_1) (c := cr393_1) (r394.up le404) .i64 ((j : Int)) (h := (by kernel_rfl : opAt _ _ _ _ _ = some (.indexAddr 46 (.tmp 142) (.tmp 143), some 144))) (e := 80) (by kernel_rfl) (by kernel_rfl) (by kernel_rfl) (j) rfl (by omega) (fun b412 o413 at_b412 => ?_)
            have c414 : Vl399 b412 o413 = some (bs (((((L)))).getD (j) ([], [])).1) := (At.str (At.pr at_b412).1).1
            have l415 : (((((L)))).getD (j) ([], [])).1.length ≤ 140737488355328 := (At.str (At.pr at_b412).1).2
            obtain ⟨A416, c417, c418, r419⟩ := At.sl (At.pr at_b412).2
            have c418 : Vl399 b412 (o413 + 1) = some (.slice A416 ((((((L)))).getD (j) ([], [])).2).length c417) := c418
            have r419 : Rd (prK (intK .i64) (prK strK boolK)) Vl399 A416 c417 ((((((L)))).getD (j) ([], [])).2) := r419
            have l420 : ((((((L)))).getD (j) ([], [])).2).length ≤ 140737488355328 := r419.max
            refine wpF_seg 1 (by kernel_rfl) ?_
            refine gF hM403 (.load 9 (.tmp 145)) (some 146) (by kernel_rfl) (Y_loadV c414 (by kernel_rfl) (by kernel_rfl)) ?_
            refine wpF_seg 1 (by kernel_rfl) ?_
            have hM421 := hM403.front 0 rfl
            have hM429 : Step V w [] Vl399 _ ([spE Ar_42bs11 Ar_42s11 cr_42s11 Ar_42ms11 ((((L)))) ((((a)))) ((((b)))), .blk b31 (.cells #[.slice Ar_42fc12_0 (L).length cr_42fc12_0, .int .i64 (a), .int .i64 (b)] 50)]) := hM421
            refine wpF_callE [spE Ar_42bs11 Ar_42s11 cr_42s11 Ar_42ms11 ((((L)))) ((((a)))) ((((b))))] ([.blk b31 (.cells #[.slice Ar_42fc12_0 (L).length cr_42fc12_0, .int .i64 (a), .int .i64 (b)] 50)]) hM429 (f := 40) (caps := #[]) (h := (by kernel_rfl : opAt _ _ _ _ _ = some (.call (.mk (.value (.func 40)) #[(.tmp 141), (.tmp 146), (.tmp 147)] #[53, 9, 3]), some 148))) (by kernel_rfl) (by kernel_rfl) (by kernel_rfl) (f40 _ _ Ar_42bs11 Ar_42s11 cr_42s11 Ar_42ms11 ((((L)))) ((((a)))) ((((b)))) ((((((L)))).getD (j) ([], [])).1) (l415) (t) (St.part (E := [spE Ar_42bs11 Ar_42s11 cr_42s11 Ar_42ms11 ((((L)))) ((((a)))) ((((b))))]) (F := ([.blk b31 (.cells #[.slice Ar_42fc12_0 (L).length cr_42fc12_0, .int .i64 (a), .int .i64 (b)] 50)])) hM429.ok)) (fun v422 V423 w424 Eo425 le426 hM427 hp428 => ?_)
            obtain ⟨rfl, rfl, x430⟩ := hp428
            have hM431 : Step V w [] V423 _ ([spE Ar_42bs11 Ar_42s11 cr_42s11 Ar_42ms11 (((((L))))) (((((a))))) (((((b))))), .blk b31 (.cells #[.slice Ar_42fc12_0 (L).length cr_42fc12_0, .int .i64 (a), .int .i64 (b)] 50)]) := hM427
            have x430 : (getS ((((L)))) ((((a)))) ((((b)))) ((((((L)))).getD (j) ([], [])).1) (t)).length ≤ 140737488355328 := x430
            refine wpF_seg 5 (by kernel_rfl) ?_
            refine wpF_end _ (by kernel_rfl) (then_n (hK411 _ _ ?_))
            refine wp_seq_k (fun K432 hK432 => ?_)
            refine wp_reg ?_
            refine wpF_seg 2 (by kernel_rfl) ?_
            refine gF_index (A := Ar393_1) (c := cr393_1) (r394.up (le404.trans le426)) .i64 ((j : Int)) (h := (by kernel_rfl : opAt _ _ _ _ _ = some (.indexAddr 46 (.tmp 151) (.tmp 152), some 153))) (e := 80) (by kernel_rfl) (by kernel_rfl) (by kernel_rfl) (j) rfl (by omega) (fun b433 o434 at_b433 => ?_)
            have c435 : V423 b433 o434 = some (bs (((((L)))).getD (j) ([], [])).1) := (At.str (At.pr at_b433).1).1
            have l436 : (((((L)))).getD (j) ([], [])).1.length ≤ 140737488355328 := (At.str (At.pr at_b433).1).2
            obtain ⟨A437, c438, c439, r440⟩ := At.sl (At.pr at_b433).2
            have c439 : V423 b433 (o434 + 1) = some (.slice A437 ((((((L)))).getD (j) ([], [])).2).length c438) := c439
            have r440 : Rd (prK (intK .i64) (prK strK boolK)) V423 A437 c438 ((((((L)))).getD (j) ([], [])).2) := r440
            have l441 : ((((((L)))).getD (j) ([], [])).2).length ≤ 140737488355328 := r440.max
            refine wpF_seg 1 (by kernel_rfl) ?_
            refine gF hM431 (.load 9 (.tmp 154)) (some 155) (by kernel_rfl) (Y_loadV c435 (by kernel_rfl) (by kernel_rfl)) ?_
            refine wpF_seg 3 (by kernel_rfl) ?_
            refine wpF_caseB 158 (!(decide (((((((L)))).getD (j) ([], [])).1) < (f)))) (by kernel_rfl) (by kernel_rfl) (fun h442 => ?_) (fun h442 => ?_)
            · -- fLfffLtt
              have h443 : decide (((((((L)))).getD (j) ([], [])).1) < (f)) = false := by rw [← Bool.not_not (decide _), h442]; rfl
              have p444 : ¬ (((((((L)))).getD (j) ([], [])).1) < (f)) := of_decide_eq_false h443
              refine wpF_seg 3 (by kernel_rfl) ?_
              refine wpF_caseB 161 (decide ((u) = ([]))) (by kernel_rfl) (by kernel_rfl) (fun h445 => ?_) (fun h445 => ?_)
              · -- fLfffLttt
                have p446 : ((u) = ([])) := of_decide_eq_true h445
                refine wpF_seg 10 (by kernel_rfl) ?_
                refine wpF_end _ (by kernel_rfl) (then_n (hK432 _ _ ?_))
                refine wp_seq_k (fun K447 hK447 => ?_)
                refine wp_seq_k (fun K448 hK448 => ?_)
                refine wp_reg ?_
                refine wpF_seg 3 (by kernel_rfl) ?_
                refine wpF_caseB 173 (!(decide ((getE ((((L)))) ((((a)))) ((((b)))) ((((((L)))).getD (j) ([], [])).1) (t)) = (0)))) (by kernel_rfl) (by kernel_rfl) (fun h449 => ?_) (fun h449 => ?_)
                · -- fLfffLtttt
                  have h450 : decide ((getE ((((L)))) ((((a)))) ((((b)))) ((((((L)))).getD (j) ([], [])).1) (t)) = (0)) = false := by rw [← Bool.not_not (decide _), h449]; rfl
                  have p451 : ¬ ((getE ((((L)))) ((((a)))) ((((b)))) ((((((L)))).getD (j) ([], [])).1) (t)) = (0)) := of_decide_eq_false h450
                  refine wpF_seg 3 (by kernel_rfl) ?_
                  refine wpF_end _ (by kernel_rfl) (then_n (hK448 _ _ ?_))
                  refine wp_ct (by kernel_rfl) ?_
                  refine wp_exit (then_x (blk_hit (then_n (hK410 _ _ ?_))))
                  refine wp_reg ?_
                  refine wpF_seg 1 (by kernel_rfl) ?_
                  refine gF hM431 (.binOp .add 3 (.tmp 138) (.const (.int .i64 1)) 3) (some 139) (by kernel_rfl) (Y_add .i64 ((j : Int)) (1) ((j : Int) + 1) (by kernel_rfl) (by kernel_rfl) (wrap64_ok _ (by omega))) ?_
                  refine wpF_seg 1 (by kernel_rfl) ?_
                  refine wpF_base [(1, bs (f)), (2, bs (u)), (3, .int .i64 (t)), (11, .pointer (some ⟨Ar_42bs11, 0, none⟩)), (17, .slice Ar110_1 (scnR (L) (a) (b) (f) (u) (t) (-1)).length cr110_1), (22, .int .i64 ((q : Int))), (23, .slice Ar393_1 ((((L)))).length cr393_1), (24, .int .i64 ((j + 1 : Int)))] (by kernel_rfl) (fun g452 => ?_)
                  refine wpF_end _ (by kernel_rfl) (then_n (hK405 _ _ (j + 1, q) (by omega) ?_))
                  refine ⟨g452, V423, rfl, hM431, (le404.trans le426), ?_, ?_⟩
                  · -- fLfffLtttt inv 0
                    omega
                  · -- fLfffLtttt inv 1
                    exact atN_no hk0 hup (by omega) (by assumption) (by first | exact .inl (by assumption) | exact .inr (fun hw => hw.1 (by assumption)) | exact .inr (fun hw => hw.2.elim (by assumption) (by assumption)))
                · -- fLfffLtttf
                  have h453 : decide ((getE ((((L)))) ((((a)))) ((((b)))) ((((((L)))).getD (j) ([], [])).1) (t)) = (0)) = true := by rw [← Bool.not_not (decide _), h449]; rfl
                  have p454 : ((getE ((((L)))) ((((a)))) ((((b)))) ((((((L)))).getD (j) ([], [])).1) (t)) = (0)) := of_decide_eq_true h453
                  have hy := atN_yes (k := j) (q := q) hk0 hup (by omega) (by assumption) (by assumption) ⟨by assumption, by first | exact .inl (by assumption) | exact .inr (by assumption)⟩
                  refine wpF_seg 3 (by kernel_rfl) ?_
                  refine wpF_end _ (by kernel_rfl) (then_n (hK448 _ _ ?_))
                  refine wp_cf (by kernel_rfl) ?_
                  refine wp_skip (then_n (hK447 _ _ ?_))
                  refine wp_seq_k (fun K455 hK455 => ?_)
                  refine wp_seq_k (fun K456 hK456 => ?_)
                  refine wp_base [(1, bs (f)), (2, bs (u)), (3, .int .i64 (t)), (11, .pointer (some ⟨Ar_42bs11, 0, none⟩)), (17, .slice Ar110_1 (scnR (L) (a) (b) (f) (u) (t) (-1)).length cr110_1), (22, .int .i64 ((q : Int))), (23, .slice Ar393_1 ((((L)))).length cr393_1), (24, .int .i64 ((j : Int))), (25, bs (getS ((((L)))) ((((a)))) ((((b)))) ((((((L)))).getD (j) ([], [])).1) (t))), (26, .int .i64 (getE ((((L)))) ((((a)))) ((((b)))) ((((((L)))).getD (j) ([], [])).1) (t))), (27, .bool (true)), (134, .int .i64 ((j : Int))), (135, .slice Ar393_1 ((((L)))).length cr393_1), (136, .int .i64 ((((((L)))).length : Int))), (137, .bool (decide (((j : Int)) < ((((((L)))).length : Int))))), (140, .tuple #[bs (getS ((((L)))) ((((a)))) ((((b)))) ((((((L)))).getD (j) ([], [])).1) (t)), .int .i64 (getE ((((L)))) ((((a)))) ((((b)))) ((((((L)))).getD (j) ([], [])).1) (t))]), (141, .pointer (some ⟨Ar_42bs11, 0, none⟩)), (142, .slice Ar393_1 ((((L)))).length cr393_1), (143, .int .i64 ((j : Int))), (144, .pointer (some ⟨b412, o413, none⟩)), (145, .pointer (some ⟨b412, o413, none⟩)), (146, bs ((((((L)))).getD (j) ([], [])).1)), (147, .int .i64 (t)), (148, .tuple #[bs (getS ((((L)))) ((((a)))) ((((b)))) ((((((L)))).getD (j) ([], [])).1) (t)), .int .i64 (getE ((((L)))) ((((a)))) ((((b)))) ((((((L)))).getD (j) ([], [])).1) (t))]), (149, bs (getS ((((L)))) ((((a)))) ((((b)))) ((((((L)))).getD (j) ([], [])).1) (t))), (150, .int .i64 (getE ((((L)))) ((((a)))) ((((b)))) ((((((L)))).getD (j) ([], [])).1) (t))), (151, .slice Ar393_1 ((((L)))).length cr393_1), (152, .int .i64 ((j : Int))), (153, .pointer (some ⟨b433, o434, none⟩)), (154, .pointer (some ⟨b433, o434, none⟩)), (155, bs ((((((L)))).getD (j) ([], [])).1)), (156, bs (f)), (157, .bool (!(decide (((((((L)))).getD (j) ([], [])).1) < (f))))), (158, .bool (true)), (159, bs (u)), (160, .bool (decide ((u) = ([])))), (161, .bool (true)), (169, .bool (true)), (170, .bool (true)), (171, .int .i64 (getE ((((L)))) ((((a)))) ((((b)))) ((((((L)))).getD (j) ([], [])).1) (t))), (172, .bool (!(decide ((getE ((((L)))) ((((a)))) ((((b)))) ((((((L)))).getD (j) ([], [])).1) (t)) = (0))))), (173, .bool (false)), (174, .bool (true)), (175, .bool (false)), (176, .bool (false))] (by kernel_rfl) (fun g457 => ?_)
                  refine wp_drawN hM431 [] no_held [] [0, 1, 2, 3, 4, 5, 6, 7, 8, 9, 10, 11, 12, 13, 14, 15, 16, 17] [] [.p 0, .p 1, .p 2, .p 3, .p 4, .p 5, .p 6, .p 7, .p 8, .p 9, .p 10, .p 11, .p 12, .p 13, .p 14, .p 15, .p 16, .p 17, .s] rfl (by kernel_rfl) (by kernel_rfl) ?_
                  refine h_seg 5 (by kernel_rfl) ?_
                  have h458 : (decide ((((scnR (L) (a) (b) (f) (u) (t) (-1)).length : Int)) ≤ ((q : Int)))) = false := by exact decide_eq_false (by have := hy.2.1; omega)
                  have p459 : ¬ ((((scnR (L) (a) (b) (f) (u) (t) (-1)).length : Int)) ≤ ((q : Int))) := of_decide_eq_false h458
                  refine h_slot 181 (.bool (decide ((((scnR (L) (a) (b) (f) (u) (t) (-1)).length : Int)) ≤ ((q : Int))))) (.bool false) (by kernel_rfl) (by kernel_rfl) (by rw [h458]) ?_
                  refine h_seg 2 (by kernel_rfl) ?_
                  refine gH_index (A := Ar110_1) (c := cr110_1) (r111.up ((((le120.trans le378).trans le390).trans le404).trans le426)) .i64 ((q : Int)) (h := (by kernel_rfl : opAt _ _ _ _ _ = some (.indexAddr 60 (.tmp 182) (.tmp 183), some 184))) (e := 93) (by kernel_rfl) (by kernel_rfl) (by kernel_rfl) (q) rfl (by omega) (fun b460 o461 at_b460 => ?_)
                  have c462 : V423 b460 o461 = some (bs ((scnR (L) (a) (b) (f) (u) (t) (-1)).getD (q) ([], [])).1) := (At.str (At.pr at_b460).1).1
                  have l463 : ((scnR (L) (a) (b) (f) (u) (t) (-1)).getD (q) ([], [])).1.length ≤ 140737488355328 := (At.str (At.pr at_b460).1).2
                  have c464 : V423 b460 (o461 + 1) = some (bs ((scnR (L) (a) (b) (f) (u) (t) (-1)).getD (q) ([], [])).2) := (At.str (At.pr at_b460).2).1
                  have l465 : ((scnR (L) (a) (b) (f) (u) (t) (-1)).getD (q) ([], [])).2.length ≤ 140737488355328 := (At.str (At.pr at_b460).2).2
                  refine gH (.load 93 (.tmp 184)) (some 185) (by kernel_rfl) (Y_loadS (b := b460) (off := o461) [bs (((scnR (L) (a) (b) (f) (u) (t) (-1)).getD (q) ([], [])).1), bs (((scnR (L) (a) (b) (f) (u) (t) (-1)).getD (q) ([], [])).2)] (cells2 c462 c464) (by kernel_rfl) (by kernel_rfl) (by kernel_rfl)) ?_
                  refine h_seg 2 (by kernel_rfl) ?_
                  refine gH_index (A := Ar393_1) (c := cr393_1) (r394.up (le404.trans le426)) .i64 ((j : Int)) (h := (by kernel_rfl : opAt _ _ _ _ _ = some (.indexAddr 46 (.tmp 186) (.tmp 187), some 188))) (e := 80) (by kernel_rfl) (by kernel_rfl) (by kernel_rfl) (j) rfl (by omega) (fun b466 o467 at_b466 => ?_)
                  have c468 : V423 b466 o467 = some (bs (((((L)))).getD (j) ([], [])).1) := (At.str (At.pr at_b466).1).1
                  have l469 : (((((L)))).getD (j) ([], [])).1.length ≤ 140737488355328 := (At.str (At.pr at_b466).1).2
                  obtain ⟨A470, c471, c472, r473⟩ := At.sl (At.pr at_b466).2
                  have c472 : V423 b466 (o467 + 1) = some (.slice A470 ((((((L)))).getD (j) ([], [])).2).length c471) := c472
                  have r473 : Rd (prK (intK .i64) (prK strK boolK)) V423 A470 c471 ((((((L)))).getD (j) ([], [])).2) := r473
                  have l474 : ((((((L)))).getD (j) ([], [])).2).length ≤ 140737488355328 := r473.max
                  refine h_seg 1 (by kernel_rfl) ?_
                  refine gH (.load 9 (.tmp 189)) (some 190) (by kernel_rfl) (Y_loadV c468 (by kernel_rfl) (by kernel_rfl)) ?_
                  refine h_seg 2 (by kernel_rfl) ?_
                  refine gH (.binOp .neq 93 (.tmp 185) (.tmp 192) 93) (some 193) (by kernel_rfl) (Y_neqSpan (((scnR (L) (a) (b) (f) (u) (t) (-1)).getD (q) ([], [])).1) (((scnR (L) (a) (b) (f) (u) (t) (-1)).getD (q) ([], [])).2) ((((((L)))).getD (j) ([], [])).1) (getS ((((L)))) ((((a)))) ((((b)))) ((((((L)))).getD (j) ([], [])).1) (t)) (by kernel_rfl) (by kernel_rfl) (by kernel_rfl)) ?_
                  refine h_seg 1 (by kernel_rfl) ?_
                  refine h_s no_fs ?_
                  refine h_n (fun w475 hM476 => ?_)
                  refine  (then_n (hK456 _ _ ?_))
                  have h477 : (sameP (((scnR (L) (a) (b) (f) (u) (t) (-1)).getD (q) ([], [])).1) (((scnR (L) (a) (b) (f) (u) (t) (-1)).getD (q) ([], [])).2) ((((((L)))).getD (j) ([], [])).1) (getS ((((L)))) ((((a)))) ((((b)))) ((((((L)))).getD (j) ([], [])).1) (t))) = true := by simp only [hy.2.2, sameP, decide_true, Bool.and_self]
                  refine wp_slot 194 (.bool (!(sameP (((scnR (L) (a) (b) (f) (u) (t) (-1)).getD (q) ([], [])).1) (((scnR (L) (a) (b) (f) (u) (t) (-1)).getD (q) ([], [])).2) ((((((L)))).getD (j) ([], [])).1) (getS ((((L)))) ((((a)))) ((((b)))) ((((((L)))).getD (j) ([], [])).1) (t))))) (.bool false) (by kernel_rfl) (by rw [(show (!(sameP (((scnR (L) (a) (b) (f) (u) (t) (-1)).getD (q) ([], [])).1) (((scnR (L) (a) (b) (f) (u) (t) (-1)).getD (q) ([], [])).2) ((((((L)))).getD (j) ([], [])).1) (getS ((((L)))) ((((a)))) ((((b)))) ((((((L)))).getD (j) ([], [])).1) (t)))) = false from by rw [h477]; rfl)]) ?_
                  refine wp_cf (by kernel_rfl) ?_
                  refine wp_skip (then_n (hK455 _ _ ?_))
                  refine wp_reg ?_
                  refine wpF_seg 1 (by kernel_rfl) ?_
                  refine gF hM476 (.binOp .add 3 (.tmp 195) (.const (.int .i64 1)) 3) (some 196) (by kernel_rfl) (Y_add .i64 ((q : Int)) (1) ((q : Int) + 1) (by kernel_rfl) (by kernel_rfl) (wrap64_ok _ (by omega))) ?_
                  refine wpF_seg 1 (by kernel_rfl) ?_
                  refine wpF_end _ (by kernel_rfl) (blk_n (then_n (hK410 _ _ ?_)))
                  refine wp_reg ?_
                  refine wpF_seg 1 (by kernel_rfl) ?_
                  refine gF hM476 (.binOp .add 3 (.tmp 138) (.const (.int .i64 1)) 3) (some 139) (by kernel_rfl) (Y_add .i64 ((j : Int)) (1) ((j : Int) + 1) (by kernel_rfl) (by kernel_rfl) (wrap64_ok _ (by omega))) ?_
                  refine wpF_seg 1 (by kernel_rfl) ?_
                  refine wpF_base [(1, bs (f)), (2, bs (u)), (3, .int .i64 (t)), (11, .pointer (some ⟨Ar_42bs11, 0, none⟩)), (17, .slice Ar110_1 (scnR (L) (a) (b) (f) (u) (t) (-1)).length cr110_1), (22, .int .i64 ((q + 1 : Int))), (23, .slice Ar393_1 ((((L)))).length cr393_1), (24, .int .i64 ((j + 1 : Int)))] (by kernel_rfl) (fun g478 => ?_)
                  refine wpF_end _ (by kernel_rfl) (then_n (hK405 _ _ (j + 1, q + 1) (by omega) ?_))
                  refine ⟨g478, V423, rfl, hM476, (le404.trans le426), ?_, ?_⟩
                  · -- fLfffLtttf inv 0
                    omega
                  · -- fLfffLtttf inv 1
                    exact hy.1
              · -- fLfffLttf
                have p479 : ¬ ((u) = ([])) := of_decide_eq_false h445
                refine wpF_seg 2 (by kernel_rfl) ?_
                refine gF_index (A := Ar393_1) (c := cr393_1) (r394.up (le404.trans le426)) .i64 ((j : Int)) (h := (by kernel_rfl : opAt _ _ _ _ _ = some (.indexAddr 46 (.tmp 162) (.tmp 163), some 164))) (e := 80) (by kernel_rfl) (by kernel_rfl) (by kernel_rfl) (j) rfl (by omega) (fun b480 o481 at_b480 => ?_)
                have c482 : V423 b480 o481 = some (bs (((((L)))).getD (j) ([], [])).1) := (At.str (At.pr at_b480).1).1
                have l483 : (((((L)))).getD (j) ([], [])).1.length ≤ 140737488355328 := (At.str (At.pr at_b480).1).2
                obtain ⟨A484, c485, c486, r487⟩ := At.sl (At.pr at_b480).2
                have c486 : V423 b480 (o481 + 1) = some (.slice A484 ((((((L)))).getD (j) ([], [])).2).length c485) := c486
                have r487 : Rd (prK (intK .i64) (prK strK boolK)) V423 A484 c485 ((((((L)))).getD (j) ([], [])).2) := r487
                have l488 : ((((((L)))).getD (j) ([], [])).2).length ≤ 140737488355328 := r487.max
                refine wpF_seg 1 (by kernel_rfl) ?_
                refine gF hM431 (.load 9 (.tmp 165)) (some 166) (by kernel_rfl) (Y_loadV c482 (by kernel_rfl) (by kernel_rfl)) ?_
                refine wpF_seg 5 (by kernel_rfl) ?_
                refine wpF_end _ (by kernel_rfl) (then_n (hK432 _ _ ?_))
                refine wp_seq_k (fun K489 hK489 => ?_)
                refine wp_seq_k (fun K490 hK490 => ?_)
                refine wp_reg ?_
                refine wpF_seg 3 (by kernel_rfl) ?_
                refine wpF_caseB 173 (!(decide ((getE ((((L)))) ((((a)))) ((((b)))) ((((((L)))).getD (j) ([], [])).1) (t)) = (0)))) (by kernel_rfl) (by kernel_rfl) (fun h491 => ?_) (fun h491 => ?_)
                · -- fLfffLttft
                  have h492 : decide ((getE ((((L)))) ((((a)))) ((((b)))) ((((((L)))).getD (j) ([], [])).1) (t)) = (0)) = false := by rw [← Bool.not_not (decide _), h491]; rfl
                  have p493 : ¬ ((getE ((((L)))) ((((a)))) ((((b)))) ((((((L)))).getD (j) ([], [])).1) (t)) = (0)) := of_decide_eq_false h492
                  refine wpF_seg 3 (by kernel_rfl) ?_
                  refine wpF_end _ (by kernel_rfl) (then_n (hK490 _ _ ?_))
                  refine wp_ct (by kernel_rfl) ?_
                  refine wp_exit (then_x (blk_hit (then_n (hK410 _ _ ?_))))
                  refine wp_reg ?_
                  refine wpF_seg 1 (by kernel_rfl) ?_
                  refine gF hM431 (.binOp .add 3 (.tmp 138) (.const (.int .i64 1)) 3) (some 139) (by kernel_rfl) (Y_add .i64 ((j : Int)) (1) ((j : Int) + 1) (by kernel_rfl) (by kernel_rfl) (wrap64_ok _ (by omega))) ?_
                  refine wpF_seg 1 (by kernel_rfl) ?_
                  refine wpF_base [(1, bs (f)), (2, bs (u)), (3, .int .i64 (t)), (11, .pointer (some ⟨Ar_42bs11, 0, none⟩)), (17, .slice Ar110_1 (scnR (L) (a) (b) (f) (u) (t) (-1)).length cr110_1), (22, .int .i64 ((q : Int))), (23, .slice Ar393_1 ((((L)))).length cr393_1), (24, .int .i64 ((j + 1 : Int)))] (by kernel_rfl) (fun g494 => ?_)
                  refine wpF_end _ (by kernel_rfl) (then_n (hK405 _ _ (j + 1, q) (by omega) ?_))
                  refine ⟨g494, V423, rfl, hM431, (le404.trans le426), ?_, ?_⟩
                  · -- fLfffLttft inv 0
                    omega
                  · -- fLfffLttft inv 1
                    exact atN_no hk0 hup (by omega) (by assumption) (by first | exact .inl (by assumption) | exact .inr (fun hw => hw.1 (by assumption)) | exact .inr (fun hw => hw.2.elim (by assumption) (by assumption)))
                · -- fLfffLttff
                  have h495 : decide ((getE ((((L)))) ((((a)))) ((((b)))) ((((((L)))).getD (j) ([], [])).1) (t)) = (0)) = true := by rw [← Bool.not_not (decide _), h491]; rfl
                  have p496 : ((getE ((((L)))) ((((a)))) ((((b)))) ((((((L)))).getD (j) ([], [])).1) (t)) = (0)) := of_decide_eq_true h495
                  refine wpF_seg 3 (by kernel_rfl) ?_
                  refine wpF_end _ (by kernel_rfl) (then_n (hK490 _ _ ?_))
                  refine wp_if (!(decide (((((((L)))).getD (j) ([], [])).1) < (u)))) (by kernel_rfl) (fun h497 => ?_) (fun h497 => ?_)
                  · -- fLfffLttfft
                    have h498 : decide (((((((L)))).getD (j) ([], [])).1) < (u)) = false := by rw [← Bool.not_not (decide _), h497]; rfl
                    have p499 : ¬ (((((((L)))).getD (j) ([], [])).1) < (u)) := of_decide_eq_false h498
                    refine wp_exit (then_x (blk_hit (then_n (hK410 _ _ ?_))))
                    refine wp_reg ?_
                    refine wpF_seg 1 (by kernel_rfl) ?_
                    refine gF hM431 (.binOp .add 3 (.tmp 138) (.const (.int .i64 1)) 3) (some 139) (by kernel_rfl) (Y_add .i64 ((j : Int)) (1) ((j : Int) + 1) (by kernel_rfl) (by kernel_rfl) (wrap64_ok _ (by omega))) ?_
                    refine wpF_seg 1 (by kernel_rfl) ?_
                    refine wpF_base [(1, bs (f)), (2, bs (u)), (3, .int .i64 (t)), (11, .pointer (some ⟨Ar_42bs11, 0, none⟩)), (17, .slice Ar110_1 (scnR (L) (a) (b) (f) (u) (t) (-1)).length cr110_1), (22, .int .i64 ((q : Int))), (23, .slice Ar393_1 ((((L)))).length cr393_1), (24, .int .i64 ((j + 1 : Int)))] (by kernel_rfl) (fun g500 => ?_)
                    refine wpF_end _ (by kernel_rfl) (then_n (hK405 _ _ (j + 1, q) (by omega) ?_))
                    refine ⟨g500, V423, rfl, hM431, (le404.trans le426), ?_, ?_⟩
                    · -- fLfffLttfft inv 0
                      omega
                    · -- fLfffLttfft inv 1
                      exact atN_no hk0 hup (by omega) (by assumption) (by first | exact .inl (by assumption) | exact .inr (fun hw => hw.1 (by assumption)) | exact .inr (fun hw => hw.2.elim (by assumption) (by assumption)))
                  · -- fLfffLttfff
                    have h501 : decide (((((((L)))).getD (j) ([], [])).1) < (u)) = true := by rw [← Bool.not_not (decide _), h497]; rfl
                    have p502 : (((((((L)))).getD (j) ([], [])).1) < (u)) := of_decide_eq_true h501
                    have hy := atN_yes (k := j) (q := q) hk0 hup (by omega) (by assumption) (by assumption) ⟨by assumption, by first | exact .inl (by assumption) | exact .inr (by assumption)⟩
                    refine wp_skip (then_n (hK489 _ _ ?_))
                    refine wp_seq_k (fun K503 hK503 => ?_)
                    refine wp_seq_k (fun K504 hK504 => ?_)
                    refine wp_base [(1, bs (f)), (2, bs (u)), (3, .int .i64 (t)), (11, .pointer (some ⟨Ar_42bs11, 0, none⟩)), (17, .slice Ar110_1 (scnR (L) (a) (b) (f) (u) (t) (-1)).length cr110_1), (22, .int .i64 ((q : Int))), (23, .slice Ar393_1 ((((L)))).length cr393_1), (24, .int .i64 ((j : Int))), (25, bs (getS ((((L)))) ((((a)))) ((((b)))) ((((((L)))).getD (j) ([], [])).1) (t))), (26, .int .i64 (getE ((((L)))) ((((a)))) ((((b)))) ((((((L)))).getD (j) ([], [])).1) (t))), (27, .bool (decide (((((((L)))).getD (j) ([], [])).1) < (u)))), (134, .int .i64 ((j : Int))), (135, .slice Ar393_1 ((((L)))).length cr393_1), (136, .int .i64 ((((((L)))).length : Int))), (137, .bool (decide (((j : Int)) < ((((((L)))).length : Int))))), (140, .tuple #[bs (getS ((((L)))) ((((a)))) ((((b)))) ((((((L)))).getD (j) ([], [])).1) (t)), .int .i64 (getE ((((L)))) ((((a)))) ((((b)))) ((((((L)))).getD (j) ([], [])).1) (t))]), (141, .pointer (some ⟨Ar_42bs11, 0, none⟩)), (142, .slice Ar393_1 ((((L)))).length cr393_1), (143, .int .i64 ((j : Int))), (144, .pointer (some ⟨b412, o413, none⟩)), (145, .pointer (some ⟨b412, o413, none⟩)), (146, bs ((((((L)))).getD (j) ([], [])).1)), (147, .int .i64 (t)), (148, .tuple #[bs (getS ((((L)))) ((((a)))) ((((b)))) ((((((L)))).getD (j) ([], [])).1) (t)), .int .i64 (getE ((((L)))) ((((a)))) ((((b)))) ((((((L)))).getD (j) ([], [])).1) (t))]), (149, bs (getS ((((L)))) ((((a)))) ((((b)))) ((((((L)))).getD (j) ([], [])).1) (t))), (150, .int .i64 (getE ((((L)))) ((((a)))) ((((b)))) ((((((L)))).getD (j) ([], [])).1) (t))), (151, .slice Ar393_1 ((((L)))).length cr393_1), (152, .int .i64 ((j : Int))), (153, .pointer (some ⟨b433, o434, none⟩)), (154, .pointer (some ⟨b433, o434, none⟩)), (155, bs ((((((L)))).getD (j) ([], [])).1)), (156, bs (f)), (157, .bool (!(decide (((((((L)))).getD (j) ([], [])).1) < (f))))), (158, .bool (true)), (159, bs (u)), (160, .bool (decide ((u) = ([])))), (161, .bool (false)), (162, .slice Ar393_1 ((((L)))).length cr393_1), (163, .int .i64 ((j : Int))), (164, .pointer (some ⟨b480, o481, none⟩)), (165, .pointer (some ⟨b480, o481, none⟩)), (166, bs ((((((L)))).getD (j) ([], [])).1)), (167, bs (u)), (168, .bool (decide (((((((L)))).getD (j) ([], [])).1) < (u)))), (169, .bool (decide (((((((L)))).getD (j) ([], [])).1) < (u)))), (170, .bool (decide (((((((L)))).getD (j) ([], [])).1) < (u)))), (171, .int .i64 (getE ((((L)))) ((((a)))) ((((b)))) ((((((L)))).getD (j) ([], [])).1) (t))), (172, .bool (!(decide ((getE ((((L)))) ((((a)))) ((((b)))) ((((((L)))).getD (j) ([], [])).1) (t)) = (0))))), (173, .bool (false)), (174, .bool (decide (((((((L)))).getD (j) ([], [])).1) < (u)))), (175, .bool (!(decide (((((((L)))).getD (j) ([], [])).1) < (u))))), (176, .bool (!(decide (((((((L)))).getD (j) ([], [])).1) < (u)))))] (by kernel_rfl) (fun g505 => ?_)
                    refine wp_drawN hM431 [] no_held [] [0, 1, 2, 3, 4, 5, 6, 7, 8, 9, 10, 11, 12, 13, 14, 15, 16, 17] [] [.p 0, .p 1, .p 2, .p 3, .p 4, .p 5, .p 6, .p 7, .p 8, .p 9, .p 10, .p 11, .p 12, .p 13, .p 14, .p 15, .p 16, .p 17, .s] rfl (by kernel_rfl) (by kernel_rfl) ?_
                    refine h_seg 5 (by kernel_rfl) ?_
                    have h506 : (decide ((((scnR (L) (a) (b) (f) (u) (t) (-1)).length : Int)) ≤ ((q : Int)))) = false := by exact decide_eq_false (by have := hy.2.1; omega)
                    have p507 : ¬ ((((scnR (L) (a) (b) (f) (u) (t) (-1)).length : Int)) ≤ ((q : Int))) := of_decide_eq_false h506
                    refine h_slot 181 (.bool (decide ((((scnR (L) (a) (b) (f) (u) (t) (-1)).length : Int)) ≤ ((q : Int))))) (.bool false) (by kernel_rfl) (by kernel_rfl) (by rw [h506]) ?_
                    refine h_seg 2 (by kernel_rfl) ?_
                    refine gH_index (A := Ar110_1) (c := cr110_1) (r111.up ((((le120.trans le378).trans le390).trans le404).trans le426)) .i64 ((q : Int)) (h := (by kernel_rfl : opAt _ _ _ _ _ = some (.indexAddr 60 (.tmp 182) (.tmp 183), some 184))) (e := 93) (by kernel_rfl) (by kernel_rfl) (by kernel_rfl) (q) rfl (by omega) (fun b508 o509 at_b508 => ?_)
                    have c510 : V423 b508 o509 = some (bs ((scnR (L) (a) (b) (f) (u) (t) (-1)).getD (q) ([], [])).1) := (At.str (At.pr at_b508).1).1
                    have l511 : ((scnR (L) (a) (b) (f) (u) (t) (-1)).getD (q) ([], [])).1.length ≤ 140737488355328 := (At.str (At.pr at_b508).1).2
                    have c512 : V423 b508 (o509 + 1) = some (bs ((scnR (L) (a) (b) (f) (u) (t) (-1)).getD (q) ([], [])).2) := (At.str (At.pr at_b508).2).1
                    have l513 : ((scnR (L) (a) (b) (f) (u) (t) (-1)).getD (q) ([], [])).2.length ≤ 140737488355328 := (At.str (At.pr at_b508).2).2
                    refine gH (.load 93 (.tmp 184)) (some 185) (by kernel_rfl) (Y_loadS (b := b508) (off := o509) [bs (((scnR (L) (a) (b) (f) (u) (t) (-1)).getD (q) ([], [])).1), bs (((scnR (L) (a) (b) (f) (u) (t) (-1)).getD (q) ([], [])).2)] (cells2 c510 c512) (by kernel_rfl) (by kernel_rfl) (by kernel_rfl)) ?_
                    refine h_seg 2 (by kernel_rfl) ?_
                    refine gH_index (A := Ar393_1) (c := cr393_1) (r394.up (le404.trans le426)) .i64 ((j : Int)) (h := (by kernel_rfl : opAt _ _ _ _ _ = some (.indexAddr 46 (.tmp 186) (.tmp 187), some 188))) (e := 80) (by kernel_rfl) (by kernel_rfl) (by kernel_rfl) (j) rfl (by omega) (fun b514 o515 at_b514 => ?_)
                    have c516 : V423 b514 o515 = some (bs (((((L)))).getD (j) ([], [])).1) := (At.str (At.pr at_b514).1).1
                    have l517 : (((((L)))).getD (j) ([], [])).1.length ≤ 140737488355328 := (At.str (At.pr at_b514).1).2
                    obtain ⟨A518, c519, c520, r521⟩ := At.sl (At.pr at_b514).2
                    have c520 : V423 b514 (o515 + 1) = some (.slice A518 ((((((L)))).getD (j) ([], [])).2).length c519) := c520
                    have r521 : Rd (prK (intK .i64) (prK strK boolK)) V423 A518 c519 ((((((L)))).getD (j) ([], [])).2) := r521
                    have l522 : ((((((L)))).getD (j) ([], [])).2).length ≤ 140737488355328 := r521.max
                    refine h_seg 1 (by kernel_rfl) ?_
                    refine gH (.load 9 (.tmp 189)) (some 190) (by kernel_rfl) (Y_loadV c516 (by kernel_rfl) (by kernel_rfl)) ?_
                    refine h_seg 2 (by kernel_rfl) ?_
                    refine gH (.binOp .neq 93 (.tmp 185) (.tmp 192) 93) (some 193) (by kernel_rfl) (Y_neqSpan (((scnR (L) (a) (b) (f) (u) (t) (-1)).getD (q) ([], [])).1) (((scnR (L) (a) (b) (f) (u) (t) (-1)).getD (q) ([], [])).2) ((((((L)))).getD (j) ([], [])).1) (getS ((((L)))) ((((a)))) ((((b)))) ((((((L)))).getD (j) ([], [])).1) (t)) (by kernel_rfl) (by kernel_rfl) (by kernel_rfl)) ?_
                    refine h_seg 1 (by kernel_rfl) ?_
                    refine h_s no_fs ?_
                    refine h_n (fun w523 hM524 => ?_)
                    refine  (then_n (hK504 _ _ ?_))
                    have h525 : (sameP (((scnR (L) (a) (b) (f) (u) (t) (-1)).getD (q) ([], [])).1) (((scnR (L) (a) (b) (f) (u) (t) (-1)).getD (q) ([], [])).2) ((((((L)))).getD (j) ([], [])).1) (getS ((((L)))) ((((a)))) ((((b)))) ((((((L)))).getD (j) ([], [])).1) (t))) = true := by simp only [hy.2.2, sameP, decide_true, Bool.and_self]
                    refine wp_slot 194 (.bool (!(sameP (((scnR (L) (a) (b) (f) (u) (t) (-1)).getD (q) ([], [])).1) (((scnR (L) (a) (b) (f) (u) (t) (-1)).getD (q) ([], [])).2) ((((((L)))).getD (j) ([], [])).1) (getS ((((L)))) ((((a)))) ((((b)))) ((((((L)))).getD (j) ([], [])).1) (t))))) (.bool false) (by kernel_rfl) (by rw [(show (!(sameP (((scnR (L) (a) (b) (f) (u) (t) (-1)).getD (q) ([], [])).1) (((scnR (L) (a) (b) (f) (u) (t) (-1)).getD (q) ([], [])).2) ((((((L)))).getD (j) ([], [])).1) (getS ((((L)))) ((((a)))) ((((b)))) ((((((L)))).getD (j) ([], [])).1) (t)))) = false from by rw [h525]; rfl)]) ?_
                    refine wp_cf (by kernel_rfl) ?_
                    refine wp_skip (then_n (hK503 _ _ ?_))
                    refine wp_reg ?_
                    refine wpF_seg 1 (by kernel_rfl) ?_
                    refine gF hM524 (.binOp .add 3 (.tmp 195) (.const (.int .i64 1)) 3) (some 196) (by kernel_rfl) (Y_add .i64 ((q : Int)) (1) ((q : Int) + 1) (by kernel_rfl) (by kernel_rfl) (wrap64_ok _ (by omega))) ?_
                    refine wpF_seg 1 (by kernel_rfl) ?_
                    refine wpF_end _ (by kernel_rfl) (blk_n (then_n (hK410 _ _ ?_)))
                    refine wp_reg ?_
                    refine wpF_seg 1 (by kernel_rfl) ?_
                    refine gF hM524 (.binOp .add 3 (.tmp 138) (.const (.int .i64 1)) 3) (some 139) (by kernel_rfl) (Y_add .i64 ((j : Int)) (1) ((j : Int) + 1) (by kernel_rfl) (by kernel_rfl) (wrap64_ok _ (by omega))) ?_
                    refine wpF_seg 1 (by kernel_rfl) ?_
                    refine wpF_base [(1, bs (f)), (2, bs (u)), (3, .int .i64 (t)), (11, .pointer (some ⟨Ar_42bs11, 0, none⟩)), (17, .slice Ar110_1 (scnR (L) (a) (b) (f) (u) (t) (-1)).length cr110_1), (22, .int .i64 ((q + 1 : Int))), (23, .slice Ar393_1 ((((L)))).length cr393_1), (24, .int .i64 ((j + 1 : Int)))] (by kernel_rfl) (fun g526 => ?_)
                    refine wpF_end _ (by kernel_rfl) (then_n (hK405 _ _ (j + 1, q + 1) (by omega) ?_))
                    refine ⟨g526, V423, rfl, hM524, (le404.trans le426), ?_, ?_⟩
                    · -- fLfffLttfff inv 0
                      omega
                    · -- fLfffLttfff inv 1
                      exact hy.1
            · -- fLfffLtf
              have h527 : decide (((((((L)))).getD (j) ([], [])).1) < (f)) = true := by rw [← Bool.not_not (decide _), h442]; rfl
              have p528 : (((((((L)))).getD (j) ([], [])).1) < (f)) := of_decide_eq_true h527
              refine wpF_seg 13 (by kernel_rfl) ?_
              refine wpF_end _ (by kernel_rfl) (then_n (hK432 _ _ ?_))
              refine wp_seq_k (fun K529 hK529 => ?_)
              refine wp_seq_k (fun K530 hK530 => ?_)
              refine wp_reg ?_
              refine wpF_seg 3 (by kernel_rfl) ?_
              refine wpF_caseB 173 (!(decide ((getE ((((L)))) ((((a)))) ((((b)))) ((((((L)))).getD (j) ([], [])).1) (t)) = (0)))) (by kernel_rfl) (by kernel_rfl) (fun h531 => ?_) (fun h531 => ?_)
              · -- fLfffLtft
                have h532 : decide ((getE ((((L)))) ((((a)))) ((((b)))) ((((((L)))).getD (j) ([], [])).1) (t)) = (0)) = false := by rw [← Bool.not_not (decide _), h531]; rfl
                have p533 : ¬ ((getE ((((L)))) ((((a)))) ((((b)))) ((((((L)))).getD (j) ([], [])).1) (t)) = (0)) := of_decide_eq_false h532
                refine wpF_seg 3 (by kernel_rfl) ?_
                refine wpF_end _ (by kernel_rfl) (then_n (hK530 _ _ ?_))
                refine wp_ct (by kernel_rfl) ?_
                refine wp_exit (then_x (blk_hit (then_n (hK410 _ _ ?_))))
                refine wp_reg ?_
                refine wpF_seg 1 (by kernel_rfl) ?_
                refine gF hM431 (.binOp .add 3 (.tmp 138) (.const (.int .i64 1)) 3) (some 139) (by kernel_rfl) (Y_add .i64 ((j : Int)) (1) ((j : Int) + 1) (by kernel_rfl) (by kernel_rfl) (wrap64_ok _ (by omega))) ?_
                refine wpF_seg 1 (by kernel_rfl) ?_
                refine wpF_base [(1, bs (f)), (2, bs (u)), (3, .int .i64 (t)), (11, .pointer (some ⟨Ar_42bs11, 0, none⟩)), (17, .slice Ar110_1 (scnR (L) (a) (b) (f) (u) (t) (-1)).length cr110_1), (22, .int .i64 ((q : Int))), (23, .slice Ar393_1 ((((L)))).length cr393_1), (24, .int .i64 ((j + 1 : Int)))] (by kernel_rfl) (fun g534 => ?_)
                refine wpF_end _ (by kernel_rfl) (then_n (hK405 _ _ (j + 1, q) (by omega) ?_))
                refine ⟨g534, V423, rfl, hM431, (le404.trans le426), ?_, ?_⟩
                · -- fLfffLtft inv 0
                  omega
                · -- fLfffLtft inv 1
                  exact atN_no hk0 hup (by omega) (by assumption) (by first | exact .inl (by assumption) | exact .inr (fun hw => hw.1 (by assumption)) | exact .inr (fun hw => hw.2.elim (by assumption) (by assumption)))
              · -- fLfffLtff
                have h535 : decide ((getE ((((L)))) ((((a)))) ((((b)))) ((((((L)))).getD (j) ([], [])).1) (t)) = (0)) = true := by rw [← Bool.not_not (decide _), h531]; rfl
                have p536 : ((getE ((((L)))) ((((a)))) ((((b)))) ((((((L)))).getD (j) ([], [])).1) (t)) = (0)) := of_decide_eq_true h535
                refine wpF_seg 3 (by kernel_rfl) ?_
                refine wpF_end _ (by kernel_rfl) (then_n (hK530 _ _ ?_))
                refine wp_ct (by kernel_rfl) ?_
                refine wp_exit (then_x (blk_hit (then_n (hK410 _ _ ?_))))
                refine wp_reg ?_
                refine wpF_seg 1 (by kernel_rfl) ?_
                refine gF hM431 (.binOp .add 3 (.tmp 138) (.const (.int .i64 1)) 3) (some 139) (by kernel_rfl) (Y_add .i64 ((j : Int)) (1) ((j : Int) + 1) (by kernel_rfl) (by kernel_rfl) (wrap64_ok _ (by omega))) ?_
                refine wpF_seg 1 (by kernel_rfl) ?_
                refine wpF_base [(1, bs (f)), (2, bs (u)), (3, .int .i64 (t)), (11, .pointer (some ⟨Ar_42bs11, 0, none⟩)), (17, .slice Ar110_1 (scnR (L) (a) (b) (f) (u) (t) (-1)).length cr110_1), (22, .int .i64 ((q : Int))), (23, .slice Ar393_1 ((((L)))).length cr393_1), (24, .int .i64 ((j + 1 : Int)))] (by kernel_rfl) (fun g537 => ?_)
                refine wpF_end _ (by kernel_rfl) (then_n (hK405 _ _ (j + 1, q) (by omega) ?_))
                refine ⟨g537, V423, rfl, hM431, (le404.trans le426), ?_, ?_⟩
                · -- fLfffLtff inv 0
                  omega
                · -- fLfffLtff inv 1
                  exact atN_no hk0 hup (by omega) (by assumption) (by first | exact .inl (by assumption) | exact .inr (fun hw => hw.1 (by assumption)) | exact .inr (fun hw => hw.2.elim (by assumption) (by assumption)))
          · -- fLfffLf
            have p538 : ¬ (((j : Int)) < ((((((L)))).length : Int))) := of_decide_eq_false h408
            refine wp_exit (then_x (then_x (blk_hit (then_n (hK397 _ _ ?_)))))
            obtain rfl : j = L.length := by omega
            refine wp_seq_k (fun K539 hK539 => ?_)
            refine wp_reg ?_
            refine wpF_seg 5 (by kernel_rfl) ?_
            have h540 : (decide (((q : Int)) = (((scnR (L) (a) (b) (f) (u) (t) (-1)).length : Int)))) = true := by refine decide_eq_true ?_; rw [(by assumption : q = atN L t f u L.length), atN_end hk0 hup]
            have p541 : (((q : Int)) = (((scnR (L) (a) (b) (f) (u) (t) (-1)).length : Int))) := of_decide_eq_true h540
            refine wpF_slot 201 (.bool (decide (((q : Int)) = (((scnR (L) (a) (b) (f) (u) (t) (-1)).length : Int))))) (.bool true) (by kernel_rfl) (by kernel_rfl) (by rw [h540]) ?_
            refine wpF_callP hM403 (f := 34) (caps := #[]) (h := (by kernel_rfl : opAt _ _ _ _ _ = some (.call (.mk (.value (.func 34)) #[] #[]), some 202))) (by kernel_rfl) (by kernel_rfl) (by kernel_rfl) (f34 _ _ hM403.inW ) (fun v542 V543 w544 le545 hM546 hp547 => ?_)
            obtain rfl := hp547
            refine wpF_seg 2 (by kernel_rfl) ?_
            refine wpF_end _ (by kernel_rfl) (then_n (hK539 _ _ ?_))
            refine wp_ret ?_
            refine retN [.bool (true)] (.bool (true)) Try.results12 (.tmp (by kernel_rfl) (by kernel_rfl) .nil) (by kernel_rfl) (hRet _ _ ⟨_, _, rfl, hM546.clear, ?_⟩)
            -- end fLfffLf
            rfl

end Go.Vk
