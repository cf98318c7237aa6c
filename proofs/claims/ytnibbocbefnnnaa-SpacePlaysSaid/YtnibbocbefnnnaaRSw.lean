import Derived.Test.YtnibbocbefnnnaaRIt
import Derived.Test.YtnibbocbefnnnaaRMathSp
import Derived.Test.YtnibbocbefnnnaaRMathSq
import Derived.Test.YtnibbocbefnnnaaRMathSr
import Derived.Test.YtnibbocbefnnnaaRPlainSp
import Derived.Test.YtnibbocbefnnnaaRSf
import Derived.Test.YtnibbocbefnnnaaRSm
import Derived.Test.YtnibbocbefnnnaaRSp
import Derived.Test.YtnibbocbefnnnaaRSr
import Derived.Test.YtnibbocbefnnnaaRSt
import Derived.Test.YtnibbocbefnnnaaRSv
set_option linter.unusedVariables false
set_option linter.unusedSimpArgs false
namespace Go.Vk
open Go.Proofs
variable {D : List Deferred}
set_option maxHeartbeats 4000000 in
set_option maxRecDepth 100000 in
theorem f10 (V : VT) (w : World) (hV : V.inW w) (Al : Option Addr) (cl : Nat) (l : List ((Int × Int × (List ((Str × Str × Bool)))))) (hl : Rd (prK (intK .i64) (prK (intK .i64) (slK (prK strK (prK strK boolK))))) V Al cl l) (y : Str) (hy : y.length ≤ maxL) (z : Str) (hz : z.length ≤ maxL) (t : Int) (n : Int) :
    Calls Try.prog 10 #[.slice Al (l).length cl, bs (y), bs (z), .int .i64 (t), .int .i64 (n)] w (RetP V w fun rv V' => rv = .bool (true)) := by
  have mxl : l.length ≤ 140737488355328 := hl.max
  have mxy : y.length ≤ 140737488355328 := hy
  have mxz : z.length ≤ 140737488355328 := hz
  refine calls_env (n := 82) Try.func10 (c := _) rfl Try.ntmps10 (by kernel_rfl) (fun R hRet => ?_)
  have hM0 : Step V w [] V w [] := Step.refl (St.nilE hV)
  refine wp_seq_k (fun K1 hK1 => ?_)
  refine wp_reg ?_
  refine wpF_seg 1 (by kernel_rfl) ?_
  refine wpF_end _ (by kernel_rfl) (then_n (hK1 _ _ ?_))
  refine wp_seq_k (fun K2 hK2 => ?_)
  refine wp_seq_k (fun K3 hK3 => ?_)
  refine wp_reg ?_
  refine wpF_seg 1 (by kernel_rfl) ?_
  refine wpF_callP hM0 (f := 48) (caps := #[]) (h := (by kernel_rfl : opAt _ _ _ _ _ = some (.call (.mk (.value (.func 48)) #[(.tmp 17)] #[84]), some 18))) (by kernel_rfl) (by kernel_rfl) (by kernel_rfl) (f48 _ _ hM0.inW Al cl (l) hl) (fun v4 V5 w6 le7 hM8 hp9 => ?_)
  obtain rfl := hp9
  refine wpF_seg 1 (by kernel_rfl) ?_
  refine wpF_end _ (by kernel_rfl) (then_n (hK3 _ _ ?_))
  refine wp_if (!(fewB (l))) (by kernel_rfl) (fun h10 => ?_) (fun h10 => ?_)
  · -- t
    have h11 : (fewB (l)) = false := by simpa using h10
    refine wp_seq_k (fun K12 hK12 => ?_)
    refine wp_reg ?_
    refine wpF_callP hM8 (f := 34) (caps := #[]) (h := (by kernel_rfl : opAt _ _ _ _ _ = some (.call (.mk (.value (.func 34)) #[] #[]), some 20))) (by kernel_rfl) (by kernel_rfl) (by kernel_rfl) (f34 _ _ hM8.inW ) (fun v13 V14 w15 le16 hM17 hp18 => ?_)
    obtain rfl := hp18
    refine wpF_seg 1 (by kernel_rfl) ?_
    refine wpF_end _ (by kernel_rfl) (then_n (hK12 _ _ ?_))
    refine wp_ret (then_r (?_))
    refine retN [.bool (true)] (.bool (true)) Try.results10 (.tmp (by kernel_rfl) (by kernel_rfl) .nil) (by kernel_rfl) (hRet _ _ ⟨_, _, rfl, hM17.clear, ?_⟩)
    -- end t
    rfl
  · -- f
    have h19 : (fewB (l)) = true := by simpa using h10
    have hfew : fewB l = true := by assumption
    refine wp_skip (then_n (hK2 _ _ ?_))
    refine wp_seq_k (fun K20 hK20 => ?_)
    refine wp_reg ?_
    have hM28 : Step V w [] V5 _ ([]) := hM8
    refine wpF_callE [] ([]) hM28 (f := 33) (caps := #[]) (h := (by kernel_rfl : opAt _ _ _ _ _ = some (.call (.mk (.value (.func 33)) #[] #[]), some 21))) (by kernel_rfl) (by kernel_rfl) (by kernel_rfl) (f33 _ _ hM28.inW) (fun v21 V22 w23 Eo24 le25 hM26 hp27 => ?_)
    obtain ⟨br28_1, Ar28_1, cr28_1, mr28_1, rfl, rfl⟩ := hp27
    have hM29 : Step V w [] V22 _ ([spE br28_1 Ar28_1 cr28_1 mr28_1 (([] : List Item)) (0) (0)]) := hM26
    refine wpF_seg 1 (by kernel_rfl) ?_
    refine wpF_end _ (by kernel_rfl) (then_n (hK20 _ _ ?_))
    refine wp_seq_k (fun K30 hK30 => ?_)
    refine wp_reg ?_
    refine wpF_alloc hM29 #[.slice none 0 0, .int .i64 (0), .int .i64 (0)] (h := (by kernel_rfl : opAt _ _ _ _ _ = some (.alloc 50, some 12))) (by kernel_rfl) (fun b31 w32 hM33 => ?_)
    refine wpF_end _ (by kernel_rfl) (then_n (hK30 _ _ ?_))
    refine wp_seq_k (fun K34 hK34 => ?_)
    refine wp_seq_k (fun K35 hK35 => ?_)
    refine wp_reg ?_
    refine wpF_seg 1 (by kernel_rfl) ?_
    refine gF hM33 (.binOp .eql 53 (.tmp 22) (.const (.pointer none)) 53) (some 23) (by kernel_rfl) (Y_eql (.pointer (some ⟨br28_1, 0, none⟩)) (.pointer none) (false) (by kernel_rfl) (by kernel_rfl) (by kernel_rfl)) ?_
    refine wpF_end _ (by kernel_rfl) (then_n (hK35 _ _ ?_))
    refine wp_cf (by kernel_rfl) ?_
    refine wp_skip (then_n (hK34 _ _ ?_))
    refine wp_seq_k (fun K36 hK36 => ?_)
    refine wp_seq_k (fun K37 hK37 => ?_)
    refine wp_reg ?_
    refine wpF_seg 1 (by kernel_rfl) ?_
    refine wpF_end _ (by kernel_rfl) (then_n (hK37 _ _ ?_))
    refine wp_block ?_
    refine wp_base [(0, .slice Al (l).length cl), (1, bs (y)), (2, bs (z)), (3, .int .i64 (t)), (4, .int .i64 (n)), (11, .pointer (some ⟨br28_1, 0, none⟩)), (12, .pointer (some ⟨b31, 0, none⟩)), (13, .int .i64 ((0 : Int)))] (by kernel_rfl) (fun g39 => ?_)
    refine wp_loopX (fun (x_ : Nat × List Item × Int × Int) a_ w_ => ∃ (g : Nat → Value) (V_ : VT), ∃ (Ars11 : Option Addr) (crs11 : Nat) (Arbs11 Arms11 : Nat), ∃ (Arfc12_0 : Option Addr) (crfc12_0 : Nat), a_ = env [] 82 [(0, .slice Al (l).length cl), (1, bs (y)), (2, bs (z)), (3, .int .i64 (t)), (4, .int .i64 (n)), (11, .pointer (some ⟨Arbs11, 0, none⟩)), (12, .pointer (some ⟨b31, 0, none⟩)), (13, .int .i64 ((x_.1 : Int)))] g ∧ Step V w [] V_ w_ [.blk b31 (.cells #[.slice Arfc12_0 (x_.2.1).length crfc12_0, .int .i64 (x_.2.2.1), .int .i64 (x_.2.2.2)] 50), spE Arbs11 Ars11 crs11 Arms11 (x_.2.1) (x_.2.2.1) (x_.2.2.2)] ∧ VT.le V22 V_ ∧ Rd (prK strK (slK (prK (intK .i64) (prK strK boolK)))) V_ Arfc12_0 crfc12_0 (x_.2.1) ∧ (x_.1 ≤ l.length) ∧ (Good (0 + fewN l (x_.1)) (x_.2.1, x_.2.2.1, x_.2.2.2))) (fun (x_ : Nat × List Item × Int × Int) => l.length - x_.1) ((0 : Nat), (([] : List Item) : List Item), (0 : Int), (0 : Int)) ⟨g39, V22, Ar28_1, cr28_1, br28_1, mr28_1, none, 0, rfl, hM33, VT.le.refl _, (Rd.nil _ _), by omega, by exact good_0⟩ ?_
    rintro ⟨k, L, a, b⟩ a_ w41 ⟨g40, Vl38, Ar_44s11, cr_44s11, Ar_44bs11, Ar_44ms11, Ar_44fc12_0, cr_44fc12_0, rfl, hM42, le43, hfAr_44fc12_0, hi44_0, hi44_1⟩ K44 hK44
    replace hi44_0 : k ≤ l.length := hi44_0
    replace hi44_1 : Good (0 + fewN l (k)) (L, a, b) := hi44_1
    refine wp_seq_k (fun K45 hK45 => ?_)
    refine wp_seq_k (fun K46 hK46 => ?_)
    refine wp_reg ?_
    refine wpF_seg 4 (by kernel_rfl) ?_
    refine wpF_end _ (by kernel_rfl) (then_n (hK46 _ _ ?_))
    refine wp_if (decide (((k : Int)) < ((l.length : Int)))) (by kernel_rfl) (fun h47 => ?_) (fun h47 => ?_)
    · -- fLt
      have p48 : (((k : Int)) < ((l.length : Int))) := of_decide_eq_true h47
      have hgood := (by assumption : Good (0 + fewN l k) (L, a, b))
      have hfk := fewK_iff.1 hfew k (by omega)
      have hfs := few_step (l := l) (k := k) (by omega)
      have hst := stp_in hfk.2
      have hgo := hgood
      have hgn := good_next (l := l) (k := k) (by omega) hgood
      have hgl := hgo.2.1
      have hnl := hgn.2.1
      simp only [Nat.zero_add] at hgl hnl
      refine wp_skip (then_n (hK45 _ _ ?_))
      refine wp_seq_k (fun K49 hK49 => ?_)
      refine wp_block ?_
      refine wp_seq_k (fun K50 hK50 => ?_)
      refine wp_base [(0, .slice Al (l).length cl), (1, bs (y)), (2, bs (z)), (3, .int .i64 (t)), (4, .int .i64 (n)), (11, .pointer (some ⟨Ar_44bs11, 0, none⟩)), (12, .pointer (some ⟨b31, 0, none⟩)), (13, .int .i64 ((k : Int))), (24, .int .i64 ((k : Int))), (25, .slice Al (l).length cl), (26, .int .i64 ((l.length : Int))), (27, .bool (decide (((k : Int)) < ((l.length : Int)))))] (by kernel_rfl) (fun g51 => ?_)
      refine wp_drawN hM42 [(.blk b31 (.cells #[.slice Ar_44fc12_0 (L).length cr_44fc12_0, .int .i64 (a), .int .i64 (b)] 50), 9999)] (and_held 0 rfl no_held) [⟨11, fun b_ => .pointer (some ⟨b_, 0, none⟩), #[.slice none 0 0, .int .i64 (0), .int .i64 (0)], 50⟩] [0, 1, 2, 3, 4, 5] [.a 6, .p 7, .p 8, .p 9, .p 10, .f 11, .p 12, .a 13, .p 14] [.p 0, .p 1, .p 2, .p 3, .p 4, .p 5, .s, .a 6, .p 7, .p 8, .p 9, .p 10, .f 11, .p 12, .a 13, .p 14] rfl (by kernel_rfl) (by kernel_rfl) ?_
      refine h_seg 1 (by kernel_rfl) ?_
      refine gH (.load 50 (.tmp 12)) (some 32) (by kernel_rfl) (Y_load 0 (by kernel_rfl : (FOf _ _ _)[0]? = some (.blk b31 (.cells #[.slice Ar_44fc12_0 (L).length cr_44fc12_0, .int .i64 (a), .int .i64 (b)] 50))) (off := 0) (by kernel_rfl) (.agg #[.slice Ar_44fc12_0 (L).length cr_44fc12_0, .int .i64 (a), .int .i64 (b)]) (by kernel_rfl)) ?_
      refine h_seg 2 (by kernel_rfl) ?_
      refine gH_index (A := Al) (c := cl) (hl.up hM42.le) .i64 ((k : Int)) (h := (by kernel_rfl : opAt _ _ _ _ _ = some (.indexAddr 84 (.tmp 33) (.tmp 34), some 35))) (e := 89) (by kernel_rfl) (by kernel_rfl) (by kernel_rfl) (k) rfl (by omega) (fun b52 o53 at_b52 => ?_)
      have c54 : Vl38 b52 o53 = some (.int .i64 (l.getD (k) (0, 0, [])).1) := (At.int (At.pr at_b52).1).1
      have l55 : IntKind.i64.min ≤ (l.getD (k) (0, 0, [])).1 ∧ (l.getD (k) (0, 0, [])).1 ≤ IntKind.i64.max := (At.int (At.pr at_b52).1).2
      have c56 : Vl38 b52 (o53 + 1) = some (.int .i64 (l.getD (k) (0, 0, [])).2.1) := (At.int (At.pr (At.pr at_b52).2).1).1
      have l57 : IntKind.i64.min ≤ (l.getD (k) (0, 0, [])).2.1 ∧ (l.getD (k) (0, 0, [])).2.1 ≤ IntKind.i64.max := (At.int (At.pr (At.pr at_b52).2).1).2
      obtain ⟨A58, c59, c60, r61⟩ := At.sl (At.pr (At.pr at_b52).2).2
      have c60 : Vl38 b52 (o53 + 2) = some (.slice A58 ((l.getD (k) (0, 0, [])).2.2).length c59) := c60
      have r61 : Rd (prK strK (prK strK boolK)) Vl38 A58 c59 ((l.getD (k) (0, 0, [])).2.2) := r61
      have l62 : ((l.getD (k) (0, 0, [])).2.2).length ≤ 140737488355328 := r61.max
      refine gH (.load 89 (.tmp 35)) (some 36) (by kernel_rfl) (Y_loadS (b := b52) (off := o53) [.int .i64 ((l.getD (k) (0, 0, [])).1), .int .i64 ((l.getD (k) (0, 0, [])).2.1), .slice A58 ((l.getD (k) (0, 0, [])).2.2).length c59] (cells3 c54 c56 c60) (by kernel_rfl) (by kernel_rfl) (by kernel_rfl)) ?_
      refine h_s (and_fs (fre_alloc (h := (by kernel_rfl : opAt _ _ _ _ _ = some (.alloc 50, some 15))) (by kernel_rfl)) no_fs) ?_
      refine h_a (by kernel_rfl) (by kernel_rfl) (fun w63 X64 hM65 => ?_)
      have hM66 := hM65.front 1 rfl
      have hM74 : Step V w [] Vl38 _ ([spE Ar_44bs11 Ar_44s11 cr_44s11 Ar_44ms11 (L) (a) (b), .blk b31 (.cells #[.slice Ar_44fc12_0 (L).length cr_44fc12_0, .int .i64 (a), .int .i64 (b)] 50)] ++ X64) := hM66
      refine wpF_callE [spE Ar_44bs11 Ar_44s11 cr_44s11 Ar_44ms11 (L) (a) (b)] ([.blk b31 (.cells #[.slice Ar_44fc12_0 (L).length cr_44fc12_0, .int .i64 (a), .int .i64 (b)] 50)] ++ X64) hM74 (f := 49) (caps := #[]) (h := (by kernel_rfl : opAt _ _ _ _ _ = some (.call (.mk (.value (.func 49)) #[(.tmp 31), (.tmp 32), (.tmp 36)] #[53, 50, 89]), some 37))) (by kernel_rfl) (by kernel_rfl) (by kernel_rfl) (f49 _ _ Ar_44bs11 Ar_44s11 cr_44s11 Ar_44ms11 (L) (a) (b) Ar_44fc12_0 cr_44fc12_0 (L) hfAr_44fc12_0 (a) (b) ((l.getD (k) (0, 0, [])).1) ((l.getD (k) (0, 0, [])).2.1) A58 c59 ((l.getD (k) (0, 0, [])).2.2) r61 (St.part (E := [spE Ar_44bs11 Ar_44s11 cr_44s11 Ar_44ms11 (L) (a) (b)]) (F := ([.blk b31 (.cells #[.slice Ar_44fc12_0 (L).length cr_44fc12_0, .int .i64 (a), .int .i64 (b)] 50)] ++ X64)) hM74.ok) (by exact hgo.1) (by rfl) (by rfl) (by rfl) (by omega) (by omega) (by exact fun y => Nat.le_trans (hgo.2.2 y) (by omega)) (by omega)) (fun v67 V68 w69 Eo70 le71 hM72 hp73 => ?_)
      obtain ⟨br74_1, Ar74_1, cr74_1, mr74_1, Ar74_2, cr74_2, rfl, rfl, r75⟩ := hp73
      have hM76 : Step V w [] V68 _ ([spE br74_1 Ar74_1 cr74_1 mr74_1 (stpS (L) (a) (b) ((l.getD (k) (0, 0, [])).1) ((l.getD (k) (0, 0, [])).2.1) ((l.getD (k) (0, 0, [])).2.2)) (stpT (a) ((l.getD (k) (0, 0, [])).1) ((l.getD (k) (0, 0, [])).2.1) ((l.getD (k) (0, 0, [])).2.2)) (stpM (a) (b) ((l.getD (k) (0, 0, [])).1) ((l.getD (k) (0, 0, [])).2.1)), .blk b31 (.cells #[.slice Ar_44fc12_0 (L).length cr_44fc12_0, .int .i64 (a), .int .i64 (b)] 50)] ++ X64) := hM72
      have l77 : (stpS (L) (a) (b) ((l.getD (k) (0, 0, [])).1) ((l.getD (k) (0, 0, [])).2.1) ((l.getD (k) (0, 0, [])).2.2)).length ≤ 140737488355328 := r75.max
      refine wpF_end _ (by kernel_rfl) (then_n (h_d [(.blk b31 (.cells #[.slice Ar_44fc12_0 (L).length cr_44fc12_0, .int .i64 (a), .int .i64 (b)] 50), 9999)] (by kernel_rfl) [spE br74_1 Ar74_1 cr74_1 mr74_1 (stpS (L) (a) (b) ((l.getD (k) (0, 0, [])).1) ((l.getD (k) (0, 0, [])).2.1) ((l.getD (k) (0, 0, [])).2.2)) (stpT (a) ((l.getD (k) (0, 0, [])).1) ((l.getD (k) (0, 0, [])).2.1) ((l.getD (k) (0, 0, [])).2.2)) (stpM (a) (b) ((l.getD (k) (0, 0, [])).1) ((l.getD (k) (0, 0, [])).2.1)), .blk b31 (.cells #[.slice Ar_44fc12_0 (L).length cr_44fc12_0, .int .i64 (a), .int .i64 (b)] 50)] hM76 (and_held 1 rfl no_held) le71 ?_))
      refine h_seg 4 (by kernel_rfl) ?_
      refine h_f (d := 15) ⟨11, fun b_ => .pointer (some ⟨b_, 0, none⟩), #[.slice none 0 0, .int .i64 (0), .int .i64 (0)], 50⟩ (by kernel_rfl) (by kernel_rfl) (by kernel_rfl) (fun b78 => ?_)
      refine h_seg 1 (by kernel_rfl) ?_
      refine h_a (by kernel_rfl) (by kernel_rfl) (fun w79 X80 hM81 => ?_)
      refine wpF_store hM81 0 rfl (h := (by kernel_rfl : opAt _ _ _ _ _ = some (.store 50 (.tmp 15) (.tmp 39), none))) (off := 0) (by kernel_rfl) #[.slice Ar74_2 (stpS (L) (a) (b) ((l.getD (k) (0, 0, [])).1) ((l.getD (k) (0, 0, [])).2.1) ((l.getD (k) (0, 0, [])).2.2)).length cr74_2, .int .i64 (stpT (a) ((l.getD (k) (0, 0, [])).1) ((l.getD (k) (0, 0, [])).2.1) ((l.getD (k) (0, 0, [])).2.2)), .int .i64 (stpM (a) (b) ((l.getD (k) (0, 0, [])).1) ((l.getD (k) (0, 0, [])).2.1))] (by kernel_rfl) (by kernel_rfl) (by kernel_rfl) (by kernel_rfl) (fun w83 hM82 => ?_)
      have hM84 : Step V w [] V68 _ ([.blk b78 (.cells #[.slice Ar74_2 (stpS (L) (a) (b) ((l.getD (k) (0, 0, [])).1) ((l.getD (k) (0, 0, [])).2.1) ((l.getD (k) (0, 0, [])).2.2)).length cr74_2, .int .i64 (stpT (a) ((l.getD (k) (0, 0, [])).1) ((l.getD (k) (0, 0, [])).2.1) ((l.getD (k) (0, 0, [])).2.2)), .int .i64 (stpM (a) (b) ((l.getD (k) (0, 0, [])).1) ((l.getD (k) (0, 0, [])).2.1))] 50), spE br74_1 Ar74_1 cr74_1 mr74_1 (stpS (L) (a) (b) ((l.getD (k) (0, 0, [])).1) ((l.getD (k) (0, 0, [])).2.1) ((l.getD (k) (0, 0, [])).2.2)) (stpT (a) ((l.getD (k) (0, 0, [])).1) ((l.getD (k) (0, 0, [])).2.1) ((l.getD (k) (0, 0, [])).2.2)) (stpM (a) (b) ((l.getD (k) (0, 0, [])).1) ((l.getD (k) (0, 0, [])).2.1)), .blk b31 (.cells #[.slice Ar_44fc12_0 (L).length cr_44fc12_0, .int .i64 (a), .int .i64 (b)] 50)] ++ X80) := hM82
      refine wpF_end _ (by kernel_rfl) (then_n (h_d [(.blk b31 (.cells #[.slice Ar_44fc12_0 (L).length cr_44fc12_0, .int .i64 (a), .int .i64 (b)] 50), 9999)] (by kernel_rfl) [.blk b78 (.cells #[.slice Ar74_2 (stpS (L) (a) (b) ((l.getD (k) (0, 0, [])).1) ((l.getD (k) (0, 0, [])).2.1) ((l.getD (k) (0, 0, [])).2.2)).length cr74_2, .int .i64 (stpT (a) ((l.getD (k) (0, 0, [])).1) ((l.getD (k) (0, 0, [])).2.1) ((l.getD (k) (0, 0, [])).2.2)), .int .i64 (stpM (a) (b) ((l.getD (k) (0, 0, [])).1) ((l.getD (k) (0, 0, [])).2.1))] 50), spE br74_1 Ar74_1 cr74_1 mr74_1 (stpS (L) (a) (b) ((l.getD (k) (0, 0, [])).1) ((l.getD (k) (0, 0, [])).2.1) ((l.getD (k) (0, 0, [])).2.2)) (stpT (a) ((l.getD (k) (0, 0, [])).1) ((l.getD (k) (0, 0, [])).2.1) ((l.getD (k) (0, 0, [])).2.2)) (stpM (a) (b) ((l.getD (k) (0, 0, [])).1) ((l.getD (k) (0, 0, [])).2.1)), .blk b31 (.cells #[.slice Ar_44fc12_0 (L).length cr_44fc12_0, .int .i64 (a), .int .i64 (b)] 50)] hM84 (and_held 2 rfl no_held) (VT.le.refl _) ?_))
      refine h_seg 1 (by kernel_rfl) ?_
      refine h_n (fun w85 hM86 => ?_)
      refine  (then_n (hK50 _ _ ?_))
      refine wp_seq_k (fun K87 hK87 => ?_)
      refine wp_seq_k (fun K88 hK88 => ?_)
      refine wp_reg ?_
      refine wpF_seg 4 (by kernel_rfl) ?_
      refine gF hM86 (.load 50 (.tmp 15)) (some 45) (by kernel_rfl) (Y_load 0 rfl (off := 0) (by kernel_rfl) (.agg #[.slice Ar74_2 (stpS (L) (a) (b) ((l.getD (k) (0, 0, [])).1) ((l.getD (k) (0, 0, [])).2.1) ((l.getD (k) (0, 0, [])).2.2)).length cr74_2, .int .i64 (stpT (a) ((l.getD (k) (0, 0, [])).1) ((l.getD (k) (0, 0, [])).2.1) ((l.getD (k) (0, 0, [])).2.2)), .int .i64 (stpM (a) (b) ((l.getD (k) (0, 0, [])).1) ((l.getD (k) (0, 0, [])).2.1))]) (by kernel_rfl)) ?_
      have hM89 := hM86.front 1 rfl
      have hM97 : Step V w [] V68 _ ([spE br74_1 Ar74_1 cr74_1 mr74_1 (stpS (L) (a) (b) ((l.getD (k) (0, 0, [])).1) ((l.getD (k) (0, 0, [])).2.1) ((l.getD (k) (0, 0, [])).2.2)) (stpT (a) ((l.getD (k) (0, 0, [])).1) ((l.getD (k) (0, 0, [])).2.1) ((l.getD (k) (0, 0, [])).2.2)) (stpM (a) (b) ((l.getD (k) (0, 0, [])).1) ((l.getD (k) (0, 0, [])).2.1)), .blk b78 (.cells #[.slice Ar74_2 (stpS (L) (a) (b) ((l.getD (k) (0, 0, [])).1) ((l.getD (k) (0, 0, [])).2.1) ((l.getD (k) (0, 0, [])).2.2)).length cr74_2, .int .i64 (stpT (a) ((l.getD (k) (0, 0, [])).1) ((l.getD (k) (0, 0, [])).2.1) ((l.getD (k) (0, 0, [])).2.2)), .int .i64 (stpM (a) (b) ((l.getD (k) (0, 0, [])).1) ((l.getD (k) (0, 0, [])).2.1))] 50), .blk b31 (.cells #[.slice Ar_44fc12_0 (L).length cr_44fc12_0, .int .i64 (a), .int .i64 (b)] 50)]) := hM89
      refine wpF_callE [spE br74_1 Ar74_1 cr74_1 mr74_1 (stpS (L) (a) (b) ((l.getD (k) (0, 0, [])).1) ((l.getD (k) (0, 0, [])).2.1) ((l.getD (k) (0, 0, [])).2.2)) (stpT (a) ((l.getD (k) (0, 0, [])).1) ((l.getD (k) (0, 0, [])).2.1) ((l.getD (k) (0, 0, [])).2.2)) (stpM (a) (b) ((l.getD (k) (0, 0, [])).1) ((l.getD (k) (0, 0, [])).2.1))] ([.blk b78 (.cells #[.slice Ar74_2 (stpS (L) (a) (b) ((l.getD (k) (0, 0, [])).1) ((l.getD (k) (0, 0, [])).2.1) ((l.getD (k) (0, 0, [])).2.2)).length cr74_2, .int .i64 (stpT (a) ((l.getD (k) (0, 0, [])).1) ((l.getD (k) (0, 0, [])).2.1) ((l.getD (k) (0, 0, [])).2.2)), .int .i64 (stpM (a) (b) ((l.getD (k) (0, 0, [])).1) ((l.getD (k) (0, 0, [])).2.1))] 50), .blk b31 (.cells #[.slice Ar_44fc12_0 (L).length cr_44fc12_0, .int .i64 (a), .int .i64 (b)] 50)]) hM97 (f := 46) (caps := #[]) (h := (by kernel_rfl : opAt _ _ _ _ _ = some (.call (.mk (.value (.func 46)) #[(.tmp 44), (.tmp 45)] #[53, 50]), some 46))) (by kernel_rfl) (by kernel_rfl) (by kernel_rfl) (f46 _ _ br74_1 Ar74_1 cr74_1 mr74_1 (stpS (L) (a) (b) ((l.getD (k) (0, 0, [])).1) ((l.getD (k) (0, 0, [])).2.1) ((l.getD (k) (0, 0, [])).2.2)) (stpT (a) ((l.getD (k) (0, 0, [])).1) ((l.getD (k) (0, 0, [])).2.1) ((l.getD (k) (0, 0, [])).2.2)) (stpM (a) (b) ((l.getD (k) (0, 0, [])).1) ((l.getD (k) (0, 0, [])).2.1)) Ar74_2 cr74_2 (stpS (L) (a) (b) ((l.getD (k) (0, 0, [])).1) ((l.getD (k) (0, 0, [])).2.1) ((l.getD (k) (0, 0, [])).2.2)) r75 (stpT (a) ((l.getD (k) (0, 0, [])).1) ((l.getD (k) (0, 0, [])).2.1) ((l.getD (k) (0, 0, [])).2.2)) (stpM (a) (b) ((l.getD (k) (0, 0, [])).1) ((l.getD (k) (0, 0, [])).2.1)) (St.part (E := [spE br74_1 Ar74_1 cr74_1 mr74_1 (stpS (L) (a) (b) ((l.getD (k) (0, 0, [])).1) ((l.getD (k) (0, 0, [])).2.1) ((l.getD (k) (0, 0, [])).2.2)) (stpT (a) ((l.getD (k) (0, 0, [])).1) ((l.getD (k) (0, 0, [])).2.1) ((l.getD (k) (0, 0, [])).2.2)) (stpM (a) (b) ((l.getD (k) (0, 0, [])).1) ((l.getD (k) (0, 0, [])).2.1))]) (F := ([.blk b78 (.cells #[.slice Ar74_2 (stpS (L) (a) (b) ((l.getD (k) (0, 0, [])).1) ((l.getD (k) (0, 0, [])).2.1) ((l.getD (k) (0, 0, [])).2.2)).length cr74_2, .int .i64 (stpT (a) ((l.getD (k) (0, 0, [])).1) ((l.getD (k) (0, 0, [])).2.1) ((l.getD (k) (0, 0, [])).2.2)), .int .i64 (stpM (a) (b) ((l.getD (k) (0, 0, [])).1) ((l.getD (k) (0, 0, [])).2.1))] 50), .blk b31 (.cells #[.slice Ar_44fc12_0 (L).length cr_44fc12_0, .int .i64 (a), .int .i64 (b)] 50)])) hM97.ok) (by omega) (by exact fun y => Nat.le_trans (hgn.2.2 y) (by omega))) (fun v90 V91 w92 Eo93 le94 hM95 hp96 => ?_)
      obtain ⟨rfl, rfl⟩ := hp96
      have hM98 : Step V w [] V91 _ ([spE br74_1 Ar74_1 cr74_1 mr74_1 ((stpS (L) (a) (b) ((l.getD (k) (0, 0, [])).1) ((l.getD (k) (0, 0, [])).2.1) ((l.getD (k) (0, 0, [])).2.2))) ((stpT (a) ((l.getD (k) (0, 0, [])).1) ((l.getD (k) (0, 0, [])).2.1) ((l.getD (k) (0, 0, [])).2.2))) ((stpM (a) (b) ((l.getD (k) (0, 0, [])).1) ((l.getD (k) (0, 0, [])).2.1))), .blk b78 (.cells #[.slice Ar74_2 (stpS (L) (a) (b) ((l.getD (k) (0, 0, [])).1) ((l.getD (k) (0, 0, [])).2.1) ((l.getD (k) (0, 0, [])).2.2)).length cr74_2, .int .i64 (stpT (a) ((l.getD (k) (0, 0, [])).1) ((l.getD (k) (0, 0, [])).2.1) ((l.getD (k) (0, 0, [])).2.2)), .int .i64 (stpM (a) (b) ((l.getD (k) (0, 0, [])).1) ((l.getD (k) (0, 0, [])).2.1))] 50), .blk b31 (.cells #[.slice Ar_44fc12_0 (L).length cr_44fc12_0, .int .i64 (a), .int .i64 (b)] 50)]) := hM95
      refine wpF_seg 3 (by kernel_rfl) ?_
      have h99 : (decide ((stpS (L) (a) (b) ((l.getD (k) (0, 0, [])).1) ((l.getD (k) (0, 0, [])).2.1) ((l.getD (k) (0, 0, [])).2.2)) = (stpS (L) (a) (b) ((l.getD (k) (0, 0, [])).1) ((l.getD (k) (0, 0, [])).2.1) ((l.getD (k) (0, 0, [])).2.2))) && decide ((stpT (a) ((l.getD (k) (0, 0, [])).1) ((l.getD (k) (0, 0, [])).2.1) ((l.getD (k) (0, 0, [])).2.2)) = (stpT (a) ((l.getD (k) (0, 0, [])).1) ((l.getD (k) (0, 0, [])).2.1) ((l.getD (k) (0, 0, [])).2.2))) && decide ((stpM (a) (b) ((l.getD (k) (0, 0, [])).1) ((l.getD (k) (0, 0, [])).2.1)) = (stpM (a) (b) ((l.getD (k) (0, 0, [])).1) ((l.getD (k) (0, 0, [])).2.1)))) = true := by simp
      refine wpF_slot 49 (.bool (!(decide ((stpS (L) (a) (b) ((l.getD (k) (0, 0, [])).1) ((l.getD (k) (0, 0, [])).2.1) ((l.getD (k) (0, 0, [])).2.2)) = (stpS (L) (a) (b) ((l.getD (k) (0, 0, [])).1) ((l.getD (k) (0, 0, [])).2.1) ((l.getD (k) (0, 0, [])).2.2))) && decide ((stpT (a) ((l.getD (k) (0, 0, [])).1) ((l.getD (k) (0, 0, [])).2.1) ((l.getD (k) (0, 0, [])).2.2)) = (stpT (a) ((l.getD (k) (0, 0, [])).1) ((l.getD (k) (0, 0, [])).2.1) ((l.getD (k) (0, 0, [])).2.2))) && decide ((stpM (a) (b) ((l.getD (k) (0, 0, [])).1) ((l.getD (k) (0, 0, [])).2.1)) = (stpM (a) (b) ((l.getD (k) (0, 0, [])).1) ((l.getD (k) (0, 0, [])).2.1)))))) (.bool false) (by kernel_rfl) (by kernel_rfl) (by rw [(show (!(decide ((stpS (L) (a) (b) ((l.getD (k) (0, 0, [])).1) ((l.getD (k) (0, 0, [])).2.1) ((l.getD (k) (0, 0, [])).2.2)) = (stpS (L) (a) (b) ((l.getD (k) (0, 0, [])).1) ((l.getD (k) (0, 0, [])).2.1) ((l.getD (k) (0, 0, [])).2.2))) && decide ((stpT (a) ((l.getD (k) (0, 0, [])).1) ((l.getD (k) (0, 0, [])).2.1) ((l.getD (k) (0, 0, [])).2.2)) = (stpT (a) ((l.getD (k) (0, 0, [])).1) ((l.getD (k) (0, 0, [])).2.1) ((l.getD (k) (0, 0, [])).2.2))) && decide ((stpM (a) (b) ((l.getD (k) (0, 0, [])).1) ((l.getD (k) (0, 0, [])).2.1)) = (stpM (a) (b) ((l.getD (k) (0, 0, [])).1) ((l.getD (k) (0, 0, [])).2.1))))) = false from by rw [h99]; rfl)]) ?_
      refine wpF_seg 1 (by kernel_rfl) ?_
      refine gF hM98 (.load 50 (.tmp 15)) (some 51) (by kernel_rfl) (Y_load 1 rfl (off := 0) (by kernel_rfl) (.agg #[.slice Ar74_2 (stpS (L) (a) (b) ((l.getD (k) (0, 0, [])).1) ((l.getD (k) (0, 0, [])).2.1) ((l.getD (k) (0, 0, [])).2.2)).length cr74_2, .int .i64 (stpT (a) ((l.getD (k) (0, 0, [])).1) ((l.getD (k) (0, 0, [])).2.1) ((l.getD (k) (0, 0, [])).2.2)), .int .i64 (stpM (a) (b) ((l.getD (k) (0, 0, [])).1) ((l.getD (k) (0, 0, [])).2.1))]) (by kernel_rfl)) ?_
      refine wpF_seg 5 (by kernel_rfl) ?_
      have hM100 := hM98.front 0 rfl
      have hM108 : Step V w [] V91 _ ([spE br74_1 Ar74_1 cr74_1 mr74_1 ((stpS (L) (a) (b) ((l.getD (k) (0, 0, [])).1) ((l.getD (k) (0, 0, [])).2.1) ((l.getD (k) (0, 0, [])).2.2))) ((stpT (a) ((l.getD (k) (0, 0, [])).1) ((l.getD (k) (0, 0, [])).2.1) ((l.getD (k) (0, 0, [])).2.2))) ((stpM (a) (b) ((l.getD (k) (0, 0, [])).1) ((l.getD (k) (0, 0, [])).2.1))), .blk b78 (.cells #[.slice Ar74_2 (stpS (L) (a) (b) ((l.getD (k) (0, 0, [])).1) ((l.getD (k) (0, 0, [])).2.1) ((l.getD (k) (0, 0, [])).2.2)).length cr74_2, .int .i64 (stpT (a) ((l.getD (k) (0, 0, [])).1) ((l.getD (k) (0, 0, [])).2.1) ((l.getD (k) (0, 0, [])).2.2)), .int .i64 (stpM (a) (b) ((l.getD (k) (0, 0, [])).1) ((l.getD (k) (0, 0, [])).2.1))] 50), .blk b31 (.cells #[.slice Ar_44fc12_0 (L).length cr_44fc12_0, .int .i64 (a), .int .i64 (b)] 50)]) := hM100
      refine wpF_callE [spE br74_1 Ar74_1 cr74_1 mr74_1 ((stpS (L) (a) (b) ((l.getD (k) (0, 0, [])).1) ((l.getD (k) (0, 0, [])).2.1) ((l.getD (k) (0, 0, [])).2.2))) ((stpT (a) ((l.getD (k) (0, 0, [])).1) ((l.getD (k) (0, 0, [])).2.1) ((l.getD (k) (0, 0, [])).2.2))) ((stpM (a) (b) ((l.getD (k) (0, 0, [])).1) ((l.getD (k) (0, 0, [])).2.1)))] ([.blk b78 (.cells #[.slice Ar74_2 (stpS (L) (a) (b) ((l.getD (k) (0, 0, [])).1) ((l.getD (k) (0, 0, [])).2.1) ((l.getD (k) (0, 0, [])).2.2)).length cr74_2, .int .i64 (stpT (a) ((l.getD (k) (0, 0, [])).1) ((l.getD (k) (0, 0, [])).2.1) ((l.getD (k) (0, 0, [])).2.2)), .int .i64 (stpM (a) (b) ((l.getD (k) (0, 0, [])).1) ((l.getD (k) (0, 0, [])).2.1))] 50), .blk b31 (.cells #[.slice Ar_44fc12_0 (L).length cr_44fc12_0, .int .i64 (a), .int .i64 (b)] 50)]) hM108 (f := 47) (caps := #[]) (h := (by kernel_rfl : opAt _ _ _ _ _ = some (.call (.mk (.value (.func 47)) #[(.tmp 50), (.tmp 51), (.tmp 52), (.tmp 53), (.tmp 54), (.tmp 55), (.tmp 56)] #[53, 50, 9, 9, 9, 3, 3]), some 57))) (by kernel_rfl) (by kernel_rfl) (by kernel_rfl) (f47 _ _ br74_1 Ar74_1 cr74_1 mr74_1 ((stpS (L) (a) (b) ((l.getD (k) (0, 0, [])).1) ((l.getD (k) (0, 0, [])).2.1) ((l.getD (k) (0, 0, [])).2.2))) ((stpT (a) ((l.getD (k) (0, 0, [])).1) ((l.getD (k) (0, 0, [])).2.1) ((l.getD (k) (0, 0, [])).2.2))) ((stpM (a) (b) ((l.getD (k) (0, 0, [])).1) ((l.getD (k) (0, 0, [])).2.1))) Ar74_2 cr74_2 (stpS (L) (a) (b) ((l.getD (k) (0, 0, [])).1) ((l.getD (k) (0, 0, [])).2.1) ((l.getD (k) (0, 0, [])).2.2)) (r75.up le94) (stpT (a) ((l.getD (k) (0, 0, [])).1) ((l.getD (k) (0, 0, [])).2.1) ((l.getD (k) (0, 0, [])).2.2)) (stpM (a) (b) ((l.getD (k) (0, 0, [])).1) ((l.getD (k) (0, 0, [])).2.1)) (y) (hy) (y) (hy) (z) (hz) (t) (n) (St.part (E := [spE br74_1 Ar74_1 cr74_1 mr74_1 ((stpS (L) (a) (b) ((l.getD (k) (0, 0, [])).1) ((l.getD (k) (0, 0, [])).2.1) ((l.getD (k) (0, 0, [])).2.2))) ((stpT (a) ((l.getD (k) (0, 0, [])).1) ((l.getD (k) (0, 0, [])).2.1) ((l.getD (k) (0, 0, [])).2.2))) ((stpM (a) (b) ((l.getD (k) (0, 0, [])).1) ((l.getD (k) (0, 0, [])).2.1)))]) (F := ([.blk b78 (.cells #[.slice Ar74_2 (stpS (L) (a) (b) ((l.getD (k) (0, 0, [])).1) ((l.getD (k) (0, 0, [])).2.1) ((l.getD (k) (0, 0, [])).2.2)).length cr74_2, .int .i64 (stpT (a) ((l.getD (k) (0, 0, [])).1) ((l.getD (k) (0, 0, [])).2.1) ((l.getD (k) (0, 0, [])).2.2)), .int .i64 (stpM (a) (b) ((l.getD (k) (0, 0, [])).1) ((l.getD (k) (0, 0, [])).2.1))] 50), .blk b31 (.cells #[.slice Ar_44fc12_0 (L).length cr_44fc12_0, .int .i64 (a), .int .i64 (b)] 50)])) hM108.ok) (by omega) (by exact fun y => Nat.le_trans (hgn.2.2 y) (by omega)) (by rfl) (by rfl) (by rfl)) (fun v101 V102 w103 Eo104 le105 hM106 hp107 => ?_)
      obtain ⟨rfl, rfl⟩ := hp107
      have hM109 : Step V w [] V102 _ ([spE br74_1 Ar74_1 cr74_1 mr74_1 (((stpS (L) (a) (b) ((l.getD (k) (0, 0, [])).1) ((l.getD (k) (0, 0, [])).2.1) ((l.getD (k) (0, 0, [])).2.2)))) (((stpT (a) ((l.getD (k) (0, 0, [])).1) ((l.getD (k) (0, 0, [])).2.1) ((l.getD (k) (0, 0, [])).2.2)))) (((stpM (a) (b) ((l.getD (k) (0, 0, [])).1) ((l.getD (k) (0, 0, [])).2.1)))), .blk b78 (.cells #[.slice Ar74_2 (stpS (L) (a) (b) ((l.getD (k) (0, 0, [])).1) ((l.getD (k) (0, 0, [])).2.1) ((l.getD (k) (0, 0, [])).2.2)).length cr74_2, .int .i64 (stpT (a) ((l.getD (k) (0, 0, [])).1) ((l.getD (k) (0, 0, [])).2.1) ((l.getD (k) (0, 0, [])).2.2)), .int .i64 (stpM (a) (b) ((l.getD (k) (0, 0, [])).1) ((l.getD (k) (0, 0, [])).2.1))] 50), .blk b31 (.cells #[.slice Ar_44fc12_0 (L).length cr_44fc12_0, .int .i64 (a), .int .i64 (b)] 50)]) := hM106
      refine wpF_seg 2 (by kernel_rfl) ?_
      refine wpF_end _ (by kernel_rfl) (then_n (hK88 _ _ ?_))
      refine wp_cf (by kernel_rfl) ?_
      refine wp_skip (then_n (hK87 _ _ ?_))
      refine wp_base [(0, .slice Al (l).length cl), (1, bs (y)), (2, bs (z)), (3, .int .i64 (t)), (4, .int .i64 (n)), (11, .pointer (some ⟨Ar_44bs11, 0, none⟩)), (12, .pointer (some ⟨b31, 0, none⟩)), (13, .int .i64 ((k : Int))), (14, .pointer (some ⟨br74_1, 0, none⟩)), (15, .pointer (some ⟨b78, 0, none⟩)), (16, .bool (true)), (24, .int .i64 ((k : Int))), (25, .slice Al (l).length cl), (26, .int .i64 ((l.length : Int))), (27, .bool (decide (((k : Int)) < ((l.length : Int))))), (30, .tuple #[.pointer (some ⟨br74_1, 0, none⟩), .agg #[.slice Ar74_2 (stpS (L) (a) (b) ((l.getD (k) (0, 0, [])).1) ((l.getD (k) (0, 0, [])).2.1) ((l.getD (k) (0, 0, [])).2.2)).length cr74_2, .int .i64 (stpT (a) ((l.getD (k) (0, 0, [])).1) ((l.getD (k) (0, 0, [])).2.1) ((l.getD (k) (0, 0, [])).2.2)), .int .i64 (stpM (a) (b) ((l.getD (k) (0, 0, [])).1) ((l.getD (k) (0, 0, [])).2.1))], .bool (true)]), (31, .pointer (some ⟨Ar_44bs11, 0, none⟩)), (32, .agg #[.slice Ar_44fc12_0 (L).length cr_44fc12_0, .int .i64 (a), .int .i64 (b)]), (33, .slice Al (l).length cl), (34, .int .i64 ((k : Int))), (35, .pointer (some ⟨b52, o53, none⟩)), (36, .agg #[.int .i64 ((l.getD (k) (0, 0, [])).1), .int .i64 ((l.getD (k) (0, 0, [])).2.1), .slice A58 ((l.getD (k) (0, 0, [])).2.2).length c59]), (37, .tuple #[.pointer (some ⟨br74_1, 0, none⟩), .agg #[.slice Ar74_2 (stpS (L) (a) (b) ((l.getD (k) (0, 0, [])).1) ((l.getD (k) (0, 0, [])).2.1) ((l.getD (k) (0, 0, [])).2.2)).length cr74_2, .int .i64 (stpT (a) ((l.getD (k) (0, 0, [])).1) ((l.getD (k) (0, 0, [])).2.1) ((l.getD (k) (0, 0, [])).2.2)), .int .i64 (stpM (a) (b) ((l.getD (k) (0, 0, [])).1) ((l.getD (k) (0, 0, [])).2.1))], .bool (true)]), (38, .pointer (some ⟨br74_1, 0, none⟩)), (39, .agg #[.slice Ar74_2 (stpS (L) (a) (b) ((l.getD (k) (0, 0, [])).1) ((l.getD (k) (0, 0, [])).2.1) ((l.getD (k) (0, 0, [])).2.2)).length cr74_2, .int .i64 (stpT (a) ((l.getD (k) (0, 0, [])).1) ((l.getD (k) (0, 0, [])).2.1) ((l.getD (k) (0, 0, [])).2.2)), .int .i64 (stpM (a) (b) ((l.getD (k) (0, 0, [])).1) ((l.getD (k) (0, 0, [])).2.1))]), (40, .bool (true)), (41, .bool (true)), (42, .bool (false)), (43, .bool (false)), (44, .pointer (some ⟨br74_1, 0, none⟩)), (45, .agg #[.slice Ar74_2 (stpS (L) (a) (b) ((l.getD (k) (0, 0, [])).1) ((l.getD (k) (0, 0, [])).2.1) ((l.getD (k) (0, 0, [])).2.2)).length cr74_2, .int .i64 (stpT (a) ((l.getD (k) (0, 0, [])).1) ((l.getD (k) (0, 0, [])).2.1) ((l.getD (k) (0, 0, [])).2.2)), .int .i64 (stpM (a) (b) ((l.getD (k) (0, 0, [])).1) ((l.getD (k) (0, 0, [])).2.1))]), (46, .bool (decide ((stpS (L) (a) (b) ((l.getD (k) (0, 0, [])).1) ((l.getD (k) (0, 0, [])).2.1) ((l.getD (k) (0, 0, [])).2.2)) = (stpS (L) (a) (b) ((l.getD (k) (0, 0, [])).1) ((l.getD (k) (0, 0, [])).2.1) ((l.getD (k) (0, 0, [])).2.2))) && decide ((stpT (a) ((l.getD (k) (0, 0, [])).1) ((l.getD (k) (0, 0, [])).2.1) ((l.getD (k) (0, 0, [])).2.2)) = (stpT (a) ((l.getD (k) (0, 0, [])).1) ((l.getD (k) (0, 0, [])).2.1) ((l.getD (k) (0, 0, [])).2.2))) && decide ((stpM (a) (b) ((l.getD (k) (0, 0, [])).1) ((l.getD (k) (0, 0, [])).2.1)) = (stpM (a) (b) ((l.getD (k) (0, 0, [])).1) ((l.getD (k) (0, 0, [])).2.1))))), (47, .bool (!(decide ((stpS (L) (a) (b) ((l.getD (k) (0, 0, [])).1) ((l.getD (k) (0, 0, [])).2.1) ((l.getD (k) (0, 0, [])).2.2)) = (stpS (L) (a) (b) ((l.getD (k) (0, 0, [])).1) ((l.getD (k) (0, 0, [])).2.1) ((l.getD (k) (0, 0, [])).2.2))) && decide ((stpT (a) ((l.getD (k) (0, 0, [])).1) ((l.getD (k) (0, 0, [])).2.1) ((l.getD (k) (0, 0, [])).2.2)) = (stpT (a) ((l.getD (k) (0, 0, [])).1) ((l.getD (k) (0, 0, [])).2.1) ((l.getD (k) (0, 0, [])).2.2))) && decide ((stpM (a) (b) ((l.getD (k) (0, 0, [])).1) ((l.getD (k) (0, 0, [])).2.1)) = (stpM (a) (b) ((l.getD (k) (0, 0, [])).1) ((l.getD (k) (0, 0, [])).2.1)))))), (48, .bool (!(decide ((stpS (L) (a) (b) ((l.getD (k) (0, 0, [])).1) ((l.getD (k) (0, 0, [])).2.1) ((l.getD (k) (0, 0, [])).2.2)) = (stpS (L) (a) (b) ((l.getD (k) (0, 0, [])).1) ((l.getD (k) (0, 0, [])).2.1) ((l.getD (k) (0, 0, [])).2.2))) && decide ((stpT (a) ((l.getD (k) (0, 0, [])).1) ((l.getD (k) (0, 0, [])).2.1) ((l.getD (k) (0, 0, [])).2.2)) = (stpT (a) ((l.getD (k) (0, 0, [])).1) ((l.getD (k) (0, 0, [])).2.1) ((l.getD (k) (0, 0, [])).2.2))) && decide ((stpM (a) (b) ((l.getD (k) (0, 0, [])).1) ((l.getD (k) (0, 0, [])).2.1)) = (stpM (a) (b) ((l.getD (k) (0, 0, [])).1) ((l.getD (k) (0, 0, [])).2.1)))))), (49, .bool (false)), (50, .pointer (some ⟨br74_1, 0, none⟩)), (51, .agg #[.slice Ar74_2 (stpS (L) (a) (b) ((l.getD (k) (0, 0, [])).1) ((l.getD (k) (0, 0, [])).2.1) ((l.getD (k) (0, 0, [])).2.2)).length cr74_2, .int .i64 (stpT (a) ((l.getD (k) (0, 0, [])).1) ((l.getD (k) (0, 0, [])).2.1) ((l.getD (k) (0, 0, [])).2.2)), .int .i64 (stpM (a) (b) ((l.getD (k) (0, 0, [])).1) ((l.getD (k) (0, 0, [])).2.1))]), (52, bs (y)), (53, bs (y)), (54, bs (z)), (55, .int .i64 (t)), (56, .int .i64 (n)), (57, .bool (true)), (58, .bool (false)), (59, .bool (false))] (by kernel_rfl) (fun g110 => ?_)
      refine wp_drawN hM109 [(.blk b78 (.cells #[.slice Ar74_2 (stpS (L) (a) (b) ((l.getD (k) (0, 0, [])).1) ((l.getD (k) (0, 0, [])).2.1) ((l.getD (k) (0, 0, [])).2.2)).length cr74_2, .int .i64 (stpT (a) ((l.getD (k) (0, 0, [])).1) ((l.getD (k) (0, 0, [])).2.1) ((l.getD (k) (0, 0, [])).2.2)), .int .i64 (stpM (a) (b) ((l.getD (k) (0, 0, [])).1) ((l.getD (k) (0, 0, [])).2.1))] 50), 9999)] (and_held 1 rfl no_held) [] [0, 1, 2] [.a 3] [.p 0, .p 1, .p 2, .s, .a 3] rfl (by kernel_rfl) (by kernel_rfl) ?_
      refine h_seg 1 (by kernel_rfl) ?_
      refine gH (.load 50 (.tmp 15)) (some 61) (by kernel_rfl) (Y_load 0 (by kernel_rfl : (FOf _ _ _)[0]? = some (.blk b78 (.cells #[.slice Ar74_2 (stpS (L) (a) (b) ((l.getD (k) (0, 0, [])).1) ((l.getD (k) (0, 0, [])).2.1) ((l.getD (k) (0, 0, [])).2.2)).length cr74_2, .int .i64 (stpT (a) ((l.getD (k) (0, 0, [])).1) ((l.getD (k) (0, 0, [])).2.1) ((l.getD (k) (0, 0, [])).2.2)), .int .i64 (stpM (a) (b) ((l.getD (k) (0, 0, [])).1) ((l.getD (k) (0, 0, [])).2.1))] 50))) (off := 0) (by kernel_rfl) (.agg #[.slice Ar74_2 (stpS (L) (a) (b) ((l.getD (k) (0, 0, [])).1) ((l.getD (k) (0, 0, [])).2.1) ((l.getD (k) (0, 0, [])).2.2)).length cr74_2, .int .i64 (stpT (a) ((l.getD (k) (0, 0, [])).1) ((l.getD (k) (0, 0, [])).2.1) ((l.getD (k) (0, 0, [])).2.2)), .int .i64 (stpM (a) (b) ((l.getD (k) (0, 0, [])).1) ((l.getD (k) (0, 0, [])).2.1))]) (by kernel_rfl)) ?_
      refine h_seg 1 (by kernel_rfl) ?_
      refine h_s no_fs ?_
      refine h_a (by kernel_rfl) (by kernel_rfl) (fun w111 X112 hM113 => ?_)
      refine wpF_store hM113 2 rfl (h := (by kernel_rfl : opAt _ _ _ _ _ = some (.store 50 (.tmp 12) (.tmp 61), none))) (off := 0) (by kernel_rfl) #[.slice Ar74_2 (stpS (L) (a) (b) ((l.getD (k) (0, 0, [])).1) ((l.getD (k) (0, 0, [])).2.1) ((l.getD (k) (0, 0, [])).2.2)).length cr74_2, .int .i64 (stpT (a) ((l.getD (k) (0, 0, [])).1) ((l.getD (k) (0, 0, [])).2.1) ((l.getD (k) (0, 0, [])).2.2)), .int .i64 (stpM (a) (b) ((l.getD (k) (0, 0, [])).1) ((l.getD (k) (0, 0, [])).2.1))] (by kernel_rfl) (by kernel_rfl) (by kernel_rfl) (by kernel_rfl) (fun w115 hM114 => ?_)
      have hM116 : Step V w [] V102 _ ([spE br74_1 Ar74_1 cr74_1 mr74_1 (((stpS (L) (a) (b) ((l.getD (k) (0, 0, [])).1) ((l.getD (k) (0, 0, [])).2.1) ((l.getD (k) (0, 0, [])).2.2)))) (((stpT (a) ((l.getD (k) (0, 0, [])).1) ((l.getD (k) (0, 0, [])).2.1) ((l.getD (k) (0, 0, [])).2.2)))) (((stpM (a) (b) ((l.getD (k) (0, 0, [])).1) ((l.getD (k) (0, 0, [])).2.1)))), .blk b78 (.cells #[.slice Ar74_2 (stpS (L) (a) (b) ((l.getD (k) (0, 0, [])).1) ((l.getD (k) (0, 0, [])).2.1) ((l.getD (k) (0, 0, [])).2.2)).length cr74_2, .int .i64 (stpT (a) ((l.getD (k) (0, 0, [])).1) ((l.getD (k) (0, 0, [])).2.1) ((l.getD (k) (0, 0, [])).2.2)), .int .i64 (stpM (a) (b) ((l.getD (k) (0, 0, [])).1) ((l.getD (k) (0, 0, [])).2.1))] 50), .blk b31 (.cells #[.slice Ar74_2 (stpS (L) (a) (b) ((l.getD (k) (0, 0, [])).1) ((l.getD (k) (0, 0, [])).2.1) ((l.getD (k) (0, 0, [])).2.2)).length cr74_2, .int .i64 (stpT (a) ((l.getD (k) (0, 0, [])).1) ((l.getD (k) (0, 0, [])).2.1) ((l.getD (k) (0, 0, [])).2.2)), .int .i64 (stpM (a) (b) ((l.getD (k) (0, 0, [])).1) ((l.getD (k) (0, 0, [])).2.1))] 50)] ++ X112) := hM114
      refine wpF_end _ (by kernel_rfl) (then_n (h_d [(.blk b78 (.cells #[.slice Ar74_2 (stpS (L) (a) (b) ((l.getD (k) (0, 0, [])).1) ((l.getD (k) (0, 0, [])).2.1) ((l.getD (k) (0, 0, [])).2.2)).length cr74_2, .int .i64 (stpT (a) ((l.getD (k) (0, 0, [])).1) ((l.getD (k) (0, 0, [])).2.1) ((l.getD (k) (0, 0, [])).2.2)), .int .i64 (stpM (a) (b) ((l.getD (k) (0, 0, [])).1) ((l.getD (k) (0, 0, [])).2.1))] 50), 9999)] (by kernel_rfl) [spE br74_1 Ar74_1 cr74_1 mr74_1 (((stpS (L) (a) (b) ((l.getD (k) (0, 0, [])).1) ((l.getD (k) (0, 0, [])).2.1) ((l.getD (k) (0, 0, [])).2.2)))) (((stpT (a) ((l.getD (k) (0, 0, [])).1) ((l.getD (k) (0, 0, [])).2.1) ((l.getD (k) (0, 0, [])).2.2)))) (((stpM (a) (b) ((l.getD (k) (0, 0, [])).1) ((l.getD (k) (0, 0, [])).2.1)))), .blk b78 (.cells #[.slice Ar74_2 (stpS (L) (a) (b) ((l.getD (k) (0, 0, [])).1) ((l.getD (k) (0, 0, [])).2.1) ((l.getD (k) (0, 0, [])).2.2)).length cr74_2, .int .i64 (stpT (a) ((l.getD (k) (0, 0, [])).1) ((l.getD (k) (0, 0, [])).2.1) ((l.getD (k) (0, 0, [])).2.2)), .int .i64 (stpM (a) (b) ((l.getD (k) (0, 0, [])).1) ((l.getD (k) (0, 0, [])).2.1))] 50), .blk b31 (.cells #[.slice Ar74_2 (stpS (L) (a) (b) ((l.getD (k) (0, 0, [])).1) ((l.getD (k) (0, 0, [])).2.1) ((l.getD (k) (0, 0, [])).2.2)).length cr74_2, .int .i64 (stpT (a) ((l.getD (k) (0, 0, [])).1) ((l.getD (k) (0, 0, [])).2.1) ((l.getD (k) (0, 0, [])).2.2)), .int .i64 (stpM (a) (b) ((l.getD (k) (0, 0, [])).1) ((l.getD (k) (0, 0, [])).2.1))] 50)] hM116 (and_held 1 rfl no_held) (VT.le.refl _) ?_))
      refine h_n (fun w117 hM118 => ?_)
      refine  (blk_n (then_n (hK49 _ _ ?_)))
      refine wp_reg ?_
      refine wpF_seg 1 (by kernel_rfl) ?_
      refine gF hM118 (.binOp .add 3 (.tmp 28) (.const (.int .i64 1)) 3) (some 29) (by kernel_rfl) (Y_add .i64 ((k : Int)) (1) ((k : Int) + 1) (by kernel_rfl) (by kernel_rfl) (wrap64_ok _ (by omega))) ?_
      refine wpF_seg 1 (by kernel_rfl) ?_
      refine wpF_base [(0, .slice Al (l).length cl), (1, bs (y)), (2, bs (z)), (3, .int .i64 (t)), (4, .int .i64 (n)), (11, .pointer (some ⟨br74_1, 0, none⟩)), (12, .pointer (some ⟨b31, 0, none⟩)), (13, .int .i64 ((k + 1 : Int)))] (by kernel_rfl) (fun g119 => ?_)
      have hM120 := (hM118.front 1 rfl).drop
      have hM121 := hM120.front 0 rfl
      have hM122 := hM121.front 1 rfl
      refine wpF_end _ (by kernel_rfl) (then_n (hK44 _ _ (k + 1, stpS (L) (a) (b) ((l.getD (k) (0, 0, [])).1) ((l.getD (k) (0, 0, [])).2.1) ((l.getD (k) (0, 0, [])).2.2), stpT (a) ((l.getD (k) (0, 0, [])).1) ((l.getD (k) (0, 0, [])).2.1) ((l.getD (k) (0, 0, [])).2.2), stpM (a) (b) ((l.getD (k) (0, 0, [])).1) ((l.getD (k) (0, 0, [])).2.1)) (by omega) ?_))
      refine ⟨g119, V102, Ar74_1, cr74_1, br74_1, mr74_1, Ar74_2, cr74_2, rfl, hM122, (((le43.trans le71).trans le94).trans le105), (r75.up (le94.trans le105)), ?_, ?_⟩
      · -- fLt inv 0
        omega
      · -- fLt inv 1
        exact good_next (by omega) (by assumption)
    · -- fLf
      have p123 : ¬ (((k : Int)) < ((l.length : Int))) := of_decide_eq_false h47
      have hk : k = l.length := by omega
      have hgn : Good (0 + fewN l l.length) (L, a, b) := by rw [← hk]; assumption
      have hf2 := few_all hfew
      have hnl := hgn.2.1
      simp only [Nat.zero_add] at hnl
      refine wp_exit (then_x (then_x (blk_hit (then_n (hK36 _ _ ?_)))))
      obtain rfl : k = l.length := by omega
      refine wp_seq_k (fun K124 hK124 => ?_)
      refine wp_reg ?_
      refine wpF_seg 1 (by kernel_rfl) ?_
      refine gF hM42 (.load 50 (.tmp 12)) (some 63) (by kernel_rfl) (Y_load 0 rfl (off := 0) (by kernel_rfl) (.agg #[.slice Ar_44fc12_0 (L).length cr_44fc12_0, .int .i64 (a), .int .i64 (b)]) (by kernel_rfl)) ?_
      refine wpF_seg 4 (by kernel_rfl) ?_
      refine gF hM42 (.load 3 (.tmp 67)) (some 68) (by kernel_rfl) (Y_load 0 rfl (off := 1) (by kernel_rfl) (.int .i64 (a)) (by kernel_rfl)) ?_
      have hM125 := hM42.front 1 rfl
      have hM133 : Step V w [] Vl38 _ ([spE Ar_44bs11 Ar_44s11 cr_44s11 Ar_44ms11 (L) (a) (b), .blk b31 (.cells #[.slice Ar_44fc12_0 (L).length cr_44fc12_0, .int .i64 (a), .int .i64 (b)] 50)]) := hM125
      refine wpF_callE [spE Ar_44bs11 Ar_44s11 cr_44s11 Ar_44ms11 (L) (a) (b)] ([.blk b31 (.cells #[.slice Ar_44fc12_0 (L).length cr_44fc12_0, .int .i64 (a), .int .i64 (b)] 50)]) hM133 (f := 47) (caps := #[]) (h := (by kernel_rfl : opAt _ _ _ _ _ = some (.call (.mk (.value (.func 47)) #[(.tmp 62), (.tmp 63), (.tmp 64), (.tmp 65), (.tmp 66), (.tmp 68), (.const (.int .i64 (-1)))] #[53, 50, 9, 9, 9, 3, 3]), some 69))) (by kernel_rfl) (by kernel_rfl) (by kernel_rfl) (f47 _ _ Ar_44bs11 Ar_44s11 cr_44s11 Ar_44ms11 (L) (a) (b) Ar_44fc12_0 cr_44fc12_0 (L) hfAr_44fc12_0 (a) (b) (z) (hz) (y) (hy) (z) (hz) (a) (-1) (St.part (E := [spE Ar_44bs11 Ar_44s11 cr_44s11 Ar_44ms11 (L) (a) (b)]) (F := ([.blk b31 (.cells #[.slice Ar_44fc12_0 (L).length cr_44fc12_0, .int .i64 (a), .int .i64 (b)] 50)])) hM133.ok) (by omega) (by exact fun y => Nat.le_trans (hgn.2.2 y) (by omega)) (by rfl) (by rfl) (by rfl)) (fun v126 V127 w128 Eo129 le130 hM131 hp132 => ?_)
      obtain ⟨rfl, rfl⟩ := hp132
      have hM134 : Step V w [] V127 _ ([spE Ar_44bs11 Ar_44s11 cr_44s11 Ar_44ms11 ((L)) ((a)) ((b)), .blk b31 (.cells #[.slice Ar_44fc12_0 (L).length cr_44fc12_0, .int .i64 (a), .int .i64 (b)] 50)]) := hM131
      refine wpF_seg 2 (by kernel_rfl) ?_
      refine gF hM134 (.load 50 (.tmp 12)) (some 72) (by kernel_rfl) (Y_load 1 rfl (off := 0) (by kernel_rfl) (.agg #[.slice Ar_44fc12_0 (L).length cr_44fc12_0, .int .i64 (a), .int .i64 (b)]) (by kernel_rfl)) ?_
      refine wpF_seg 2 (by kernel_rfl) ?_
      refine gF hM134 (.load 3 (.tmp 74)) (some 75) (by kernel_rfl) (Y_load 1 rfl (off := 2) (by kernel_rfl) (.int .i64 (b)) (by kernel_rfl)) ?_
      refine wpF_seg 1 (by kernel_rfl) ?_
      have hM135 := hM134.front 0 rfl
      have hM143 : Step V w [] V127 _ ([spE Ar_44bs11 Ar_44s11 cr_44s11 Ar_44ms11 ((L)) ((a)) ((b)), .blk b31 (.cells #[.slice Ar_44fc12_0 (L).length cr_44fc12_0, .int .i64 (a), .int .i64 (b)] 50)]) := hM135
      refine wpF_callE [spE Ar_44bs11 Ar_44s11 cr_44s11 Ar_44ms11 ((L)) ((a)) ((b))] ([.blk b31 (.cells #[.slice Ar_44fc12_0 (L).length cr_44fc12_0, .int .i64 (a), .int .i64 (b)] 50)]) hM143 (f := 47) (caps := #[]) (h := (by kernel_rfl : opAt _ _ _ _ _ = some (.call (.mk (.value (.func 47)) #[(.tmp 71), (.tmp 72), (.tmp 73), (.const (.string (ByteArray.mk #[]))), (.const (.string (ByteArray.mk #[]))), (.tmp 75), (.tmp 76)] #[53, 50, 9, 9, 9, 3, 3]), some 77))) (by kernel_rfl) (by kernel_rfl) (by kernel_rfl) (f47 _ _ Ar_44bs11 Ar_44s11 cr_44s11 Ar_44ms11 ((L)) ((a)) ((b)) Ar_44fc12_0 cr_44fc12_0 (L) (hfAr_44fc12_0.up le130) (a) (b) (y) (hy) ([]) (by first | decide | (simp only [maxL, List.length_append, List.length_cons, List.length_nil]; omega)) ([]) (by first | decide | (simp only [maxL, List.length_append, List.length_cons, List.length_nil]; omega)) (b) (n) (St.part (E := [spE Ar_44bs11 Ar_44s11 cr_44s11 Ar_44ms11 ((L)) ((a)) ((b))]) (F := ([.blk b31 (.cells #[.slice Ar_44fc12_0 (L).length cr_44fc12_0, .int .i64 (a), .int .i64 (b)] 50)])) hM143.ok) (by omega) (by exact fun y => Nat.le_trans (hgn.2.2 y) (by omega)) (by rfl) (by rfl) (by rfl)) (fun v136 V137 w138 Eo139 le140 hM141 hp142 => ?_)
      obtain ⟨rfl, rfl⟩ := hp142
      have hM144 : Step V w [] V137 _ ([spE Ar_44bs11 Ar_44s11 cr_44s11 Ar_44ms11 (((L))) (((a))) (((b))), .blk b31 (.cells #[.slice Ar_44fc12_0 (L).length cr_44fc12_0, .int .i64 (a), .int .i64 (b)] 50)]) := hM141
      refine wpF_seg 2 (by kernel_rfl) ?_
      refine wpF_callP hM144 (f := 34) (caps := #[]) (h := (by kernel_rfl : opAt _ _ _ _ _ = some (.call (.mk (.value (.func 34)) #[] #[]), some 80))) (by kernel_rfl) (by kernel_rfl) (by kernel_rfl) (f34 _ _ hM144.inW ) (fun v145 V146 w147 le148 hM149 hp150 => ?_)
      obtain rfl := hp150
      refine wpF_seg 2 (by kernel_rfl) ?_
      refine wpF_end _ (by kernel_rfl) (then_n (hK124 _ _ ?_))
      refine wp_ret ?_
      refine retN [.bool (true)] (.bool (true)) Try.results10 (.tmp (by kernel_rfl) (by kernel_rfl) .nil) (by kernel_rfl) (hRet _ _ ⟨_, _, rfl, hM149.clear, ?_⟩)
      -- end fLf
      rfl

end Go.Vk
