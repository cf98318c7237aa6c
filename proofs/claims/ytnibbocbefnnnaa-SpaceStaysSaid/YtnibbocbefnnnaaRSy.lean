import Derived.Test.YtnibbocbefnnnaaRIt
import Derived.Test.YtnibbocbefnnnaaRMathSp
import Derived.Test.YtnibbocbefnnnaaRMathSq
import Derived.Test.YtnibbocbefnnnaaRMathSr
import Derived.Test.YtnibbocbefnnnaaRMathSs
import Derived.Test.YtnibbocbefnnnaaRPlainSp
import Derived.Test.YtnibbocbefnnnaaRSf
import Derived.Test.YtnibbocbefnnnaaRSg
import Derived.Test.YtnibbocbefnnnaaRSk
import Derived.Test.YtnibbocbefnnnaaRSm
import Derived.Test.YtnibbocbefnnnaaRSp
import Derived.Test.YtnibbocbefnnnaaRSt
import Derived.Test.YtnibbocbefnnnaaRSv
set_option linter.unusedVariables false
set_option linter.unusedSimpArgs false
namespace Go.Vk
open Go.Proofs
variable {D : List Deferred}
set_option maxHeartbeats 4000000 in
set_option maxRecDepth 100000 in
theorem f11 (V : VT) (w : World) (hV : V.inW w) (Al : Option Addr) (cl : Nat) (l : List ((Int × Int × (List ((Str × Str × Bool)))))) (hl : Rd (prK (intK .i64) (prK (intK .i64) (slK (prK strK (prK strK boolK))))) V Al cl l) (Am : Option Addr) (cm : Nat) (m : List ((Int × Int × (List ((Str × Str × Bool)))))) (hm : Rd (prK (intK .i64) (prK (intK .i64) (slK (prK strK (prK strK boolK))))) V Am cm m) (t : Int) (f : Str) (hf : f.length ≤ maxL) (u : Str) (hu : u.length ≤ maxL) :
    Calls Try.prog 11 #[.slice Al (l).length cl, .slice Am (m).length cm, .int .i64 (t), bs (f), bs (u)] w (RetP V w fun rv V' => rv = .bool (true)) := by
  have mxl : l.length ≤ 140737488355328 := hl.max
  have mxm : m.length ≤ 140737488355328 := hm.max
  have mxf : f.length ≤ 140737488355328 := hf
  have mxu : u.length ≤ 140737488355328 := hu
  refine calls_env (n := 178) Try.func11 (c := _) rfl Try.ntmps11 (by kernel_rfl) (fun R hRet => ?_)
  have hM0 : Step V w [] V w [] := Step.refl (St.nilE hV)
  refine wp_seq_k (fun K1 hK1 => ?_)
  refine wp_reg ?_
  refine wpF_seg 1 (by kernel_rfl) ?_
  refine wpF_end _ (by kernel_rfl) (then_n (hK1 _ _ ?_))
  refine wp_seq_k (fun K2 hK2 => ?_)
  refine wp_seq_k (fun K3 hK3 => ?_)
  refine wp_reg ?_
  refine wpF_seg 1 (by kernel_rfl) ?_
  refine wpF_callP hM0 (f := 48) (caps := #[]) (h := (by kernel_rfl : opAt _ _ _ _ _ = some (.call (.mk (.value (.func 48)) #[(.tmp 29)] #[84]), some 30))) (by kernel_rfl) (by kernel_rfl) (by kernel_rfl) (f48 _ _ hM0.inW Al cl (l) hl) (fun v4 V5 w6 le7 hM8 hp9 => ?_)
  obtain rfl := hp9
  refine wpF_seg 2 (by kernel_rfl) ?_
  refine wpF_caseB 32 (!(fewB (l))) (by kernel_rfl) (by kernel_rfl) (fun h10 => ?_) (fun h10 => ?_)
  · -- t
    have h11 : (fewB (l)) = false := by simpa using h10
    refine wpF_seg 4 (by kernel_rfl) ?_
    refine wpF_end _ (by kernel_rfl) (then_n (hK3 _ _ ?_))
    refine wp_ct (by kernel_rfl) ?_
    refine wp_seq_k (fun K12 hK12 => ?_)
    refine wp_reg ?_
    refine wpF_callP hM8 (f := 34) (caps := #[]) (h := (by kernel_rfl : opAt _ _ _ _ _ = some (.call (.mk (.value (.func 34)) #[] #[]), some 37))) (by kernel_rfl) (by kernel_rfl) (by kernel_rfl) (f34 _ _ hM8.inW ) (fun v13 V14 w15 le16 hM17 hp18 => ?_)
    obtain rfl := hp18
    refine wpF_seg 1 (by kernel_rfl) ?_
    refine wpF_end _ (by kernel_rfl) (then_n (hK12 _ _ ?_))
    refine wp_ret (then_r (?_))
    refine retN [.bool (true)] (.bool (true)) Try.results11 (.tmp (by kernel_rfl) (by kernel_rfl) .nil) (by kernel_rfl) (hRet _ _ ⟨_, _, rfl, hM17.clear, ?_⟩)
    -- end t
    rfl
  · -- f
    have h19 : (fewB (l)) = true := by simpa using h10
    have hfew : fewB l = true := by assumption
    refine wpF_seg 1 (by kernel_rfl) ?_
    refine wpF_callP hM8 (f := 48) (caps := #[]) (h := (by kernel_rfl : opAt _ _ _ _ _ = some (.call (.mk (.value (.func 48)) #[(.tmp 33)] #[84]), some 34))) (by kernel_rfl) (by kernel_rfl) (by kernel_rfl) (f48 _ _ hM8.inW Am cm (m) (hm.up hM8.le)) (fun v20 V21 w22 le23 hM24 hp25 => ?_)
    obtain rfl := hp25
    refine wpF_seg 2 (by kernel_rfl) ?_
    refine wpF_end _ (by kernel_rfl) (then_n (hK3 _ _ ?_))
    refine wp_if (!(fewB (m))) (by kernel_rfl) (fun h26 => ?_) (fun h26 => ?_)
    · -- ft
      have h27 : (fewB (m)) = false := by simpa using h26
      refine wp_seq_k (fun K28 hK28 => ?_)
      refine wp_reg ?_
      refine wpF_callP hM24 (f := 34) (caps := #[]) (h := (by kernel_rfl : opAt _ _ _ _ _ = some (.call (.mk (.value (.func 34)) #[] #[]), some 37))) (by kernel_rfl) (by kernel_rfl) (by kernel_rfl) (f34 _ _ hM24.inW ) (fun v29 V30 w31 le32 hM33 hp34 => ?_)
      obtain rfl := hp34
      refine wpF_seg 1 (by kernel_rfl) ?_
      refine wpF_end _ (by kernel_rfl) (then_n (hK28 _ _ ?_))
      refine wp_ret (then_r (?_))
      refine retN [.bool (true)] (.bool (true)) Try.results11 (.tmp (by kernel_rfl) (by kernel_rfl) .nil) (by kernel_rfl) (hRet _ _ ⟨_, _, rfl, hM33.clear, ?_⟩)
      -- end ft
      rfl
    · -- ff
      have h35 : (fewB (m)) = true := by simpa using h26
      have hfm : fewB m = true := by assumption
      refine wp_skip (then_n (hK2 _ _ ?_))
      refine wp_seq_k (fun K36 hK36 => ?_)
      refine wp_reg ?_
      have hM44 : Step V w [] V21 _ ([]) := hM24
      refine wpF_callE [] ([]) hM44 (f := 33) (caps := #[]) (h := (by kernel_rfl : opAt _ _ _ _ _ = some (.call (.mk (.value (.func 33)) #[] #[]), some 38))) (by kernel_rfl) (by kernel_rfl) (by kernel_rfl) (f33 _ _ hM44.inW) (fun v37 V38 w39 Eo40 le41 hM42 hp43 => ?_)
      obtain ⟨br44_1, Ar44_1, cr44_1, mr44_1, rfl, rfl⟩ := hp43
      have hM45 : Step V w [] V38 _ ([spE br44_1 Ar44_1 cr44_1 mr44_1 (([] : List Item)) (0) (0)]) := hM42
      refine wpF_seg 1 (by kernel_rfl) ?_
      refine wpF_end _ (by kernel_rfl) (then_n (hK36 _ _ ?_))
      refine wp_seq_k (fun K46 hK46 => ?_)
      refine wp_reg ?_
      refine wpF_alloc hM45 #[.slice none 0 0, .int .i64 (0), .int .i64 (0)] (h := (by kernel_rfl : opAt _ _ _ _ _ = some (.alloc 50, some 12))) (by kernel_rfl) (fun b47 w48 hM49 => ?_)
      refine wpF_end _ (by kernel_rfl) (then_n (hK46 _ _ ?_))
      refine wp_seq_k (fun K50 hK50 => ?_)
      refine wp_seq_k (fun K51 hK51 => ?_)
      refine wp_reg ?_
      refine wpF_seg 1 (by kernel_rfl) ?_
      refine wpF_end _ (by kernel_rfl) (then_n (hK51 _ _ ?_))
      refine wp_block ?_
      refine wp_base [(0, .slice Al (l).length cl), (1, .slice Am (m).length cm), (2, .int .i64 (t)), (3, bs (f)), (4, bs (u)), (10, .bool (false)), (11, .pointer (some ⟨br44_1, 0, none⟩)), (12, .pointer (some ⟨b47, 0, none⟩)), (13, .int .i64 ((0 : Int)))] (by kernel_rfl) (fun g53 => ?_)
      refine wp_loopX (fun (x_ : Nat × List Item × Int × Int) a_ w_ => ∃ (g : Nat → Value) (V_ : VT), ∃ (Ars11 : Option Addr) (crs11 : Nat) (Arbs11 Arms11 : Nat), ∃ (Arfc12_0 : Option Addr) (crfc12_0 : Nat), a_ = env [] 178 [(0, .slice Al (l).length cl), (1, .slice Am (m).length cm), (2, .int .i64 (t)), (3, bs (f)), (4, bs (u)), (10, .bool (false)), (11, .pointer (some ⟨Arbs11, 0, none⟩)), (12, .pointer (some ⟨b47, 0, none⟩)), (13, .int .i64 ((x_.1 : Int)))] g ∧ Step V w [] V_ w_ [.blk b47 (.cells #[.slice Arfc12_0 (x_.2.1).length crfc12_0, .int .i64 (x_.2.2.1), .int .i64 (x_.2.2.2)] 50), spE Arbs11 Ars11 crs11 Arms11 (x_.2.1) (x_.2.2.1) (x_.2.2.2)] ∧ VT.le V38 V_ ∧ Rd (prK strK (slK (prK (intK .i64) (prK strK boolK)))) V_ Arfc12_0 crfc12_0 (x_.2.1) ∧ (x_.1 ≤ l.length) ∧ (Good (0 + fewN l (x_.1)) (x_.2.1, x_.2.2.1, x_.2.2.2))) (fun (x_ : Nat × List Item × Int × Int) => l.length - x_.1) ((0 : Nat), (([] : List Item) : List Item), (0 : Int), (0 : Int)) ⟨g53, V38, Ar44_1, cr44_1, br44_1, mr44_1, none, 0, rfl, hM49, VT.le.refl _, (Rd.nil _ _), by omega, by exact good_0⟩ ?_
      rintro ⟨k, L, a, b⟩ a_ w55 ⟨g54, Vl52, Ar_58s11, cr_58s11, Ar_58bs11, Ar_58ms11, Ar_58fc12_0, cr_58fc12_0, rfl, hM56, le57, hfAr_58fc12_0, hi58_0, hi58_1⟩ K58 hK58
      replace hi58_0 : k ≤ l.length := hi58_0
      replace hi58_1 : Good (0 + fewN l (k)) (L, a, b) := hi58_1
      refine wp_seq_k (fun K59 hK59 => ?_)
      refine wp_seq_k (fun K60 hK60 => ?_)
      refine wp_reg ?_
      refine wpF_seg 5 (by kernel_rfl) ?_
      refine wpF_caseB 43 (decide (((k : Int)) < ((l.length : Int)))) (by kernel_rfl) (by kernel_rfl) (fun h61 => ?_) (fun h61 => ?_)
      · -- ffLt
        have p62 : (((k : Int)) < ((l.length : Int))) := of_decide_eq_true h61
        have hgood := (by assumption : Good (0 + fewN l k) (L, a, b))
        have hfk := fewK_iff.1 hfew k (by omega)
        have hfs := few_step (l := l) (k := k) (by omega)
        have hst := stp_in hfk.2
        have hgo := hgood
        have hgn := good_next (l := l) (k := k) (by omega) hgood
        have hgl := hgo.2.1
        have hnl := hgn.2.1
        simp only [Nat.zero_add] at hgl hnl
        refine wpF_seg 1 (by kernel_rfl) ?_
        refine gF hM56 (.binOp .neq 53 (.tmp 44) (.const (.pointer none)) 53) (some 45) (by kernel_rfl) (Y_neq (.pointer (some ⟨Ar_58bs11, 0, none⟩)) (.pointer none) (false) (by kernel_rfl) (by kernel_rfl) (by kernel_rfl)) ?_
        refine wpF_seg 1 (by kernel_rfl) ?_
        refine wpF_end _ (by kernel_rfl) (then_n (hK60 _ _ ?_))
        refine wp_ct (by kernel_rfl) ?_
        refine wp_skip (then_n (hK59 _ _ ?_))
        refine wp_seq_k (fun K63 hK63 => ?_)
        refine wp_block ?_
        refine wp_seq_k (fun K64 hK64 => ?_)
        refine wp_base [(0, .slice Al (l).length cl), (1, .slice Am (m).length cm), (2, .int .i64 (t)), (3, bs (f)), (4, bs (u)), (10, .bool (false)), (11, .pointer (some ⟨Ar_58bs11, 0, none⟩)), (12, .pointer (some ⟨b47, 0, none⟩)), (13, .int .i64 ((k : Int))), (39, .int .i64 ((k : Int))), (40, .slice Al (l).length cl), (41, .int .i64 ((l.length : Int))), (42, .bool (decide (((k : Int)) < ((l.length : Int))))), (43, .bool (true)), (44, .pointer (some ⟨Ar_58bs11, 0, none⟩)), (45, .bool (true)), (46, .bool (true))] (by kernel_rfl) (fun g65 => ?_)
        refine wp_drawN hM56 [(.blk b47 (.cells #[.slice Ar_58fc12_0 (L).length cr_58fc12_0, .int .i64 (a), .int .i64 (b)] 50), 9999)] (and_held 0 rfl no_held) [⟨11, fun b_ => .pointer (some ⟨b_, 0, none⟩), #[.slice none 0 0, .int .i64 (0), .int .i64 (0)], 50⟩] [0, 1, 2, 3, 4, 5] [.a 6, .p 7, .p 8, .p 9, .p 10, .f 11, .p 12, .a 13, .p 14] [.p 0, .p 1, .p 2, .p 3, .p 4, .p 5, .s, .a 6, .p 7, .p 8, .p 9, .p 10, .f 11, .p 12, .a 13, .p 14] rfl (by kernel_rfl) (by kernel_rfl) ?_
        refine h_seg 1 (by kernel_rfl) ?_
        refine gH (.load 50 (.tmp 12)) (some 51) (by kernel_rfl) (Y_load 0 (by kernel_rfl : (FOf _ _ _)[0]? = some (.blk b47 (.cells #[.slice Ar_58fc12_0 (L).length cr_58fc12_0, .int .i64 (a), .int .i64 (b)] 50))) (off := 0) (by kernel_rfl) (.agg #[.slice Ar_58fc12_0 (L).length cr_58fc12_0, .int .i64 (a), .int .i64 (b)]) (by kernel_rfl)) ?_
        refine h_seg 2 (by kernel_rfl) ?_
        refine gH_index (A := Al) (c := cl) (hl.up hM56.le) .i64 ((k : Int)) (h := (by kernel_rfl : opAt _ _ _ _ _ = some (.indexAddr 84 (.tmp 52) (.tmp 53), some 54))) (e := 89) (by kernel_rfl) (by kernel_rfl) (by kernel_rfl) (k) rfl (by omega) (fun b66 o67 at_b66 => ?_)
        have c68 : Vl52 b66 o67 = some (.int .i64 (l.getD (k) (0, 0, [])).1) := (At.int (At.pr at_b66).1).1
        have l69 : IntKind.i64.min ≤ (l.getD (k) (0, 0, [])).1 ∧ (l.getD (k) (0, 0, [])).1 ≤ IntKind.i64.max := (At.int (At.pr at_b66).1).2
        have c70 : Vl52 b66 (o67 + 1) = some (.int .i64 (l.getD (k) (0, 0, [])).2.1) := (At.int (At.pr (At.pr at_b66).2).1).1
        have l71 : IntKind.i64.min ≤ (l.getD (k) (0, 0, [])).2.1 ∧ (l.getD (k) (0, 0, [])).2.1 ≤ IntKind.i64.max := (At.int (At.pr (At.pr at_b66).2).1).2
        obtain ⟨A72, c73, c74, r75⟩ := At.sl (At.pr (At.pr at_b66).2).2
        have c74 : Vl52 b66 (o67 + 2) = some (.slice A72 ((l.getD (k) (0, 0, [])).2.2).length c73) := c74
        have r75 : Rd (prK strK (prK strK boolK)) Vl52 A72 c73 ((l.getD (k) (0, 0, [])).2.2) := r75
        have l76 : ((l.getD (k) (0, 0, [])).2.2).length ≤ 140737488355328 := r75.max
        refine gH (.load 89 (.tmp 54)) (some 55) (by kernel_rfl) (Y_loadS (b := b66) (off := o67) [.int .i64 ((l.getD (k) (0, 0, [])).1), .int .i64 ((l.getD (k) (0, 0, [])).2.1), .slice A72 ((l.getD (k) (0, 0, [])).2.2).length c73] (cells3 c68 c70 c74) (by kernel_rfl) (by kernel_rfl) (by kernel_rfl)) ?_
        refine h_s (and_fs (fre_alloc (h := (by kernel_rfl : opAt _ _ _ _ _ = some (.alloc 50, some 15))) (by kernel_rfl)) no_fs) ?_
        refine h_a (by kernel_rfl) (by kernel_rfl) (fun w77 X78 hM79 => ?_)
        have hM80 := hM79.front 1 rfl
        have hM88 : Step V w [] Vl52 _ ([spE Ar_58bs11 Ar_58s11 cr_58s11 Ar_58ms11 (L) (a) (b), .blk b47 (.cells #[.slice Ar_58fc12_0 (L).length cr_58fc12_0, .int .i64 (a), .int .i64 (b)] 50)] ++ X78) := hM80
        refine wpF_callE [spE Ar_58bs11 Ar_58s11 cr_58s11 Ar_58ms11 (L) (a) (b)] ([.blk b47 (.cells #[.slice Ar_58fc12_0 (L).length cr_58fc12_0, .int .i64 (a), .int .i64 (b)] 50)] ++ X78) hM88 (f := 49) (caps := #[]) (h := (by kernel_rfl : opAt _ _ _ _ _ = some (.call (.mk (.value (.func 49)) #[(.tmp 50), (.tmp 51), (.tmp 55)] #[53, 50, 89]), some 56))) (by kernel_rfl) (by kernel_rfl) (by kernel_rfl) (f49 _ _ Ar_58bs11 Ar_58s11 cr_58s11 Ar_58ms11 (L) (a) (b) Ar_58fc12_0 cr_58fc12_0 (L) hfAr_58fc12_0 (a) (b) ((l.getD (k) (0, 0, [])).1) ((l.getD (k) (0, 0, [])).2.1) A72 c73 ((l.getD (k) (0, 0, [])).2.2) r75 (St.part (E := [spE Ar_58bs11 Ar_58s11 cr_58s11 Ar_58ms11 (L) (a) (b)]) (F := ([.blk b47 (.cells #[.slice Ar_58fc12_0 (L).length cr_58fc12_0, .int .i64 (a), .int .i64 (b)] 50)] ++ X78)) hM88.ok) (by exact hgo.1) (by rfl) (by rfl) (by rfl) (by omega) (by omega) (by exact fun y => Nat.le_trans (hgo.2.2 y) (by omega)) (by omega)) (fun v81 V82 w83 Eo84 le85 hM86 hp87 => ?_)
        obtain ⟨br88_1, Ar88_1, cr88_1, mr88_1, Ar88_2, cr88_2, rfl, rfl, r89⟩ := hp87
        have hM90 : Step V w [] V82 _ ([spE br88_1 Ar88_1 cr88_1 mr88_1 (stpS (L) (a) (b) ((l.getD (k) (0, 0, [])).1) ((l.getD (k) (0, 0, [])).2.1) ((l.getD (k) (0, 0, [])).2.2)) (stpT (a) ((l.getD (k) (0, 0, [])).1) ((l.getD (k) (0, 0, [])).2.1) ((l.getD (k) (0, 0, [])).2.2)) (stpM (a) (b) ((l.getD (k) (0, 0, [])).1) ((l.getD (k) (0, 0, [])).2.1)), .blk b47 (.cells #[.slice Ar_58fc12_0 (L).length cr_58fc12_0, .int .i64 (a), .int .i64 (b)] 50)] ++ X78) := hM86
        have l91 : (stpS (L) (a) (b) ((l.getD (k) (0, 0, [])).1) ((l.getD (k) (0, 0, [])).2.1) ((l.getD (k) (0, 0, [])).2.2)).length ≤ 140737488355328 := r89.max
        refine wpF_end _ (by kernel_rfl) (then_n (h_d [(.blk b47 (.cells #[.slice Ar_58fc12_0 (L).length cr_58fc12_0, .int .i64 (a), .int .i64 (b)] 50), 9999)] (by kernel_rfl) [spE br88_1 Ar88_1 cr88_1 mr88_1 (stpS (L) (a) (b) ((l.getD (k) (0, 0, [])).1) ((l.getD (k) (0, 0, [])).2.1) ((l.getD (k) (0, 0, [])).2.2)) (stpT (a) ((l.getD (k) (0, 0, [])).1) ((l.getD (k) (0, 0, [])).2.1) ((l.getD (k) (0, 0, [])).2.2)) (stpM (a) (b) ((l.getD (k) (0, 0, [])).1) ((l.getD (k) (0, 0, [])).2.1)), .blk b47 (.cells #[.slice Ar_58fc12_0 (L).length cr_58fc12_0, .int .i64 (a), .int .i64 (b)] 50)] hM90 (and_held 1 rfl no_held) le85 ?_))
        refine h_seg 4 (by kernel_rfl) ?_
        refine h_f (d := 15) ⟨11, fun b_ => .pointer (some ⟨b_, 0, none⟩), #[.slice none 0 0, .int .i64 (0), .int .i64 (0)], 50⟩ (by kernel_rfl) (by kernel_rfl) (by kernel_rfl) (fun b92 => ?_)
        refine h_seg 1 (by kernel_rfl) ?_
        refine h_a (by kernel_rfl) (by kernel_rfl) (fun w93 X94 hM95 => ?_)
        refine wpF_store hM95 0 rfl (h := (by kernel_rfl : opAt _ _ _ _ _ = some (.store 50 (.tmp 15) (.tmp 58), none))) (off := 0) (by kernel_rfl) #[.slice Ar88_2 (stpS (L) (a) (b) ((l.getD (k) (0, 0, [])).1) ((l.getD (k) (0, 0, [])).2.1) ((l.getD (k) (0, 0, [])).2.2)).length cr88_2, .int .i64 (stpT (a) ((l.getD (k) (0, 0, [])).1) ((l.getD (k) (0, 0, [])).2.1) ((l.getD (k) (0, 0, [])).2.2)), .int .i64 (stpM (a) (b) ((l.getD (k) (0, 0, [])).1) ((l.getD (k) (0, 0, [])).2.1))] (by kernel_rfl) (by kernel_rfl) (by kernel_rfl) (by kernel_rfl) (fun w97 hM96 => ?_)
        have hM98 : Step V w [] V82 _ ([.blk b92 (.cells #[.slice Ar88_2 (stpS (L) (a) (b) ((l.getD (k) (0, 0, [])).1) ((l.getD (k) (0, 0, [])).2.1) ((l.getD (k) (0, 0, [])).2.2)).length cr88_2, .int .i64 (stpT (a) ((l.getD (k) (0, 0, [])).1) ((l.getD (k) (0, 0, [])).2.1) ((l.getD (k) (0, 0, [])).2.2)), .int .i64 (stpM (a) (b) ((l.getD (k) (0, 0, [])).1) ((l.getD (k) (0, 0, [])).2.1))] 50), spE br88_1 Ar88_1 cr88_1 mr88_1 (stpS (L) (a) (b) ((l.getD (k) (0, 0, [])).1) ((l.getD (k) (0, 0, [])).2.1) ((l.getD (k) (0, 0, [])).2.2)) (stpT (a) ((l.getD (k) (0, 0, [])).1) ((l.getD (k) (0, 0, [])).2.1) ((l.getD (k) (0, 0, [])).2.2)) (stpM (a) (b) ((l.getD (k) (0, 0, [])).1) ((l.getD (k) (0, 0, [])).2.1)), .blk b47 (.cells #[.slice Ar_58fc12_0 (L).length cr_58fc12_0, .int .i64 (a), .int .i64 (b)] 50)] ++ X94) := hM96
        refine wpF_end _ (by kernel_rfl) (then_n (h_d [(.blk b47 (.cells #[.slice Ar_58fc12_0 (L).length cr_58fc12_0, .int .i64 (a), .int .i64 (b)] 50), 9999)] (by kernel_rfl) [.blk b92 (.cells #[.slice Ar88_2 (stpS (L) (a) (b) ((l.getD (k) (0, 0, [])).1) ((l.getD (k) (0, 0, [])).2.1) ((l.getD (k) (0, 0, [])).2.2)).length cr88_2, .int .i64 (stpT (a) ((l.getD (k) (0, 0, [])).1) ((l.getD (k) (0, 0, [])).2.1) ((l.getD (k) (0, 0, [])).2.2)), .int .i64 (stpM (a) (b) ((l.getD (k) (0, 0, [])).1) ((l.getD (k) (0, 0, [])).2.1))] 50), spE br88_1 Ar88_1 cr88_1 mr88_1 (stpS (L) (a) (b) ((l.getD (k) (0, 0, [])).1) ((l.getD (k) (0, 0, [])).2.1) ((l.getD (k) (0, 0, [])).2.2)) (stpT (a) ((l.getD (k) (0, 0, [])).1) ((l.getD (k) (0, 0, [])).2.1) ((l.getD (k) (0, 0, [])).2.2)) (stpM (a) (b) ((l.getD (k) (0, 0, [])).1) ((l.getD (k) (0, 0, [])).2.1)), .blk b47 (.cells #[.slice Ar_58fc12_0 (L).length cr_58fc12_0, .int .i64 (a), .int .i64 (b)] 50)] hM98 (and_held 2 rfl no_held) (VT.le.refl _) ?_))
        refine h_seg 1 (by kernel_rfl) ?_
        refine h_n (fun w99 hM100 => ?_)
        refine  (then_n (hK64 _ _ ?_))
        refine wp_base [(0, .slice Al (l).length cl), (1, .slice Am (m).length cm), (2, .int .i64 (t)), (3, bs (f)), (4, bs (u)), (10, .bool (false)), (11, .pointer (some ⟨Ar_58bs11, 0, none⟩)), (12, .pointer (some ⟨b47, 0, none⟩)), (13, .int .i64 ((k : Int))), (14, .pointer (some ⟨br88_1, 0, none⟩)), (15, .pointer (some ⟨b92, 0, none⟩)), (16, .bool (true)), (39, .int .i64 ((k : Int))), (40, .slice Al (l).length cl), (41, .int .i64 ((l.length : Int))), (42, .bool (decide (((k : Int)) < ((l.length : Int))))), (43, .bool (true)), (44, .pointer (some ⟨Ar_58bs11, 0, none⟩)), (45, .bool (true)), (46, .bool (true)), (49, .tuple #[.pointer (some ⟨br88_1, 0, none⟩), .agg #[.slice Ar88_2 (stpS (L) (a) (b) ((l.getD (k) (0, 0, [])).1) ((l.getD (k) (0, 0, [])).2.1) ((l.getD (k) (0, 0, [])).2.2)).length cr88_2, .int .i64 (stpT (a) ((l.getD (k) (0, 0, [])).1) ((l.getD (k) (0, 0, [])).2.1) ((l.getD (k) (0, 0, [])).2.2)), .int .i64 (stpM (a) (b) ((l.getD (k) (0, 0, [])).1) ((l.getD (k) (0, 0, [])).2.1))], .bool (true)]), (50, .pointer (some ⟨Ar_58bs11, 0, none⟩)), (51, .agg #[.slice Ar_58fc12_0 (L).length cr_58fc12_0, .int .i64 (a), .int .i64 (b)]), (52, .slice Al (l).length cl), (53, .int .i64 ((k : Int))), (54, .pointer (some ⟨b66, o67, none⟩)), (55, .agg #[.int .i64 ((l.getD (k) (0, 0, [])).1), .int .i64 ((l.getD (k) (0, 0, [])).2.1), .slice A72 ((l.getD (k) (0, 0, [])).2.2).length c73]), (56, .tuple #[.pointer (some ⟨br88_1, 0, none⟩), .agg #[.slice Ar88_2 (stpS (L) (a) (b) ((l.getD (k) (0, 0, [])).1) ((l.getD (k) (0, 0, [])).2.1) ((l.getD (k) (0, 0, [])).2.2)).length cr88_2, .int .i64 (stpT (a) ((l.getD (k) (0, 0, [])).1) ((l.getD (k) (0, 0, [])).2.1) ((l.getD (k) (0, 0, [])).2.2)), .int .i64 (stpM (a) (b) ((l.getD (k) (0, 0, [])).1) ((l.getD (k) (0, 0, [])).2.1))], .bool (true)]), (57, .pointer (some ⟨br88_1, 0, none⟩)), (58, .agg #[.slice Ar88_2 (stpS (L) (a) (b) ((l.getD (k) (0, 0, [])).1) ((l.getD (k) (0, 0, [])).2.1) ((l.getD (k) (0, 0, [])).2.2)).length cr88_2, .int .i64 (stpT (a) ((l.getD (k) (0, 0, [])).1) ((l.getD (k) (0, 0, [])).2.1) ((l.getD (k) (0, 0, [])).2.2)), .int .i64 (stpM (a) (b) ((l.getD (k) (0, 0, [])).1) ((l.getD (k) (0, 0, [])).2.1))]), (59, .bool (true))] (by kernel_rfl) (fun g101 => ?_)
        refine wp_drawN hM100 [(.blk b92 (.cells #[.slice Ar88_2 (stpS (L) (a) (b) ((l.getD (k) (0, 0, [])).1) ((l.getD (k) (0, 0, [])).2.1) ((l.getD (k) (0, 0, [])).2.2)).length cr88_2, .int .i64 (stpT (a) ((l.getD (k) (0, 0, [])).1) ((l.getD (k) (0, 0, [])).2.1) ((l.getD (k) (0, 0, [])).2.2)), .int .i64 (stpM (a) (b) ((l.getD (k) (0, 0, [])).1) ((l.getD (k) (0, 0, [])).2.1))] 50), 9999)] (and_held 0 rfl no_held) [] [0, 1, 2] [.a 3] [.p 0, .p 1, .p 2, .s, .a 3] rfl (by kernel_rfl) (by kernel_rfl) ?_
        refine h_seg 1 (by kernel_rfl) ?_
        refine gH (.load 50 (.tmp 15)) (some 61) (by kernel_rfl) (Y_load 0 (by kernel_rfl : (FOf _ _ _)[0]? = some (.blk b92 (.cells #[.slice Ar88_2 (stpS (L) (a) (b) ((l.getD (k) (0, 0, [])).1) ((l.getD (k) (0, 0, [])).2.1) ((l.getD (k) (0, 0, [])).2.2)).length cr88_2, .int .i64 (stpT (a) ((l.getD (k) (0, 0, [])).1) ((l.getD (k) (0, 0, [])).2.1) ((l.getD (k) (0, 0, [])).2.2)), .int .i64 (stpM (a) (b) ((l.getD (k) (0, 0, [])).1) ((l.getD (k) (0, 0, [])).2.1))] 50))) (off := 0) (by kernel_rfl) (.agg #[.slice Ar88_2 (stpS (L) (a) (b) ((l.getD (k) (0, 0, [])).1) ((l.getD (k) (0, 0, [])).2.1) ((l.getD (k) (0, 0, [])).2.2)).length cr88_2, .int .i64 (stpT (a) ((l.getD (k) (0, 0, [])).1) ((l.getD (k) (0, 0, [])).2.1) ((l.getD (k) (0, 0, [])).2.2)), .int .i64 (stpM (a) (b) ((l.getD (k) (0, 0, [])).1) ((l.getD (k) (0, 0, [])).2.1))]) (by kernel_rfl)) ?_
        refine h_seg 1 (by kernel_rfl) ?_
        refine h_s no_fs ?_
        refine h_a (by kernel_rfl) (by kernel_rfl) (fun w102 X103 hM104 => ?_)
        refine wpF_store hM104 2 rfl (h := (by kernel_rfl : opAt _ _ _ _ _ = some (.store 50 (.tmp 12) (.tmp 61), none))) (off := 0) (by kernel_rfl) #[.slice Ar88_2 (stpS (L) (a) (b) ((l.getD (k) (0, 0, [])).1) ((l.getD (k) (0, 0, [])).2.1) ((l.getD (k) (0, 0, [])).2.2)).length cr88_2, .int .i64 (stpT (a) ((l.getD (k) (0, 0, [])).1) ((l.getD (k) (0, 0, [])).2.1) ((l.getD (k) (0, 0, [])).2.2)), .int .i64 (stpM (a) (b) ((l.getD (k) (0, 0, [])).1) ((l.getD (k) (0, 0, [])).2.1))] (by kernel_rfl) (by kernel_rfl) (by kernel_rfl) (by kernel_rfl) (fun w106 hM105 => ?_)
        have hM107 : Step V w [] V82 _ ([.blk b92 (.cells #[.slice Ar88_2 (stpS (L) (a) (b) ((l.getD (k) (0, 0, [])).1) ((l.getD (k) (0, 0, [])).2.1) ((l.getD (k) (0, 0, [])).2.2)).length cr88_2, .int .i64 (stpT (a) ((l.getD (k) (0, 0, [])).1) ((l.getD (k) (0, 0, [])).2.1) ((l.getD (k) (0, 0, [])).2.2)), .int .i64 (stpM (a) (b) ((l.getD (k) (0, 0, [])).1) ((l.getD (k) (0, 0, [])).2.1))] 50), spE br88_1 Ar88_1 cr88_1 mr88_1 (stpS (L) (a) (b) ((l.getD (k) (0, 0, [])).1) ((l.getD (k) (0, 0, [])).2.1) ((l.getD (k) (0, 0, [])).2.2)) (stpT (a) ((l.getD (k) (0, 0, [])).1) ((l.getD (k) (0, 0, [])).2.1) ((l.getD (k) (0, 0, [])).2.2)) (stpM (a) (b) ((l.getD (k) (0, 0, [])).1) ((l.getD (k) (0, 0, [])).2.1)), .blk b47 (.cells #[.slice Ar88_2 (stpS (L) (a) (b) ((l.getD (k) (0, 0, [])).1) ((l.getD (k) (0, 0, [])).2.1) ((l.getD (k) (0, 0, [])).2.2)).length cr88_2, .int .i64 (stpT (a) ((l.getD (k) (0, 0, [])).1) ((l.getD (k) (0, 0, [])).2.1) ((l.getD (k) (0, 0, [])).2.2)), .int .i64 (stpM (a) (b) ((l.getD (k) (0, 0, [])).1) ((l.getD (k) (0, 0, [])).2.1))] 50)] ++ X103) := hM105
        refine wpF_end _ (by kernel_rfl) (then_n (h_d [(.blk b92 (.cells #[.slice Ar88_2 (stpS (L) (a) (b) ((l.getD (k) (0, 0, [])).1) ((l.getD (k) (0, 0, [])).2.1) ((l.getD (k) (0, 0, [])).2.2)).length cr88_2, .int .i64 (stpT (a) ((l.getD (k) (0, 0, [])).1) ((l.getD (k) (0, 0, [])).2.1) ((l.getD (k) (0, 0, [])).2.2)), .int .i64 (stpM (a) (b) ((l.getD (k) (0, 0, [])).1) ((l.getD (k) (0, 0, [])).2.1))] 50), 9999)] (by kernel_rfl) [.blk b92 (.cells #[.slice Ar88_2 (stpS (L) (a) (b) ((l.getD (k) (0, 0, [])).1) ((l.getD (k) (0, 0, [])).2.1) ((l.getD (k) (0, 0, [])).2.2)).length cr88_2, .int .i64 (stpT (a) ((l.getD (k) (0, 0, [])).1) ((l.getD (k) (0, 0, [])).2.1) ((l.getD (k) (0, 0, [])).2.2)), .int .i64 (stpM (a) (b) ((l.getD (k) (0, 0, [])).1) ((l.getD (k) (0, 0, [])).2.1))] 50), spE br88_1 Ar88_1 cr88_1 mr88_1 (stpS (L) (a) (b) ((l.getD (k) (0, 0, [])).1) ((l.getD (k) (0, 0, [])).2.1) ((l.getD (k) (0, 0, [])).2.2)) (stpT (a) ((l.getD (k) (0, 0, [])).1) ((l.getD (k) (0, 0, [])).2.1) ((l.getD (k) (0, 0, [])).2.2)) (stpM (a) (b) ((l.getD (k) (0, 0, [])).1) ((l.getD (k) (0, 0, [])).2.1)), .blk b47 (.cells #[.slice Ar88_2 (stpS (L) (a) (b) ((l.getD (k) (0, 0, [])).1) ((l.getD (k) (0, 0, [])).2.1) ((l.getD (k) (0, 0, [])).2.2)).length cr88_2, .int .i64 (stpT (a) ((l.getD (k) (0, 0, [])).1) ((l.getD (k) (0, 0, [])).2.1) ((l.getD (k) (0, 0, [])).2.2)), .int .i64 (stpM (a) (b) ((l.getD (k) (0, 0, [])).1) ((l.getD (k) (0, 0, [])).2.1))] 50)] hM107 (and_held 0 rfl no_held) (VT.le.refl _) ?_))
        refine h_n (fun w108 hM109 => ?_)
        refine  (blk_n (then_n (hK63 _ _ ?_)))
        refine wp_reg ?_
        refine wpF_seg 1 (by kernel_rfl) ?_
        refine gF hM109 (.binOp .add 3 (.tmp 47) (.const (.int .i64 1)) 3) (some 48) (by kernel_rfl) (Y_add .i64 ((k : Int)) (1) ((k : Int) + 1) (by kernel_rfl) (by kernel_rfl) (wrap64_ok _ (by omega))) ?_
        refine wpF_seg 1 (by kernel_rfl) ?_
        refine wpF_base [(0, .slice Al (l).length cl), (1, .slice Am (m).length cm), (2, .int .i64 (t)), (3, bs (f)), (4, bs (u)), (10, .bool (false)), (11, .pointer (some ⟨br88_1, 0, none⟩)), (12, .pointer (some ⟨b47, 0, none⟩)), (13, .int .i64 ((k + 1 : Int)))] (by kernel_rfl) (fun g110 => ?_)
        have hM111 := (hM109.front 0 rfl).drop
        have hM112 := hM111.front 0 rfl
        have hM113 := hM112.front 1 rfl
        refine wpF_end _ (by kernel_rfl) (then_n (hK58 _ _ (k + 1, stpS (L) (a) (b) ((l.getD (k) (0, 0, [])).1) ((l.getD (k) (0, 0, [])).2.1) ((l.getD (k) (0, 0, [])).2.2), stpT (a) ((l.getD (k) (0, 0, [])).1) ((l.getD (k) (0, 0, [])).2.1) ((l.getD (k) (0, 0, [])).2.2), stpM (a) (b) ((l.getD (k) (0, 0, [])).1) ((l.getD (k) (0, 0, [])).2.1)) (by omega) ?_))
        refine ⟨g110, V82, Ar88_1, cr88_1, br88_1, mr88_1, Ar88_2, cr88_2, rfl, hM113, (le57.trans le85), r89, ?_, ?_⟩
        · -- ffLt inv 0
          omega
        · -- ffLt inv 1
          exact good_next (by omega) (by assumption)
      · -- ffLf
        have p114 : ¬ (((k : Int)) < ((l.length : Int))) := of_decide_eq_false h61
        have hk : k = l.length := by omega
        have hgn : Good (0 + fewN l l.length) (L, a, b) := by rw [← hk]; assumption
        have hf2 := few_all hfew
        have hnl := hgn.2.1
        simp only [Nat.zero_add] at hnl
        have hup : UP (keysOf L) := (ld_spi hgn.1).1
        refine wpF_seg 3 (by kernel_rfl) ?_
        refine wpF_end _ (by kernel_rfl) (then_n (hK60 _ _ ?_))
        refine wp_cf (by kernel_rfl) ?_
        refine wp_exit (then_x (then_x (blk_hit (then_n (hK50 _ _ ?_)))))
        obtain rfl : k = l.length := by omega
        refine wp_seq_k (fun K115 hK115 => ?_)
        refine wp_seq_k (fun K116 hK116 => ?_)
        refine wp_reg ?_
        refine wpF_seg 1 (by kernel_rfl) ?_
        refine gF hM56 (.binOp .eql 53 (.tmp 62) (.const (.pointer none)) 53) (some 63) (by kernel_rfl) (Y_eql (.pointer (some ⟨Ar_58bs11, 0, none⟩)) (.pointer none) (false) (by kernel_rfl) (by kernel_rfl) (by kernel_rfl)) ?_
        refine wpF_end _ (by kernel_rfl) (then_n (hK116 _ _ ?_))
        refine wp_cf (by kernel_rfl) ?_
        refine wp_skip (then_n (hK115 _ _ ?_))
        refine wp_seq_k (fun K117 hK117 => ?_)
        refine wp_reg ?_
        refine wpF_seg 4 (by kernel_rfl) ?_
        have hM118 := hM56.front 1 rfl
        have hM126 : Step V w [] Vl52 _ ([spE Ar_58bs11 Ar_58s11 cr_58s11 Ar_58ms11 (L) (a) (b), .blk b47 (.cells #[.slice Ar_58fc12_0 (L).length cr_58fc12_0, .int .i64 (a), .int .i64 (b)] 50)]) := hM118
        refine wpF_callE [spE Ar_58bs11 Ar_58s11 cr_58s11 Ar_58ms11 (L) (a) (b)] ([.blk b47 (.cells #[.slice Ar_58fc12_0 (L).length cr_58fc12_0, .int .i64 (a), .int .i64 (b)] 50)]) hM126 (f := 37) (caps := #[]) (h := (by kernel_rfl : opAt _ _ _ _ _ = some (.call (.mk (.value (.func 37)) #[(.tmp 65), (.tmp 66), (.tmp 67), (.tmp 68), (.const (.int .i64 (-1)))] #[53, 9, 9, 3, 3]), some 69))) (by kernel_rfl) (by kernel_rfl) (by kernel_rfl) (f37 _ _ Ar_58bs11 Ar_58s11 cr_58s11 Ar_58ms11 (L) (a) (b) (f) (hf) (u) (hu) (t) (-1) (St.part (E := [spE Ar_58bs11 Ar_58s11 cr_58s11 Ar_58ms11 (L) (a) (b)]) (F := ([.blk b47 (.cells #[.slice Ar_58fc12_0 (L).length cr_58fc12_0, .int .i64 (a), .int .i64 (b)] 50)])) hM126.ok) (by omega)) (fun v119 V120 w121 Eo122 le123 hM124 hp125 => ?_)
        obtain ⟨Ar126_1, cr126_1, rfl, rfl, r127⟩ := hp125
        have hM128 : Step V w [] V120 _ ([spE Ar_58bs11 Ar_58s11 cr_58s11 Ar_58ms11 ((L)) ((a)) ((b)), .blk b47 (.cells #[.slice Ar_58fc12_0 (L).length cr_58fc12_0, .int .i64 (a), .int .i64 (b)] 50)]) := hM124
        have l129 : (scnR (L) (a) (b) (f) (u) (t) (-1)).length ≤ 140737488355328 := r127.max
        refine wpF_seg 5 (by kernel_rfl) ?_
        refine wpF_end _ (by kernel_rfl) (then_n (hK117 _ _ ?_))
        refine wp_seq_k (fun K130 hK130 => ?_)
        refine wp_reg ?_
        refine wpF_seg 3 (by kernel_rfl) ?_
        have hM131 := hM128.front 0 rfl
        have hM139 : Step V w [] V120 _ ([spE Ar_58bs11 Ar_58s11 cr_58s11 Ar_58ms11 ((L)) ((a)) ((b)), .blk b47 (.cells #[.slice Ar_58fc12_0 (L).length cr_58fc12_0, .int .i64 (a), .int .i64 (b)] 50)]) := hM131
        refine wpF_callE [spE Ar_58bs11 Ar_58s11 cr_58s11 Ar_58ms11 ((L)) ((a)) ((b))] ([.blk b47 (.cells #[.slice Ar_58fc12_0 (L).length cr_58fc12_0, .int .i64 (a), .int .i64 (b)] 50)]) hM139 (f := 40) (caps := #[]) (h := (by kernel_rfl : opAt _ _ _ _ _ = some (.call (.mk (.value (.func 40)) #[(.tmp 73), (.tmp 74), (.tmp 75)] #[53, 9, 3]), some 76))) (by kernel_rfl) (by kernel_rfl) (by kernel_rfl) (f40 _ _ Ar_58bs11 Ar_58s11 cr_58s11 Ar_58ms11 ((L)) ((a)) ((b)) (f) (hf) (t) (St.part (E := [spE Ar_58bs11 Ar_58s11 cr_58s11 Ar_58ms11 ((L)) ((a)) ((b))]) (F := ([.blk b47 (.cells #[.slice Ar_58fc12_0 (L).length cr_58fc12_0, .int .i64 (a), .int .i64 (b)] 50)])) hM139.ok)) (fun v132 V133 w134 Eo135 le136 hM137 hp138 => ?_)
        obtain ⟨rfl, rfl, x140⟩ := hp138
        have hM141 : Step V w [] V133 _ ([spE Ar_58bs11 Ar_58s11 cr_58s11 Ar_58ms11 (((L))) (((a))) (((b))), .blk b47 (.cells #[.slice Ar_58fc12_0 (L).length cr_58fc12_0, .int .i64 (a), .int .i64 (b)] 50)]) := hM137
        have x140 : (getS ((L)) ((a)) ((b)) (f) (t)).length ≤ 140737488355328 := x140
        refine wpF_seg 5 (by kernel_rfl) ?_
        refine wpF_end _ (by kernel_rfl) (then_n (hK130 _ _ ?_))
        refine wp_seq_k (fun K142 hK142 => ?_)
        refine wp_seq_k (fun K143 hK143 => ?_)
        refine wp_reg ?_
        refine wpF_seg 3 (by kernel_rfl) ?_
        refine wpF_caseB 81 (!(decide ((kepE (t) (a) (b)) = (0)))) (by kernel_rfl) (by kernel_rfl) (fun h144 => ?_) (fun h144 => ?_)
        · -- ffLft
          have h145 : decide ((kepE (t) (a) (b)) = (0)) = false := by rw [← Bool.not_not (decide _), h144]; rfl
          have p146 : ¬ ((kepE (t) (a) (b)) = (0)) := of_decide_eq_false h145
          refine wpF_seg 7 (by kernel_rfl) ?_
          refine wpF_end _ (by kernel_rfl) (then_n (hK143 _ _ ?_))
          refine wp_ct (by kernel_rfl) ?_
          refine wp_seq_k (fun K147 hK147 => ?_)
          refine wp_reg ?_
          refine wpF_seg 4 (by kernel_rfl) ?_
          have h148 : (decide ((kepE (t) (a) (b)) = (getE ((L)) ((a)) ((b)) (f) (t)))) = true := by exact decide_eq_true (get_no (by assumption)).symm
          have p149 : ((kepE (t) (a) (b)) = (getE ((L)) ((a)) ((b)) (f) (t))) := of_decide_eq_true h148
          refine wpF_slot 92 (.bool (decide ((kepE (t) (a) (b)) = (getE ((L)) ((a)) ((b)) (f) (t))))) (.bool true) (by kernel_rfl) (by kernel_rfl) (by rw [h148]) ?_
          refine wpF_seg 5 (by kernel_rfl) ?_
          have h150 : (decide ((((scnR (L) (a) (b) (f) (u) (t) (-1)).length : Int)) = (0))) = true := by exact decide_eq_true (by rw [scn_no (by assumption)]; rfl)
          have p151 : ((((scnR (L) (a) (b) (f) (u) (t) (-1)).length : Int)) = (0)) := of_decide_eq_true h150
          refine wpF_slot 97 (.bool (decide ((((scnR (L) (a) (b) (f) (u) (t) (-1)).length : Int)) = (0)))) (.bool true) (by kernel_rfl) (by kernel_rfl) (by rw [h150]) ?_
          refine wpF_callP hM141 (f := 34) (caps := #[]) (h := (by kernel_rfl : opAt _ _ _ _ _ = some (.call (.mk (.value (.func 34)) #[] #[]), some 98))) (by kernel_rfl) (by kernel_rfl) (by kernel_rfl) (f34 _ _ hM141.inW ) (fun v152 V153 w154 le155 hM156 hp157 => ?_)
          obtain rfl := hp157
          refine wpF_seg 2 (by kernel_rfl) ?_
          refine wpF_end _ (by kernel_rfl) (then_n (hK147 _ _ ?_))
          refine wp_ret (then_r (?_))
          refine retN [.bool (true)] (.bool (true)) Try.results11 (.tmp (by kernel_rfl) (by kernel_rfl) .nil) (by kernel_rfl) (hRet _ _ ⟨_, _, rfl, hM156.clear, ?_⟩)
          -- end ffLft
          rfl
        · -- ffLff
          have h158 : decide ((kepE (t) (a) (b)) = (0)) = true := by rw [← Bool.not_not (decide _), h144]; rfl
          have p159 : ((kepE (t) (a) (b)) = (0)) := of_decide_eq_true h158
          have hk0 : kepE t a b = 0 := by assumption
          refine wpF_seg 3 (by kernel_rfl) ?_
          refine wpF_caseB 84 (!(decide ((getE ((L)) ((a)) ((b)) (f) (t)) = (0)))) (by kernel_rfl) (by kernel_rfl) (fun h160 => ?_) (fun h160 => ?_)
          · -- ffLfft
            have h161 : decide ((getE ((L)) ((a)) ((b)) (f) (t)) = (0)) = false := by rw [← Bool.not_not (decide _), h160]; rfl
            have p162 : ¬ ((getE ((L)) ((a)) ((b)) (f) (t)) = (0)) := of_decide_eq_false h161
            refine wpF_seg 4 (by kernel_rfl) ?_
            refine wpF_end _ (by kernel_rfl) (then_n (hK143 _ _ ?_))
            have h163 : (decide ((getE ((L)) ((a)) ((b)) (f) (t)) = (7))) = true := by exact decide_eq_true (get_07 (by assumption) (by assumption))
            have p164 : ((getE ((L)) ((a)) ((b)) (f) (t)) = (7)) := of_decide_eq_true h163
            refine wp_slot 88 (.bool (!(decide ((getE ((L)) ((a)) ((b)) (f) (t)) = (7))))) (.bool false) (by kernel_rfl) (by rw [(show (!(decide ((getE ((L)) ((a)) ((b)) (f) (t)) = (7)))) = false from by rw [h163]; rfl)]) ?_
            refine wp_cf (by kernel_rfl) ?_
            refine wp_skip (then_n (hK142 _ _ ?_))
            refine wp_seq_k (fun K165 hK165 => ?_)
            refine wp_seq_k (fun K166 hK166 => ?_)
            refine wp_reg ?_
            refine wpF_seg 1 (by kernel_rfl) ?_
            refine wpF_end _ (by kernel_rfl) (then_n (hK166 _ _ ?_))
            refine wp_block ?_
            have hq168 : ((L)) = L := by first | rfl | simp | exact (vacK_0 _ _).symm
            have hM169 : Step V w [] V133 _ ([spE Ar_58bs11 Ar_58s11 cr_58s11 Ar_58ms11 (L) (((a))) (((b))), .blk b47 (.cells #[.slice Ar_58fc12_0 (L).length cr_58fc12_0, .int .i64 (a), .int .i64 (b)] 50)]) := Step.reSp (B := []) (F := [.blk b47 (.cells #[.slice Ar_58fc12_0 (L).length cr_58fc12_0, .int .i64 (a), .int .i64 (b)] 50)]) hq168 hM141
            refine wp_base [(1, .slice Am (m).length cm), (2, .int .i64 (t)), (3, bs (f)), (4, bs (u)), (10, .bool (false)), (11, .pointer (some ⟨Ar_58bs11, 0, none⟩)), (12, .pointer (some ⟨b47, 0, none⟩)), (17, .slice Ar126_1 (scnR (L) (a) (b) (f) (u) (t) (-1)).length cr126_1), (19, bs (getS ((L)) ((a)) ((b)) (f) (t))), (20, .int .i64 (getE ((L)) ((a)) ((b)) (f) (t))), (21, .int .i64 ((0 : Int)))] (by kernel_rfl) (fun g170 => ?_)
            refine wp_loopX (fun (x_ : Nat × List Item × Int × Int) a_ w_ => ∃ (g : Nat → Value) (V_ : VT), ∃ (Ars11 : Option Addr) (crs11 : Nat) (Arbs11 Arms11 : Nat), ∃ (Arfc12_0 : Option Addr) (crfc12_0 : Nat), a_ = env [] 178 [(1, .slice Am (m).length cm), (2, .int .i64 (t)), (3, bs (f)), (4, bs (u)), (10, .bool (false)), (11, .pointer (some ⟨Arbs11, 0, none⟩)), (12, .pointer (some ⟨b47, 0, none⟩)), (17, .slice Ar126_1 (scnR (L) (a) (b) (f) (u) (t) (-1)).length cr126_1), (19, bs (getS ((L)) ((a)) ((b)) (f) (t))), (20, .int .i64 (getE ((L)) ((a)) ((b)) (f) (t))), (21, .int .i64 ((x_.1 : Int)))] g ∧ Step V w [] V_ w_ [spE Arbs11 Ars11 crs11 Arms11 (x_.2.1) (x_.2.2.1) (x_.2.2.2), .blk b47 (.cells #[.slice Arfc12_0 (x_.2.1).length crfc12_0, .int .i64 (x_.2.2.1), .int .i64 (x_.2.2.2)] 50)] ∧ VT.le V133 V_ ∧ Rd (prK strK (slK (prK (intK .i64) (prK strK boolK)))) V_ Arfc12_0 crfc12_0 (x_.2.1) ∧ (x_.1 ≤ m.length) ∧ (Good ((0 + fewN l l.length) + fewN m (x_.1)) (x_.2.1, x_.2.2.1, x_.2.2.2)) ∧ (kepE t x_.2.2.1 x_.2.2.2 = 0) ∧ (∀ y, vw (x_.2.1) t y = vw L t y)) (fun (x_ : Nat × List Item × Int × Int) => m.length - x_.1) ((0 : Nat), (L : List Item), (a : Int), (b : Int)) ⟨g170, V133, Ar_58s11, cr_58s11, Ar_58bs11, Ar_58ms11, Ar_58fc12_0, cr_58fc12_0, rfl, hM169, VT.le.refl _, (hfAr_58fc12_0.up (le123.trans le136)), by omega, by exact hgn, by assumption, by exact fun y => rfl⟩ ?_
            rintro ⟨j, M, c, d⟩ a_ w172 ⟨g171, Vl167, Ar_175s11, cr_175s11, Ar_175bs11, Ar_175ms11, Ar_175fc12_0, cr_175fc12_0, rfl, hM173, le174, hfAr_175fc12_0, hi175_0, hi175_1, hi175_2, hi175_3⟩ K175 hK175
            replace hi175_0 : j ≤ m.length := hi175_0
            replace hi175_1 : Good ((0 + fewN l l.length) + fewN m (j)) (M, c, d) := hi175_1
            replace hi175_2 : kepE t c d = 0 := hi175_2
            replace hi175_3 : ∀ y, vw (M) t y = vw L t y := hi175_3
            refine wp_seq_k (fun K176 hK176 => ?_)
            refine wp_seq_k (fun K177 hK177 => ?_)
            refine wp_reg ?_
            refine wpF_seg 5 (by kernel_rfl) ?_
            refine wpF_caseB 104 (decide (((j : Int)) < ((m.length : Int)))) (by kernel_rfl) (by kernel_rfl) (fun h178 => ?_) (fun h178 => ?_)
            · -- ffLfftLt
              have p179 : (((j : Int)) < ((m.length : Int))) := of_decide_eq_true h178
              have hfk := fewK_iff.1 hfm j (by omega)
              have hfs := few_step (l := m) (k := j) (by omega)
              have hst := stp_in hfk.2
              have hgo : Good ((0 + fewN l l.length) + fewN m j) (M, c, d) := by assumption
              have hgn := good_next (N := (0 + fewN l l.length)) (l := m) (k := j) (by omega) hgo
              have hgl : M.length ≤ (0 + fewN l l.length) + fewN m j := hgo.2.1
              have hrg : 0 ≤ c ∧ c ≤ 1152921504606846976 ∧ 0 ≤ d ∧ d ≤ c := ld_rng hgo.1
              have hld : ldB M c d = true := hgo.1
              refine wpF_seg 1 (by kernel_rfl) ?_
              refine gF hM173 (.binOp .neq 53 (.tmp 105) (.const (.pointer none)) 53) (some 106) (by kernel_rfl) (Y_neq (.pointer (some ⟨Ar_175bs11, 0, none⟩)) (.pointer none) (false) (by kernel_rfl) (by kernel_rfl) (by kernel_rfl)) ?_
              refine wpF_seg 1 (by kernel_rfl) ?_
              refine wpF_end _ (by kernel_rfl) (then_n (hK177 _ _ ?_))
              refine wp_ct (by kernel_rfl) ?_
              refine wp_skip (then_n (hK176 _ _ ?_))
              refine wp_seq_k (fun K180 hK180 => ?_)
              refine wp_block ?_
              refine wp_seq_k (fun K181 hK181 => ?_)
              refine wp_seq_k (fun K182 hK182 => ?_)
              have hM183 := hM173.openSp 0 rfl
              have hs184 : SpI (M) := (hM173.spOk 0 rfl)
              have hM185 : Step V w [] Vl167 _ ([.blk Ar_175bs11 (.cells #[.slice Ar_175s11 (keysOf (M)).length cr_175s11, .map (some Ar_175ms11), .int .i64 (c), .int .i64 (d)] 71), .row strK 9 Ar_175s11 cr_175s11 (keysOf (M)), mapE false (slK (prK (intK .i64) (prK strK boolK))) Ar_175ms11 (fun k_ => lk k_ (M)), .blk b47 (.cells #[.slice Ar_175fc12_0 (M).length cr_175fc12_0, .int .i64 (c), .int .i64 (d)] 50)]) := hM183
              refine wp_base [(1, .slice Am (m).length cm), (2, .int .i64 (t)), (3, bs (f)), (4, bs (u)), (10, .bool (false)), (11, .pointer (some ⟨Ar_175bs11, 0, none⟩)), (12, .pointer (some ⟨b47, 0, none⟩)), (17, .slice Ar126_1 (scnR (L) (a) (b) (f) (u) (t) (-1)).length cr126_1), (19, bs (getS ((L)) ((a)) ((b)) (f) (t))), (20, .int .i64 (getE ((L)) ((a)) ((b)) (f) (t))), (21, .int .i64 ((j : Int))), (100, .int .i64 ((j : Int))), (101, .slice Am (m).length cm), (102, .int .i64 ((m.length : Int))), (103, .bool (decide (((j : Int)) < ((m.length : Int))))), (104, .bool (true)), (105, .pointer (some ⟨Ar_175bs11, 0, none⟩)), (106, .bool (true)), (107, .bool (true))] (by kernel_rfl) (fun g186 => ?_)
              refine wp_drawN hM185 [] no_held [] [0, 1, 2, 3, 4, 5, 6, 7, 9, 10, 11, 12, 13, 15] [.a 8, .p 14, .p 16, .p 17] [.p 0, .p 1, .p 2, .p 3, .p 4, .p 5, .p 6, .p 7, .p 9, .p 10, .p 11, .p 12, .p 13, .p 15, .s, .a 8, .p 14, .p 16, .p 17] rfl (by kernel_rfl) (by kernel_rfl) ?_
              refine h_seg 2 (by kernel_rfl) ?_
              refine gH_index (A := Am) (c := cm) (hm.up hM185.le) .i64 ((j : Int)) (h := (by kernel_rfl : opAt _ _ _ _ _ = some (.indexAddr 84 (.tmp 110) (.tmp 111), some 112))) (e := 89) (by kernel_rfl) (by kernel_rfl) (by kernel_rfl) (j) rfl (by omega) (fun b187 o188 at_b187 => ?_)
              have c189 : Vl167 b187 o188 = some (.int .i64 (m.getD (j) (0, 0, [])).1) := (At.int (At.pr at_b187).1).1
              have l190 : IntKind.i64.min ≤ (m.getD (j) (0, 0, [])).1 ∧ (m.getD (j) (0, 0, [])).1 ≤ IntKind.i64.max := (At.int (At.pr at_b187).1).2
              have c191 : Vl167 b187 (o188 + 1) = some (.int .i64 (m.getD (j) (0, 0, [])).2.1) := (At.int (At.pr (At.pr at_b187).2).1).1
              have l192 : IntKind.i64.min ≤ (m.getD (j) (0, 0, [])).2.1 ∧ (m.getD (j) (0, 0, [])).2.1 ≤ IntKind.i64.max := (At.int (At.pr (At.pr at_b187).2).1).2
              obtain ⟨A193, c194, c195, r196⟩ := At.sl (At.pr (At.pr at_b187).2).2
              have c195 : Vl167 b187 (o188 + 2) = some (.slice A193 ((m.getD (j) (0, 0, [])).2.2).length c194) := c195
              have r196 : Rd (prK strK (prK strK boolK)) Vl167 A193 c194 ((m.getD (j) (0, 0, [])).2.2) := r196
              have l197 : ((m.getD (j) (0, 0, [])).2.2).length ≤ 140737488355328 := r196.max
              refine h_seg 1 (by kernel_rfl) ?_
              refine gH (.load 3 (.tmp 113)) (some 114) (by kernel_rfl) (Y_loadV c189 (by kernel_rfl) (by kernel_rfl)) ?_
              refine h_seg 2 (by kernel_rfl) ?_
              refine h_caseB 116 (decide (((m.getD (j) (0, 0, [])).1) = (1))) (by kernel_rfl) (by kernel_rfl) (fun h198 => ?_) (fun h198 => ?_)
              · -- ffLfftLtt
                have p199 : (((m.getD (j) (0, 0, [])).1) = (1)) := of_decide_eq_true h198
                refine h_seg 3 (by kernel_rfl) ?_
                refine gH_index (A := Am) (c := cm) (hm.up hM185.le) .i64 ((j : Int)) (h := (by kernel_rfl : opAt _ _ _ _ _ = some (.indexAddr 84 (.tmp 119) (.tmp 120), some 121))) (e := 89) (by kernel_rfl) (by kernel_rfl) (by kernel_rfl) (j) rfl (by omega) (fun b200 o201 at_b200 => ?_)
                have c202 : Vl167 b200 o201 = some (.int .i64 (m.getD (j) (0, 0, [])).1) := (At.int (At.pr at_b200).1).1
                have l203 : IntKind.i64.min ≤ (m.getD (j) (0, 0, [])).1 ∧ (m.getD (j) (0, 0, [])).1 ≤ IntKind.i64.max := (At.int (At.pr at_b200).1).2
                have c204 : Vl167 b200 (o201 + 1) = some (.int .i64 (m.getD (j) (0, 0, [])).2.1) := (At.int (At.pr (At.pr at_b200).2).1).1
                have l205 : IntKind.i64.min ≤ (m.getD (j) (0, 0, [])).2.1 ∧ (m.getD (j) (0, 0, [])).2.1 ≤ IntKind.i64.max := (At.int (At.pr (At.pr at_b200).2).1).2
                obtain ⟨A206, c207, c208, r209⟩ := At.sl (At.pr (At.pr at_b200).2).2
                have c208 : Vl167 b200 (o201 + 2) = some (.slice A206 ((m.getD (j) (0, 0, [])).2.2).length c207) := c208
                have r209 : Rd (prK strK (prK strK boolK)) Vl167 A206 c207 ((m.getD (j) (0, 0, [])).2.2) := r209
                have l210 : ((m.getD (j) (0, 0, [])).2.2).length ≤ 140737488355328 := r209.max
                refine h_seg 1 (by kernel_rfl) ?_
                refine gH (.load 3 (.tmp 122)) (some 123) (by kernel_rfl) (Y_loadV c204 (by kernel_rfl) (by kernel_rfl)) ?_
                refine h_seg 1 (by kernel_rfl) ?_
                refine h_s no_fs ?_
                refine h_a (by kernel_rfl) (by kernel_rfl) (fun w211 X212 hM213 => ?_)
                have hM214 := hM213.front 2 rfl
                have hM215 := hM214.front 2 rfl
                have hM216 := hM215.front 2 rfl
                have hM217 : Step V w [] Vl167 _ ([.blk Ar_175bs11 (.cells #[.slice Ar_175s11 (keysOf (M)).length cr_175s11, .map (some Ar_175ms11), .int .i64 (c), .int .i64 (d)] 71), .row strK 9 Ar_175s11 cr_175s11 (keysOf (M)), mapE false (slK (prK (intK .i64) (prK strK boolK))) Ar_175ms11 (fun k_ => lk k_ (M)), .blk b47 (.cells #[.slice Ar_175fc12_0 (M).length cr_175fc12_0, .int .i64 (c), .int .i64 (d)] 50)] ++ X212) := hM216
                have hk218 : keysOf (M) = keysOf (M) := rfl
                have hf219 : (fun k_ => lk k_ (M)) = (fun k_ => lk k_ (M)) := rfl
                have ho220 : SpI (M) := hs184
                have hM221 : Step V w [] Vl167 _ (spE Ar_175bs11 Ar_175s11 cr_175s11 Ar_175ms11 (M) (c) (d) :: [.blk b47 (.cells #[.slice Ar_175fc12_0 (M).length cr_175fc12_0, .int .i64 (c), .int .i64 (d)] 50)] ++ X212) := Step.closeSp hk218 hf219 ho220 (by exact hM217)
                have hM222 : Step V w [] Vl167 _ ([spE Ar_175bs11 Ar_175s11 cr_175s11 Ar_175ms11 (M) (c) (d), .blk b47 (.cells #[.slice Ar_175fc12_0 (M).length cr_175fc12_0, .int .i64 (c), .int .i64 (d)] 50)] ++ X212) := hM221
                have hM223 := hM222.front 0 rfl
                have hM231 : Step V w [] Vl167 _ ([spE Ar_175bs11 Ar_175s11 cr_175s11 Ar_175ms11 (M) (c) (d), .blk b47 (.cells #[.slice Ar_175fc12_0 (M).length cr_175fc12_0, .int .i64 (c), .int .i64 (d)] 50)] ++ X212) := hM223
                refine wpF_callE [spE Ar_175bs11 Ar_175s11 cr_175s11 Ar_175ms11 (M) (c) (d)] ([.blk b47 (.cells #[.slice Ar_175fc12_0 (M).length cr_175fc12_0, .int .i64 (c), .int .i64 (d)] 50)] ++ X212) hM231 (f := 43) (caps := #[]) (h := (by kernel_rfl : opAt _ _ _ _ _ = some (.call (.mk (.value (.func 43)) #[(.tmp 117)] #[53]), some 118))) (by kernel_rfl) (by kernel_rfl) (by kernel_rfl) (f43 _ _ Ar_175bs11 Ar_175s11 cr_175s11 Ar_175ms11 (M) (c) (d) (St.part (E := [spE Ar_175bs11 Ar_175s11 cr_175s11 Ar_175ms11 (M) (c) (d)]) (F := ([.blk b47 (.cells #[.slice Ar_175fc12_0 (M).length cr_175fc12_0, .int .i64 (c), .int .i64 (d)] 50)] ++ X212)) hM231.ok)) (fun v224 V225 w226 Eo227 le228 hM229 hp230 => ?_)
                obtain ⟨rfl, rfl⟩ := hp230
                have hM232 : Step V w [] V225 _ ([spE Ar_175bs11 Ar_175s11 cr_175s11 Ar_175ms11 ((M)) ((c)) ((d)), .blk b47 (.cells #[.slice Ar_175fc12_0 (M).length cr_175fc12_0, .int .i64 (c), .int .i64 (d)] 50)] ++ X212) := hM229
                refine wpF_end _ (by kernel_rfl) (then_n (h_d [] (by kernel_rfl) [spE Ar_175bs11 Ar_175s11 cr_175s11 Ar_175ms11 ((M)) ((c)) ((d)), .blk b47 (.cells #[.slice Ar_175fc12_0 (M).length cr_175fc12_0, .int .i64 (c), .int .i64 (d)] 50)] hM232 no_held le228 ?_))
                refine gH (.binOp .add 3 (.tmp 118) (.tmp 123) 3) (some 124) (by kernel_rfl) (Y_add .i64 ((d)) ((m.getD (j) (0, 0, [])).2.1) ((d) + ((m.getD (j) (0, 0, [])).2.1)) (by kernel_rfl) (by kernel_rfl) (wrap64_ok _ (by omega))) ?_
                refine h_seg 2 (by kernel_rfl) ?_
                refine h_n (fun w233 hM234 => ?_)
                refine  (then_n (hK182 _ _ ?_))
                refine wp_if (decide ((t) < ((d) + ((m.getD (j) (0, 0, [])).2.1)))) (by kernel_rfl) (fun h235 => ?_) (fun h235 => ?_)
                · -- ffLfftLttt
                  have p236 : ((t) < ((d) + ((m.getD (j) (0, 0, [])).2.1))) := of_decide_eq_true h235
                  refine wp_exit (then_x (blk_hit (then_n (hK180 _ _ ?_))))
                  refine wp_reg ?_
                  refine wpF_seg 1 (by kernel_rfl) ?_
                  refine gF hM234 (.binOp .add 3 (.tmp 108) (.const (.int .i64 1)) 3) (some 109) (by kernel_rfl) (Y_add .i64 ((j : Int)) (1) ((j : Int) + 1) (by kernel_rfl) (by kernel_rfl) (wrap64_ok _ (by omega))) ?_
                  refine wpF_seg 1 (by kernel_rfl) ?_
                  refine wpF_base [(1, .slice Am (m).length cm), (2, .int .i64 (t)), (3, bs (f)), (4, bs (u)), (10, .bool (false)), (11, .pointer (some ⟨Ar_175bs11, 0, none⟩)), (12, .pointer (some ⟨b47, 0, none⟩)), (17, .slice Ar126_1 (scnR (L) (a) (b) (f) (u) (t) (-1)).length cr126_1), (19, bs (getS ((L)) ((a)) ((b)) (f) (t))), (20, .int .i64 (getE ((L)) ((a)) ((b)) (f) (t))), (21, .int .i64 ((j + 1 : Int)))] (by kernel_rfl) (fun g237 => ?_)
                  refine wpF_end _ (by kernel_rfl) (then_n (hK175 _ _ (j + 1, M, c, d) (by omega) ?_))
                  refine ⟨g237, V225, Ar_175s11, cr_175s11, Ar_175bs11, Ar_175ms11, Ar_175fc12_0, cr_175fc12_0, rfl, hM234, (le174.trans le228), (hfAr_175fc12_0.up le228), ?_, ?_, ?_, ?_⟩
                  · -- ffLfftLttt inv 0
                    omega
                  · -- ffLfftLttt inv 1
                    exact good_mono hgo (show _ ≤ (0 + fewN l l.length) + fewN m (j + 1) by omega)
                  · -- ffLfftLttt inv 2
                    assumption
                  · -- ffLfftLttt inv 3
                    assumption
                · -- ffLfftLttf
                  have p238 : ¬ ((t) < ((d) + ((m.getD (j) (0, 0, [])).2.1))) := of_decide_eq_false h235
                  refine wp_skip (then_n (hK181 _ _ ?_))
                  refine wp_seq_k (fun K239 hK239 => ?_)
                  refine wp_base [(1, .slice Am (m).length cm), (2, .int .i64 (t)), (3, bs (f)), (4, bs (u)), (10, .bool (false)), (11, .pointer (some ⟨Ar_175bs11, 0, none⟩)), (12, .pointer (some ⟨b47, 0, none⟩)), (17, .slice Ar126_1 (scnR (L) (a) (b) (f) (u) (t) (-1)).length cr126_1), (19, bs (getS ((L)) ((a)) ((b)) (f) (t))), (20, .int .i64 (getE ((L)) ((a)) ((b)) (f) (t))), (21, .int .i64 ((j : Int))), (100, .int .i64 ((j : Int))), (101, .slice Am (m).length cm), (102, .int .i64 ((m.length : Int))), (103, .bool (decide (((j : Int)) < ((m.length : Int))))), (104, .bool (true)), (105, .pointer (some ⟨Ar_175bs11, 0, none⟩)), (106, .bool (true)), (107, .bool (true)), (110, .slice Am (m).length cm), (111, .int .i64 ((j : Int))), (112, .pointer (some ⟨b187, o188, none⟩)), (113, .pointer (some ⟨b187, o188, none⟩)), (114, .int .i64 ((m.getD (j) (0, 0, [])).1)), (115, .bool (decide (((m.getD (j) (0, 0, [])).1) = (1)))), (116, .bool (true)), (117, .pointer (some ⟨Ar_175bs11, 0, none⟩)), (118, .int .i64 ((d))), (119, .slice Am (m).length cm), (120, .int .i64 ((j : Int))), (121, .pointer (some ⟨b200, o201, none⟩)), (122, .pointer (some ⟨b200, (o201 + 1), none⟩)), (123, .int .i64 ((m.getD (j) (0, 0, [])).2.1)), (124, .int .i64 ((d) + ((m.getD (j) (0, 0, [])).2.1))), (125, .int .i64 (t)), (126, .bool (decide ((t) < ((d) + ((m.getD (j) (0, 0, [])).2.1))))), (127, .bool (decide ((t) < ((d) + ((m.getD (j) (0, 0, [])).2.1)))))] (by kernel_rfl) (fun g240 => ?_)
                  refine wp_drawN hM234 [(.blk b47 (.cells #[.slice Ar_175fc12_0 (M).length cr_175fc12_0, .int .i64 (c), .int .i64 (d)] 50), 9999)] (and_held 1 rfl no_held) [⟨11, fun b_ => .pointer (some ⟨b_, 0, none⟩), #[.slice none 0 0, .int .i64 (0), .int .i64 (0)], 50⟩] [0, 1, 2, 3, 4, 5] [.a 6, .p 7, .p 8, .p 9, .p 10, .f 11, .p 12, .a 13, .p 14] [.p 0, .p 1, .p 2, .p 3, .p 4, .p 5, .s, .a 6, .p 7, .p 8, .p 9, .p 10, .f 11, .p 12, .a 13, .p 14] rfl (by kernel_rfl) (by kernel_rfl) ?_
                  refine h_seg 1 (by kernel_rfl) ?_
                  refine gH (.load 50 (.tmp 12)) (some 130) (by kernel_rfl) (Y_load 0 (by kernel_rfl : (FOf _ _ _)[0]? = some (.blk b47 (.cells #[.slice Ar_175fc12_0 (M).length cr_175fc12_0, .int .i64 (c), .int .i64 (d)] 50))) (off := 0) (by kernel_rfl) (.agg #[.slice Ar_175fc12_0 (M).length cr_175fc12_0, .int .i64 (c), .int .i64 (d)]) (by kernel_rfl)) ?_
                  refine h_seg 2 (by kernel_rfl) ?_
                  refine gH_index (A := Am) (c := cm) (hm.up hM234.le) .i64 ((j : Int)) (h := (by kernel_rfl : opAt _ _ _ _ _ = some (.indexAddr 84 (.tmp 131) (.tmp 132), some 133))) (e := 89) (by kernel_rfl) (by kernel_rfl) (by kernel_rfl) (j) rfl (by omega) (fun b241 o242 at_b241 => ?_)
                  have c243 : V225 b241 o242 = some (.int .i64 (m.getD (j) (0, 0, [])).1) := (At.int (At.pr at_b241).1).1
                  have l244 : IntKind.i64.min ≤ (m.getD (j) (0, 0, [])).1 ∧ (m.getD (j) (0, 0, [])).1 ≤ IntKind.i64.max := (At.int (At.pr at_b241).1).2
                  have c245 : V225 b241 (o242 + 1) = some (.int .i64 (m.getD (j) (0, 0, [])).2.1) := (At.int (At.pr (At.pr at_b241).2).1).1
                  have l246 : IntKind.i64.min ≤ (m.getD (j) (0, 0, [])).2.1 ∧ (m.getD (j) (0, 0, [])).2.1 ≤ IntKind.i64.max := (At.int (At.pr (At.pr at_b241).2).1).2
                  obtain ⟨A247, c248, c249, r250⟩ := At.sl (At.pr (At.pr at_b241).2).2
                  have c249 : V225 b241 (o242 + 2) = some (.slice A247 ((m.getD (j) (0, 0, [])).2.2).length c248) := c249
                  have r250 : Rd (prK strK (prK strK boolK)) V225 A247 c248 ((m.getD (j) (0, 0, [])).2.2) := r250
                  have l251 : ((m.getD (j) (0, 0, [])).2.2).length ≤ 140737488355328 := r250.max
                  refine gH (.load 89 (.tmp 133)) (some 134) (by kernel_rfl) (Y_loadS (b := b241) (off := o242) [.int .i64 ((m.getD (j) (0, 0, [])).1), .int .i64 ((m.getD (j) (0, 0, [])).2.1), .slice A247 ((m.getD (j) (0, 0, [])).2.2).length c248] (cells3 c243 c245 c249) (by kernel_rfl) (by kernel_rfl) (by kernel_rfl)) ?_
                  refine h_s (and_fs (fre_alloc (h := (by kernel_rfl : opAt _ _ _ _ _ = some (.alloc 50, some 23))) (by kernel_rfl)) no_fs) ?_
                  refine h_a (by kernel_rfl) (by kernel_rfl) (fun w252 X253 hM254 => ?_)
                  have hM255 := hM254.front 0 rfl
                  have hM263 : Step V w [] V225 _ ([spE Ar_175bs11 Ar_175s11 cr_175s11 Ar_175ms11 ((M)) ((c)) ((d)), .blk b47 (.cells #[.slice Ar_175fc12_0 (M).length cr_175fc12_0, .int .i64 (c), .int .i64 (d)] 50)] ++ X253) := hM255
                  refine wpF_callE [spE Ar_175bs11 Ar_175s11 cr_175s11 Ar_175ms11 ((M)) ((c)) ((d))] ([.blk b47 (.cells #[.slice Ar_175fc12_0 (M).length cr_175fc12_0, .int .i64 (c), .int .i64 (d)] 50)] ++ X253) hM263 (f := 49) (caps := #[]) (h := (by kernel_rfl : opAt _ _ _ _ _ = some (.call (.mk (.value (.func 49)) #[(.tmp 129), (.tmp 130), (.tmp 134)] #[53, 50, 89]), some 135))) (by kernel_rfl) (by kernel_rfl) (by kernel_rfl) (f49 _ _ Ar_175bs11 Ar_175s11 cr_175s11 Ar_175ms11 ((M)) ((c)) ((d)) Ar_175fc12_0 cr_175fc12_0 (M) (hfAr_175fc12_0.up le228) (c) (d) ((m.getD (j) (0, 0, [])).1) ((m.getD (j) (0, 0, [])).2.1) A247 c248 ((m.getD (j) (0, 0, [])).2.2) r250 (St.part (E := [spE Ar_175bs11 Ar_175s11 cr_175s11 Ar_175ms11 ((M)) ((c)) ((d))]) (F := ([.blk b47 (.cells #[.slice Ar_175fc12_0 (M).length cr_175fc12_0, .int .i64 (c), .int .i64 (d)] 50)] ++ X253)) hM263.ok) (by exact hgo.1) (by rfl) (by rfl) (by rfl) (by omega) (by omega) (by exact fun y => Nat.le_trans (hgo.2.2 y) (by omega)) (by omega)) (fun v256 V257 w258 Eo259 le260 hM261 hp262 => ?_)
                  obtain ⟨br263_1, Ar263_1, cr263_1, mr263_1, Ar263_2, cr263_2, rfl, rfl, r264⟩ := hp262
                  have hM265 : Step V w [] V257 _ ([spE br263_1 Ar263_1 cr263_1 mr263_1 (stpS ((M)) ((c)) ((d)) ((m.getD (j) (0, 0, [])).1) ((m.getD (j) (0, 0, [])).2.1) ((m.getD (j) (0, 0, [])).2.2)) (stpT ((c)) ((m.getD (j) (0, 0, [])).1) ((m.getD (j) (0, 0, [])).2.1) ((m.getD (j) (0, 0, [])).2.2)) (stpM ((c)) ((d)) ((m.getD (j) (0, 0, [])).1) ((m.getD (j) (0, 0, [])).2.1)), .blk b47 (.cells #[.slice Ar_175fc12_0 (M).length cr_175fc12_0, .int .i64 (c), .int .i64 (d)] 50)] ++ X253) := hM261
                  have l266 : (stpS ((M)) ((c)) ((d)) ((m.getD (j) (0, 0, [])).1) ((m.getD (j) (0, 0, [])).2.1) ((m.getD (j) (0, 0, [])).2.2)).length ≤ 140737488355328 := r264.max
                  refine wpF_end _ (by kernel_rfl) (then_n (h_d [(.blk b47 (.cells #[.slice Ar_175fc12_0 (M).length cr_175fc12_0, .int .i64 (c), .int .i64 (d)] 50), 9999)] (by kernel_rfl) [spE br263_1 Ar263_1 cr263_1 mr263_1 (stpS ((M)) ((c)) ((d)) ((m.getD (j) (0, 0, [])).1) ((m.getD (j) (0, 0, [])).2.1) ((m.getD (j) (0, 0, [])).2.2)) (stpT ((c)) ((m.getD (j) (0, 0, [])).1) ((m.getD (j) (0, 0, [])).2.1) ((m.getD (j) (0, 0, [])).2.2)) (stpM ((c)) ((d)) ((m.getD (j) (0, 0, [])).1) ((m.getD (j) (0, 0, [])).2.1)), .blk b47 (.cells #[.slice Ar_175fc12_0 (M).length cr_175fc12_0, .int .i64 (c), .int .i64 (d)] 50)] hM265 (and_held 1 rfl no_held) le260 ?_))
                  refine h_seg 4 (by kernel_rfl) ?_
                  refine h_f (d := 23) ⟨11, fun b_ => .pointer (some ⟨b_, 0, none⟩), #[.slice none 0 0, .int .i64 (0), .int .i64 (0)], 50⟩ (by kernel_rfl) (by kernel_rfl) (by kernel_rfl) (fun b267 => ?_)
                  refine h_seg 1 (by kernel_rfl) ?_
                  refine h_a (by kernel_rfl) (by kernel_rfl) (fun w268 X269 hM270 => ?_)
                  refine wpF_store hM270 0 rfl (h := (by kernel_rfl : opAt _ _ _ _ _ = some (.store 50 (.tmp 23) (.tmp 137), none))) (off := 0) (by kernel_rfl) #[.slice Ar263_2 (stpS ((M)) ((c)) ((d)) ((m.getD (j) (0, 0, [])).1) ((m.getD (j) (0, 0, [])).2.1) ((m.getD (j) (0, 0, [])).2.2)).length cr263_2, .int .i64 (stpT ((c)) ((m.getD (j) (0, 0, [])).1) ((m.getD (j) (0, 0, [])).2.1) ((m.getD (j) (0, 0, [])).2.2)), .int .i64 (stpM ((c)) ((d)) ((m.getD (j) (0, 0, [])).1) ((m.getD (j) (0, 0, [])).2.1))] (by kernel_rfl) (by kernel_rfl) (by kernel_rfl) (by kernel_rfl) (fun w272 hM271 => ?_)
                  have hM273 : Step V w [] V257 _ ([.blk b267 (.cells #[.slice Ar263_2 (stpS ((M)) ((c)) ((d)) ((m.getD (j) (0, 0, [])).1) ((m.getD (j) (0, 0, [])).2.1) ((m.getD (j) (0, 0, [])).2.2)).length cr263_2, .int .i64 (stpT ((c)) ((m.getD (j) (0, 0, [])).1) ((m.getD (j) (0, 0, [])).2.1) ((m.getD (j) (0, 0, [])).2.2)), .int .i64 (stpM ((c)) ((d)) ((m.getD (j) (0, 0, [])).1) ((m.getD (j) (0, 0, [])).2.1))] 50), spE br263_1 Ar263_1 cr263_1 mr263_1 (stpS ((M)) ((c)) ((d)) ((m.getD (j) (0, 0, [])).1) ((m.getD (j) (0, 0, [])).2.1) ((m.getD (j) (0, 0, [])).2.2)) (stpT ((c)) ((m.getD (j) (0, 0, [])).1) ((m.getD (j) (0, 0, [])).2.1) ((m.getD (j) (0, 0, [])).2.2)) (stpM ((c)) ((d)) ((m.getD (j) (0, 0, [])).1) ((m.getD (j) (0, 0, [])).2.1)), .blk b47 (.cells #[.slice Ar_175fc12_0 (M).length cr_175fc12_0, .int .i64 (c), .int .i64 (d)] 50)] ++ X269) := hM271
                  refine wpF_end _ (by kernel_rfl) (then_n (h_d [(.blk b47 (.cells #[.slice Ar_175fc12_0 (M).length cr_175fc12_0, .int .i64 (c), .int .i64 (d)] 50), 9999)] (by kernel_rfl) [.blk b267 (.cells #[.slice Ar263_2 (stpS ((M)) ((c)) ((d)) ((m.getD (j) (0, 0, [])).1) ((m.getD (j) (0, 0, [])).2.1) ((m.getD (j) (0, 0, [])).2.2)).length cr263_2, .int .i64 (stpT ((c)) ((m.getD (j) (0, 0, [])).1) ((m.getD (j) (0, 0, [])).2.1) ((m.getD (j) (0, 0, [])).2.2)), .int .i64 (stpM ((c)) ((d)) ((m.getD (j) (0, 0, [])).1) ((m.getD (j) (0, 0, [])).2.1))] 50), spE br263_1 Ar263_1 cr263_1 mr263_1 (stpS ((M)) ((c)) ((d)) ((m.getD (j) (0, 0, [])).1) ((m.getD (j) (0, 0, [])).2.1) ((m.getD (j) (0, 0, [])).2.2)) (stpT ((c)) ((m.getD (j) (0, 0, [])).1) ((m.getD (j) (0, 0, [])).2.1) ((m.getD (j) (0, 0, [])).2.2)) (stpM ((c)) ((d)) ((m.getD (j) (0, 0, [])).1) ((m.getD (j) (0, 0, [])).2.1)), .blk b47 (.cells #[.slice Ar_175fc12_0 (M).length cr_175fc12_0, .int .i64 (c), .int .i64 (d)] 50)] hM273 (and_held 2 rfl no_held) (VT.le.refl _) ?_))
                  refine h_seg 1 (by kernel_rfl) ?_
                  refine h_n (fun w274 hM275 => ?_)
                  refine  (then_n (hK239 _ _ ?_))
                  refine wp_base [(1, .slice Am (m).length cm), (2, .int .i64 (t)), (3, bs (f)), (4, bs (u)), (10, .bool (false)), (11, .pointer (some ⟨Ar_175bs11, 0, none⟩)), (12, .pointer (some ⟨b47, 0, none⟩)), (17, .slice Ar126_1 (scnR (L) (a) (b) (f) (u) (t) (-1)).length cr126_1), (19, bs (getS ((L)) ((a)) ((b)) (f) (t))), (20, .int .i64 (getE ((L)) ((a)) ((b)) (f) (t))), (21, .int .i64 ((j : Int))), (22, .pointer (some ⟨br263_1, 0, none⟩)), (23, .pointer (some ⟨b267, 0, none⟩)), (24, .bool (true)), (100, .int .i64 ((j : Int))), (101, .slice Am (m).length cm), (102, .int .i64 ((m.length : Int))), (103, .bool (decide (((j : Int)) < ((m.length : Int))))), (104, .bool (true)), (105, .pointer (some ⟨Ar_175bs11, 0, none⟩)), (106, .bool (true)), (107, .bool (true)), (110, .slice Am (m).length cm), (111, .int .i64 ((j : Int))), (112, .pointer (some ⟨b187, o188, none⟩)), (113, .pointer (some ⟨b187, o188, none⟩)), (114, .int .i64 ((m.getD (j) (0, 0, [])).1)), (115, .bool (decide (((m.getD (j) (0, 0, [])).1) = (1)))), (116, .bool (true)), (117, .pointer (some ⟨Ar_175bs11, 0, none⟩)), (118, .int .i64 ((d))), (119, .slice Am (m).length cm), (120, .int .i64 ((j : Int))), (121, .pointer (some ⟨b200, o201, none⟩)), (122, .pointer (some ⟨b200, (o201 + 1), none⟩)), (123, .int .i64 ((m.getD (j) (0, 0, [])).2.1)), (124, .int .i64 ((d) + ((m.getD (j) (0, 0, [])).2.1))), (125, .int .i64 (t)), (126, .bool (decide ((t) < ((d) + ((m.getD (j) (0, 0, [])).2.1))))), (127, .bool (decide ((t) < ((d) + ((m.getD (j) (0, 0, [])).2.1))))), (128, .tuple #[.pointer (some ⟨br263_1, 0, none⟩), .agg #[.slice Ar263_2 (stpS ((M)) ((c)) ((d)) ((m.getD (j) (0, 0, [])).1) ((m.getD (j) (0, 0, [])).2.1) ((m.getD (j) (0, 0, [])).2.2)).length cr263_2, .int .i64 (stpT ((c)) ((m.getD (j) (0, 0, [])).1) ((m.getD (j) (0, 0, [])).2.1) ((m.getD (j) (0, 0, [])).2.2)), .int .i64 (stpM ((c)) ((d)) ((m.getD (j) (0, 0, [])).1) ((m.getD (j) (0, 0, [])).2.1))], .bool (true)]), (129, .pointer (some ⟨Ar_175bs11, 0, none⟩)), (130, .agg #[.slice Ar_175fc12_0 (M).length cr_175fc12_0, .int .i64 (c), .int .i64 (d)]), (131, .slice Am (m).length cm), (132, .int .i64 ((j : Int))), (133, .pointer (some ⟨b241, o242, none⟩)), (134, .agg #[.int .i64 ((m.getD (j) (0, 0, [])).1), .int .i64 ((m.getD (j) (0, 0, [])).2.1), .slice A247 ((m.getD (j) (0, 0, [])).2.2).length c248]), (135, .tuple #[.pointer (some ⟨br263_1, 0, none⟩), .agg #[.slice Ar263_2 (stpS ((M)) ((c)) ((d)) ((m.getD (j) (0, 0, [])).1) ((m.getD (j) (0, 0, [])).2.1) ((m.getD (j) (0, 0, [])).2.2)).length cr263_2, .int .i64 (stpT ((c)) ((m.getD (j) (0, 0, [])).1) ((m.getD (j) (0, 0, [])).2.1) ((m.getD (j) (0, 0, [])).2.2)), .int .i64 (stpM ((c)) ((d)) ((m.getD (j) (0, 0, [])).1) ((m.getD (j) (0, 0, [])).2.1))], .bool (true)]), (136, .pointer (some ⟨br263_1, 0, none⟩)), (137, .agg #[.slice Ar263_2 (stpS ((M)) ((c)) ((d)) ((m.getD (j) (0, 0, [])).1) ((m.getD (j) (0, 0, [])).2.1) ((m.getD (j) (0, 0, [])).2.2)).length cr263_2, .int .i64 (stpT ((c)) ((m.getD (j) (0, 0, [])).1) ((m.getD (j) (0, 0, [])).2.1) ((m.getD (j) (0, 0, [])).2.2)), .int .i64 (stpM ((c)) ((d)) ((m.getD (j) (0, 0, [])).1) ((m.getD (j) (0, 0, [])).2.1))]), (138, .bool (true))] (by kernel_rfl) (fun g276 => ?_)
                  refine wp_drawN hM275 [(.blk b267 (.cells #[.slice Ar263_2 (stpS ((M)) ((c)) ((d)) ((m.getD (j) (0, 0, [])).1) ((m.getD (j) (0, 0, [])).2.1) ((m.getD (j) (0, 0, [])).2.2)).length cr263_2, .int .i64 (stpT ((c)) ((m.getD (j) (0, 0, [])).1) ((m.getD (j) (0, 0, [])).2.1) ((m.getD (j) (0, 0, [])).2.2)), .int .i64 (stpM ((c)) ((d)) ((m.getD (j) (0, 0, [])).1) ((m.getD (j) (0, 0, [])).2.1))] 50), 9999)] (and_held 0 rfl no_held) [] [0, 1, 2] [.a 3] [.p 0, .p 1, .p 2, .s, .a 3] rfl (by kernel_rfl) (by kernel_rfl) ?_
                  refine h_seg 1 (by kernel_rfl) ?_
                  refine gH (.load 50 (.tmp 23)) (some 140) (by kernel_rfl) (Y_load 0 (by kernel_rfl : (FOf _ _ _)[0]? = some (.blk b267 (.cells #[.slice Ar263_2 (stpS ((M)) ((c)) ((d)) ((m.getD (j) (0, 0, [])).1) ((m.getD (j) (0, 0, [])).2.1) ((m.getD (j) (0, 0, [])).2.2)).length cr263_2, .int .i64 (stpT ((c)) ((m.getD (j) (0, 0, [])).1) ((m.getD (j) (0, 0, [])).2.1) ((m.getD (j) (0, 0, [])).2.2)), .int .i64 (stpM ((c)) ((d)) ((m.getD (j) (0, 0, [])).1) ((m.getD (j) (0, 0, [])).2.1))] 50))) (off := 0) (by kernel_rfl) (.agg #[.slice Ar263_2 (stpS ((M)) ((c)) ((d)) ((m.getD (j) (0, 0, [])).1) ((m.getD (j) (0, 0, [])).2.1) ((m.getD (j) (0, 0, [])).2.2)).length cr263_2, .int .i64 (stpT ((c)) ((m.getD (j) (0, 0, [])).1) ((m.getD (j) (0, 0, [])).2.1) ((m.getD (j) (0, 0, [])).2.2)), .int .i64 (stpM ((c)) ((d)) ((m.getD (j) (0, 0, [])).1) ((m.getD (j) (0, 0, [])).2.1))]) (by kernel_rfl)) ?_
                  refine h_seg 1 (by kernel_rfl) ?_
                  refine h_s no_fs ?_
                  refine h_a (by kernel_rfl) (by kernel_rfl) (fun w277 X278 hM279 => ?_)
                  refine wpF_store hM279 2 rfl (h := (by kernel_rfl : opAt _ _ _ _ _ = some (.store 50 (.tmp 12) (.tmp 140), none))) (off := 0) (by kernel_rfl) #[.slice Ar263_2 (stpS ((M)) ((c)) ((d)) ((m.getD (j) (0, 0, [])).1) ((m.getD (j) (0, 0, [])).2.1) ((m.getD (j) (0, 0, [])).2.2)).length cr263_2, .int .i64 (stpT ((c)) ((m.getD (j) (0, 0, [])).1) ((m.getD (j) (0, 0, [])).2.1) ((m.getD (j) (0, 0, [])).2.2)), .int .i64 (stpM ((c)) ((d)) ((m.getD (j) (0, 0, [])).1) ((m.getD (j) (0, 0, [])).2.1))] (by kernel_rfl) (by kernel_rfl) (by kernel_rfl) (by kernel_rfl) (fun w281 hM280 => ?_)
                  have hM282 : Step V w [] V257 _ ([.blk b267 (.cells #[.slice Ar263_2 (stpS ((M)) ((c)) ((d)) ((m.getD (j) (0, 0, [])).1) ((m.getD (j) (0, 0, [])).2.1) ((m.getD (j) (0, 0, [])).2.2)).length cr263_2, .int .i64 (stpT ((c)) ((m.getD (j) (0, 0, [])).1) ((m.getD (j) (0, 0, [])).2.1) ((m.getD (j) (0, 0, [])).2.2)), .int .i64 (stpM ((c)) ((d)) ((m.getD (j) (0, 0, [])).1) ((m.getD (j) (0, 0, [])).2.1))] 50), spE br263_1 Ar263_1 cr263_1 mr263_1 (stpS ((M)) ((c)) ((d)) ((m.getD (j) (0, 0, [])).1) ((m.getD (j) (0, 0, [])).2.1) ((m.getD (j) (0, 0, [])).2.2)) (stpT ((c)) ((m.getD (j) (0, 0, [])).1) ((m.getD (j) (0, 0, [])).2.1) ((m.getD (j) (0, 0, [])).2.2)) (stpM ((c)) ((d)) ((m.getD (j) (0, 0, [])).1) ((m.getD (j) (0, 0, [])).2.1)), .blk b47 (.cells #[.slice Ar263_2 (stpS ((M)) ((c)) ((d)) ((m.getD (j) (0, 0, [])).1) ((m.getD (j) (0, 0, [])).2.1) ((m.getD (j) (0, 0, [])).2.2)).length cr263_2, .int .i64 (stpT ((c)) ((m.getD (j) (0, 0, [])).1) ((m.getD (j) (0, 0, [])).2.1) ((m.getD (j) (0, 0, [])).2.2)), .int .i64 (stpM ((c)) ((d)) ((m.getD (j) (0, 0, [])).1) ((m.getD (j) (0, 0, [])).2.1))] 50)] ++ X278) := hM280
                  refine wpF_end _ (by kernel_rfl) (then_n (h_d [(.blk b267 (.cells #[.slice Ar263_2 (stpS ((M)) ((c)) ((d)) ((m.getD (j) (0, 0, [])).1) ((m.getD (j) (0, 0, [])).2.1) ((m.getD (j) (0, 0, [])).2.2)).length cr263_2, .int .i64 (stpT ((c)) ((m.getD (j) (0, 0, [])).1) ((m.getD (j) (0, 0, [])).2.1) ((m.getD (j) (0, 0, [])).2.2)), .int .i64 (stpM ((c)) ((d)) ((m.getD (j) (0, 0, [])).1) ((m.getD (j) (0, 0, [])).2.1))] 50), 9999)] (by kernel_rfl) [.blk b267 (.cells #[.slice Ar263_2 (stpS ((M)) ((c)) ((d)) ((m.getD (j) (0, 0, [])).1) ((m.getD (j) (0, 0, [])).2.1) ((m.getD (j) (0, 0, [])).2.2)).length cr263_2, .int .i64 (stpT ((c)) ((m.getD (j) (0, 0, [])).1) ((m.getD (j) (0, 0, [])).2.1) ((m.getD (j) (0, 0, [])).2.2)), .int .i64 (stpM ((c)) ((d)) ((m.getD (j) (0, 0, [])).1) ((m.getD (j) (0, 0, [])).2.1))] 50), spE br263_1 Ar263_1 cr263_1 mr263_1 (stpS ((M)) ((c)) ((d)) ((m.getD (j) (0, 0, [])).1) ((m.getD (j) (0, 0, [])).2.1) ((m.getD (j) (0, 0, [])).2.2)) (stpT ((c)) ((m.getD (j) (0, 0, [])).1) ((m.getD (j) (0, 0, [])).2.1) ((m.getD (j) (0, 0, [])).2.2)) (stpM ((c)) ((d)) ((m.getD (j) (0, 0, [])).1) ((m.getD (j) (0, 0, [])).2.1)), .blk b47 (.cells #[.slice Ar263_2 (stpS ((M)) ((c)) ((d)) ((m.getD (j) (0, 0, [])).1) ((m.getD (j) (0, 0, [])).2.1) ((m.getD (j) (0, 0, [])).2.2)).length cr263_2, .int .i64 (stpT ((c)) ((m.getD (j) (0, 0, [])).1) ((m.getD (j) (0, 0, [])).2.1) ((m.getD (j) (0, 0, [])).2.2)), .int .i64 (stpM ((c)) ((d)) ((m.getD (j) (0, 0, [])).1) ((m.getD (j) (0, 0, [])).2.1))] 50)] hM282 (and_held 0 rfl no_held) (VT.le.refl _) ?_))
                  refine h_n (fun w283 hM284 => ?_)
                  refine  (blk_n (then_n (hK180 _ _ ?_)))
                  refine wp_reg ?_
                  refine wpF_seg 1 (by kernel_rfl) ?_
                  refine gF hM284 (.binOp .add 3 (.tmp 108) (.const (.int .i64 1)) 3) (some 109) (by kernel_rfl) (Y_add .i64 ((j : Int)) (1) ((j : Int) + 1) (by kernel_rfl) (by kernel_rfl) (wrap64_ok _ (by omega))) ?_
                  refine wpF_seg 1 (by kernel_rfl) ?_
                  refine wpF_base [(1, .slice Am (m).length cm), (2, .int .i64 (t)), (3, bs (f)), (4, bs (u)), (10, .bool (false)), (11, .pointer (some ⟨br263_1, 0, none⟩)), (12, .pointer (some ⟨b47, 0, none⟩)), (17, .slice Ar126_1 (scnR (L) (a) (b) (f) (u) (t) (-1)).length cr126_1), (19, bs (getS ((L)) ((a)) ((b)) (f) (t))), (20, .int .i64 (getE ((L)) ((a)) ((b)) (f) (t))), (21, .int .i64 ((j + 1 : Int)))] (by kernel_rfl) (fun g285 => ?_)
                  have hM286 := (hM284.front 0 rfl).drop
                  refine wpF_end _ (by kernel_rfl) (then_n (hK175 _ _ (j + 1, stpS (M) (c) (d) ((m.getD (j) (0, 0, [])).1) ((m.getD (j) (0, 0, [])).2.1) ((m.getD (j) (0, 0, [])).2.2), stpT (c) ((m.getD (j) (0, 0, [])).1) ((m.getD (j) (0, 0, [])).2.1) ((m.getD (j) (0, 0, [])).2.2), stpM (c) (d) ((m.getD (j) (0, 0, [])).1) ((m.getD (j) (0, 0, [])).2.1)) (by omega) ?_))
                  refine ⟨g285, V257, Ar263_1, cr263_1, br263_1, mr263_1, Ar263_2, cr263_2, rfl, hM286, ((le174.trans le228).trans le260), r264, ?_, ?_, ?_, ?_⟩
                  · -- ffLfftLttf inv 0
                    omega
                  · -- ffLfftLttf inv 1
                    exact hgn
                  · -- ffLfftLttf inv 2
                    exact (vw_step hld (by assumption) (show ¬ ((m.getD (j) (0, 0, [])).1 = 1 ∧ t < d + (m.getD (j) (0, 0, [])).2.1) by omega)).1
                  · -- ffLfftLttf inv 3
                    exact fun y => ((vw_step hld (by assumption) (show ¬ ((m.getD (j) (0, 0, [])).1 = 1 ∧ t < d + (m.getD (j) (0, 0, [])).2.1) by omega)).2 y).trans ((by assumption : ∀ y, vw M t y = vw L t y) y)
              · -- ffLfftLtf
                have p287 : ¬ (((m.getD (j) (0, 0, [])).1) = (1)) := of_decide_eq_false h198
                refine h_seg 7 (by kernel_rfl) ?_
                refine h_s no_fs ?_
                refine h_a (by kernel_rfl) (by kernel_rfl) (fun w288 X289 hM290 => ?_)
                refine wpF_seg 1 (by kernel_rfl) ?_
                refine wpF_end _ (by kernel_rfl) (then_n (h_d [] (by kernel_rfl) [.blk Ar_175bs11 (.cells #[.slice Ar_175s11 (keysOf (M)).length cr_175s11, .map (some Ar_175ms11), .int .i64 (c), .int .i64 (d)] 71), .row strK 9 Ar_175s11 cr_175s11 (keysOf (M)), mapE false (slK (prK (intK .i64) (prK strK boolK))) Ar_175ms11 (fun k_ => lk k_ (M)), .blk b47 (.cells #[.slice Ar_175fc12_0 (M).length cr_175fc12_0, .int .i64 (c), .int .i64 (d)] 50)] hM290 no_held (VT.le.refl _) ?_))
                refine h_seg 3 (by kernel_rfl) ?_
                refine h_n (fun w291 hM292 => ?_)
                refine  (then_n (hK182 _ _ ?_))
                refine wp_cf (by kernel_rfl) ?_
                refine wp_skip (then_n (hK181 _ _ ?_))
                refine wp_seq_k (fun K293 hK293 => ?_)
                refine wp_base [(1, .slice Am (m).length cm), (2, .int .i64 (t)), (3, bs (f)), (4, bs (u)), (10, .bool (false)), (11, .pointer (some ⟨Ar_175bs11, 0, none⟩)), (12, .pointer (some ⟨b47, 0, none⟩)), (17, .slice Ar126_1 (scnR (L) (a) (b) (f) (u) (t) (-1)).length cr126_1), (19, bs (getS ((L)) ((a)) ((b)) (f) (t))), (20, .int .i64 (getE ((L)) ((a)) ((b)) (f) (t))), (21, .int .i64 ((j : Int))), (100, .int .i64 ((j : Int))), (101, .slice Am (m).length cm), (102, .int .i64 ((m.length : Int))), (103, .bool (decide (((j : Int)) < ((m.length : Int))))), (104, .bool (true)), (105, .pointer (some ⟨Ar_175bs11, 0, none⟩)), (106, .bool (true)), (107, .bool (true)), (110, .slice Am (m).length cm), (111, .int .i64 ((j : Int))), (112, .pointer (some ⟨b187, o188, none⟩)), (113, .pointer (some ⟨b187, o188, none⟩)), (114, .int .i64 ((m.getD (j) (0, 0, [])).1)), (115, .bool (decide (((m.getD (j) (0, 0, [])).1) = (1)))), (116, .bool (false)), (127, .bool (false))] (by kernel_rfl) (fun g294 => ?_)
                refine wp_drawN hM292 [(.blk b47 (.cells #[.slice Ar_175fc12_0 (M).length cr_175fc12_0, .int .i64 (c), .int .i64 (d)] 50), 9999)] (and_held 3 rfl no_held) [⟨11, fun b_ => .pointer (some ⟨b_, 0, none⟩), #[.slice none 0 0, .int .i64 (0), .int .i64 (0)], 50⟩] [0, 1, 2, 3, 4, 5] [.a 6, .p 7, .p 8, .p 9, .p 10, .f 11, .p 12, .a 13, .p 14] [.p 0, .p 1, .p 2, .p 3, .p 4, .p 5, .s, .a 6, .p 7, .p 8, .p 9, .p 10, .f 11, .p 12, .a 13, .p 14] rfl (by kernel_rfl) (by kernel_rfl) ?_
                refine h_seg 1 (by kernel_rfl) ?_
                refine gH (.load 50 (.tmp 12)) (some 130) (by kernel_rfl) (Y_load 0 (by kernel_rfl : (FOf _ _ _)[0]? = some (.blk b47 (.cells #[.slice Ar_175fc12_0 (M).length cr_175fc12_0, .int .i64 (c), .int .i64 (d)] 50))) (off := 0) (by kernel_rfl) (.agg #[.slice Ar_175fc12_0 (M).length cr_175fc12_0, .int .i64 (c), .int .i64 (d)]) (by kernel_rfl)) ?_
                refine h_seg 2 (by kernel_rfl) ?_
                refine gH_index (A := Am) (c := cm) (hm.up hM292.le) .i64 ((j : Int)) (h := (by kernel_rfl : opAt _ _ _ _ _ = some (.indexAddr 84 (.tmp 131) (.tmp 132), some 133))) (e := 89) (by kernel_rfl) (by kernel_rfl) (by kernel_rfl) (j) rfl (by omega) (fun b295 o296 at_b295 => ?_)
                have c297 : Vl167 b295 o296 = some (.int .i64 (m.getD (j) (0, 0, [])).1) := (At.int (At.pr at_b295).1).1
                have l298 : IntKind.i64.min ≤ (m.getD (j) (0, 0, [])).1 ∧ (m.getD (j) (0, 0, [])).1 ≤ IntKind.i64.max := (At.int (At.pr at_b295).1).2
                have c299 : Vl167 b295 (o296 + 1) = some (.int .i64 (m.getD (j) (0, 0, [])).2.1) := (At.int (At.pr (At.pr at_b295).2).1).1
                have l300 : IntKind.i64.min ≤ (m.getD (j) (0, 0, [])).2.1 ∧ (m.getD (j) (0, 0, [])).2.1 ≤ IntKind.i64.max := (At.int (At.pr (At.pr at_b295).2).1).2
                obtain ⟨A301, c302, c303, r304⟩ := At.sl (At.pr (At.pr at_b295).2).2
                have c303 : Vl167 b295 (o296 + 2) = some (.slice A301 ((m.getD (j) (0, 0, [])).2.2).length c302) := c303
                have r304 : Rd (prK strK (prK strK boolK)) Vl167 A301 c302 ((m.getD (j) (0, 0, [])).2.2) := r304
                have l305 : ((m.getD (j) (0, 0, [])).2.2).length ≤ 140737488355328 := r304.max
                refine gH (.load 89 (.tmp 133)) (some 134) (by kernel_rfl) (Y_loadS (b := b295) (off := o296) [.int .i64 ((m.getD (j) (0, 0, [])).1), .int .i64 ((m.getD (j) (0, 0, [])).2.1), .slice A301 ((m.getD (j) (0, 0, [])).2.2).length c302] (cells3 c297 c299 c303) (by kernel_rfl) (by kernel_rfl) (by kernel_rfl)) ?_
                refine h_s (and_fs (fre_alloc (h := (by kernel_rfl : opAt _ _ _ _ _ = some (.alloc 50, some 23))) (by kernel_rfl)) no_fs) ?_
                refine h_a (by kernel_rfl) (by kernel_rfl) (fun w306 X307 hM308 => ?_)
                have hM309 := hM308.front 2 rfl
                have hM310 := hM309.front 2 rfl
                have hM311 := hM310.front 2 rfl
                have hM312 : Step V w [] Vl167 _ ([.blk Ar_175bs11 (.cells #[.slice Ar_175s11 (keysOf (M)).length cr_175s11, .map (some Ar_175ms11), .int .i64 (c), .int .i64 (d)] 71), .row strK 9 Ar_175s11 cr_175s11 (keysOf (M)), mapE false (slK (prK (intK .i64) (prK strK boolK))) Ar_175ms11 (fun k_ => lk k_ (M)), .blk b47 (.cells #[.slice Ar_175fc12_0 (M).length cr_175fc12_0, .int .i64 (c), .int .i64 (d)] 50)] ++ X307) := hM311
                have hk313 : keysOf (M) = keysOf (M) := rfl
                have hf314 : (fun k_ => lk k_ (M)) = (fun k_ => lk k_ (M)) := rfl
                have ho315 : SpI (M) := hs184
                have hM316 : Step V w [] Vl167 _ (spE Ar_175bs11 Ar_175s11 cr_175s11 Ar_175ms11 (M) (c) (d) :: [.blk b47 (.cells #[.slice Ar_175fc12_0 (M).length cr_175fc12_0, .int .i64 (c), .int .i64 (d)] 50)] ++ X307) := Step.closeSp hk313 hf314 ho315 (by exact hM312)
                have hM317 : Step V w [] Vl167 _ ([spE Ar_175bs11 Ar_175s11 cr_175s11 Ar_175ms11 (M) (c) (d), .blk b47 (.cells #[.slice Ar_175fc12_0 (M).length cr_175fc12_0, .int .i64 (c), .int .i64 (d)] 50)] ++ X307) := hM316
                have hM318 := hM317.front 0 rfl
                have hM326 : Step V w [] Vl167 _ ([spE Ar_175bs11 Ar_175s11 cr_175s11 Ar_175ms11 (M) (c) (d), .blk b47 (.cells #[.slice Ar_175fc12_0 (M).length cr_175fc12_0, .int .i64 (c), .int .i64 (d)] 50)] ++ X307) := hM318
                refine wpF_callE [spE Ar_175bs11 Ar_175s11 cr_175s11 Ar_175ms11 (M) (c) (d)] ([.blk b47 (.cells #[.slice Ar_175fc12_0 (M).length cr_175fc12_0, .int .i64 (c), .int .i64 (d)] 50)] ++ X307) hM326 (f := 49) (caps := #[]) (h := (by kernel_rfl : opAt _ _ _ _ _ = some (.call (.mk (.value (.func 49)) #[(.tmp 129), (.tmp 130), (.tmp 134)] #[53, 50, 89]), some 135))) (by kernel_rfl) (by kernel_rfl) (by kernel_rfl) (f49 _ _ Ar_175bs11 Ar_175s11 cr_175s11 Ar_175ms11 (M) (c) (d) Ar_175fc12_0 cr_175fc12_0 (M) hfAr_175fc12_0 (c) (d) ((m.getD (j) (0, 0, [])).1) ((m.getD (j) (0, 0, [])).2.1) A301 c302 ((m.getD (j) (0, 0, [])).2.2) r304 (St.part (E := [spE Ar_175bs11 Ar_175s11 cr_175s11 Ar_175ms11 (M) (c) (d)]) (F := ([.blk b47 (.cells #[.slice Ar_175fc12_0 (M).length cr_175fc12_0, .int .i64 (c), .int .i64 (d)] 50)] ++ X307)) hM326.ok) (by exact hgo.1) (by rfl) (by rfl) (by rfl) (by omega) (by omega) (by exact fun y => Nat.le_trans (hgo.2.2 y) (by omega)) (by omega)) (fun v319 V320 w321 Eo322 le323 hM324 hp325 => ?_)
                obtain ⟨br326_1, Ar326_1, cr326_1, mr326_1, Ar326_2, cr326_2, rfl, rfl, r327⟩ := hp325
                have hM328 : Step V w [] V320 _ ([spE br326_1 Ar326_1 cr326_1 mr326_1 (stpS (M) (c) (d) ((m.getD (j) (0, 0, [])).1) ((m.getD (j) (0, 0, [])).2.1) ((m.getD (j) (0, 0, [])).2.2)) (stpT (c) ((m.getD (j) (0, 0, [])).1) ((m.getD (j) (0, 0, [])).2.1) ((m.getD (j) (0, 0, [])).2.2)) (stpM (c) (d) ((m.getD (j) (0, 0, [])).1) ((m.getD (j) (0, 0, [])).2.1)), .blk b47 (.cells #[.slice Ar_175fc12_0 (M).length cr_175fc12_0, .int .i64 (c), .int .i64 (d)] 50)] ++ X307) := hM324
                have l329 : (stpS (M) (c) (d) ((m.getD (j) (0, 0, [])).1) ((m.getD (j) (0, 0, [])).2.1) ((m.getD (j) (0, 0, [])).2.2)).length ≤ 140737488355328 := r327.max
                refine wpF_end _ (by kernel_rfl) (then_n (h_d [(.blk b47 (.cells #[.slice Ar_175fc12_0 (M).length cr_175fc12_0, .int .i64 (c), .int .i64 (d)] 50), 9999)] (by kernel_rfl) [spE br326_1 Ar326_1 cr326_1 mr326_1 (stpS (M) (c) (d) ((m.getD (j) (0, 0, [])).1) ((m.getD (j) (0, 0, [])).2.1) ((m.getD (j) (0, 0, [])).2.2)) (stpT (c) ((m.getD (j) (0, 0, [])).1) ((m.getD (j) (0, 0, [])).2.1) ((m.getD (j) (0, 0, [])).2.2)) (stpM (c) (d) ((m.getD (j) (0, 0, [])).1) ((m.getD (j) (0, 0, [])).2.1)), .blk b47 (.cells #[.slice Ar_175fc12_0 (M).length cr_175fc12_0, .int .i64 (c), .int .i64 (d)] 50)] hM328 (and_held 1 rfl no_held) le323 ?_))
                refine h_seg 4 (by kernel_rfl) ?_
                refine h_f (d := 23) ⟨11, fun b_ => .pointer (some ⟨b_, 0, none⟩), #[.slice none 0 0, .int .i64 (0), .int .i64 (0)], 50⟩ (by kernel_rfl) (by kernel_rfl) (by kernel_rfl) (fun b330 => ?_)
                refine h_seg 1 (by kernel_rfl) ?_
                refine h_a (by kernel_rfl) (by kernel_rfl) (fun w331 X332 hM333 => ?_)
                refine wpF_store hM333 0 rfl (h := (by kernel_rfl : opAt _ _ _ _ _ = some (.store 50 (.tmp 23) (.tmp 137), none))) (off := 0) (by kernel_rfl) #[.slice Ar326_2 (stpS (M) (c) (d) ((m.getD (j) (0, 0, [])).1) ((m.getD (j) (0, 0, [])).2.1) ((m.getD (j) (0, 0, [])).2.2)).length cr326_2, .int .i64 (stpT (c) ((m.getD (j) (0, 0, [])).1) ((m.getD (j) (0, 0, [])).2.1) ((m.getD (j) (0, 0, [])).2.2)), .int .i64 (stpM (c) (d) ((m.getD (j) (0, 0, [])).1) ((m.getD (j) (0, 0, [])).2.1))] (by kernel_rfl) (by kernel_rfl) (by kernel_rfl) (by kernel_rfl) (fun w335 hM334 => ?_)
                have hM336 : Step V w [] V320 _ ([.blk b330 (.cells #[.slice Ar326_2 (stpS (M) (c) (d) ((m.getD (j) (0, 0, [])).1) ((m.getD (j) (0, 0, [])).2.1) ((m.getD (j) (0, 0, [])).2.2)).length cr326_2, .int .i64 (stpT (c) ((m.getD (j) (0, 0, [])).1) ((m.getD (j) (0, 0, [])).2.1) ((m.getD (j) (0, 0, [])).2.2)), .int .i64 (stpM (c) (d) ((m.getD (j) (0, 0, [])).1) ((m.getD (j) (0, 0, [])).2.1))] 50), spE br326_1 Ar326_1 cr326_1 mr326_1 (stpS (M) (c) (d) ((m.getD (j) (0, 0, [])).1) ((m.getD (j) (0, 0, [])).2.1) ((m.getD (j) (0, 0, [])).2.2)) (stpT (c) ((m.getD (j) (0, 0, [])).1) ((m.getD (j) (0, 0, [])).2.1) ((m.getD (j) (0, 0, [])).2.2)) (stpM (c) (d) ((m.getD (j) (0, 0, [])).1) ((m.getD (j) (0, 0, [])).2.1)), .blk b47 (.cells #[.slice Ar_175fc12_0 (M).length cr_175fc12_0, .int .i64 (c), .int .i64 (d)] 50)] ++ X332) := hM334
                refine wpF_end _ (by kernel_rfl) (then_n (h_d [(.blk b47 (.cells #[.slice Ar_175fc12_0 (M).length cr_175fc12_0, .int .i64 (c), .int .i64 (d)] 50), 9999)] (by kernel_rfl) [.blk b330 (.cells #[.slice Ar326_2 (stpS (M) (c) (d) ((m.getD (j) (0, 0, [])).1) ((m.getD (j) (0, 0, [])).2.1) ((m.getD (j) (0, 0, [])).2.2)).length cr326_2, .int .i64 (stpT (c) ((m.getD (j) (0, 0, [])).1) ((m.getD (j) (0, 0, [])).2.1) ((m.getD (j) (0, 0, [])).2.2)), .int .i64 (stpM (c) (d) ((m.getD (j) (0, 0, [])).1) ((m.getD (j) (0, 0, [])).2.1))] 50), spE br326_1 Ar326_1 cr326_1 mr326_1 (stpS (M) (c) (d) ((m.getD (j) (0, 0, [])).1) ((m.getD (j) (0, 0, [])).2.1) ((m.getD (j) (0, 0, [])).2.2)) (stpT (c) ((m.getD (j) (0, 0, [])).1) ((m.getD (j) (0, 0, [])).2.1) ((m.getD (j) (0, 0, [])).2.2)) (stpM (c) (d) ((m.getD (j) (0, 0, [])).1) ((m.getD (j) (0, 0, [])).2.1)), .blk b47 (.cells #[.slice Ar_175fc12_0 (M).length cr_175fc12_0, .int .i64 (c), .int .i64 (d)] 50)] hM336 (and_held 2 rfl no_held) (VT.le.refl _) ?_))
                refine h_seg 1 (by kernel_rfl) ?_
                refine h_n (fun w337 hM338 => ?_)
                refine  (then_n (hK293 _ _ ?_))
                refine wp_base [(1, .slice Am (m).length cm), (2, .int .i64 (t)), (3, bs (f)), (4, bs (u)), (10, .bool (false)), (11, .pointer (some ⟨Ar_175bs11, 0, none⟩)), (12, .pointer (some ⟨b47, 0, none⟩)), (17, .slice Ar126_1 (scnR (L) (a) (b) (f) (u) (t) (-1)).length cr126_1), (19, bs (getS ((L)) ((a)) ((b)) (f) (t))), (20, .int .i64 (getE ((L)) ((a)) ((b)) (f) (t))), (21, .int .i64 ((j : Int))), (22, .pointer (some ⟨br326_1, 0, none⟩)), (23, .pointer (some ⟨b330, 0, none⟩)), (24, .bool (true)), (100, .int .i64 ((j : Int))), (101, .slice Am (m).length cm), (102, .int .i64 ((m.length : Int))), (103, .bool (decide (((j : Int)) < ((m.length : Int))))), (104, .bool (true)), (105, .pointer (some ⟨Ar_175bs11, 0, none⟩)), (106, .bool (true)), (107, .bool (true)), (110, .slice Am (m).length cm), (111, .int .i64 ((j : Int))), (112, .pointer (some ⟨b187, o188, none⟩)), (113, .pointer (some ⟨b187, o188, none⟩)), (114, .int .i64 ((m.getD (j) (0, 0, [])).1)), (115, .bool (decide (((m.getD (j) (0, 0, [])).1) = (1)))), (116, .bool (false)), (127, .bool (false)), (128, .tuple #[.pointer (some ⟨br326_1, 0, none⟩), .agg #[.slice Ar326_2 (stpS (M) (c) (d) ((m.getD (j) (0, 0, [])).1) ((m.getD (j) (0, 0, [])).2.1) ((m.getD (j) (0, 0, [])).2.2)).length cr326_2, .int .i64 (stpT (c) ((m.getD (j) (0, 0, [])).1) ((m.getD (j) (0, 0, [])).2.1) ((m.getD (j) (0, 0, [])).2.2)), .int .i64 (stpM (c) (d) ((m.getD (j) (0, 0, [])).1) ((m.getD (j) (0, 0, [])).2.1))], .bool (true)]), (129, .pointer (some ⟨Ar_175bs11, 0, none⟩)), (130, .agg #[.slice Ar_175fc12_0 (M).length cr_175fc12_0, .int .i64 (c), .int .i64 (d)]), (131, .slice Am (m).length cm), (132, .int .i64 ((j : Int))), (133, .pointer (some ⟨b295, o296, none⟩)), (134, .agg #[.int .i64 ((m.getD (j) (0, 0, [])).1), .int .i64 ((m.getD (j) (0, 0, [])).2.1), .slice A301 ((m.getD (j) (0, 0, [])).2.2).length c302]), (135, .tuple #[.pointer (some ⟨br326_1, 0, none⟩), .agg #[.slice Ar326_2 (stpS (M) (c) (d) ((m.getD (j) (0, 0, [])).1) ((m.getD (j) (0, 0, [])).2.1) ((m.getD (j) (0, 0, [])).2.2)).length cr326_2, .int .i64 (stpT (c) ((m.getD (j) (0, 0, [])).1) ((m.getD (j) (0, 0, [])).2.1) ((m.getD (j) (0, 0, [])).2.2)), .int .i64 (stpM (c) (d) ((m.getD (j) (0, 0, [])).1) ((m.getD (j) (0, 0, [])).2.1))], .bool (true)]), (136, .pointer (some ⟨br326_1, 0, none⟩)), (137, .agg #[.slice Ar326_2 (stpS (M) (c) (d) ((m.getD (j) (0, 0, [])).1) ((m.getD (j) (0, 0, [])).2.1) ((m.getD (j) (0, 0, [])).2.2)).length cr326_2, .int .i64 (stpT (c) ((m.getD (j) (0, 0, [])).1) ((m.getD (j) (0, 0, [])).2.1) ((m.getD (j) (0, 0, [])).2.2)), .int .i64 (stpM (c) (d) ((m.getD (j) (0, 0, [])).1) ((m.getD (j) (0, 0, [])).2.1))]), (138, .bool (true))] (by kernel_rfl) (fun g339 => ?_)
                refine wp_drawN hM338 [(.blk b330 (.cells #[.slice Ar326_2 (stpS (M) (c) (d) ((m.getD (j) (0, 0, [])).1) ((m.getD (j) (0, 0, [])).2.1) ((m.getD (j) (0, 0, [])).2.2)).length cr326_2, .int .i64 (stpT (c) ((m.getD (j) (0, 0, [])).1) ((m.getD (j) (0, 0, [])).2.1) ((m.getD (j) (0, 0, [])).2.2)), .int .i64 (stpM (c) (d) ((m.getD (j) (0, 0, [])).1) ((m.getD (j) (0, 0, [])).2.1))] 50), 9999)] (and_held 0 rfl no_held) [] [0, 1, 2] [.a 3] [.p 0, .p 1, .p 2, .s, .a 3] rfl (by kernel_rfl) (by kernel_rfl) ?_
                refine h_seg 1 (by kernel_rfl) ?_
                refine gH (.load 50 (.tmp 23)) (some 140) (by kernel_rfl) (Y_load 0 (by kernel_rfl : (FOf _ _ _)[0]? = some (.blk b330 (.cells #[.slice Ar326_2 (stpS (M) (c) (d) ((m.getD (j) (0, 0, [])).1) ((m.getD (j) (0, 0, [])).2.1) ((m.getD (j) (0, 0, [])).2.2)).length cr326_2, .int .i64 (stpT (c) ((m.getD (j) (0, 0, [])).1) ((m.getD (j) (0, 0, [])).2.1) ((m.getD (j) (0, 0, [])).2.2)), .int .i64 (stpM (c) (d) ((m.getD (j) (0, 0, [])).1) ((m.getD (j) (0, 0, [])).2.1))] 50))) (off := 0) (by kernel_rfl) (.agg #[.slice Ar326_2 (stpS (M) (c) (d) ((m.getD (j) (0, 0, [])).1) ((m.getD (j) (0, 0, [])).2.1) ((m.getD (j) (0, 0, [])).2.2)).length cr326_2, .int .i64 (stpT (c) ((m.getD (j) (0, 0, [])).1) ((m.getD (j) (0, 0, [])).2.1) ((m.getD (j) (0, 0, [])).2.2)), .int .i64 (stpM (c) (d) ((m.getD (j) (0, 0, [])).1) ((m.getD (j) (0, 0, [])).2.1))]) (by kernel_rfl)) ?_
                refine h_seg 1 (by kernel_rfl) ?_
                refine h_s no_fs ?_
                refine h_a (by kernel_rfl) (by kernel_rfl) (fun w340 X341 hM342 => ?_)
                refine wpF_store hM342 2 rfl (h := (by kernel_rfl : opAt _ _ _ _ _ = some (.store 50 (.tmp 12) (.tmp 140), none))) (off := 0) (by kernel_rfl) #[.slice Ar326_2 (stpS (M) (c) (d) ((m.getD (j) (0, 0, [])).1) ((m.getD (j) (0, 0, [])).2.1) ((m.getD (j) (0, 0, [])).2.2)).length cr326_2, .int .i64 (stpT (c) ((m.getD (j) (0, 0, [])).1) ((m.getD (j) (0, 0, [])).2.1) ((m.getD (j) (0, 0, [])).2.2)), .int .i64 (stpM (c) (d) ((m.getD (j) (0, 0, [])).1) ((m.getD (j) (0, 0, [])).2.1))] (by kernel_rfl) (by kernel_rfl) (by kernel_rfl) (by kernel_rfl) (fun w344 hM343 => ?_)
                have hM345 : Step V w [] V320 _ ([.blk b330 (.cells #[.slice Ar326_2 (stpS (M) (c) (d) ((m.getD (j) (0, 0, [])).1) ((m.getD (j) (0, 0, [])).2.1) ((m.getD (j) (0, 0, [])).2.2)).length cr326_2, .int .i64 (stpT (c) ((m.getD (j) (0, 0, [])).1) ((m.getD (j) (0, 0, [])).2.1) ((m.getD (j) (0, 0, [])).2.2)), .int .i64 (stpM (c) (d) ((m.getD (j) (0, 0, [])).1) ((m.getD (j) (0, 0, [])).2.1))] 50), spE br326_1 Ar326_1 cr326_1 mr326_1 (stpS (M) (c) (d) ((m.getD (j) (0, 0, [])).1) ((m.getD (j) (0, 0, [])).2.1) ((m.getD (j) (0, 0, [])).2.2)) (stpT (c) ((m.getD (j) (0, 0, [])).1) ((m.getD (j) (0, 0, [])).2.1) ((m.getD (j) (0, 0, [])).2.2)) (stpM (c) (d) ((m.getD (j) (0, 0, [])).1) ((m.getD (j) (0, 0, [])).2.1)), .blk b47 (.cells #[.slice Ar326_2 (stpS (M) (c) (d) ((m.getD (j) (0, 0, [])).1) ((m.getD (j) (0, 0, [])).2.1) ((m.getD (j) (0, 0, [])).2.2)).length cr326_2, .int .i64 (stpT (c) ((m.getD (j) (0, 0, [])).1) ((m.getD (j) (0, 0, [])).2.1) ((m.getD (j) (0, 0, [])).2.2)), .int .i64 (stpM (c) (d) ((m.getD (j) (0, 0, [])).1) ((m.getD (j) (0, 0, [])).2.1))] 50)] ++ X341) := hM343
                refine wpF_end _ (by kernel_rfl) (then_n (h_d [(.blk b330 (.cells #[.slice Ar326_2 (stpS (M) (c) (d) ((m.getD (j) (0, 0, [])).1) ((m.getD (j) (0, 0, [])).2.1) ((m.getD (j) (0, 0, [])).2.2)).length cr326_2, .int .i64 (stpT (c) ((m.getD (j) (0, 0, [])).1) ((m.getD (j) (0, 0, [])).2.1) ((m.getD (j) (0, 0, [])).2.2)), .int .i64 (stpM (c) (d) ((m.getD (j) (0, 0, [])).1) ((m.getD (j) (0, 0, [])).2.1))] 50), 9999)] (by kernel_rfl) [.blk b330 (.cells #[.slice Ar326_2 (stpS (M) (c) (d) ((m.getD (j) (0, 0, [])).1) ((m.getD (j) (0, 0, [])).2.1) ((m.getD (j) (0, 0, [])).2.2)).length cr326_2, .int .i64 (stpT (c) ((m.getD (j) (0, 0, [])).1) ((m.getD (j) (0, 0, [])).2.1) ((m.getD (j) (0, 0, [])).2.2)), .int .i64 (stpM (c) (d) ((m.getD (j) (0, 0, [])).1) ((m.getD (j) (0, 0, [])).2.1))] 50), spE br326_1 Ar326_1 cr326_1 mr326_1 (stpS (M) (c) (d) ((m.getD (j) (0, 0, [])).1) ((m.getD (j) (0, 0, [])).2.1) ((m.getD (j) (0, 0, [])).2.2)) (stpT (c) ((m.getD (j) (0, 0, [])).1) ((m.getD (j) (0, 0, [])).2.1) ((m.getD (j) (0, 0, [])).2.2)) (stpM (c) (d) ((m.getD (j) (0, 0, [])).1) ((m.getD (j) (0, 0, [])).2.1)), .blk b47 (.cells #[.slice Ar326_2 (stpS (M) (c) (d) ((m.getD (j) (0, 0, [])).1) ((m.getD (j) (0, 0, [])).2.1) ((m.getD (j) (0, 0, [])).2.2)).length cr326_2, .int .i64 (stpT (c) ((m.getD (j) (0, 0, [])).1) ((m.getD (j) (0, 0, [])).2.1) ((m.getD (j) (0, 0, [])).2.2)), .int .i64 (stpM (c) (d) ((m.getD (j) (0, 0, [])).1) ((m.getD (j) (0, 0, [])).2.1))] 50)] hM345 (and_held 0 rfl no_held) (VT.le.refl _) ?_))
                refine h_n (fun w346 hM347 => ?_)
                refine  (blk_n (then_n (hK180 _ _ ?_)))
                refine wp_reg ?_
                refine wpF_seg 1 (by kernel_rfl) ?_
                refine gF hM347 (.binOp .add 3 (.tmp 108) (.const (.int .i64 1)) 3) (some 109) (by kernel_rfl) (Y_add .i64 ((j : Int)) (1) ((j : Int) + 1) (by kernel_rfl) (by kernel_rfl) (wrap64_ok _ (by omega))) ?_
                refine wpF_seg 1 (by kernel_rfl) ?_
                refine wpF_base [(1, .slice Am (m).length cm), (2, .int .i64 (t)), (3, bs (f)), (4, bs (u)), (10, .bool (false)), (11, .pointer (some ⟨br326_1, 0, none⟩)), (12, .pointer (some ⟨b47, 0, none⟩)), (17, .slice Ar126_1 (scnR (L) (a) (b) (f) (u) (t) (-1)).length cr126_1), (19, bs (getS ((L)) ((a)) ((b)) (f) (t))), (20, .int .i64 (getE ((L)) ((a)) ((b)) (f) (t))), (21, .int .i64 ((j + 1 : Int)))] (by kernel_rfl) (fun g348 => ?_)
                have hM349 := (hM347.front 0 rfl).drop
                refine wpF_end _ (by kernel_rfl) (then_n (hK175 _ _ (j + 1, stpS (M) (c) (d) ((m.getD (j) (0, 0, [])).1) ((m.getD (j) (0, 0, [])).2.1) ((m.getD (j) (0, 0, [])).2.2), stpT (c) ((m.getD (j) (0, 0, [])).1) ((m.getD (j) (0, 0, [])).2.1) ((m.getD (j) (0, 0, [])).2.2), stpM (c) (d) ((m.getD (j) (0, 0, [])).1) ((m.getD (j) (0, 0, [])).2.1)) (by omega) ?_))
                refine ⟨g348, V320, Ar326_1, cr326_1, br326_1, mr326_1, Ar326_2, cr326_2, rfl, hM349, (le174.trans le323), r327, ?_, ?_, ?_, ?_⟩
                · -- ffLfftLtf inv 0
                  omega
                · -- ffLfftLtf inv 1
                  exact hgn
                · -- ffLfftLtf inv 2
                  exact (vw_step hld (by assumption) (show ¬ ((m.getD (j) (0, 0, [])).1 = 1 ∧ t < d + (m.getD (j) (0, 0, [])).2.1) by omega)).1
                · -- ffLfftLtf inv 3
                  exact fun y => ((vw_step hld (by assumption) (show ¬ ((m.getD (j) (0, 0, [])).1 = 1 ∧ t < d + (m.getD (j) (0, 0, [])).2.1) by omega)).2 y).trans ((by assumption : ∀ y, vw M t y = vw L t y) y)
            · -- ffLfftLf
              have p350 : ¬ (((j : Int)) < ((m.length : Int))) := of_decide_eq_false h178
              have hj : j = m.length := by omega
              have hgM : Good ((0 + fewN l l.length) + fewN m m.length) (M, c, d) := by rw [← hj]; assumption
              have hkM : kepE t c d = 0 := by assumption
              have hvw : ∀ y, vw M t y = vw L t y := by assumption
              have hupM : UP (keysOf M) := (ld_spi hgM.1).1
              have hfm2 := few_all hfm
              have hnm : M.length ≤ (0 + fewN l l.length) + fewN m m.length := hgM.2.1
              refine wpF_seg 3 (by kernel_rfl) ?_
              refine wpF_end _ (by kernel_rfl) (then_n (hK177 _ _ ?_))
              refine wp_cf (by kernel_rfl) ?_
              refine wp_exit (then_x (then_x (blk_hit (then_n (hK165 _ _ ?_)))))
              obtain rfl : j = m.length := by omega
              refine wp_seq_k (fun K351 hK351 => ?_)
              refine wp_seq_k (fun K352 hK352 => ?_)
              refine wp_reg ?_
              refine wpF_seg 1 (by kernel_rfl) ?_
              refine gF hM173 (.binOp .eql 53 (.tmp 141) (.const (.pointer none)) 53) (some 142) (by kernel_rfl) (Y_eql (.pointer (some ⟨Ar_175bs11, 0, none⟩)) (.pointer none) (false) (by kernel_rfl) (by kernel_rfl) (by kernel_rfl)) ?_
              refine wpF_end _ (by kernel_rfl) (then_n (hK352 _ _ ?_))
              refine wp_cf (by kernel_rfl) ?_
              refine wp_skip (then_n (hK351 _ _ ?_))
              refine wp_seq_k (fun K353 hK353 => ?_)
              refine wp_reg ?_
              refine wpF_seg 4 (by kernel_rfl) ?_
              have hM354 := hM173.front 0 rfl
              have hM362 : Step V w [] Vl167 _ ([spE Ar_175bs11 Ar_175s11 cr_175s11 Ar_175ms11 (M) (c) (d), .blk b47 (.cells #[.slice Ar_175fc12_0 (M).length cr_175fc12_0, .int .i64 (c), .int .i64 (d)] 50)]) := hM354
              refine wpF_callE [spE Ar_175bs11 Ar_175s11 cr_175s11 Ar_175ms11 (M) (c) (d)] ([.blk b47 (.cells #[.slice Ar_175fc12_0 (M).length cr_175fc12_0, .int .i64 (c), .int .i64 (d)] 50)]) hM362 (f := 37) (caps := #[]) (h := (by kernel_rfl : opAt _ _ _ _ _ = some (.call (.mk (.value (.func 37)) #[(.tmp 144), (.tmp 145), (.tmp 146), (.tmp 147), (.const (.int .i64 (-1)))] #[53, 9, 9, 3, 3]), some 148))) (by kernel_rfl) (by kernel_rfl) (by kernel_rfl) (f37 _ _ Ar_175bs11 Ar_175s11 cr_175s11 Ar_175ms11 (M) (c) (d) (f) (hf) (u) (hu) (t) (-1) (St.part (E := [spE Ar_175bs11 Ar_175s11 cr_175s11 Ar_175ms11 (M) (c) (d)]) (F := ([.blk b47 (.cells #[.slice Ar_175fc12_0 (M).length cr_175fc12_0, .int .i64 (c), .int .i64 (d)] 50)])) hM362.ok) (by omega)) (fun v355 V356 w357 Eo358 le359 hM360 hp361 => ?_)
              obtain ⟨Ar362_1, cr362_1, rfl, rfl, r363⟩ := hp361
              have hM364 : Step V w [] V356 _ ([spE Ar_175bs11 Ar_175s11 cr_175s11 Ar_175ms11 ((M)) ((c)) ((d)), .blk b47 (.cells #[.slice Ar_175fc12_0 (M).length cr_175fc12_0, .int .i64 (c), .int .i64 (d)] 50)]) := hM360
              have l365 : (scnR (M) (c) (d) (f) (u) (t) (-1)).length ≤ 140737488355328 := r363.max
              refine wpF_seg 5 (by kernel_rfl) ?_
              refine wpF_end _ (by kernel_rfl) (then_n (hK353 _ _ ?_))
              refine wp_seq_k (fun K366 hK366 => ?_)
              refine wp_reg ?_
              refine wpF_seg 3 (by kernel_rfl) ?_
              have hM367 := hM364.front 0 rfl
              have hM375 : Step V w [] V356 _ ([spE Ar_175bs11 Ar_175s11 cr_175s11 Ar_175ms11 ((M)) ((c)) ((d)), .blk b47 (.cells #[.slice Ar_175fc12_0 (M).length cr_175fc12_0, .int .i64 (c), .int .i64 (d)] 50)]) := hM367
              refine wpF_callE [spE Ar_175bs11 Ar_175s11 cr_175s11 Ar_175ms11 ((M)) ((c)) ((d))] ([.blk b47 (.cells #[.slice Ar_175fc12_0 (M).length cr_175fc12_0, .int .i64 (c), .int .i64 (d)] 50)]) hM375 (f := 40) (caps := #[]) (h := (by kernel_rfl : opAt _ _ _ _ _ = some (.call (.mk (.value (.func 40)) #[(.tmp 152), (.tmp 153), (.tmp 154)] #[53, 9, 3]), some 155))) (by kernel_rfl) (by kernel_rfl) (by kernel_rfl) (f40 _ _ Ar_175bs11 Ar_175s11 cr_175s11 Ar_175ms11 ((M)) ((c)) ((d)) (f) (hf) (t) (St.part (E := [spE Ar_175bs11 Ar_175s11 cr_175s11 Ar_175ms11 ((M)) ((c)) ((d))]) (F := ([.blk b47 (.cells #[.slice Ar_175fc12_0 (M).length cr_175fc12_0, .int .i64 (c), .int .i64 (d)] 50)])) hM375.ok)) (fun v368 V369 w370 Eo371 le372 hM373 hp374 => ?_)
              obtain ⟨rfl, rfl, x376⟩ := hp374
              have hM377 : Step V w [] V369 _ ([spE Ar_175bs11 Ar_175s11 cr_175s11 Ar_175ms11 (((M))) (((c))) (((d))), .blk b47 (.cells #[.slice Ar_175fc12_0 (M).length cr_175fc12_0, .int .i64 (c), .int .i64 (d)] 50)]) := hM373
              have x376 : (getS ((M)) ((c)) ((d)) (f) (t)).length ≤ 140737488355328 := x376
              refine wpF_seg 5 (by kernel_rfl) ?_
              refine wpF_end _ (by kernel_rfl) (then_n (hK366 _ _ ?_))
              refine wp_seq_k (fun K378 hK378 => ?_)
              refine wp_reg ?_
              refine wpF_seg 2 (by kernel_rfl) ?_
              refine wpF_callP hM377 (f := 38) (caps := #[]) (h := (by kernel_rfl : opAt _ _ _ _ _ = some (.call (.mk (.value (.func 38)) #[(.tmp 158), (.tmp 159)] #[60, 60]), some 160))) (by kernel_rfl) (by kernel_rfl) (by kernel_rfl) (f38 _ _ hM377.inW Ar126_1 cr126_1 (scnR (L) (a) (b) (f) (u) (t) (-1)) (r127.up (((le136.trans le174).trans le359).trans le372)) Ar362_1 cr362_1 (scnR (M) (c) (d) (f) (u) (t) (-1)) (r363.up le372)) (fun v379 V380 w381 le382 hM383 hp384 => ?_)
              obtain rfl := hp384
              refine wpF_seg 1 (by kernel_rfl) ?_
              have h385 : (decide ((scnR (L) (a) (b) (f) (u) (t) (-1)) = (scnR (M) (c) (d) (f) (u) (t) (-1)))) = true := by exact decide_eq_true (scn_vw hup hupM hk0 hkM hvw).symm
              have p386 : ((scnR (L) (a) (b) (f) (u) (t) (-1)) = (scnR (M) (c) (d) (f) (u) (t) (-1))) := of_decide_eq_true h385
              refine wpF_slot 161 (.bool (decide ((scnR (L) (a) (b) (f) (u) (t) (-1)) = (scnR (M) (c) (d) (f) (u) (t) (-1))))) (.bool true) (by kernel_rfl) (by kernel_rfl) (by rw [h385]) ?_
              refine wpF_seg 4 (by kernel_rfl) ?_
              have h387 : (decide ((kepE (t) (c) (d)) = (0))) = true := by exact decide_eq_true hkM
              have p388 : ((kepE (t) (c) (d)) = (0)) := of_decide_eq_true h387
              refine wpF_slot 165 (.bool (decide ((kepE (t) (c) (d)) = (0)))) (.bool true) (by kernel_rfl) (by kernel_rfl) (by rw [h387]) ?_
              refine wpF_seg 5 (by kernel_rfl) ?_
              have h389 : (decide ((getS ((L)) ((a)) ((b)) (f) (t)) = (getS ((M)) ((c)) ((d)) (f) (t)))) = true := by exact decide_eq_true (by rw [getS_vw hk0, getS_vw hkM, hvw])
              have p390 : ((getS ((L)) ((a)) ((b)) (f) (t)) = (getS ((M)) ((c)) ((d)) (f) (t))) := of_decide_eq_true h389
              refine wpF_slot 170 (.bool (decide ((getS ((L)) ((a)) ((b)) (f) (t)) = (getS ((M)) ((c)) ((d)) (f) (t))))) (.bool true) (by kernel_rfl) (by kernel_rfl) (by rw [h389]) ?_
              refine wpF_seg 5 (by kernel_rfl) ?_
              have h391 : (decide ((getE ((L)) ((a)) ((b)) (f) (t)) = (getE ((M)) ((c)) ((d)) (f) (t)))) = true := by exact decide_eq_true (by rw [getE_vw hk0, getE_vw hkM, hvw])
              have p392 : ((getE ((L)) ((a)) ((b)) (f) (t)) = (getE ((M)) ((c)) ((d)) (f) (t))) := of_decide_eq_true h391
              refine wpF_slot 175 (.bool (decide ((getE ((L)) ((a)) ((b)) (f) (t)) = (getE ((M)) ((c)) ((d)) (f) (t))))) (.bool true) (by kernel_rfl) (by kernel_rfl) (by rw [h391]) ?_
              refine wpF_callP hM383 (f := 34) (caps := #[]) (h := (by kernel_rfl : opAt _ _ _ _ _ = some (.call (.mk (.value (.func 34)) #[] #[]), some 176))) (by kernel_rfl) (by kernel_rfl) (by kernel_rfl) (f34 _ _ hM383.inW ) (fun v393 V394 w395 le396 hM397 hp398 => ?_)
              obtain rfl := hp398
              refine wpF_seg 2 (by kernel_rfl) ?_
              refine wpF_end _ (by kernel_rfl) (then_n (hK378 _ _ ?_))
              refine wp_ret ?_
              refine retN [.bool (true)] (.bool (true)) Try.results11 (.tmp (by kernel_rfl) (by kernel_rfl) .nil) (by kernel_rfl) (hRet _ _ ⟨_, _, rfl, hM397.clear, ?_⟩)
              -- end ffLfftLf
              rfl
          · -- ffLfff
            have h399 : decide ((getE ((L)) ((a)) ((b)) (f) (t)) = (0)) = true := by rw [← Bool.not_not (decide _), h160]; rfl
            have p400 : ((getE ((L)) ((a)) ((b)) (f) (t)) = (0)) := of_decide_eq_true h399
            refine wpF_seg 4 (by kernel_rfl) ?_
            refine wpF_end _ (by kernel_rfl) (then_n (hK143 _ _ ?_))
            refine wp_cf (by kernel_rfl) ?_
            refine wp_skip (then_n (hK142 _ _ ?_))
            refine wp_seq_k (fun K401 hK401 => ?_)
            refine wp_seq_k (fun K402 hK402 => ?_)
            refine wp_reg ?_
            refine wpF_seg 1 (by kernel_rfl) ?_
            refine wpF_end _ (by kernel_rfl) (then_n (hK402 _ _ ?_))
            refine wp_block ?_
            have hq404 : ((L)) = L := by first | rfl | simp | exact (vacK_0 _ _).symm
            have hM405 : Step V w [] V133 _ ([spE Ar_58bs11 Ar_58s11 cr_58s11 Ar_58ms11 (L) (((a))) (((b))), .blk b47 (.cells #[.slice Ar_58fc12_0 (L).length cr_58fc12_0, .int .i64 (a), .int .i64 (b)] 50)]) := Step.reSp (B := []) (F := [.blk b47 (.cells #[.slice Ar_58fc12_0 (L).length cr_58fc12_0, .int .i64 (a), .int .i64 (b)] 50)]) hq404 hM141
            refine wp_base [(1, .slice Am (m).length cm), (2, .int .i64 (t)), (3, bs (f)), (4, bs (u)), (10, .bool (false)), (11, .pointer (some ⟨Ar_58bs11, 0, none⟩)), (12, .pointer (some ⟨b47, 0, none⟩)), (17, .slice Ar126_1 (scnR (L) (a) (b) (f) (u) (t) (-1)).length cr126_1), (19, bs (getS ((L)) ((a)) ((b)) (f) (t))), (20, .int .i64 (getE ((L)) ((a)) ((b)) (f) (t))), (21, .int .i64 ((0 : Int)))] (by kernel_rfl) (fun g406 => ?_)
            refine wp_loopX (fun (x_ : Nat × List Item × Int × Int) a_ w_ => ∃ (g : Nat → Value) (V_ : VT), ∃ (Ars11 : Option Addr) (crs11 : Nat) (Arbs11 Arms11 : Nat), ∃ (Arfc12_0 : Option Addr) (crfc12_0 : Nat), a_ = env [] 178 [(1, .slice Am (m).length cm), (2, .int .i64 (t)), (3, bs (f)), (4, bs (u)), (10, .bool (false)), (11, .pointer (some ⟨Arbs11, 0, none⟩)), (12, .pointer (some ⟨b47, 0, none⟩)), (17, .slice Ar126_1 (scnR (L) (a) (b) (f) (u) (t) (-1)).length cr126_1), (19, bs (getS ((L)) ((a)) ((b)) (f) (t))), (20, .int .i64 (getE ((L)) ((a)) ((b)) (f) (t))), (21, .int .i64 ((x_.1 : Int)))] g ∧ Step V w [] V_ w_ [spE Arbs11 Ars11 crs11 Arms11 (x_.2.1) (x_.2.2.1) (x_.2.2.2), .blk b47 (.cells #[.slice Arfc12_0 (x_.2.1).length crfc12_0, .int .i64 (x_.2.2.1), .int .i64 (x_.2.2.2)] 50)] ∧ VT.le V133 V_ ∧ Rd (prK strK (slK (prK (intK .i64) (prK strK boolK)))) V_ Arfc12_0 crfc12_0 (x_.2.1) ∧ (x_.1 ≤ m.length) ∧ (Good ((0 + fewN l l.length) + fewN m (x_.1)) (x_.2.1, x_.2.2.1, x_.2.2.2)) ∧ (kepE t x_.2.2.1 x_.2.2.2 = 0) ∧ (∀ y, vw (x_.2.1) t y = vw L t y)) (fun (x_ : Nat × List Item × Int × Int) => m.length - x_.1) ((0 : Nat), (L : List Item), (a : Int), (b : Int)) ⟨g406, V133, Ar_58s11, cr_58s11, Ar_58bs11, Ar_58ms11, Ar_58fc12_0, cr_58fc12_0, rfl, hM405, VT.le.refl _, (hfAr_58fc12_0.up (le123.trans le136)), by omega, by exact hgn, by assumption, by exact fun y => rfl⟩ ?_
            rintro ⟨j, M, c, d⟩ a_ w408 ⟨g407, Vl403, Ar_411s11, cr_411s11, Ar_411bs11, Ar_411ms11, Ar_411fc12_0, cr_411fc12_0, rfl, hM409, le410, hfAr_411fc12_0, hi411_0, hi411_1, hi411_2, hi411_3⟩ K411 hK411
            replace hi411_0 : j ≤ m.length := hi411_0
            replace hi411_1 : Good ((0 + fewN l l.length) + fewN m (j)) (M, c, d) := hi411_1
            replace hi411_2 : kepE t c d = 0 := hi411_2
            replace hi411_3 : ∀ y, vw (M) t y = vw L t y := hi411_3
            refine wp_seq_k (fun K412 hK412 => ?_)
            refine wp_seq_k (fun K413 hK413 => ?_)
            refine wp_reg ?_
            refine wpF_seg 5 (by kernel_rfl) ?_
            refine wpF_caseB 104 (decide (((j : Int)) < ((m.length : Int)))) (by kernel_rfl) (by kernel_rfl) (fun h414 => ?_) (fun h414 => ?_)
            · -- ffLfffLt
              have p415 : (((j : Int)) < ((m.length : Int))) := of_decide_eq_true h414
              have hfk := fewK_iff.1 hfm j (by omega)
              have hfs := few_step (l := m) (k := j) (by omega)
              have hst := stp_in hfk.2
              have hgo : Good ((0 + fewN l l.length) + fewN m j) (M, c, d) := by assumption
              have hgn := good_next (N := (0 + fewN l l.length)) (l := m) (k := j) (by omega) hgo
              have hgl : M.length ≤ (0 + fewN l l.length) + fewN m j := hgo.2.1
              have hrg : 0 ≤ c ∧ c ≤ 1152921504606846976 ∧ 0 ≤ d ∧ d ≤ c := ld_rng hgo.1
              have hld : ldB M c d = true := hgo.1
              refine wpF_seg 1 (by kernel_rfl) ?_
              refine gF hM409 (.binOp .neq 53 (.tmp 105) (.const (.pointer none)) 53) (some 106) (by kernel_rfl) (Y_neq (.pointer (some ⟨Ar_411bs11, 0, none⟩)) (.pointer none) (false) (by kernel_rfl) (by kernel_rfl) (by kernel_rfl)) ?_
              refine wpF_seg 1 (by kernel_rfl) ?_
              refine wpF_end _ (by kernel_rfl) (then_n (hK413 _ _ ?_))
              refine wp_ct (by kernel_rfl) ?_
              refine wp_skip (then_n (hK412 _ _ ?_))
              refine wp_seq_k (fun K416 hK416 => ?_)
              refine wp_block ?_
              refine wp_seq_k (fun K417 hK417 => ?_)
              refine wp_seq_k (fun K418 hK418 => ?_)
              have hM419 := hM409.openSp 0 rfl
              have hs420 : SpI (M) := (hM409.spOk 0 rfl)
              have hM421 : Step V w [] Vl403 _ ([.blk Ar_411bs11 (.cells #[.slice Ar_411s11 (keysOf (M)).length cr_411s11, .map (some Ar_411ms11), .int .i64 (c), .int .i64 (d)] 71), .row strK 9 Ar_411s11 cr_411s11 (keysOf (M)), mapE false (slK (prK (intK .i64) (prK strK boolK))) Ar_411ms11 (fun k_ => lk k_ (M)), .blk b47 (.cells #[.slice Ar_411fc12_0 (M).length cr_411fc12_0, .int .i64 (c), .int .i64 (d)] 50)]) := hM419
              refine wp_base [(1, .slice Am (m).length cm), (2, .int .i64 (t)), (3, bs (f)), (4, bs (u)), (10, .bool (false)), (11, .pointer (some ⟨Ar_411bs11, 0, none⟩)), (12, .pointer (some ⟨b47, 0, none⟩)), (17, .slice Ar126_1 (scnR (L) (a) (b) (f) (u) (t) (-1)).length cr126_1), (19, bs (getS ((L)) ((a)) ((b)) (f) (t))), (20, .int .i64 (getE ((L)) ((a)) ((b)) (f) (t))), (21, .int .i64 ((j : Int))), (100, .int .i64 ((j : Int))), (101, .slice Am (m).length cm), (102, .int .i64 ((m.length : Int))), (103, .bool (decide (((j : Int)) < ((m.length : Int))))), (104, .bool (true)), (105, .pointer (some ⟨Ar_411bs11, 0, none⟩)), (106, .bool (true)), (107, .bool (true))] (by kernel_rfl) (fun g422 => ?_)
              refine wp_drawN hM421 [] no_held [] [0, 1, 2, 3, 4, 5, 6, 7, 9, 10, 11, 12, 13, 15] [.a 8, .p 14, .p 16, .p 17] [.p 0, .p 1, .p 2, .p 3, .p 4, .p 5, .p 6, .p 7, .p 9, .p 10, .p 11, .p 12, .p 13, .p 15, .s, .a 8, .p 14, .p 16, .p 17] rfl (by kernel_rfl) (by kernel_rfl) ?_
              refine h_seg 2 (by kernel_rfl) ?_
              refine gH_index (A := Am) (c := cm) (hm.up hM421.le) .i64 ((j : Int)) (h := (by kernel_rfl : opAt _ _ _ _ _ = some (.indexAddr 84 (.tmp 110) (.tmp 111), some 112))) (e := 89) (by kernel_rfl) (by kernel_rfl) (by kernel_rfl) (j) rfl (by omega) (fun b423 o424 at_b423 => ?_)
              have c425 : Vl403 b423 o424 = some (.int .i64 (m.getD (j) (0, 0, [])).1) := (At.int (At.pr at_b423).1).1
              have l426 : IntKind.i64.min ≤ (m.getD (j) (0, 0, [])).1 ∧ (m.getD (j) (0, 0, [])).1 ≤ IntKind.i64.max := (At.int (At.pr at_b423).1).2
              have c427 : Vl403 b423 (o424 + 1) = some (.int .i64 (m.getD (j) (0, 0, [])).2.1) := (At.int (At.pr (At.pr at_b423).2).1).1
              have l428 : IntKind.i64.min ≤ (m.getD (j) (0, 0, [])).2.1 ∧ (m.getD (j) (0, 0, [])).2.1 ≤ IntKind.i64.max := (At.int (At.pr (At.pr at_b423).2).1).2
              obtain ⟨A429, c430, c431, r432⟩ := At.sl (At.pr (At.pr at_b423).2).2
              have c431 : Vl403 b423 (o424 + 2) = some (.slice A429 ((m.getD (j) (0, 0, [])).2.2).length c430) := c431
              have r432 : Rd (prK strK (prK strK boolK)) Vl403 A429 c430 ((m.getD (j) (0, 0, [])).2.2) := r432
              have l433 : ((m.getD (j) (0, 0, [])).2.2).length ≤ 140737488355328 := r432.max
              refine h_seg 1 (by kernel_rfl) ?_
              refine gH (.load 3 (.tmp 113)) (some 114) (by kernel_rfl) (Y_loadV c425 (by kernel_rfl) (by kernel_rfl)) ?_
              refine h_seg 2 (by kernel_rfl) ?_
              refine h_caseB 116 (decide (((m.getD (j) (0, 0, [])).1) = (1))) (by kernel_rfl) (by kernel_rfl) (fun h434 => ?_) (fun h434 => ?_)
              · -- ffLfffLtt
                have p435 : (((m.getD (j) (0, 0, [])).1) = (1)) := of_decide_eq_true h434
                refine h_seg 3 (by kernel_rfl) ?_
                refine gH_index (A := Am) (c := cm) (hm.up hM421.le) .i64 ((j : Int)) (h := (by kernel_rfl : opAt _ _ _ _ _ = some (.indexAddr 84 (.tmp 119) (.tmp 120), some 121))) (e := 89) (by kernel_rfl) (by kernel_rfl) (by kernel_rfl) (j) rfl (by omega) (fun b436 o437 at_b436 => ?_)
                have c438 : Vl403 b436 o437 = some (.int .i64 (m.getD (j) (0, 0, [])).1) := (At.int (At.pr at_b436).1).1
                have l439 : IntKind.i64.min ≤ (m.getD (j) (0, 0, [])).1 ∧ (m.getD (j) (0, 0, [])).1 ≤ IntKind.i64.max := (At.int (At.pr at_b436).1).2
                have c440 : Vl403 b436 (o437 + 1) = some (.int .i64 (m.getD (j) (0, 0, [])).2.1) := (At.int (At.pr (At.pr at_b436).2).1).1
                have l441 : IntKind.i64.min ≤ (m.getD (j) (0, 0, [])).2.1 ∧ (m.getD (j) (0, 0, [])).2.1 ≤ IntKind.i64.max := (At.int (At.pr (At.pr at_b436).2).1).2
                obtain ⟨A442, c443, c444, r445⟩ := At.sl (At.pr (At.pr at_b436).2).2
                have c444 : Vl403 b436 (o437 + 2) = some (.slice A442 ((m.getD (j) (0, 0, [])).2.2).length c443) := c444
                have r445 : Rd (prK strK (prK strK boolK)) Vl403 A442 c443 ((m.getD (j) (0, 0, [])).2.2) := r445
                have l446 : ((m.getD (j) (0, 0, [])).2.2).length ≤ 140737488355328 := r445.max
                refine h_seg 1 (by kernel_rfl) ?_
                refine gH (.load 3 (.tmp 122)) (some 123) (by kernel_rfl) (Y_loadV c440 (by kernel_rfl) (by kernel_rfl)) ?_
                refine h_seg 1 (by kernel_rfl) ?_
                refine h_s no_fs ?_
                refine h_a (by kernel_rfl) (by kernel_rfl) (fun w447 X448 hM449 => ?_)
                have hM450 := hM449.front 2 rfl
                have hM451 := hM450.front 2 rfl
                have hM452 := hM451.front 2 rfl
                have hM453 : Step V w [] Vl403 _ ([.blk Ar_411bs11 (.cells #[.slice Ar_411s11 (keysOf (M)).length cr_411s11, .map (some Ar_411ms11), .int .i64 (c), .int .i64 (d)] 71), .row strK 9 Ar_411s11 cr_411s11 (keysOf (M)), mapE false (slK (prK (intK .i64) (prK strK boolK))) Ar_411ms11 (fun k_ => lk k_ (M)), .blk b47 (.cells #[.slice Ar_411fc12_0 (M).length cr_411fc12_0, .int .i64 (c), .int .i64 (d)] 50)] ++ X448) := hM452
                have hk454 : keysOf (M) = keysOf (M) := rfl
                have hf455 : (fun k_ => lk k_ (M)) = (fun k_ => lk k_ (M)) := rfl
                have ho456 : SpI (M) := hs420
                have hM457 : Step V w [] Vl403 _ (spE Ar_411bs11 Ar_411s11 cr_411s11 Ar_411ms11 (M) (c) (d) :: [.blk b47 (.cells #[.slice Ar_411fc12_0 (M).length cr_411fc12_0, .int .i64 (c), .int .i64 (d)] 50)] ++ X448) := Step.closeSp hk454 hf455 ho456 (by exact hM453)
                have hM458 : Step V w [] Vl403 _ ([spE Ar_411bs11 Ar_411s11 cr_411s11 Ar_411ms11 (M) (c) (d), .blk b47 (.cells #[.slice Ar_411fc12_0 (M).length cr_411fc12_0, .int .i64 (c), .int .i64 (d)] 50)] ++ X448) := hM457
                have hM459 := hM458.front 0 rfl
                have hM467 : Step V w [] Vl403 _ ([spE Ar_411bs11 Ar_411s11 cr_411s11 Ar_411ms11 (M) (c) (d), .blk b47 (.cells #[.slice Ar_411fc12_0 (M).length cr_411fc12_0, .int .i64 (c), .int .i64 (d)] 50)] ++ X448) := hM459
                refine wpF_callE [spE Ar_411bs11 Ar_411s11 cr_411s11 Ar_411ms11 (M) (c) (d)] ([.blk b47 (.cells #[.slice Ar_411fc12_0 (M).length cr_411fc12_0, .int .i64 (c), .int .i64 (d)] 50)] ++ X448) hM467 (f := 43) (caps := #[]) (h := (by kernel_rfl : opAt _ _ _ _ _ = some (.call (.mk (.value (.func 43)) #[(.tmp 117)] #[53]), some 118))) (by kernel_rfl) (by kernel_rfl) (by kernel_rfl) (f43 _ _ Ar_411bs11 Ar_411s11 cr_411s11 Ar_411ms11 (M) (c) (d) (St.part (E := [spE Ar_411bs11 Ar_411s11 cr_411s11 Ar_411ms11 (M) (c) (d)]) (F := ([.blk b47 (.cells #[.slice Ar_411fc12_0 (M).length cr_411fc12_0, .int .i64 (c), .int .i64 (d)] 50)] ++ X448)) hM467.ok)) (fun v460 V461 w462 Eo463 le464 hM465 hp466 => ?_)
                obtain ⟨rfl, rfl⟩ := hp466
                have hM468 : Step V w [] V461 _ ([spE Ar_411bs11 Ar_411s11 cr_411s11 Ar_411ms11 ((M)) ((c)) ((d)), .blk b47 (.cells #[.slice Ar_411fc12_0 (M).length cr_411fc12_0, .int .i64 (c), .int .i64 (d)] 50)] ++ X448) := hM465
                refine wpF_end _ (by kernel_rfl) (then_n (h_d [] (by kernel_rfl) [spE Ar_411bs11 Ar_411s11 cr_411s11 Ar_411ms11 ((M)) ((c)) ((d)), .blk b47 (.cells #[.slice Ar_411fc12_0 (M).length cr_411fc12_0, .int .i64 (c), .int .i64 (d)] 50)] hM468 no_held le464 ?_))
                refine gH (.binOp .add 3 (.tmp 118) (.tmp 123) 3) (some 124) (by kernel_rfl) (Y_add .i64 ((d)) ((m.getD (j) (0, 0, [])).2.1) ((d) + ((m.getD (j) (0, 0, [])).2.1)) (by kernel_rfl) (by kernel_rfl) (wrap64_ok _ (by omega))) ?_
                refine h_seg 2 (by kernel_rfl) ?_
                refine h_n (fun w469 hM470 => ?_)
                refine  (then_n (hK418 _ _ ?_))
                refine wp_if (decide ((t) < ((d) + ((m.getD (j) (0, 0, [])).2.1)))) (by kernel_rfl) (fun h471 => ?_) (fun h471 => ?_)
                · -- ffLfffLttt
                  have p472 : ((t) < ((d) + ((m.getD (j) (0, 0, [])).2.1))) := of_decide_eq_true h471
                  refine wp_exit (then_x (blk_hit (then_n (hK416 _ _ ?_))))
                  refine wp_reg ?_
                  refine wpF_seg 1 (by kernel_rfl) ?_
                  refine gF hM470 (.binOp .add 3 (.tmp 108) (.const (.int .i64 1)) 3) (some 109) (by kernel_rfl) (Y_add .i64 ((j : Int)) (1) ((j : Int) + 1) (by kernel_rfl) (by kernel_rfl) (wrap64_ok _ (by omega))) ?_
                  refine wpF_seg 1 (by kernel_rfl) ?_
                  refine wpF_base [(1, .slice Am (m).length cm), (2, .int .i64 (t)), (3, bs (f)), (4, bs (u)), (10, .bool (false)), (11, .pointer (some ⟨Ar_411bs11, 0, none⟩)), (12, .pointer (some ⟨b47, 0, none⟩)), (17, .slice Ar126_1 (scnR (L) (a) (b) (f) (u) (t) (-1)).length cr126_1), (19, bs (getS ((L)) ((a)) ((b)) (f) (t))), (20, .int .i64 (getE ((L)) ((a)) ((b)) (f) (t))), (21, .int .i64 ((j + 1 : Int)))] (by kernel_rfl) (fun g473 => ?_)
                  refine wpF_end _ (by kernel_rfl) (then_n (hK411 _ _ (j + 1, M, c, d) (by omega) ?_))
                  refine ⟨g473, V461, Ar_411s11, cr_411s11, Ar_411bs11, Ar_411ms11, Ar_411fc12_0, cr_411fc12_0, rfl, hM470, (le410.trans le464), (hfAr_411fc12_0.up le464), ?_, ?_, ?_, ?_⟩
                  · -- ffLfffLttt inv 0
                    omega
                  · -- ffLfffLttt inv 1
                    exact good_mono hgo (show _ ≤ (0 + fewN l l.length) + fewN m (j + 1) by omega)
                  · -- ffLfffLttt inv 2
                    assumption
                  · -- ffLfffLttt inv 3
                    assumption
                · -- ffLfffLttf
                  have p474 : ¬ ((t) < ((d) + ((m.getD (j) (0, 0, [])).2.1))) := of_decide_eq_false h471
                  refine wp_skip (then_n (hK417 _ _ ?_))
                  refine wp_seq_k (fun K475 hK475 => ?_)
                  refine wp_base [(1, .slice Am (m).length cm), (2, .int .i64 (t)), (3, bs (f)), (4, bs (u)), (10, .bool (false)), (11, .pointer (some ⟨Ar_411bs11, 0, none⟩)), (12, .pointer (some ⟨b47, 0, none⟩)), (17, .slice Ar126_1 (scnR (L) (a) (b) (f) (u) (t) (-1)).length cr126_1), (19, bs (getS ((L)) ((a)) ((b)) (f) (t))), (20, .int .i64 (getE ((L)) ((a)) ((b)) (f) (t))), (21, .int .i64 ((j : Int))), (100, .int .i64 ((j : Int))), (101, .slice Am (m).length cm), (102, .int .i64 ((m.length : Int))), (103, .bool (decide (((j : Int)) < ((m.length : Int))))), (104, .bool (true)), (105, .pointer (some ⟨Ar_411bs11, 0, none⟩)), (106, .bool (true)), (107, .bool (true)), (110, .slice Am (m).length cm), (111, .int .i64 ((j : Int))), (112, .pointer (some ⟨b423, o424, none⟩)), (113, .pointer (some ⟨b423, o424, none⟩)), (114, .int .i64 ((m.getD (j) (0, 0, [])).1)), (115, .bool (decide (((m.getD (j) (0, 0, [])).1) = (1)))), (116, .bool (true)), (117, .pointer (some ⟨Ar_411bs11, 0, none⟩)), (118, .int .i64 ((d))), (119, .slice Am (m).length cm), (120, .int .i64 ((j : Int))), (121, .pointer (some ⟨b436, o437, none⟩)), (122, .pointer (some ⟨b436, (o437 + 1), none⟩)), (123, .int .i64 ((m.getD (j) (0, 0, [])).2.1)), (124, .int .i64 ((d) + ((m.getD (j) (0, 0, [])).2.1))), (125, .int .i64 (t)), (126, .bool (decide ((t) < ((d) + ((m.getD (j) (0, 0, [])).2.1))))), (127, .bool (decide ((t) < ((d) + ((m.getD (j) (0, 0, [])).2.1)))))] (by kernel_rfl) (fun g476 => ?_)
                  refine wp_drawN hM470 [(.blk b47 (.cells #[.slice Ar_411fc12_0 (M).length cr_411fc12_0, .int .i64 (c), .int .i64 (d)] 50), 9999)] (and_held 1 rfl no_held) [⟨11, fun b_ => .pointer (some ⟨b_, 0, none⟩), #[.slice none 0 0, .int .i64 (0), .int .i64 (0)], 50⟩] [0, 1, 2, 3, 4, 5] [.a 6, .p 7, .p 8, .p 9, .p 10, .f 11, .p 12, .a 13, .p 14] [.p 0, .p 1, .p 2, .p 3, .p 4, .p 5, .s, .a 6, .p 7, .p 8, .p 9, .p 10, .f 11, .p 12, .a 13, .p 14] rfl (by kernel_rfl) (by kernel_rfl) ?_
                  refine h_seg 1 (by kernel_rfl) ?_
                  refine gH (.load 50 (.tmp 12)) (some 130) (by kernel_rfl) (Y_load 0 (by kernel_rfl : (FOf _ _ _)[0]? = some (.blk b47 (.cells #[.slice Ar_411fc12_0 (M).length cr_411fc12_0, .int .i64 (c), .int .i64 (d)] 50))) (off := 0) (by kernel_rfl) (.agg #[.slice Ar_411fc12_0 (M).length cr_411fc12_0, .int .i64 (c), .int .i64 (d)]) (by kernel_rfl)) ?_
                  refine h_seg 2 (by kernel_rfl) ?_
                  refine gH_index (A := Am) (c := cm) (hm.up hM470.le) .i64 ((j : Int)) (h := (by kernel_rfl : opAt _ _ _ _ _ = some (.indexAddr 84 (.tmp 131) (.tmp 132), some 133))) (e := 89) (by kernel_rfl) (by kernel_rfl) (by kernel_rfl) (j) rfl (by omega) (fun b477 o478 at_b477 => ?_)
                  have c479 : V461 b477 o478 = some (.int .i64 (m.getD (j) (0, 0, [])).1) := (At.int (At.pr at_b477).1).1
                  have l480 : IntKind.i64.min ≤ (m.getD (j) (0, 0, [])).1 ∧ (m.getD (j) (0, 0, [])).1 ≤ IntKind.i64.max := (At.int (At.pr at_b477).1).2
                  have c481 : V461 b477 (o478 + 1) = some (.int .i64 (m.getD (j) (0, 0, [])).2.1) := (At.int (At.pr (At.pr at_b477).2).1).1
                  have l482 : IntKind.i64.min ≤ (m.getD (j) (0, 0, [])).2.1 ∧ (m.getD (j) (0, 0, [])).2.1 ≤ IntKind.i64.max := (At.int (At.pr (At.pr at_b477).2).1).2
                  obtain ⟨A483, c484, c485, r486⟩ := At.sl (At.pr (At.pr at_b477).2).2
                  have c485 : V461 b477 (o478 + 2) = some (.slice A483 ((m.getD (j) (0, 0, [])).2.2).length c484) := c485
                  have r486 : Rd (prK strK (prK strK boolK)) V461 A483 c484 ((m.getD (j) (0, 0, [])).2.2) := r486
                  have l487 : ((m.getD (j) (0, 0, [])).2.2).length ≤ 140737488355328 := r486.max
                  refine gH (.load 89 (.tmp 133)) (some 134) (by kernel_rfl) (Y_loadS (b := b477) (off := o478) [.int .i64 ((m.getD (j) (0, 0, [])).1), .int .i64 ((m.getD (j) (0, 0, [])).2.1), .slice A483 ((m.getD (j) (0, 0, [])).2.2).length c484] (cells3 c479 c481 c485) (by kernel_rfl) (by kernel_rfl) (by kernel_rfl)) ?_
                  refine h_s (and_fs (fre_alloc (h := (by kernel_rfl : opAt _ _ _ _ _ = some (.alloc 50, some 23))) (by kernel_rfl)) no_fs) ?_
                  refine h_a (by kernel_rfl) (by kernel_rfl) (fun w488 X489 hM490 => ?_)
                  have hM491 := hM490.front 0 rfl
                  have hM499 : Step V w [] V461 _ ([spE Ar_411bs11 Ar_411s11 cr_411s11 Ar_411ms11 ((M)) ((c)) ((d)), .blk b47 (.cells #[.slice Ar_411fc12_0 (M).length cr_411fc12_0, .int .i64 (c), .int .i64 (d)] 50)] ++ X489) := hM491
                  refine wpF_callE [spE Ar_411bs11 Ar_411s11 cr_411s11 Ar_411ms11 ((M)) ((c)) ((d))] ([.blk b47 (.cells #[.slice Ar_411fc12_0 (M).length cr_411fc12_0, .int .i64 (c), .int .i64 (d)] 50)] ++ X489) hM499 (f := 49) (caps := #[]) (h := (by kernel_rfl : opAt _ _ _ _ _ = some (.call (.mk (.value (.func 49)) #[(.tmp 129), (.tmp 130), (.tmp 134)] #[53, 50, 89]), some 135))) (by kernel_rfl) (by kernel_rfl) (by kernel_rfl) (f49 _ _ Ar_411bs11 Ar_411s11 cr_411s11 Ar_411ms11 ((M)) ((c)) ((d)) Ar_411fc12_0 cr_411fc12_0 (M) (hfAr_411fc12_0.up le464) (c) (d) ((m.getD (j) (0, 0, [])).1) ((m.getD (j) (0, 0, [])).2.1) A483 c484 ((m.getD (j) (0, 0, [])).2.2) r486 (St.part (E := [spE Ar_411bs11 Ar_411s11 cr_411s11 Ar_411ms11 ((M)) ((c)) ((d))]) (F := ([.blk b47 (.cells #[.slice Ar_411fc12_0 (M).length cr_411fc12_0, .int .i64 (c), .int .i64 (d)] 50)] ++ X489)) hM499.ok) (by exact hgo.1) (by rfl) (by rfl) (by rfl) (by omega) (by omega) (by exact fun y => Nat.le_trans (hgo.2.2 y) (by omega)) (by omega)) (fun v492 V493 w494 Eo495 le496 hM497 hp498 => ?_)
                  obtain ⟨br499_1, Ar499_1, cr499_1, mr499_1, Ar499_2, cr499_2, rfl, rfl, r500⟩ := hp498
                  have hM501 : Step V w [] V493 _ ([spE br499_1 Ar499_1 cr499_1 mr499_1 (stpS ((M)) ((c)) ((d)) ((m.getD (j) (0, 0, [])).1) ((m.getD (j) (0, 0, [])).2.1) ((m.getD (j) (0, 0, [])).2.2)) (stpT ((c)) ((m.getD (j) (0, 0, [])).1) ((m.getD (j) (0, 0, [])).2.1) ((m.getD (j) (0, 0, [])).2.2)) (stpM ((c)) ((d)) ((m.getD (j) (0, 0, [])).1) ((m.getD (j) (0, 0, [])).2.1)), .blk b47 (.cells #[.slice Ar_411fc12_0 (M).length cr_411fc12_0, .int .i64 (c), .int .i64 (d)] 50)] ++ X489) := hM497
                  have l502 : (stpS ((M)) ((c)) ((d)) ((m.getD (j) (0, 0, [])).1) ((m.getD (j) (0, 0, [])).2.1) ((m.getD (j) (0, 0, [])).2.2)).length ≤ 140737488355328 := r500.max
                  refine wpF_end _ (by kernel_rfl) (then_n (h_d [(.blk b47 (.cells #[.slice Ar_411fc12_0 (M).length cr_411fc12_0, .int .i64 (c), .int .i64 (d)] 50), 9999)] (by kernel_rfl) [spE br499_1 Ar499_1 cr499_1 mr499_1 (stpS ((M)) ((c)) ((d)) ((m.getD (j) (0, 0, [])).1) ((m.getD (j) (0, 0, [])).2.1) ((m.getD (j) (0, 0, [])).2.2)) (stpT ((c)) ((m.getD (j) (0, 0, [])).1) ((m.getD (j) (0, 0, [])).2.1) ((m.getD (j) (0, 0, [])).2.2)) (stpM ((c)) ((d)) ((m.getD (j) (0, 0, [])).1) ((m.getD (j) (0, 0, [])).2.1)), .blk b47 (.cells #[.slice Ar_411fc12_0 (M).length cr_411fc12_0, .int .i64 (c), .int .i64 (d)] 50)] hM501 (and_held 1 rfl no_held) le496 ?_))
                  refine h_seg 4 (by kernel_rfl) ?_
                  refine h_f (d := 23) ⟨11, fun b_ => .pointer (some ⟨b_, 0, none⟩), #[.slice none 0 0, .int .i64 (0), .int .i64 (0)], 50⟩ (by kernel_rfl) (by kernel_rfl) (by kernel_rfl) (fun b503 => ?_)
                  refine h_seg 1 (by kernel_rfl) ?_
                  refine h_a (by kernel_rfl) (by kernel_rfl) (fun w504 X505 hM506 => ?_)
                  refine wpF_store hM506 0 rfl (h := (by kernel_rfl : opAt _ _ _ _ _ = some (.store 50 (.tmp 23) (.tmp 137), none))) (off := 0) (by kernel_rfl) #[.slice Ar499_2 (stpS ((M)) ((c)) ((d)) ((m.getD (j) (0, 0, [])).1) ((m.getD (j) (0, 0, [])).2.1) ((m.getD (j) (0, 0, [])).2.2)).length cr499_2, .int .i64 (stpT ((c)) ((m.getD (j) (0, 0, [])).1) ((m.getD (j) (0, 0, [])).2.1) ((m.getD (j) (0, 0, [])).2.2)), .int .i64 (stpM ((c)) ((d)) ((m.getD (j) (0, 0, [])).1) ((m.getD (j) (0, 0, [])).2.1))] (by kernel_rfl) (by kernel_rfl) (by kernel_rfl) (by kernel_rfl) (fun w508 hM507 => ?_)
                  have hM509 : Step V w [] V493 _ ([.blk b503 (.cells #[.slice Ar499_2 (stpS ((M)) ((c)) ((d)) ((m.getD (j) (0, 0, [])).1) ((m.getD (j) (0, 0, [])).2.1) ((m.getD (j) (0, 0, [])).2.2)).length cr499_2, .int .i64 (stpT ((c)) ((m.getD (j) (0, 0, [])).1) ((m.getD (j) (0, 0, [])).2.1) ((m.getD (j) (0, 0, [])).2.2)), .int .i64 (stpM ((c)) ((d)) ((m.getD (j) (0, 0, [])).1) ((m.getD (j) (0, 0, [])).2.1))] 50), spE br499_1 Ar499_1 cr499_1 mr499_1 (stpS ((M)) ((c)) ((d)) ((m.getD (j) (0, 0, [])).1) ((m.getD (j) (0, 0, [])).2.1) ((m.getD (j) (0, 0, [])).2.2)) (stpT ((c)) ((m.getD (j) (0, 0, [])).1) ((m.getD (j) (0, 0, [])).2.1) ((m.getD (j) (0, 0, [])).2.2)) (stpM ((c)) ((d)) ((m.getD (j) (0, 0, [])).1) ((m.getD (j) (0, 0, [])).2.1)), .blk b47 (.cells #[.slice Ar_411fc12_0 (M).length cr_411fc12_0, .int .i64 (c), .int .i64 (d)] 50)] ++ X505) := hM507
                  refine wpF_end _ (by kernel_rfl) (then_n (h_d [(.blk b47 (.cells #[.slice Ar_411fc12_0 (M).length cr_411fc12_0, .int .i64 (c), .int .i64 (d)] 50), 9999)] (by kernel_rfl) [.blk b503 (.cells #[.slice Ar499_2 (stpS ((M)) ((c)) ((d)) ((m.getD (j) (0, 0, [])).1) ((m.getD (j) (0, 0, [])).2.1) ((m.getD (j) (0, 0, [])).2.2)).length cr499_2, .int .i64 (stpT ((c)) ((m.getD (j) (0, 0, [])).1) ((m.getD (j) (0, 0, [])).2.1) ((m.getD (j) (0, 0, [])).2.2)), .int .i64 (stpM ((c)) ((d)) ((m.getD (j) (0, 0, [])).1) ((m.getD (j) (0, 0, [])).2.1))] 50), spE br499_1 Ar499_1 cr499_1 mr499_1 (stpS ((M)) ((c)) ((d)) ((m.getD (j) (0, 0, [])).1) ((m.getD (j) (0, 0, [])).2.1) ((m.getD (j) (0, 0, [])).2.2)) (stpT ((c)) ((m.getD (j) (0, 0, [])).1) ((m.getD (j) (0, 0, [])).2.1) ((m.getD (j) (0, 0, [])).2.2)) (stpM ((c)) ((d)) ((m.getD (j) (0, 0, [])).1) ((m.getD (j) (0, 0, [])).2.1)), .blk b47 (.cells #[.slice Ar_411fc12_0 (M).length cr_411fc12_0, .int .i64 (c), .int .i64 (d)] 50)] hM509 (and_held 2 rfl no_held) (VT.le.refl _) ?_))
                  refine h_seg 1 (by kernel_rfl) ?_
                  refine h_n (fun w510 hM511 => ?_)
                  refine  (then_n (hK475 _ _ ?_))
                  refine wp_base [(1, .slice Am (m).length cm), (2, .int .i64 (t)), (3, bs (f)), (4, bs (u)), (10, .bool (false)), (11, .pointer (some ⟨Ar_411bs11, 0, none⟩)), (12, .pointer (some ⟨b47, 0, none⟩)), (17, .slice Ar126_1 (scnR (L) (a) (b) (f) (u) (t) (-1)).length cr126_1), (19, bs (getS ((L)) ((a)) ((b)) (f) (t))), (20, .int .i64 (getE ((L)) ((a)) ((b)) (f) (t))), (21, .int .i64 ((j : Int))), (22, .pointer (some ⟨br499_1, 0, none⟩)), (23, .pointer (some ⟨b503, 0, none⟩)), (24, .bool (true)), (100, .int .i64 ((j : Int))), (101, .slice Am (m).length cm), (102, .int .i64 ((m.length : Int))), (103, .bool (decide (((j : Int)) < ((m.length : Int))))), (104, .bool (true)), (105, .pointer (some ⟨Ar_411bs11, 0, none⟩)), (106, .bool (true)), (107, .bool (true)), (110, .slice Am (m).length cm), (111, .int .i64 ((j : Int))), (112, .pointer (some ⟨b423, o424, none⟩)), (113, .pointer (some ⟨b423, o424, none⟩)), (114, .int .i64 ((m.getD (j) (0, 0, [])).1)), (115, .bool (decide (((m.getD (j) (0, 0, [])).1) = (1)))), (116, .bool (true)), (117, .pointer (some ⟨Ar_411bs11, 0, none⟩)), (118, .int .i64 ((d))), (119, .slice Am (m).length cm), (120, .int .i64 ((j : Int))), (121, .pointer (some ⟨b436, o437, none⟩)), (122, .pointer (some ⟨b436, (o437 + 1), none⟩)), (123, .int .i64 ((m.getD (j) (0, 0, [])).2.1)), (124, .int .i64 ((d) + ((m.getD (j) (0, 0, [])).2.1))), (125, .int .i64 (t)), (126, .bool (decide ((t) < ((d) + ((m.getD (j) (0, 0, [])).2.1))))), (127, .bool (decide ((t) < ((d) + ((m.getD (j) (0, 0, [])).2.1))))), (128, .tuple #[.pointer (some ⟨br499_1, 0, none⟩), .agg #[.slice Ar499_2 (stpS ((M)) ((c)) ((d)) ((m.getD (j) (0, 0, [])).1) ((m.getD (j) (0, 0, [])).2.1) ((m.getD (j) (0, 0, [])).2.2)).length cr499_2, .int .i64 (stpT ((c)) ((m.getD (j) (0, 0, [])).1) ((m.getD (j) (0, 0, [])).2.1) ((m.getD (j) (0, 0, [])).2.2)), .int .i64 (stpM ((c)) ((d)) ((m.getD (j) (0, 0, [])).1) ((m.getD (j) (0, 0, [])).2.1))], .bool (true)]), (129, .pointer (some ⟨Ar_411bs11, 0, none⟩)), (130, .agg #[.slice Ar_411fc12_0 (M).length cr_411fc12_0, .int .i64 (c), .int .i64 (d)]), (131, .slice Am (m).length cm), (132, .int .i64 ((j : Int))), (133, .pointer (some ⟨b477, o478, none⟩)), (134, .agg #[.int .i64 ((m.getD (j) (0, 0, [])).1), .int .i64 ((m.getD (j) (0, 0, [])).2.1), .slice A483 ((m.getD (j) (0, 0, [])).2.2).length c484]), (135, .tuple #[.pointer (some ⟨br499_1, 0, none⟩), .agg #[.slice Ar499_2 (stpS ((M)) ((c)) ((d)) ((m.getD (j) (0, 0, [])).1) ((m.getD (j) (0, 0, [])).2.1) ((m.getD (j) (0, 0, [])).2.2)).length cr499_2, .int .i64 (stpT ((c)) ((m.getD (j) (0, 0, [])).1) ((m.getD (j) (0, 0, [])).2.1) ((m.getD (j) (0, 0, [])).2.2)), .int .i64 (stpM ((c)) ((d)) ((m.getD (j) (0, 0, [])).1) ((m.getD (j) (0, 0, [])).2.1))], .bool (true)]), (136, .pointer (some ⟨br499_1, 0, none⟩)), (137, .agg #[.slice Ar499_2 (stpS ((M)) ((c)) ((d)) ((m.getD (j) (0, 0, [])).1) ((m.getD (j) (0, 0, [])).2.1) ((m.getD (j) (0, 0, [])).2.2)).length cr499_2, .int .i64 (stpT ((c)) ((m.getD (j) (0, 0, [])).1) ((m.getD (j) (0, 0, [])).2.1) ((m.getD (j) (0, 0, [])).2.2)), .int .i64 (stpM ((c)) ((d)) ((m.getD (j) (0, 0, [])).1) ((m.getD (j) (0, 0, [])).2.1))]), (138, .bool (true))] (by kernel_rfl) (fun g512 => ?_)
                  refine wp_drawN hM511 [(.blk b503 (.cells #[.slice Ar499_2 (stpS ((M)) ((c)) ((d)) ((m.getD (j) (0, 0, [])).1) ((m.getD (j) (0, 0, [])).2.1) ((m.getD (j) (0, 0, [])).2.2)).length cr499_2, .int .i64 (stpT ((c)) ((m.getD (j) (0, 0, [])).1) ((m.getD (j) (0, 0, [])).2.1) ((m.getD (j) (0, 0, [])).2.2)), .int .i64 (stpM ((c)) ((d)) ((m.getD (j) (0, 0, [])).1) ((m.getD (j) (0, 0, [])).2.1))] 50), 9999)] (and_held 0 rfl no_held) [] [0, 1, 2] [.a 3] [.p 0, .p 1, .p 2, .s, .a 3] rfl (by kernel_rfl) (by kernel_rfl) ?_
                  refine h_seg 1 (by kernel_rfl) ?_
                  refine gH (.load 50 (.tmp 23)) (some 140) (by kernel_rfl) (Y_load 0 (by kernel_rfl : (FOf _ _ _)[0]? = some (.blk b503 (.cells #[.slice Ar499_2 (stpS ((M)) ((c)) ((d)) ((m.getD (j) (0, 0, [])).1) ((m.getD (j) (0, 0, [])).2.1) ((m.getD (j) (0, 0, [])).2.2)).length cr499_2, .int .i64 (stpT ((c)) ((m.getD (j) (0, 0, [])).1) ((m.getD (j) (0, 0, [])).2.1) ((m.getD (j) (0, 0, [])).2.2)), .int .i64 (stpM ((c)) ((d)) ((m.getD (j) (0, 0, [])).1) ((m.getD (j) (0, 0, [])).2.1))] 50))) (off := 0) (by kernel_rfl) (.agg #[.slice Ar499_2 (stpS ((M)) ((c)) ((d)) ((m.getD (j) (0, 0, [])).1) ((m.getD (j) (0, 0, [])).2.1) ((m.getD (j) (0, 0, [])).2.2)).length cr499_2, .int .i64 (stpT ((c)) ((m.getD (j) (0, 0, [])).1) ((m.getD (j) (0, 0, [])).2.1) ((m.getD (j) (0, 0, [])).2.2)), .int .i64 (stpM ((c)) ((d)) ((m.getD (j) (0, 0, [])).1) ((m.getD (j) (0, 0, [])).2.1))]) (by kernel_rfl)) ?_
                  refine h_seg 1 (by kernel_rfl) ?_
                  refine h_s no_fs ?_
                  refine h_a (by kernel_rfl) (by kernel_rfl) (fun w513 X514 hM515 => ?_)
                  refine wpF_store hM515 2 rfl (h := (by kernel_rfl : opAt _ _ _ _ _ = some (.store 50 (.tmp 12) (.tmp 140), none))) (off := 0) (by kernel_rfl) #[.slice Ar499_2 (stpS ((M)) ((c)) ((d)) ((m.getD (j) (0, 0, [])).1) ((m.getD (j) (0, 0, [])).2.1) ((m.getD (j) (0, 0, [])).2.2)).length cr499_2, .int .i64 (stpT ((c)) ((m.getD (j) (0, 0, [])).1) ((m.getD (j) (0, 0, [])).2.1) ((m.getD (j) (0, 0, [])).2.2)), .int .i64 (stpM ((c)) ((d)) ((m.getD (j) (0, 0, [])).1) ((m.getD (j) (0, 0, [])).2.1))] (by kernel_rfl) (by kernel_rfl) (by kernel_rfl) (by kernel_rfl) (fun w517 hM516 => ?_)
                  have hM518 : Step V w [] V493 _ ([.blk b503 (.cells #[.slice Ar499_2 (stpS ((M)) ((c)) ((d)) ((m.getD (j) (0, 0, [])).1) ((m.getD (j) (0, 0, [])).2.1) ((m.getD (j) (0, 0, [])).2.2)).length cr499_2, .int .i64 (stpT ((c)) ((m.getD (j) (0, 0, [])).1) ((m.getD (j) (0, 0, [])).2.1) ((m.getD (j) (0, 0, [])).2.2)), .int .i64 (stpM ((c)) ((d)) ((m.getD (j) (0, 0, [])).1) ((m.getD (j) (0, 0, [])).2.1))] 50), spE br499_1 Ar499_1 cr499_1 mr499_1 (stpS ((M)) ((c)) ((d)) ((m.getD (j) (0, 0, [])).1) ((m.getD (j) (0, 0, [])).2.1) ((m.getD (j) (0, 0, [])).2.2)) (stpT ((c)) ((m.getD (j) (0, 0, [])).1) ((m.getD (j) (0, 0, [])).2.1) ((m.getD (j) (0, 0, [])).2.2)) (stpM ((c)) ((d)) ((m.getD (j) (0, 0, [])).1) ((m.getD (j) (0, 0, [])).2.1)), .blk b47 (.cells #[.slice Ar499_2 (stpS ((M)) ((c)) ((d)) ((m.getD (j) (0, 0, [])).1) ((m.getD (j) (0, 0, [])).2.1) ((m.getD (j) (0, 0, [])).2.2)).length cr499_2, .int .i64 (stpT ((c)) ((m.getD (j) (0, 0, [])).1) ((m.getD (j) (0, 0, [])).2.1) ((m.getD (j) (0, 0, [])).2.2)), .int .i64 (stpM ((c)) ((d)) ((m.getD (j) (0, 0, [])).1) ((m.getD (j) (0, 0, [])).2.1))] 50)] ++ X514) := hM516
                  refine wpF_end _ (by kernel_rfl) (then_n (h_d [(.blk b503 (.cells #[.slice Ar499_2 (stpS ((M)) ((c)) ((d)) ((m.getD (j) (0, 0, [])).1) ((m.getD (j) (0, 0, [])).2.1) ((m.getD (j) (0, 0, [])).2.2)).length cr499_2, .int .i64 (stpT ((c)) ((m.getD (j) (0, 0, [])).1) ((m.getD (j) (0, 0, [])).2.1) ((m.getD (j) (0, 0, [])).2.2)), .int .i64 (stpM ((c)) ((d)) ((m.getD (j) (0, 0, [])).1) ((m.getD (j) (0, 0, [])).2.1))] 50), 9999)] (by kernel_rfl) [.blk b503 (.cells #[.slice Ar499_2 (stpS ((M)) ((c)) ((d)) ((m.getD (j) (0, 0, [])).1) ((m.getD (j) (0, 0, [])).2.1) ((m.getD (j) (0, 0, [])).2.2)).length cr499_2, .int .i64 (stpT ((c)) ((m.getD (j) (0, 0, [])).1) ((m.getD (j) (0, 0, [])).2.1) ((m.getD (j) (0, 0, [])).2.2)), .int .i64 (stpM ((c)) ((d)) ((m.getD (j) (0, 0, [])).1) ((m.getD (j) (0, 0, [])).2.1))] 50), spE br499_1 Ar499_1 cr499_1 mr499_1 (stpS ((M)) ((c)) ((d)) ((m.getD (j) (0, 0, [])).1) ((m.getD (j) (0, 0, [])).2.1) ((m.getD (j) (0, 0, [])).2.2)) (stpT ((c)) ((m.getD (j) (0, 0, [])).1) ((m.getD (j) (0, 0, [])).2.1) ((m.getD (j) (0, 0, [])).2.2)) (stpM ((c)) ((d)) ((m.getD (j) (0, 0, [])).1) ((m.getD (j) (0, 0, [])).2.1)), .blk b47 (.cells #[.slice Ar499_2 (stpS ((M)) ((c)) ((d)) ((m.getD (j) (0, 0, [])).1) ((m.getD (j) (0, 0, [])).2.1) ((m.getD (j) (0, 0, [])).2.2)).length cr499_2, .int .i64 (stpT ((c)) ((m.getD (j) (0, 0, [])).1) ((m.getD (j) (0, 0, [])).2.1) ((m.getD (j) (0, 0, [])).2.2)), .int .i64 (stpM ((c)) ((d)) ((m.getD (j) (0, 0, [])).1) ((m.getD (j) (0, 0, [])).2.1))] 50)] hM518 (and_held 0 rfl no_held) (VT.le.refl _) ?_))
                  refine h_n (fun w519 hM520 => ?_)
                  refine  (blk_n (then_n (hK416 _ _ ?_)))
                  refine wp_reg ?_
                  refine wpF_seg 1 (by kernel_rfl) ?_
                  refine gF hM520 (.binOp .add 3 (.tmp 108) (.const (.int .i64 1)) 3) (some 109) (by kernel_rfl) (Y_add .i64 ((j : Int)) (1) ((j : Int) + 1) (by kernel_rfl) (by kernel_rfl) (wrap64_ok _ (by omega))) ?_
                  refine wpF_seg 1 (by kernel_rfl) ?_
                  refine wpF_base [(1, .slice Am (m).length cm), (2, .int .i64 (t)), (3, bs (f)), (4, bs (u)), (10, .bool (false)), (11, .pointer (some ⟨br499_1, 0, none⟩)), (12, .pointer (some ⟨b47, 0, none⟩)), (17, .slice Ar126_1 (scnR (L) (a) (b) (f) (u) (t) (-1)).length cr126_1), (19, bs (getS ((L)) ((a)) ((b)) (f) (t))), (20, .int .i64 (getE ((L)) ((a)) ((b)) (f) (t))), (21, .int .i64 ((j + 1 : Int)))] (by kernel_rfl) (fun g521 => ?_)
                  have hM522 := (hM520.front 0 rfl).drop
                  refine wpF_end _ (by kernel_rfl) (then_n (hK411 _ _ (j + 1, stpS (M) (c) (d) ((m.getD (j) (0, 0, [])).1) ((m.getD (j) (0, 0, [])).2.1) ((m.getD (j) (0, 0, [])).2.2), stpT (c) ((m.getD (j) (0, 0, [])).1) ((m.getD (j) (0, 0, [])).2.1) ((m.getD (j) (0, 0, [])).2.2), stpM (c) (d) ((m.getD (j) (0, 0, [])).1) ((m.getD (j) (0, 0, [])).2.1)) (by omega) ?_))
                  refine ⟨g521, V493, Ar499_1, cr499_1, br499_1, mr499_1, Ar499_2, cr499_2, rfl, hM522, ((le410.trans le464).trans le496), r500, ?_, ?_, ?_, ?_⟩
                  · -- ffLfffLttf inv 0
                    omega
                  · -- ffLfffLttf inv 1
                    exact hgn
                  · -- ffLfffLttf inv 2
                    exact (vw_step hld (by assumption) (show ¬ ((m.getD (j) (0, 0, [])).1 = 1 ∧ t < d + (m.getD (j) (0, 0, [])).2.1) by omega)).1
                  · -- ffLfffLttf inv 3
                    exact fun y => ((vw_step hld (by assumption) (show ¬ ((m.getD (j) (0, 0, [])).1 = 1 ∧ t < d + (m.getD (j) (0, 0, [])).2.1) by omega)).2 y).trans ((by assumption : ∀ y, vw M t y = vw L t y) y)
              · -- ffLfffLtf
                have p523 : ¬ (((m.getD (j) (0, 0, [])).1) = (1)) := of_decide_eq_false h434
                refine h_seg 7 (by kernel_rfl) ?_
                refine h_s no_fs ?_
                refine h_a (by kernel_rfl) (by kernel_rfl) (fun w524 X525 hM526 => ?_)
                refine wpF_seg 1 (by kernel_rfl) ?_
                refine wpF_end _ (by kernel_rfl) (then_n (h_d [] (by kernel_rfl) [.blk Ar_411bs11 (.cells #[.slice Ar_411s11 (keysOf (M)).length cr_411s11, .map (some Ar_411ms11), .int .i64 (c), .int .i64 (d)] 71), .row strK 9 Ar_411s11 cr_411s11 (keysOf (M)), mapE false (slK (prK (intK .i64) (prK strK boolK))) Ar_411ms11 (fun k_ => lk k_ (M)), .blk b47 (.cells #[.slice Ar_411fc12_0 (M).length cr_411fc12_0, .int .i64 (c), .int .i64 (d)] 50)] hM526 no_held (VT.le.refl _) ?_))
                refine h_seg 3 (by kernel_rfl) ?_
                refine h_n (fun w527 hM528 => ?_)
                refine  (then_n (hK418 _ _ ?_))
                refine wp_cf (by kernel_rfl) ?_
                refine wp_skip (then_n (hK417 _ _ ?_))
                refine wp_seq_k (fun K529 hK529 => ?_)
                refine wp_base [(1, .slice Am (m).length cm), (2, .int .i64 (t)), (3, bs (f)), (4, bs (u)), (10, .bool (false)), (11, .pointer (some ⟨Ar_411bs11, 0, none⟩)), (12, .pointer (some ⟨b47, 0, none⟩)), (17, .slice Ar126_1 (scnR (L) (a) (b) (f) (u) (t) (-1)).length cr126_1), (19, bs (getS ((L)) ((a)) ((b)) (f) (t))), (20, .int .i64 (getE ((L)) ((a)) ((b)) (f) (t))), (21, .int .i64 ((j : Int))), (100, .int .i64 ((j : Int))), (101, .slice Am (m).length cm), (102, .int .i64 ((m.length : Int))), (103, .bool (decide (((j : Int)) < ((m.length : Int))))), (104, .bool (true)), (105, .pointer (some ⟨Ar_411bs11, 0, none⟩)), (106, .bool (true)), (107, .bool (true)), (110, .slice Am (m).length cm), (111, .int .i64 ((j : Int))), (112, .pointer (some ⟨b423, o424, none⟩)), (113, .pointer (some ⟨b423, o424, none⟩)), (114, .int .i64 ((m.getD (j) (0, 0, [])).1)), (115, .bool (decide (((m.getD (j) (0, 0, [])).1) = (1)))), (116, .bool (false)), (127, .bool (false))] (by kernel_rfl) (fun g530 => ?_)
                refine wp_drawN hM528 [(.blk b47 (.cells #[.slice Ar_411fc12_0 (M).length cr_411fc12_0, .int .i64 (c), .int .i64 (d)] 50), 9999)] (and_held 3 rfl no_held) [⟨11, fun b_ => .pointer (some ⟨b_, 0, none⟩), #[.slice none 0 0, .int .i64 (0), .int .i64 (0)], 50⟩] [0, 1, 2, 3, 4, 5] [.a 6, .p 7, .p 8, .p 9, .p 10, .f 11, .p 12, .a 13, .p 14] [.p 0, .p 1, .p 2, .p 3, .p 4, .p 5, .s, .a 6, .p 7, .p 8, .p 9, .p 10, .f 11, .p 12, .a 13, .p 14] rfl (by kernel_rfl) (by kernel_rfl) ?_
                refine h_seg 1 (by kernel_rfl) ?_
                refine gH (.load 50 (.tmp 12)) (some 130) (by kernel_rfl) (Y_load 0 (by kernel_rfl : (FOf _ _ _)[0]? = some (.blk b47 (.cells #[.slice Ar_411fc12_0 (M).length cr_411fc12_0, .int .i64 (c), .int .i64 (d)] 50))) (off := 0) (by kernel_rfl) (.agg #[.slice Ar_411fc12_0 (M).length cr_411fc12_0, .int .i64 (c), .int .i64 (d)]) (by kernel_rfl)) ?_
                refine h_seg 2 (by kernel_rfl) ?_
                refine gH_index (A := Am) (c := cm) (hm.up hM528.le) .i64 ((j : Int)) (h := (by kernel_rfl : opAt _ _ _ _ _ = some (.indexAddr 84 (.tmp 131) (.tmp 132), some 133))) (e := 89) (by kernel_rfl) (by kernel_rfl) (by kernel_rfl) (j) rfl (by omega) (fun b531 o532 at_b531 => ?_)
                have c533 : Vl403 b531 o532 = some (.int .i64 (m.getD (j) (0, 0, [])).1) := (At.int (At.pr at_b531).1).1
                have l534 : IntKind.i64.min ≤ (m.getD (j) (0, 0, [])).1 ∧ (m.getD (j) (0, 0, [])).1 ≤ IntKind.i64.max := (At.int (At.pr at_b531).1).2
                have c535 : Vl403 b531 (o532 + 1) = some (.int .i64 (m.getD (j) (0, 0, [])).2.1) := (At.int (At.pr (At.pr at_b531).2).1).1
                have l536 : IntKind.i64.min ≤ (m.getD (j) (0, 0, [])).2.1 ∧ (m.getD (j) (0, 0, [])).2.1 ≤ IntKind.i64.max := (At.int (At.pr (At.pr at_b531).2).1).2
                obtain ⟨A537, c538, c539, r540⟩ := At.sl (At.pr (At.pr at_b531).2).2
                have c539 : Vl403 b531 (o532 + 2) = some (.slice A537 ((m.getD (j) (0, 0, [])).2.2).length c538) := c539
                have r540 : Rd (prK strK (prK strK boolK)) Vl403 A537 c538 ((m.getD (j) (0, 0, [])).2.2) := r540
                have l541 : ((m.getD (j) (0, 0, [])).2.2).length ≤ 140737488355328 := r540.max
                refine gH (.load 89 (.tmp 133)) (some 134) (by kernel_rfl) (Y_loadS (b := b531) (off := o532) [.int .i64 ((m.getD (j) (0, 0, [])).1), .int .i64 ((m.getD (j) (0, 0, [])).2.1), .slice A537 ((m.getD (j) (0, 0, [])).2.2).length c538] (cells3 c533 c535 c539) (by kernel_rfl) (by kernel_rfl) (by kernel_rfl)) ?_
                refine h_s (and_fs (fre_alloc (h := (by kernel_rfl : opAt _ _ _ _ _ = some (.alloc 50, some 23))) (by kernel_rfl)) no_fs) ?_
                refine h_a (by kernel_rfl) (by kernel_rfl) (fun w542 X543 hM544 => ?_)
                have hM545 := hM544.front 2 rfl
                have hM546 := hM545.front 2 rfl
                have hM547 := hM546.front 2 rfl
                have hM548 : Step V w [] Vl403 _ ([.blk Ar_411bs11 (.cells #[.slice Ar_411s11 (keysOf (M)).length cr_411s11, .map (some Ar_411ms11), .int .i64 (c), .int .i64 (d)] 71), .row strK 9 Ar_411s11 cr_411s11 (keysOf (M)), mapE false (slK (prK (intK .i64) (prK strK boolK))) Ar_411ms11 (fun k_ => lk k_ (M)), .blk b47 (.cells #[.slice Ar_411fc12_0 (M).length cr_411fc12_0, .int .i64 (c), .int .i64 (d)] 50)] ++ X543) := hM547
                have hk549 : keysOf (M) = keysOf (M) := rfl
                have hf550 : (fun k_ => lk k_ (M)) = (fun k_ => lk k_ (M)) := rfl
                have ho551 : SpI (M) := hs420
                have hM552 : Step V w [] Vl403 _ (spE Ar_411bs11 Ar_411s11 cr_411s11 Ar_411ms11 (M) (c) (d) :: [.blk b47 (.cells #[.slice Ar_411fc12_0 (M).length cr_411fc12_0, .int .i64 (c), .int .i64 (d)] 50)] ++ X543) := Step.closeSp hk549 hf550 ho551 (by exact hM548)
                have hM553 : Step V w [] Vl403 _ ([spE Ar_411bs11 Ar_411s11 cr_411s11 Ar_411ms11 (M) (c) (d), .blk b47 (.cells #[.slice Ar_411fc12_0 (M).length cr_411fc12_0, .int .i64 (c), .int .i64 (d)] 50)] ++ X543) := hM552
                have hM554 := hM553.front 0 rfl
                have hM562 : Step V w [] Vl403 _ ([spE Ar_411bs11 Ar_411s11 cr_411s11 Ar_411ms11 (M) (c) (d), .blk b47 (.cells #[.slice Ar_411fc12_0 (M).length cr_411fc12_0, .int .i64 (c), .int .i64 (d)] 50)] ++ X543) := hM554
                refine wpF_callE [spE Ar_411bs11 Ar_411s11 cr_411s11 Ar_411ms11 (M) (c) (d)] ([.blk b47 (.cells #[.slice Ar_411fc12_0 (M).length cr_411fc12_0, .int .i64 (c), .int .i64 (d)] 50)] ++ X543) hM562 (f := 49) (caps := #[]) (h := (by kernel_rfl : opAt _ _ _ _ _ = some (.call (.mk (.value (.func 49)) #[(.tmp 129), (.tmp 130), (.tmp 134)] #[53, 50, 89]), some 135))) (by kernel_rfl) (by kernel_rfl) (by kernel_rfl) (f49 _ _ Ar_411bs11 Ar_411s11 cr_411s11 Ar_411ms11 (M) (c) (d) Ar_411fc12_0 cr_411fc12_0 (M) hfAr_411fc12_0 (c) (d) ((m.getD (j) (0, 0, [])).1) ((m.getD (j) (0, 0, [])).2.1) A537 c538 ((m.getD (j) (0, 0, [])).2.2) r540 (St.part (E := [spE Ar_411bs11 Ar_411s11 cr_411s11 Ar_411ms11 (M) (c) (d)]) (F := ([.blk b47 (.cells #[.slice Ar_411fc12_0 (M).length cr_411fc12_0, .int .i64 (c), .int .i64 (d)] 50)] ++ X543)) hM562.ok) (by exact hgo.1) (by rfl) (by rfl) (by rfl) (by omega) (by omega) (by exact fun y => Nat.le_trans (hgo.2.2 y) (by omega)) (by omega)) (fun v555 V556 w557 Eo558 le559 hM560 hp561 => ?_)
                obtain ⟨br562_1, Ar562_1, cr562_1, mr562_1, Ar562_2, cr562_2, rfl, rfl, r563⟩ := hp561
                have hM564 : Step V w [] V556 _ ([spE br562_1 Ar562_1 cr562_1 mr562_1 (stpS (M) (c) (d) ((m.getD (j) (0, 0, [])).1) ((m.getD (j) (0, 0, [])).2.1) ((m.getD (j) (0, 0, [])).2.2)) (stpT (c) ((m.getD (j) (0, 0, [])).1) ((m.getD (j) (0, 0, [])).2.1) ((m.getD (j) (0, 0, [])).2.2)) (stpM (c) (d) ((m.getD (j) (0, 0, [])).1) ((m.getD (j) (0, 0, [])).2.1)), .blk b47 (.cells #[.slice Ar_411fc12_0 (M).length cr_411fc12_0, .int .i64 (c), .int .i64 (d)] 50)] ++ X543) := hM560
                have l565 : (stpS (M) (c) (d) ((m.getD (j) (0, 0, [])).1) ((m.getD (j) (0, 0, [])).2.1) ((m.getD (j) (0, 0, [])).2.2)).length ≤ 140737488355328 := r563.max
                refine wpF_end _ (by kernel_rfl) (then_n (h_d [(.blk b47 (.cells #[.slice Ar_411fc12_0 (M).length cr_411fc12_0, .int .i64 (c), .int .i64 (d)] 50), 9999)] (by kernel_rfl) [spE br562_1 Ar562_1 cr562_1 mr562_1 (stpS (M) (c) (d) ((m.getD (j) (0, 0, [])).1) ((m.getD (j) (0, 0, [])).2.1) ((m.getD (j) (0, 0, [])).2.2)) (stpT (c) ((m.getD (j) (0, 0, [])).1) ((m.getD (j) (0, 0, [])).2.1) ((m.getD (j) (0, 0, [])).2.2)) (stpM (c) (d) ((m.getD (j) (0, 0, [])).1) ((m.getD (j) (0, 0, [])).2.1)), .blk b47 (.cells #[.slice Ar_411fc12_0 (M).length cr_411fc12_0, .int .i64 (c), .int .i64 (d)] 50)] hM564 (and_held 1 rfl no_held) le559 ?_))
                refine h_seg 4 (by kernel_rfl) ?_
                refine h_f (d := 23) ⟨11, fun b_ => .pointer (some ⟨b_, 0, none⟩), #[.slice none 0 0, .int .i64 (0), .int .i64 (0)], 50⟩ (by kernel_rfl) (by kernel_rfl) (by kernel_rfl) (fun b566 => ?_)
                refine h_seg 1 (by kernel_rfl) ?_
                refine h_a (by kernel_rfl) (by kernel_rfl) (fun w567 X568 hM569 => ?_)
                refine wpF_store hM569 0 rfl (h := (by kernel_rfl : opAt _ _ _ _ _ = some (.store 50 (.tmp 23) (.tmp 137), none))) (off := 0) (by kernel_rfl) #[.slice Ar562_2 (stpS (M) (c) (d) ((m.getD (j) (0, 0, [])).1) ((m.getD (j) (0, 0, [])).2.1) ((m.getD (j) (0, 0, [])).2.2)).length cr562_2, .int .i64 (stpT (c) ((m.getD (j) (0, 0, [])).1) ((m.getD (j) (0, 0, [])).2.1) ((m.getD (j) (0, 0, [])).2.2)), .int .i64 (stpM (c) (d) ((m.getD (j) (0, 0, [])).1) ((m.getD (j) (0, 0, [])).2.1))] (by kernel_rfl) (by kernel_rfl) (by kernel_rfl) (by kernel_rfl) (fun w571 hM570 => ?_)
                have hM572 : Step V w [] V556 _ ([.blk b566 (.cells #[.slice Ar562_2 (stpS (M) (c) (d) ((m.getD (j) (0, 0, [])).1) ((m.getD (j) (0, 0, [])).2.1) ((m.getD (j) (0, 0, [])).2.2)).length cr562_2, .int .i64 (stpT (c) ((m.getD (j) (0, 0, [])).1) ((m.getD (j) (0, 0, [])).2.1) ((m.getD (j) (0, 0, [])).2.2)), .int .i64 (stpM (c) (d) ((m.getD (j) (0, 0, [])).1) ((m.getD (j) (0, 0, [])).2.1))] 50), spE br562_1 Ar562_1 cr562_1 mr562_1 (stpS (M) (c) (d) ((m.getD (j) (0, 0, [])).1) ((m.getD (j) (0, 0, [])).2.1) ((m.getD (j) (0, 0, [])).2.2)) (stpT (c) ((m.getD (j) (0, 0, [])).1) ((m.getD (j) (0, 0, [])).2.1) ((m.getD (j) (0, 0, [])).2.2)) (stpM (c) (d) ((m.getD (j) (0, 0, [])).1) ((m.getD (j) (0, 0, [])).2.1)), .blk b47 (.cells #[.slice Ar_411fc12_0 (M).length cr_411fc12_0, .int .i64 (c), .int .i64 (d)] 50)] ++ X568) := hM570
                refine wpF_end _ (by kernel_rfl) (then_n (h_d [(.blk b47 (.cells #[.slice Ar_411fc12_0 (M).length cr_411fc12_0, .int .i64 (c), .int .i64 (d)] 50), 9999)] (by kernel_rfl) [.blk b566 (.cells #[.slice Ar562_2 (stpS (M) (c) (d) ((m.getD (j) (0, 0, [])).1) ((m.getD (j) (0, 0, [])).2.1) ((m.getD (j) (0, 0, [])).2.2)).length cr562_2, .int .i64 (stpT (c) ((m.getD (j) (0, 0, [])).1) ((m.getD (j) (0, 0, [])).2.1) ((m.getD (j) (0, 0, [])).2.2)), .int .i64 (stpM (c) (d) ((m.getD (j) (0, 0, [])).1) ((m.getD (j) (0, 0, [])).2.1))] 50), spE br562_1 Ar562_1 cr562_1 mr562_1 (stpS (M) (c) (d) ((m.getD (j) (0, 0, [])).1) ((m.getD (j) (0, 0, [])).2.1) ((m.getD (j) (0, 0, [])).2.2)) (stpT (c) ((m.getD (j) (0, 0, [])).1) ((m.getD (j) (0, 0, [])).2.1) ((m.getD (j) (0, 0, [])).2.2)) (stpM (c) (d) ((m.getD (j) (0, 0, [])).1) ((m.getD (j) (0, 0, [])).2.1)), .blk b47 (.cells #[.slice Ar_411fc12_0 (M).length cr_411fc12_0, .int .i64 (c), .int .i64 (d)] 50)] hM572 (and_held 2 rfl no_held) (VT.le.refl _) ?_))
                refine h_seg 1 (by kernel_rfl) ?_
                refine h_n (fun w573 hM574 => ?_)
                refine  (then_n (hK529 _ _ ?_))
                refine wp_base [(1, .slice Am (m).length cm), (2, .int .i64 (t)), (3, bs (f)), (4, bs (u)), (10, .bool (false)), (11, .pointer (some ⟨Ar_411bs11, 0, none⟩)), (12, .pointer (some ⟨b47, 0, none⟩)), (17, .slice Ar126_1 (scnR (L) (a) (b) (f) (u) (t) (-1)).length cr126_1), (19, bs (getS ((L)) ((a)) ((b)) (f) (t))), (20, .int .i64 (getE ((L)) ((a)) ((b)) (f) (t))), (21, .int .i64 ((j : Int))), (22, .pointer (some ⟨br562_1, 0, none⟩)), (23, .pointer (some ⟨b566, 0, none⟩)), (24, .bool (true)), (100, .int .i64 ((j : Int))), (101, .slice Am (m).length cm), (102, .int .i64 ((m.length : Int))), (103, .bool (decide (((j : Int)) < ((m.length : Int))))), (104, .bool (true)), (105, .pointer (some ⟨Ar_411bs11, 0, none⟩)), (106, .bool (true)), (107, .bool (true)), (110, .slice Am (m).length cm), (111, .int .i64 ((j : Int))), (112, .pointer (some ⟨b423, o424, none⟩)), (113, .pointer (some ⟨b423, o424, none⟩)), (114, .int .i64 ((m.getD (j) (0, 0, [])).1)), (115, .bool (decide (((m.getD (j) (0, 0, [])).1) = (1)))), (116, .bool (false)), (127, .bool (false)), (128, .tuple #[.pointer (some ⟨br562_1, 0, none⟩), .agg #[.slice Ar562_2 (stpS (M) (c) (d) ((m.getD (j) (0, 0, [])).1) ((m.getD (j) (0, 0, [])).2.1) ((m.getD (j) (0, 0, [])).2.2)).length cr562_2, .int .i64 (stpT (c) ((m.getD (j) (0, 0, [])).1) ((m.getD (j) (0, 0, [])).2.1) ((m.getD (j) (0, 0, [])).2.2)), .int .i64 (stpM (c) (d) ((m.getD (j) (0, 0, [])).1) ((m.getD (j) (0, 0, [])).2.1))], .bool (true)]), (129, .pointer (some ⟨Ar_411bs11, 0, none⟩)), (130, .agg #[.slice Ar_411fc12_0 (M).length cr_411fc12_0, .int .i64 (c), .int .i64 (d)]), (131, .slice Am (m).length cm), (132, .int .i64 ((j : Int))), (133, .pointer (some ⟨b531, o532, none⟩)), (134, .agg #[.int .i64 ((m.getD (j) (0, 0, [])).1), .int .i64 ((m.getD (j) (0, 0, [])).2.1), .slice A537 ((m.getD (j) (0, 0, [])).2.2).length c538]), (135, .tuple #[.pointer (some ⟨br562_1, 0, none⟩), .agg #[.slice Ar562_2 (stpS (M) (c) (d) ((m.getD (j) (0, 0, [])).1) ((m.getD (j) (0, 0, [])).2.1) ((m.getD (j) (0, 0, [])).2.2)).length cr562_2, .int .i64 (stpT (c) ((m.getD (j) (0, 0, [])).1) ((m.getD (j) (0, 0, [])).2.1) ((m.getD (j) (0, 0, [])).2.2)), .int .i64 (stpM (c) (d) ((m.getD (j) (0, 0, [])).1) ((m.getD (j) (0, 0, [])).2.1))], .bool (true)]), (136, .pointer (some ⟨br562_1, 0, none⟩)), (137, .agg #[.slice Ar562_2 (stpS (M) (c) (d) ((m.getD (j) (0, 0, [])).1) ((m.getD (j) (0, 0, [])).2.1) ((m.getD (j) (0, 0, [])).2.2)).length cr562_2, .int .i64 (stpT (c) ((m.getD (j) (0, 0, [])).1) ((m.getD (j) (0, 0, [])).2.1) ((m.getD (j) (0, 0, [])).2.2)), .int .i64 (stpM (c) (d) ((m.getD (j) (0, 0, [])).1) ((m.getD (j) (0, 0, [])).2.1))]), (138, .bool (true))] (by kernel_rfl) (fun g575 => ?_)
                refine wp_drawN hM574 [(.blk b566 (.cells #[.slice Ar562_2 (stpS (M) (c) (d) ((m.getD (j) (0, 0, [])).1) ((m.getD (j) (0, 0, [])).2.1) ((m.getD (j) (0, 0, [])).2.2)).length cr562_2, .int .i64 (stpT (c) ((m.getD (j) (0, 0, [])).1) ((m.getD (j) (0, 0, [])).2.1) ((m.getD (j) (0, 0, [])).2.2)), .int .i64 (stpM (c) (d) ((m.getD (j) (0, 0, [])).1) ((m.getD (j) (0, 0, [])).2.1))] 50), 9999)] (and_held 0 rfl no_held) [] [0, 1, 2] [.a 3] [.p 0, .p 1, .p 2, .s, .a 3] rfl (by kernel_rfl) (by kernel_rfl) ?_
                refine h_seg 1 (by kernel_rfl) ?_
                refine gH (.load 50 (.tmp 23)) (some 140) (by kernel_rfl) (Y_load 0 (by kernel_rfl : (FOf _ _ _)[0]? = some (.blk b566 (.cells #[.slice Ar562_2 (stpS (M) (c) (d) ((m.getD (j) (0, 0, [])).1) ((m.getD (j) (0, 0, [])).2.1) ((m.getD (j) (0, 0, [])).2.2)).length cr562_2, .int .i64 (stpT (c) ((m.getD (j) (0, 0, [])).1) ((m.getD (j) (0, 0, [])).2.1) ((m.getD (j) (0, 0, [])).2.2)), .int .i64 (stpM (c) (d) ((m.getD (j) (0, 0, [])).1) ((m.getD (j) (0, 0, [])).2.1))] 50))) (off := 0) (by kernel_rfl) (.agg #[.slice Ar562_2 (stpS (M) (c) (d) ((m.getD (j) (0, 0, [])).1) ((m.getD (j) (0, 0, [])).2.1) ((m.getD (j) (0, 0, [])).2.2)).length cr562_2, .int .i64 (stpT (c) ((m.getD (j) (0, 0, [])).1) ((m.getD (j) (0, 0, [])).2.1) ((m.getD (j) (0, 0, [])).2.2)), .int .i64 (stpM (c) (d) ((m.getD (j) (0, 0, [])).1) ((m.getD (j) (0, 0, [])).2.1))]) (by kernel_rfl)) ?_
                refine h_seg 1 (by kernel_rfl) ?_
                refine h_s no_fs ?_
                refine h_a (by kernel_rfl) (by kernel_rfl) (fun w576 X577 hM578 => ?_)
                refine wpF_store hM578 2 rfl (h := (by kernel_rfl : opAt _ _ _ _ _ = some (.store 50 (.tmp 12) (.tmp 140), none))) (off := 0) (by kernel_rfl) #[.slice Ar562_2 (stpS (M) (c) (d) ((m.getD (j) (0, 0, [])).1) ((m.getD (j) (0, 0, [])).2.1) ((m.getD (j) (0, 0, [])).2.2)).length cr562_2, .int .i64 (stpT (c) ((m.getD (j) (0, 0, [])).1) ((m.getD (j) (0, 0, [])).2.1) ((m.getD (j) (0, 0, [])).2.2)), .int .i64 (stpM (c) (d) ((m.getD (j) (0, 0, [])).1) ((m.getD (j) (0, 0, [])).2.1))] (by kernel_rfl) (by kernel_rfl) (by kernel_rfl) (by kernel_rfl) (fun w580 hM579 => ?_)
                have hM581 : Step V w [] V556 _ ([.blk b566 (.cells #[.slice Ar562_2 (stpS (M) (c) (d) ((m.getD (j) (0, 0, [])).1) ((m.getD (j) (0, 0, [])).2.1) ((m.getD (j) (0, 0, [])).2.2)).length cr562_2, .int .i64 (stpT (c) ((m.getD (j) (0, 0, [])).1) ((m.getD (j) (0, 0, [])).2.1) ((m.getD (j) (0, 0, [])).2.2)), .int .i64 (stpM (c) (d) ((m.getD (j) (0, 0, [])).1) ((m.getD (j) (0, 0, [])).2.1))] 50), spE br562_1 Ar562_1 cr562_1 mr562_1 (stpS (M) (c) (d) ((m.getD (j) (0, 0, [])).1) ((m.getD (j) (0, 0, [])).2.1) ((m.getD (j) (0, 0, [])).2.2)) (stpT (c) ((m.getD (j) (0, 0, [])).1) ((m.getD (j) (0, 0, [])).2.1) ((m.getD (j) (0, 0, [])).2.2)) (stpM (c) (d) ((m.getD (j) (0, 0, [])).1) ((m.getD (j) (0, 0, [])).2.1)), .blk b47 (.cells #[.slice Ar562_2 (stpS (M) (c) (d) ((m.getD (j) (0, 0, [])).1) ((m.getD (j) (0, 0, [])).2.1) ((m.getD (j) (0, 0, [])).2.2)).length cr562_2, .int .i64 (stpT (c) ((m.getD (j) (0, 0, [])).1) ((m.getD (j) (0, 0, [])).2.1) ((m.getD (j) (0, 0, [])).2.2)), .int .i64 (stpM (c) (d) ((m.getD (j) (0, 0, [])).1) ((m.getD (j) (0, 0, [])).2.1))] 50)] ++ X577) := hM579
                refine wpF_end _ (by kernel_rfl) (then_n (h_d [(.blk b566 (.cells #[.slice Ar562_2 (stpS (M) (c) (d) ((m.getD (j) (0, 0, [])).1) ((m.getD (j) (0, 0, [])).2.1) ((m.getD (j) (0, 0, [])).2.2)).length cr562_2, .int .i64 (stpT (c) ((m.getD (j) (0, 0, [])).1) ((m.getD (j) (0, 0, [])).2.1) ((m.getD (j) (0, 0, [])).2.2)), .int .i64 (stpM (c) (d) ((m.getD (j) (0, 0, [])).1) ((m.getD (j) (0, 0, [])).2.1))] 50), 9999)] (by kernel_rfl) [.blk b566 (.cells #[.slice Ar562_2 (stpS (M) (c) (d) ((m.getD (j) (0, 0, [])).1) ((m.getD (j) (0, 0, [])).2.1) ((m.getD (j) (0, 0, [])).2.2)).length cr562_2, .int .i64 (stpT (c) ((m.getD (j) (0, 0, [])).1) ((m.getD (j) (0, 0, [])).2.1) ((m.getD (j) (0, 0, [])).2.2)), .int .i64 (stpM (c) (d) ((m.getD (j) (0, 0, [])).1) ((m.getD (j) (0, 0, [])).2.1))] 50), spE br562_1 Ar562_1 cr562_1 mr562_1 (stpS (M) (c) (d) ((m.getD (j) (0, 0, [])).1) ((m.getD (j) (0, 0, [])).2.1) ((m.getD (j) (0, 0, [])).2.2)) (stpT (c) ((m.getD (j) (0, 0, [])).1) ((m.getD (j) (0, 0, [])).2.1) ((m.getD (j) (0, 0, [])).2.2)) (stpM (c) (d) ((m.getD (j) (0, 0, [])).1) ((m.getD (j) (0, 0, [])).2.1)), .blk b47 (.cells #[.slice Ar562_2 (stpS (M) (c) (d) ((m.getD (j) (0, 0, [])).1) ((m.getD (j) (0, 0, [])).2.1) ((m.getD (j) (0, 0, [])).2.2)).length cr562_2, .int .i64 (stpT (c) ((m.getD (j) (0, 0, [])).1) ((m.getD (j) (0, 0, [])).2.1) ((m.getD (j) (0, 0, [])).2.2)), .int .i64 (stpM (c) (d) ((m.getD (j) (0, 0, [])).1) ((m.getD (j) (0, 0, [])).2.1))] 50)] hM581 (and_held 0 rfl no_held) (VT.le.refl _) ?_))
                refine h_n (fun w582 hM583 => ?_)
                refine  (blk_n (then_n (hK416 _ _ ?_)))
                refine wp_reg ?_
                refine wpF_seg 1 (by kernel_rfl) ?_
                refine gF hM583 (.binOp .add 3 (.tmp 108) (.const (.int .i64 1)) 3) (some 109) (by kernel_rfl) (Y_add .i64 ((j : Int)) (1) ((j : Int) + 1) (by kernel_rfl) (by kernel_rfl) (wrap64_ok _ (by omega))) ?_
                refine wpF_seg 1 (by kernel_rfl) ?_
                refine wpF_base [(1, .slice Am (m).length cm), (2, .int .i64 (t)), (3, bs (f)), (4, bs (u)), (10, .bool (false)), (11, .pointer (some ⟨br562_1, 0, none⟩)), (12, .pointer (some ⟨b47, 0, none⟩)), (17, .slice Ar126_1 (scnR (L) (a) (b) (f) (u) (t) (-1)).length cr126_1), (19, bs (getS ((L)) ((a)) ((b)) (f) (t))), (20, .int .i64 (getE ((L)) ((a)) ((b)) (f) (t))), (21, .int .i64 ((j + 1 : Int)))] (by kernel_rfl) (fun g584 => ?_)
                have hM585 := (hM583.front 0 rfl).drop
                refine wpF_end _ (by kernel_rfl) (then_n (hK411 _ _ (j + 1, stpS (M) (c) (d) ((m.getD (j) (0, 0, [])).1) ((m.getD (j) (0, 0, [])).2.1) ((m.getD (j) (0, 0, [])).2.2), stpT (c) ((m.getD (j) (0, 0, [])).1) ((m.getD (j) (0, 0, [])).2.1) ((m.getD (j) (0, 0, [])).2.2), stpM (c) (d) ((m.getD (j) (0, 0, [])).1) ((m.getD (j) (0, 0, [])).2.1)) (by omega) ?_))
                refine ⟨g584, V556, Ar562_1, cr562_1, br562_1, mr562_1, Ar562_2, cr562_2, rfl, hM585, (le410.trans le559), r563, ?_, ?_, ?_, ?_⟩
                · -- ffLfffLtf inv 0
                  omega
                · -- ffLfffLtf inv 1
                  exact hgn
                · -- ffLfffLtf inv 2
                  exact (vw_step hld (by assumption) (show ¬ ((m.getD (j) (0, 0, [])).1 = 1 ∧ t < d + (m.getD (j) (0, 0, [])).2.1) by omega)).1
                · -- ffLfffLtf inv 3
                  exact fun y => ((vw_step hld (by assumption) (show ¬ ((m.getD (j) (0, 0, [])).1 = 1 ∧ t < d + (m.getD (j) (0, 0, [])).2.1) by omega)).2 y).trans ((by assumption : ∀ y, vw M t y = vw L t y) y)
            · -- ffLfffLf
              have p586 : ¬ (((j : Int)) < ((m.length : Int))) := of_decide_eq_false h414
              have hj : j = m.length := by omega
              have hgM : Good ((0 + fewN l l.length) + fewN m m.length) (M, c, d) := by rw [← hj]; assumption
              have hkM : kepE t c d = 0 := by assumption
              have hvw : ∀ y, vw M t y = vw L t y := by assumption
              have hupM : UP (keysOf M) := (ld_spi hgM.1).1
              have hfm2 := few_all hfm
              have hnm : M.length ≤ (0 + fewN l l.length) + fewN m m.length := hgM.2.1
              refine wpF_seg 3 (by kernel_rfl) ?_
              refine wpF_end _ (by kernel_rfl) (then_n (hK413 _ _ ?_))
              refine wp_cf (by kernel_rfl) ?_
              refine wp_exit (then_x (then_x (blk_hit (then_n (hK401 _ _ ?_)))))
              obtain rfl : j = m.length := by omega
              refine wp_seq_k (fun K587 hK587 => ?_)
              refine wp_seq_k (fun K588 hK588 => ?_)
              refine wp_reg ?_
              refine wpF_seg 1 (by kernel_rfl) ?_
              refine gF hM409 (.binOp .eql 53 (.tmp 141) (.const (.pointer none)) 53) (some 142) (by kernel_rfl) (Y_eql (.pointer (some ⟨Ar_411bs11, 0, none⟩)) (.pointer none) (false) (by kernel_rfl) (by kernel_rfl) (by kernel_rfl)) ?_
              refine wpF_end _ (by kernel_rfl) (then_n (hK588 _ _ ?_))
              refine wp_cf (by kernel_rfl) ?_
              refine wp_skip (then_n (hK587 _ _ ?_))
              refine wp_seq_k (fun K589 hK589 => ?_)
              refine wp_reg ?_
              refine wpF_seg 4 (by kernel_rfl) ?_
              have hM590 := hM409.front 0 rfl
              have hM598 : Step V w [] Vl403 _ ([spE Ar_411bs11 Ar_411s11 cr_411s11 Ar_411ms11 (M) (c) (d), .blk b47 (.cells #[.slice Ar_411fc12_0 (M).length cr_411fc12_0, .int .i64 (c), .int .i64 (d)] 50)]) := hM590
              refine wpF_callE [spE Ar_411bs11 Ar_411s11 cr_411s11 Ar_411ms11 (M) (c) (d)] ([.blk b47 (.cells #[.slice Ar_411fc12_0 (M).length cr_411fc12_0, .int .i64 (c), .int .i64 (d)] 50)]) hM598 (f := 37) (caps := #[]) (h := (by kernel_rfl : opAt _ _ _ _ _ = some (.call (.mk (.value (.func 37)) #[(.tmp 144), (.tmp 145), (.tmp 146), (.tmp 147), (.const (.int .i64 (-1)))] #[53, 9, 9, 3, 3]), some 148))) (by kernel_rfl) (by kernel_rfl) (by kernel_rfl) (f37 _ _ Ar_411bs11 Ar_411s11 cr_411s11 Ar_411ms11 (M) (c) (d) (f) (hf) (u) (hu) (t) (-1) (St.part (E := [spE Ar_411bs11 Ar_411s11 cr_411s11 Ar_411ms11 (M) (c) (d)]) (F := ([.blk b47 (.cells #[.slice Ar_411fc12_0 (M).length cr_411fc12_0, .int .i64 (c), .int .i64 (d)] 50)])) hM598.ok) (by omega)) (fun v591 V592 w593 Eo594 le595 hM596 hp597 => ?_)
              obtain ⟨Ar598_1, cr598_1, rfl, rfl, r599⟩ := hp597
              have hM600 : Step V w [] V592 _ ([spE Ar_411bs11 Ar_411s11 cr_411s11 Ar_411ms11 ((M)) ((c)) ((d)), .blk b47 (.cells #[.slice Ar_411fc12_0 (M).length cr_411fc12_0, .int .i64 (c), .int .i64 (d)] 50)]) := hM596
              have l601 : (scnR (M) (c) (d) (f) (u) (t) (-1)).length ≤ 140737488355328 := r599.max
              refine wpF_seg 5 (by kernel_rfl) ?_
              refine wpF_end _ (by kernel_rfl) (then_n (hK589 _ _ ?_))
              refine wp_seq_k (fun K602 hK602 => ?_)
              refine wp_reg ?_
              refine wpF_seg 3 (by kernel_rfl) ?_
              have hM603 := hM600.front 0 rfl
              have hM611 : Step V w [] V592 _ ([spE Ar_411bs11 Ar_411s11 cr_411s11 Ar_411ms11 ((M)) ((c)) ((d)), .blk b47 (.cells #[.slice Ar_411fc12_0 (M).length cr_411fc12_0, .int .i64 (c), .int .i64 (d)] 50)]) := hM603
              refine wpF_callE [spE Ar_411bs11 Ar_411s11 cr_411s11 Ar_411ms11 ((M)) ((c)) ((d))] ([.blk b47 (.cells #[.slice Ar_411fc12_0 (M).length cr_411fc12_0, .int .i64 (c), .int .i64 (d)] 50)]) hM611 (f := 40) (caps := #[]) (h := (by kernel_rfl : opAt _ _ _ _ _ = some (.call (.mk (.value (.func 40)) #[(.tmp 152), (.tmp 153), (.tmp 154)] #[53, 9, 3]), some 155))) (by kernel_rfl) (by kernel_rfl) (by kernel_rfl) (f40 _ _ Ar_411bs11 Ar_411s11 cr_411s11 Ar_411ms11 ((M)) ((c)) ((d)) (f) (hf) (t) (St.part (E := [spE Ar_411bs11 Ar_411s11 cr_411s11 Ar_411ms11 ((M)) ((c)) ((d))]) (F := ([.blk b47 (.cells #[.slice Ar_411fc12_0 (M).length cr_411fc12_0, .int .i64 (c), .int .i64 (d)] 50)])) hM611.ok)) (fun v604 V605 w606 Eo607 le608 hM609 hp610 => ?_)
              obtain ⟨rfl, rfl, x612⟩ := hp610
              have hM613 : Step V w [] V605 _ ([spE Ar_411bs11 Ar_411s11 cr_411s11 Ar_411ms11 (((M))) (((c))) (((d))), .blk b47 (.cells #[.slice Ar_411fc12_0 (M).length cr_411fc12_0, .int .i64 (c), .int .i64 (d)] 50)]) := hM609
              have x612 : (getS ((M)) ((c)) ((d)) (f) (t)).length ≤ 140737488355328 := x612
              refine wpF_seg 5 (by kernel_rfl) ?_
              refine wpF_end _ (by kernel_rfl) (then_n (hK602 _ _ ?_))
              refine wp_seq_k (fun K614 hK614 => ?_)
              refine wp_reg ?_
              refine wpF_seg 2 (by kernel_rfl) ?_
              refine wpF_callP hM613 (f := 38) (caps := #[]) (h := (by kernel_rfl : opAt _ _ _ _ _ = some (.call (.mk (.value (.func 38)) #[(.tmp 158), (.tmp 159)] #[60, 60]), some 160))) (by kernel_rfl) (by kernel_rfl) (by kernel_rfl) (f38 _ _ hM613.inW Ar126_1 cr126_1 (scnR (L) (a) (b) (f) (u) (t) (-1)) (r127.up (((le136.trans le410).trans le595).trans le608)) Ar598_1 cr598_1 (scnR (M) (c) (d) (f) (u) (t) (-1)) (r599.up le608)) (fun v615 V616 w617 le618 hM619 hp620 => ?_)
              obtain rfl := hp620
              refine wpF_seg 1 (by kernel_rfl) ?_
              have h621 : (decide ((scnR (L) (a) (b) (f) (u) (t) (-1)) = (scnR (M) (c) (d) (f) (u) (t) (-1)))) = true := by exact decide_eq_true (scn_vw hup hupM hk0 hkM hvw).symm
              have p622 : ((scnR (L) (a) (b) (f) (u) (t) (-1)) = (scnR (M) (c) (d) (f) (u) (t) (-1))) := of_decide_eq_true h621
              refine wpF_slot 161 (.bool (decide ((scnR (L) (a) (b) (f) (u) (t) (-1)) = (scnR (M) (c) (d) (f) (u) (t) (-1))))) (.bool true) (by kernel_rfl) (by kernel_rfl) (by rw [h621]) ?_
              refine wpF_seg 4 (by kernel_rfl) ?_
              have h623 : (decide ((kepE (t) (c) (d)) = (0))) = true := by exact decide_eq_true hkM
              have p624 : ((kepE (t) (c) (d)) = (0)) := of_decide_eq_true h623
              refine wpF_slot 165 (.bool (decide ((kepE (t) (c) (d)) = (0)))) (.bool true) (by kernel_rfl) (by kernel_rfl) (by rw [h623]) ?_
              refine wpF_seg 5 (by kernel_rfl) ?_
              have h625 : (decide ((getS ((L)) ((a)) ((b)) (f) (t)) = (getS ((M)) ((c)) ((d)) (f) (t)))) = true := by exact decide_eq_true (by rw [getS_vw hk0, getS_vw hkM, hvw])
              have p626 : ((getS ((L)) ((a)) ((b)) (f) (t)) = (getS ((M)) ((c)) ((d)) (f) (t))) := of_decide_eq_true h625
              refine wpF_slot 170 (.bool (decide ((getS ((L)) ((a)) ((b)) (f) (t)) = (getS ((M)) ((c)) ((d)) (f) (t))))) (.bool true) (by kernel_rfl) (by kernel_rfl) (by rw [h625]) ?_
              refine wpF_seg 5 (by kernel_rfl) ?_
              have h627 : (decide ((getE ((L)) ((a)) ((b)) (f) (t)) = (getE ((M)) ((c)) ((d)) (f) (t)))) = true := by exact decide_eq_true (by rw [getE_vw hk0, getE_vw hkM, hvw])
              have p628 : ((getE ((L)) ((a)) ((b)) (f) (t)) = (getE ((M)) ((c)) ((d)) (f) (t))) := of_decide_eq_true h627
              refine wpF_slot 175 (.bool (decide ((getE ((L)) ((a)) ((b)) (f) (t)) = (getE ((M)) ((c)) ((d)) (f) (t))))) (.bool true) (by kernel_rfl) (by kernel_rfl) (by rw [h627]) ?_
              refine wpF_callP hM619 (f := 34) (caps := #[]) (h := (by kernel_rfl : opAt _ _ _ _ _ = some (.call (.mk (.value (.func 34)) #[] #[]), some 176))) (by kernel_rfl) (by kernel_rfl) (by kernel_rfl) (f34 _ _ hM619.inW ) (fun v629 V630 w631 le632 hM633 hp634 => ?_)
              obtain rfl := hp634
              refine wpF_seg 2 (by kernel_rfl) ?_
              refine wpF_end _ (by kernel_rfl) (then_n (hK614 _ _ ?_))
              refine wp_ret ?_
              refine retN [.bool (true)] (.bool (true)) Try.results11 (.tmp (by kernel_rfl) (by kernel_rfl) .nil) (by kernel_rfl) (hRet _ _ ⟨_, _, rfl, hM633.clear, ?_⟩)
              -- end ffLfffLf
              rfl

end Go.Vk
