import Derived.Test.YtnibbocbefnnnaaRIt
import Derived.Test.YtnibbocbefnnnaaRMathSp
import Derived.Test.YtnibbocbefnnnaaRPlainSp
import Derived.Test.YtnibbocbefnnnaaRSg
import Derived.Test.YtnibbocbefnnnaaRSi
import Derived.Test.YtnibbocbefnnnaaRSk
import Derived.Test.YtnibbocbefnnnaaRSm
import Derived.Test.YtnibbocbefnnnaaRSp
import Derived.Test.YtnibbocbefnnnaaRSq
set_option linter.unusedVariables false
set_option linter.unusedSimpArgs false
namespace Go.Vk
open Go.Proofs
variable {D : List Deferred}
set_option maxHeartbeats 4000000 in
set_option maxRecDepth 100000 in
theorem f46 (V : VT) (w : World) (bp : Nat) (Ap : Option Addr) (cp mp : Nat) (pL : List (Str × List (Int × Str × Bool))) (pl pm : Int) (AsL : Option Addr) (csL : Nat) (sL : List ((Str × (List ((Int × Str × Bool)))))) (hsL : Rd (prK strK (slK (prK (intK .i64) (prK strK boolK)))) V AsL csL sL) (sa : Int) (sb : Int) (hS : St V w [spE bp Ap cp mp (pL) (pl) (pm)]) (h5 : pL.length ≤ 99000) (hb : ∀ y, (lkD y pL).length ≤ 4398046511104) :
    Calls Try.prog 46 #[.pointer (some ⟨bp, 0, none⟩), .agg #[.slice AsL (sL).length csL, .int .i64 (sa), .int .i64 (sb)]] w (Ret V w [spE bp Ap cp mp (pL) (pl) (pm)] fun rv V' E' => rv = .bool (decide (pL = sL) && decide (pl = sa) && decide (pm = sb)) ∧ E' = [spE bp Ap cp mp (pL) (pl) (pm)]) := by
  have mxsL : sL.length ≤ 140737488355328 := hsL.max
  refine calls_env (n := 28) Try.func46 (c := _) rfl Try.ntmps46 (by kernel_rfl) (fun R hRet => ?_)
  have hV := hS.inW
  have hM0 : Step V w [spE bp Ap cp mp (pL) (pl) (pm)] V w [spE bp Ap cp mp (pL) (pl) (pm)] := Step.refl hS
  refine wp_seq_k (fun K1 hK1 => ?_)
  refine wp_reg ?_
  refine wpF_box hM0 #[.slice AsL (sL).length csL, .int .i64 (sa), .int .i64 (sb)] (h := (by kernel_rfl : opAt _ _ _ _ _ = some (.box 50 (.tmp 1), some 3))) (by kernel_rfl) (fun b2 w3 hM4 => ?_)
  obtain ⟨V5, le6, hM7, hc8⟩ := hM4.settle 0 rfl
  have hM9 : Step V w [spE bp Ap cp mp (pL) (pl) (pm)] V5 _ ([spE bp Ap cp mp (pL) (pl) (pm)]) := hM7
  refine wpF_seg 1 (by kernel_rfl) ?_
  refine wpF_end _ (by kernel_rfl) (then_n (hK1 _ _ ?_))
  refine wp_seq_k (fun K10 hK10 => ?_)
  have hM11 := hM9.openSp 0 rfl
  have hs12 : SpI (pL) := (hM9.spOk 0 rfl)
  have hM13 : Step V w [spE bp Ap cp mp (pL) (pl) (pm)] V5 _ ([.blk bp (.cells #[.slice Ap (keysOf (pL)).length cp, .map (some mp), .int .i64 (pl), .int .i64 (pm)] 71), .row strK 9 Ap cp (keysOf (pL)), mapE false (slK (prK (intK .i64) (prK strK boolK))) mp (fun k_ => lk k_ (pL))]) := hM11
  refine wp_base [(0, .pointer (some ⟨bp, 0, none⟩)), (3, .pointer (some ⟨b2, 0, none⟩)), (4, .bool (false))] (by kernel_rfl) (fun g14 => ?_)
  refine wp_drawN hM13 [] no_held [] [0, 1, 2, 3, 5, 6] [.a 4, .a 7, .p 8, .p 9, .p 10, .p 12, .p 13, .a 11, .p 14, .p 15, .p 16, .p 17, .p 19, .p 20, .a 18, .p 21, .p 22, .p 23] [.p 0, .p 1, .p 2, .p 3, .p 5, .p 6, .s, .a 4, .a 7, .p 8, .p 9, .p 10, .p 12, .p 13, .a 11, .p 14, .p 15, .p 16, .p 17, .p 19, .p 20, .a 18, .p 21, .p 22, .p 23] rfl (by kernel_rfl) (by kernel_rfl) ?_
  refine h_seg 1 (by kernel_rfl) ?_
  refine gH (.binOp .neq 53 (.tmp 5) (.const (.pointer none)) 53) (some 6) (by kernel_rfl) (Y_neq (.pointer (some ⟨bp, 0, none⟩)) (.pointer none) (false) (by kernel_rfl) (by kernel_rfl) (by kernel_rfl)) ?_
  refine h_seg 3 (by kernel_rfl) ?_
  refine gH (.load 46 (.tmp 10)) (some 11) (by kernel_rfl) (Y_loadB #[.slice AsL (sL).length csL, .int .i64 (sa), .int .i64 (sb)] hc8 (off := 0) (by kernel_rfl) (.slice AsL (sL).length csL) (by kernel_rfl)) ?_
  refine h_s no_fs ?_
  refine h_a (by kernel_rfl) (by kernel_rfl) (fun w15 X16 hM17 => ?_)
  have hM18 := hM17.front 2 rfl
  have hM19 := hM18.front 2 rfl
  have hM20 := hM19.front 2 rfl
  have hM21 : Step V w [spE bp Ap cp mp (pL) (pl) (pm)] V5 _ ([.blk bp (.cells #[.slice Ap (keysOf (pL)).length cp, .map (some mp), .int .i64 (pl), .int .i64 (pm)] 71), .row strK 9 Ap cp (keysOf (pL)), mapE false (slK (prK (intK .i64) (prK strK boolK))) mp (fun k_ => lk k_ (pL))] ++ X16) := hM20
  have hk22 : keysOf (pL) = keysOf (pL) := rfl
  have hf23 : (fun k_ => lk k_ (pL)) = (fun k_ => lk k_ (pL)) := rfl
  have ho24 : SpI (pL) := hs12
  have hM25 : Step V w [spE bp Ap cp mp (pL) (pl) (pm)] V5 _ (spE bp Ap cp mp (pL) (pl) (pm) :: [] ++ X16) := Step.closeSp hk22 hf23 ho24 (by exact hM21)
  have hM26 : Step V w [spE bp Ap cp mp (pL) (pl) (pm)] V5 _ ([spE bp Ap cp mp (pL) (pl) (pm)] ++ X16) := hM25
  have hM27 := hM26.front 0 rfl
  have hM35 : Step V w [spE bp Ap cp mp (pL) (pl) (pm)] V5 _ ([spE bp Ap cp mp (pL) (pl) (pm)] ++ X16) := hM27
  refine wpF_callE [spE bp Ap cp mp (pL) (pl) (pm)] ([] ++ X16) hM35 (f := 44) (caps := #[]) (h := (by kernel_rfl : opAt _ _ _ _ _ = some (.call (.mk (.value (.func 44)) #[(.tmp 8)] #[53]), some 9))) (by kernel_rfl) (by kernel_rfl) (by kernel_rfl) (f44 _ _ bp Ap cp mp (pL) (pl) (pm) (St.part (E := [spE bp Ap cp mp (pL) (pl) (pm)]) (F := ([] ++ X16)) hM35.ok) (by omega) (by assumption)) (fun v28 V29 w30 Eo31 le32 hM33 hp34 => ?_)
  obtain ⟨Ar35_1, cr35_1, rfl, rfl, r36⟩ := hp34
  have hM37 : Step V w [spE bp Ap cp mp (pL) (pl) (pm)] V29 _ ([spE bp Ap cp mp ((pL)) ((pl)) ((pm))] ++ X16) := hM33
  have l38 : ((pL)).length ≤ 140737488355328 := r36.max
  refine wpF_end _ (by kernel_rfl) (then_n (h_d [] (by kernel_rfl) [spE bp Ap cp mp ((pL)) ((pl)) ((pm))] hM37 no_held le32 ?_))
  refine h_a (by kernel_rfl) (by kernel_rfl) (fun w39 X40 hM41 => ?_)
  refine wpF_callP hM41 (f := 91) (caps := #[]) (h := (by kernel_rfl : opAt _ _ _ _ _ = some (.call (.mk (.value (.func 91)) #[(.tmp 9), (.tmp 11)] #[46, 46]), some 12))) (by kernel_rfl) (by kernel_rfl) (by kernel_rfl) (f91 _ _ hM41.inW Ar35_1 cr35_1 ((pL)) r36 AsL csL (sL) (hsL.up hM41.le)) (fun v42 V43 w44 le45 hM46 hp47 => ?_)
  obtain rfl := hp47
  refine wpF_end _ (by kernel_rfl) (then_n (h_d [] (by kernel_rfl) [spE bp Ap cp mp ((pL)) ((pl)) ((pm))] hM46 no_held le45 ?_))
  refine h_seg 2 (by kernel_rfl) ?_
  refine h_caseB 14 (decide (((pL)) = (sL))) (by kernel_rfl) (by kernel_rfl) (fun h48 => ?_) (fun h48 => ?_)
  · -- t
    have p49 : (((pL)) = (sL)) := of_decide_eq_true h48
    refine h_seg 2 (by kernel_rfl) ?_
    refine gH (.load 3 (.tmp 17)) (some 18) (by kernel_rfl) (Y_loadB #[.slice AsL (sL).length csL, .int .i64 (sa), .int .i64 (sb)] (fun i v hi => (le32.trans le45) _ _ _ (hc8 i v hi)) (off := 1) (by kernel_rfl) (.int .i64 (sa)) (by kernel_rfl)) ?_
    refine h_a (by kernel_rfl) (by kernel_rfl) (fun w50 X51 hM52 => ?_)
    have hM53 := hM52.front 0 rfl
    have hM61 : Step V w [spE bp Ap cp mp (pL) (pl) (pm)] V43 _ ([spE bp Ap cp mp ((pL)) ((pl)) ((pm))] ++ X51) := hM53
    refine wpF_callE [spE bp Ap cp mp ((pL)) ((pl)) ((pm))] ([] ++ X51) hM61 (f := 39) (caps := #[]) (h := (by kernel_rfl : opAt _ _ _ _ _ = some (.call (.mk (.value (.func 39)) #[(.tmp 15)] #[53]), some 16))) (by kernel_rfl) (by kernel_rfl) (by kernel_rfl) (f39 _ _ bp Ap cp mp ((pL)) ((pl)) ((pm)) (St.part (E := [spE bp Ap cp mp ((pL)) ((pl)) ((pm))]) (F := ([] ++ X51)) hM61.ok)) (fun v54 V55 w56 Eo57 le58 hM59 hp60 => ?_)
    obtain ⟨rfl, rfl⟩ := hp60
    have hM62 : Step V w [spE bp Ap cp mp (pL) (pl) (pm)] V55 _ ([spE bp Ap cp mp (((pL))) (((pl))) (((pm)))] ++ X51) := hM59
    refine wpF_end _ (by kernel_rfl) (then_n (h_d [] (by kernel_rfl) [spE bp Ap cp mp (((pL))) (((pl))) (((pm)))] hM62 no_held le58 ?_))
    refine h_seg 3 (by kernel_rfl) ?_
    refine h_caseB 21 (decide ((((pl))) = (sa))) (by kernel_rfl) (by kernel_rfl) (fun h63 => ?_) (fun h63 => ?_)
    · -- tt
      have p64 : ((((pl))) = (sa)) := of_decide_eq_true h63
      refine h_seg 2 (by kernel_rfl) ?_
      refine gH (.load 3 (.tmp 24)) (some 25) (by kernel_rfl) (Y_loadB #[.slice AsL (sL).length csL, .int .i64 (sa), .int .i64 (sb)] (fun i v hi => ((le32.trans le45).trans le58) _ _ _ (hc8 i v hi)) (off := 2) (by kernel_rfl) (.int .i64 (sb)) (by kernel_rfl)) ?_
      refine h_a (by kernel_rfl) (by kernel_rfl) (fun w65 X66 hM67 => ?_)
      have hM68 := hM67.front 0 rfl
      have hM76 : Step V w [spE bp Ap cp mp (pL) (pl) (pm)] V55 _ ([spE bp Ap cp mp (((pL))) (((pl))) (((pm)))] ++ X66) := hM68
      refine wpF_callE [spE bp Ap cp mp (((pL))) (((pl))) (((pm)))] ([] ++ X66) hM76 (f := 43) (caps := #[]) (h := (by kernel_rfl : opAt _ _ _ _ _ = some (.call (.mk (.value (.func 43)) #[(.tmp 22)] #[53]), some 23))) (by kernel_rfl) (by kernel_rfl) (by kernel_rfl) (f43 _ _ bp Ap cp mp (((pL))) (((pl))) (((pm))) (St.part (E := [spE bp Ap cp mp (((pL))) (((pl))) (((pm)))]) (F := ([] ++ X66)) hM76.ok)) (fun v69 V70 w71 Eo72 le73 hM74 hp75 => ?_)
      obtain ⟨rfl, rfl⟩ := hp75
      have hM77 : Step V w [spE bp Ap cp mp (pL) (pl) (pm)] V70 _ ([spE bp Ap cp mp ((((pL)))) ((((pl)))) ((((pm))))] ++ X66) := hM74
      refine wpF_end _ (by kernel_rfl) (then_n (h_d [] (by kernel_rfl) [spE bp Ap cp mp ((((pL)))) ((((pl)))) ((((pm))))] hM77 no_held le73 ?_))
      refine h_seg 3 (by kernel_rfl) ?_
      refine h_n (fun w78 hM79 => ?_)
      refine  (then_n (hK10 _ _ ?_))
      refine wp_ret ?_
      have hM80 := hM79.front 0 rfl
      have hM81 : Step V w [spE bp Ap cp mp (pL) (pl) (pm)] V70 _ ([spE bp Ap cp mp ((((pL)))) ((((pl)))) ((((pm))))]) := hM80
      refine retN [.bool (decide (((((pm)))) = (sb)))] (.bool (decide (((((pm)))) = (sb)))) Try.results46 (.tmp (by kernel_rfl) (by kernel_rfl) .nil) (by kernel_rfl) (hRet _ _ ⟨_, _, _, rfl, hM81, ?_⟩)
      -- end tt
      refine ⟨?_, ?_⟩
      · simp only [h48, h63, Bool.true_and, Bool.and_true, Bool.false_and, Bool.and_false, Bool.and_self]
      · rfl
    · -- tf
      have p82 : ¬ ((((pl))) = (sa)) := of_decide_eq_false h63
      refine h_seg 3 (by kernel_rfl) ?_
      refine h_a (by kernel_rfl) (by kernel_rfl) (fun w83 X84 hM85 => ?_)
      refine wpF_seg 1 (by kernel_rfl) ?_
      refine wpF_end _ (by kernel_rfl) (then_n (h_d [] (by kernel_rfl) [spE bp Ap cp mp (((pL))) (((pl))) (((pm)))] hM85 no_held (VT.le.refl _) ?_))
      refine h_seg 3 (by kernel_rfl) ?_
      refine h_n (fun w86 hM87 => ?_)
      refine  (then_n (hK10 _ _ ?_))
      refine wp_ret ?_
      have hM88 := hM87.front 0 rfl
      have hM89 : Step V w [spE bp Ap cp mp (pL) (pl) (pm)] V55 _ ([spE bp Ap cp mp (((pL))) (((pl))) (((pm)))]) := hM88
      refine retN [.bool (false)] (.bool (false)) Try.results46 (.tmp (by kernel_rfl) (by kernel_rfl) .nil) (by kernel_rfl) (hRet _ _ ⟨_, _, _, rfl, hM89, ?_⟩)
      -- end tf
      refine ⟨?_, ?_⟩
      · simp only [h48, h63, Bool.true_and, Bool.and_true, Bool.false_and, Bool.and_false, Bool.and_self]
      · rfl
  · -- f
    have p90 : ¬ (((pL)) = (sL)) := of_decide_eq_false h48
    refine h_seg 3 (by kernel_rfl) ?_
    refine h_a (by kernel_rfl) (by kernel_rfl) (fun w91 X92 hM93 => ?_)
    refine wpF_seg 1 (by kernel_rfl) ?_
    refine wpF_end _ (by kernel_rfl) (then_n (h_d [] (by kernel_rfl) [spE bp Ap cp mp ((pL)) ((pl)) ((pm))] hM93 no_held (VT.le.refl _) ?_))
    refine h_seg 6 (by kernel_rfl) ?_
    refine h_a (by kernel_rfl) (by kernel_rfl) (fun w94 X95 hM96 => ?_)
    refine wpF_seg 1 (by kernel_rfl) ?_
    refine wpF_end _ (by kernel_rfl) (then_n (h_d [] (by kernel_rfl) [spE bp Ap cp mp ((pL)) ((pl)) ((pm))] hM96 no_held (VT.le.refl _) ?_))
    refine h_seg 3 (by kernel_rfl) ?_
    refine h_n (fun w97 hM98 => ?_)
    refine  (then_n (hK10 _ _ ?_))
    refine wp_ret ?_
    have hM99 := hM98.front 0 rfl
    have hM100 : Step V w [spE bp Ap cp mp (pL) (pl) (pm)] V43 _ ([spE bp Ap cp mp ((pL)) ((pl)) ((pm))]) := hM99
    refine retN [.bool (false)] (.bool (false)) Try.results46 (.tmp (by kernel_rfl) (by kernel_rfl) .nil) (by kernel_rfl) (hRet _ _ ⟨_, _, _, rfl, hM100, ?_⟩)
    -- end f
    refine ⟨?_, ?_⟩
    · simp only [h48, Bool.true_and, Bool.and_true, Bool.false_and, Bool.and_false, Bool.and_self]
    · rfl

set_option maxHeartbeats 4000000 in
set_option maxRecDepth 100000 in
theorem f47 (V : VT) (w : World) (bp : Nat) (Ap : Option Addr) (cp mp : Nat) (pL : List (Str × List (Int × Str × Bool))) (pl pm : Int) (AsL : Option Addr) (csL : Nat) (sL : List ((Str × (List ((Int × Str × Bool)))))) (hsL : Rd (prK strK (slK (prK (intK .i64) (prK strK boolK)))) V AsL csL sL) (sa : Int) (sb : Int) (y : Str) (hy : y.length ≤ maxL) (f : Str) (hf : f.length ≤ maxL) (u : Str) (hu : u.length ≤ maxL) (t : Int) (n : Int) (hS : St V w [spE bp Ap cp mp (pL) (pl) (pm)]) (h5 : pL.length ≤ 99000) (hb : ∀ y, (lkD y pL).length ≤ 4398046511104) (hsl : sL = pL) (hsa : sa = pl) (hsb : sb = pm) :
    Calls Try.prog 47 #[.pointer (some ⟨bp, 0, none⟩), .agg #[.slice AsL (sL).length csL, .int .i64 (sa), .int .i64 (sb)], bs (y), bs (f), bs (u), .int .i64 (t), .int .i64 (n)] w (Ret V w [spE bp Ap cp mp (pL) (pl) (pm)] fun rv V' E' => rv = .bool (true) ∧ E' = [spE bp Ap cp mp (pL) (pl) (pm)]) := by
  have mxsL : sL.length ≤ 140737488355328 := hsL.max
  have mxy : y.length ≤ 140737488355328 := hy
  have mxf : f.length ≤ 140737488355328 := hf
  have mxu : u.length ≤ 140737488355328 := hu
  refine calls_env (n := 86) Try.func47 (c := _) rfl Try.ntmps47 (by kernel_rfl) (fun R hRet => ?_)
  have hV := hS.inW
  have hM0 : Step V w [spE bp Ap cp mp (pL) (pl) (pm)] V w [spE bp Ap cp mp (pL) (pl) (pm)] := Step.refl hS
  have hup : SpI pL := hM0.spOk 0 rfl
  refine wp_seq_k (fun K1 hK1 => ?_)
  refine wp_reg ?_
  refine wpF_box hM0 #[.slice AsL (sL).length csL, .int .i64 (sa), .int .i64 (sb)] (h := (by kernel_rfl : opAt _ _ _ _ _ = some (.box 50 (.tmp 1), some 8))) (by kernel_rfl) (fun b2 w3 hM4 => ?_)
  obtain ⟨V5, le6, hM7, hc8⟩ := hM4.settle 0 rfl
  have hM9 : Step V w [spE bp Ap cp mp (pL) (pl) (pm)] V5 _ ([spE bp Ap cp mp (pL) (pl) (pm)]) := hM7
  refine wpF_seg 1 (by kernel_rfl) ?_
  refine wpF_end _ (by kernel_rfl) (then_n (hK1 _ _ ?_))
  refine wp_seq_k (fun K10 hK10 => ?_)
  refine wp_reg ?_
  refine wpF_seg 3 (by kernel_rfl) ?_
  have hM11 := hM9.front 0 rfl
  have hM19 : Step V w [spE bp Ap cp mp (pL) (pl) (pm)] V5 _ ([spE bp Ap cp mp (pL) (pl) (pm)]) := hM11
  refine wpF_callE [spE bp Ap cp mp (pL) (pl) (pm)] ([]) hM19 (f := 40) (caps := #[]) (h := (by kernel_rfl : opAt _ _ _ _ _ = some (.call (.mk (.value (.func 40)) #[(.tmp 24), (.tmp 25), (.tmp 26)] #[53, 9, 3]), some 27))) (by kernel_rfl) (by kernel_rfl) (by kernel_rfl) (f40 _ _ bp Ap cp mp (pL) (pl) (pm) (y) (hy) (t) (St.part (E := [spE bp Ap cp mp (pL) (pl) (pm)]) (F := ([])) hM19.ok)) (fun v12 V13 w14 Eo15 le16 hM17 hp18 => ?_)
  obtain ⟨rfl, rfl, x20⟩ := hp18
  have hM21 : Step V w [spE bp Ap cp mp (pL) (pl) (pm)] V13 _ ([spE bp Ap cp mp ((pL)) ((pl)) ((pm))]) := hM17
  have x20 : (getS (pL) (pl) (pm) (y) (t)).length ≤ 140737488355328 := x20
  refine wpF_seg 5 (by kernel_rfl) ?_
  refine wpF_end _ (by kernel_rfl) (then_n (hK10 _ _ ?_))
  refine wp_seq_k (fun K22 hK22 => ?_)
  refine wp_reg ?_
  refine gF hM21 (.load 50 (.tmp 8)) (some 31) (by kernel_rfl) (Y_loadB #[.slice AsL (sL).length csL, .int .i64 (sa), .int .i64 (sb)] (fun i v hi => le16 _ _ _ (hc8 i v hi)) (off := 0) (by kernel_rfl) (.agg #[.slice AsL (sL).length csL, .int .i64 (sa), .int .i64 (sb)]) (by kernel_rfl)) ?_
  refine wpF_seg 2 (by kernel_rfl) ?_
  refine wpF_callP hM21 (f := 92) (caps := #[]) (h := (by kernel_rfl : opAt _ _ _ _ _ = some (.call (.mk (.value (.func 92)) #[(.tmp 31), (.tmp 32), (.tmp 33)] #[50, 9, 3]), some 34))) (by kernel_rfl) (by kernel_rfl) (by kernel_rfl) (f92 _ _ hM21.inW AsL csL (sL) (hsL.up hM21.le) (sa) (sb) (y) (hy) (t)) (fun v23 V24 w25 le26 hM27 hp28 => ?_)
  obtain ⟨rfl, x29⟩ := hp28
  have x29 : (getS (sL) (sa) (sb) (y) (t)).length ≤ 140737488355328 := x29
  refine wpF_seg 5 (by kernel_rfl) ?_
  refine wpF_end _ (by kernel_rfl) (then_n (hK22 _ _ ?_))
  refine wp_seq_k (fun K30 hK30 => ?_)
  refine wp_reg ?_
  refine wpF_seg 5 (by kernel_rfl) ?_
  have hM31 := hM27.front 0 rfl
  have hM39 : Step V w [spE bp Ap cp mp (pL) (pl) (pm)] V24 _ ([spE bp Ap cp mp ((pL)) ((pl)) ((pm))]) := hM31
  refine wpF_callE [spE bp Ap cp mp ((pL)) ((pl)) ((pm))] ([]) hM39 (f := 37) (caps := #[]) (h := (by kernel_rfl : opAt _ _ _ _ _ = some (.call (.mk (.value (.func 37)) #[(.tmp 38), (.tmp 39), (.tmp 40), (.tmp 41), (.tmp 42)] #[53, 9, 9, 3, 3]), some 43))) (by kernel_rfl) (by kernel_rfl) (by kernel_rfl) (f37 _ _ bp Ap cp mp ((pL)) ((pl)) ((pm)) (f) (hf) (u) (hu) (t) (n) (St.part (E := [spE bp Ap cp mp ((pL)) ((pl)) ((pm))]) (F := ([])) hM39.ok) (by omega)) (fun v32 V33 w34 Eo35 le36 hM37 hp38 => ?_)
  obtain ⟨Ar39_1, cr39_1, rfl, rfl, r40⟩ := hp38
  have hM41 : Step V w [spE bp Ap cp mp (pL) (pl) (pm)] V33 _ ([spE bp Ap cp mp (((pL))) (((pl))) (((pm)))]) := hM37
  have l42 : (scnR ((pL)) ((pl)) ((pm)) (f) (u) (t) (n)).length ≤ 140737488355328 := r40.max
  refine wpF_seg 5 (by kernel_rfl) ?_
  refine wpF_end _ (by kernel_rfl) (then_n (hK30 _ _ ?_))
  refine wp_seq_k (fun K43 hK43 => ?_)
  refine wp_reg ?_
  refine gF hM41 (.load 50 (.tmp 8)) (some 47) (by kernel_rfl) (Y_loadB #[.slice AsL (sL).length csL, .int .i64 (sa), .int .i64 (sb)] (fun i v hi => ((le16.trans le26).trans le36) _ _ _ (hc8 i v hi)) (off := 0) (by kernel_rfl) (.agg #[.slice AsL (sL).length csL, .int .i64 (sa), .int .i64 (sb)]) (by kernel_rfl)) ?_
  refine wpF_seg 4 (by kernel_rfl) ?_
  refine wpF_callP hM41 (f := 93) (caps := #[]) (h := (by kernel_rfl : opAt _ _ _ _ _ = some (.call (.mk (.value (.func 93)) #[(.tmp 47), (.tmp 48), (.tmp 49), (.tmp 50), (.tmp 51)] #[50, 9, 9, 3, 3]), some 52))) (by kernel_rfl) (by kernel_rfl) (by kernel_rfl) (f93 _ _ hM41.inW AsL csL (sL) (hsL.up hM41.le) (sa) (sb) (f) (hf) (u) (hu) (t) (n) (by rw [hsl]; exact h5)) (fun v44 V45 w46 le47 hM48 hp49 => ?_)
  obtain ⟨Ar49_1, cr49_1, rfl, r50⟩ := hp49
  have l51 : (rscR (sL) (sa) (sb) (f) (u) (t) (n)).length ≤ 140737488355328 := r50.max
  refine wpF_seg 5 (by kernel_rfl) ?_
  refine wpF_end _ (by kernel_rfl) (then_n (hK43 _ _ ?_))
  refine wp_seq_k (fun K52 hK52 => ?_)
  have hM53 := hM48.openSp 0 rfl
  have hs54 : SpI (((pL))) := (hM48.spOk 0 rfl)
  have hM55 : Step V w [spE bp Ap cp mp (pL) (pl) (pm)] V45 _ ([.blk bp (.cells #[.slice Ap (keysOf (((pL)))).length cp, .map (some mp), .int .i64 (((pl))), .int .i64 (((pm)))] 71), .row strK 9 Ap cp (keysOf (((pL)))), mapE false (slK (prK (intK .i64) (prK strK boolK))) mp (fun k_ => lk k_ (((pL))))]) := hM53
  refine wp_base [(0, .pointer (some ⟨bp, 0, none⟩)), (3, bs (f)), (4, bs (u)), (5, .int .i64 (t)), (8, .pointer (some ⟨b2, 0, none⟩)), (14, .bool (false)), (15, bs (getS (pL) (pl) (pm) (y) (t))), (16, .int .i64 (getE (pL) (pl) (pm) (y) (t))), (17, bs (getS (sL) (sa) (sb) (y) (t))), (18, .int .i64 (getE (sL) (sa) (sb) (y) (t))), (19, .slice Ar39_1 (scnR ((pL)) ((pl)) ((pm)) (f) (u) (t) (n)).length cr39_1), (20, .int .i64 (kepE (t) ((pl)) ((pm)))), (21, .slice Ar49_1 (rscR (sL) (sa) (sb) (f) (u) (t) (n)).length cr49_1), (22, .int .i64 (kepE (t) (sa) (sb)))] (by kernel_rfl) (fun g56 => ?_)
  refine wp_drawN hM55 [] no_held [] [0, 1, 2, 3, 4, 5, 6, 7, 8, 9, 10] [.a 11, .p 12, .p 13, .p 14, .p 15, .p 16, .p 17, .p 18, .p 19, .p 20, .p 21, .p 22, .p 24, .p 25, .p 26, .p 27, .a 23, .a 28, .p 29, .p 30, .p 31] [.p 0, .p 1, .p 2, .p 3, .p 4, .p 5, .p 6, .p 7, .p 8, .p 9, .p 10, .s, .a 11, .p 12, .p 13, .p 14, .p 15, .p 16, .p 17, .p 18, .p 19, .p 20, .p 21, .p 22, .p 24, .p 25, .p 26, .p 27, .a 23, .a 28, .p 29, .p 30, .p 31] rfl (by kernel_rfl) (by kernel_rfl) ?_
  refine h_seg 4 (by kernel_rfl) ?_
  have h57 : (decide ((getS (pL) (pl) (pm) (y) (t)) = (getS (sL) (sa) (sb) (y) (t)))) = true := by first | (refine decide_eq_true ?_; simp only [hsl, hsa, hsb]; done) | (refine decide_eq_true ?_; simp only [hsl, hsa, hsb]; exact scn_eq _ _ _ _ _ _ hup.1) | (rw [hsl]; exact beq_iff_eq.2 (sin_eq _ _ _ hup.1))
  have p58 : ((getS (pL) (pl) (pm) (y) (t)) = (getS (sL) (sa) (sb) (y) (t))) := of_decide_eq_true h57
  refine h_slot 58 (.bool (decide ((getS (pL) (pl) (pm) (y) (t)) = (getS (sL) (sa) (sb) (y) (t))))) (.bool true) (by kernel_rfl) (by kernel_rfl) (by rw [h57]) ?_
  refine h_seg 5 (by kernel_rfl) ?_
  have h59 : (decide ((getE (pL) (pl) (pm) (y) (t)) = (getE (sL) (sa) (sb) (y) (t)))) = true := by first | (refine decide_eq_true ?_; simp only [hsl, hsa, hsb]; done) | (refine decide_eq_true ?_; simp only [hsl, hsa, hsb]; exact scn_eq _ _ _ _ _ _ hup.1) | (rw [hsl]; exact beq_iff_eq.2 (sin_eq _ _ _ hup.1))
  have p60 : ((getE (pL) (pl) (pm) (y) (t)) = (getE (sL) (sa) (sb) (y) (t))) := of_decide_eq_true h59
  refine h_slot 63 (.bool (decide ((getE (pL) (pl) (pm) (y) (t)) = (getE (sL) (sa) (sb) (y) (t))))) (.bool true) (by kernel_rfl) (by kernel_rfl) (by rw [h59]) ?_
  refine h_seg 2 (by kernel_rfl) ?_
  refine h_s no_fs ?_
  refine h_a (by kernel_rfl) (by kernel_rfl) (fun w61 X62 hM63 => ?_)
  refine wpF_callP hM63 (f := 38) (caps := #[]) (h := (by kernel_rfl : opAt _ _ _ _ _ = some (.call (.mk (.value (.func 38)) #[(.tmp 64), (.tmp 65)] #[60, 60]), some 66))) (by kernel_rfl) (by kernel_rfl) (by kernel_rfl) (f38 _ _ hM63.inW Ar39_1 cr39_1 (scnR ((pL)) ((pl)) ((pm)) (f) (u) (t) (n)) (r40.up le47) Ar49_1 cr49_1 (rscR (sL) (sa) (sb) (f) (u) (t) (n)) r50) (fun v64 V65 w66 le67 hM68 hp69 => ?_)
  obtain rfl := hp69
  refine wpF_end _ (by kernel_rfl) (then_n (h_d [] (by kernel_rfl) [.blk bp (.cells #[.slice Ap (keysOf (((pL)))).length cp, .map (some mp), .int .i64 (((pl))), .int .i64 (((pm)))] 71), .row strK 9 Ap cp (keysOf (((pL)))), mapE false (slK (prK (intK .i64) (prK strK boolK))) mp (fun k_ => lk k_ (((pL))))] hM68 no_held le67 ?_))
  refine h_seg 2 (by kernel_rfl) ?_
  have h70 : (decide ((scnR ((pL)) ((pl)) ((pm)) (f) (u) (t) (n)) = (rscR (sL) (sa) (sb) (f) (u) (t) (n)))) = true := by first | (refine decide_eq_true ?_; simp only [hsl, hsa, hsb]; done) | (refine decide_eq_true ?_; simp only [hsl, hsa, hsb]; exact scn_eq _ _ _ _ _ _ hup.1) | (rw [hsl]; exact beq_iff_eq.2 (sin_eq _ _ _ hup.1))
  have p71 : ((scnR ((pL)) ((pl)) ((pm)) (f) (u) (t) (n)) = (rscR (sL) (sa) (sb) (f) (u) (t) (n))) := of_decide_eq_true h70
  refine h_slot 68 (.bool (decide ((scnR ((pL)) ((pl)) ((pm)) (f) (u) (t) (n)) = (rscR (sL) (sa) (sb) (f) (u) (t) (n))))) (.bool true) (by kernel_rfl) (by kernel_rfl) (by rw [h70]) ?_
  refine h_seg 5 (by kernel_rfl) ?_
  have h72 : (decide ((kepE (t) ((pl)) ((pm))) = (kepE (t) (sa) (sb)))) = true := by first | (refine decide_eq_true ?_; simp only [hsl, hsa, hsb]; done) | (refine decide_eq_true ?_; simp only [hsl, hsa, hsb]; exact scn_eq _ _ _ _ _ _ hup.1) | (rw [hsl]; exact beq_iff_eq.2 (sin_eq _ _ _ hup.1))
  have p73 : ((kepE (t) ((pl)) ((pm))) = (kepE (t) (sa) (sb))) := of_decide_eq_true h72
  refine h_slot 73 (.bool (decide ((kepE (t) ((pl)) ((pm))) = (kepE (t) (sa) (sb))))) (.bool true) (by kernel_rfl) (by kernel_rfl) (by rw [h72]) ?_
  refine h_seg 4 (by kernel_rfl) ?_
  refine gH (.load 50 (.tmp 8)) (some 79) (by kernel_rfl) (Y_loadB #[.slice AsL (sL).length csL, .int .i64 (sa), .int .i64 (sb)] (fun i v hi => ((((le16.trans le26).trans le36).trans le47).trans le67) _ _ _ (hc8 i v hi)) (off := 0) (by kernel_rfl) (.agg #[.slice AsL (sL).length csL, .int .i64 (sa), .int .i64 (sb)]) (by kernel_rfl)) ?_
  refine h_seg 3 (by kernel_rfl) ?_
  refine h_a (by kernel_rfl) (by kernel_rfl) (fun w74 X75 hM76 => ?_)
  have hM77 := hM76.front 2 rfl
  have hM78 := hM77.front 2 rfl
  have hM79 := hM78.front 2 rfl
  have hM80 : Step V w [spE bp Ap cp mp (pL) (pl) (pm)] V65 _ ([.blk bp (.cells #[.slice Ap (keysOf (((pL)))).length cp, .map (some mp), .int .i64 (((pl))), .int .i64 (((pm)))] 71), .row strK 9 Ap cp (keysOf (((pL)))), mapE false (slK (prK (intK .i64) (prK strK boolK))) mp (fun k_ => lk k_ (((pL))))] ++ X75) := hM79
  have hk81 : keysOf (((pL))) = keysOf (((pL))) := rfl
  have hf82 : (fun k_ => lk k_ (((pL)))) = (fun k_ => lk k_ (((pL)))) := rfl
  have ho83 : SpI (((pL))) := hs54
  have hM84 : Step V w [spE bp Ap cp mp (pL) (pl) (pm)] V65 _ (spE bp Ap cp mp (((pL))) (((pl))) (((pm))) :: [] ++ X75) := Step.closeSp hk81 hf82 ho83 (by exact hM80)
  have hM85 : Step V w [spE bp Ap cp mp (pL) (pl) (pm)] V65 _ ([spE bp Ap cp mp (((pL))) (((pl))) (((pm)))] ++ X75) := hM84
  have hM86 := hM85.front 0 rfl
  have hM94 : Step V w [spE bp Ap cp mp (pL) (pl) (pm)] V65 _ ([spE bp Ap cp mp (((pL))) (((pl))) (((pm)))] ++ X75) := hM86
  refine wpF_callE [spE bp Ap cp mp (((pL))) (((pl))) (((pm)))] ([] ++ X75) hM94 (f := 42) (caps := #[]) (h := (by kernel_rfl : opAt _ _ _ _ _ = some (.call (.mk (.value (.func 42)) #[(.tmp 74), (.tmp 75), (.tmp 76), (.tmp 77)] #[53, 9, 9, 3]), some 78))) (by kernel_rfl) (by kernel_rfl) (by kernel_rfl) (f42 _ _ bp Ap cp mp (((pL))) (((pl))) (((pm))) (f) (hf) (u) (hu) (t) (St.part (E := [spE bp Ap cp mp (((pL))) (((pl))) (((pm)))]) (F := ([] ++ X75)) hM94.ok) (by omega)) (fun v87 V88 w89 Eo90 le91 hM92 hp93 => ?_)
  obtain ⟨rfl, rfl⟩ := hp93
  have hM95 : Step V w [spE bp Ap cp mp (pL) (pl) (pm)] V88 _ ([spE bp Ap cp mp ((((pL)))) ((((pl)))) ((((pm))))] ++ X75) := hM92
  refine wpF_end _ (by kernel_rfl) (then_n (h_d [] (by kernel_rfl) [spE bp Ap cp mp ((((pL)))) ((((pl)))) ((((pm))))] hM95 no_held le91 ?_))
  refine h_a (by kernel_rfl) (by kernel_rfl) (fun w96 X97 hM98 => ?_)
  refine wpF_callP hM98 (f := 80) (caps := #[]) (h := (by kernel_rfl : opAt _ _ _ _ _ = some (.call (.mk (.value (.func 80)) #[(.tmp 79), (.tmp 80), (.tmp 81), (.tmp 82)] #[50, 9, 9, 3]), some 83))) (by kernel_rfl) (by kernel_rfl) (by kernel_rfl) (f80 _ _ hM98.inW AsL csL (sL) (hsL.up hM98.le) (sa) (sb) (f) (hf) (u) (hu) (t)) (fun v99 V100 w101 le102 hM103 hp104 => ?_)
  obtain rfl := hp104
  refine wpF_end _ (by kernel_rfl) (then_n (h_d [] (by kernel_rfl) [spE bp Ap cp mp ((((pL)))) ((((pl)))) ((((pm))))] hM103 no_held le102 ?_))
  refine gH (.binOp .eql 4 (.tmp 78) (.tmp 83) 4) (some 84) (by kernel_rfl) (Y_eql (.bool (sinB (((pL))) (f) (u) (t))) (.bool (rsiK (t) (f) (u) (sL))) ((sinB (((pL))) (f) (u) (t)) == (rsiK (t) (f) (u) (sL))) (by kernel_rfl) (by kernel_rfl) (by kernel_rfl)) ?_
  refine h_seg 2 (by kernel_rfl) ?_
  refine h_n (fun w105 hM106 => ?_)
  refine  (then_n (hK52 _ _ ?_))
  refine wp_ret ?_
  have hM107 := hM106.front 0 rfl
  have hM108 : Step V w [spE bp Ap cp mp (pL) (pl) (pm)] V100 _ ([spE bp Ap cp mp ((((pL)))) ((((pl)))) ((((pm))))]) := hM107
  refine retN [.bool ((sinB (((pL))) (f) (u) (t)) == (rsiK (t) (f) (u) (sL)))] (.bool ((sinB (((pL))) (f) (u) (t)) == (rsiK (t) (f) (u) (sL)))) Try.results47 (.tmp (by kernel_rfl) (by kernel_rfl) .nil) (by kernel_rfl) (hRet _ _ ⟨_, _, _, rfl, hM108, ?_⟩)
  -- end 
  refine ⟨?_, ?_⟩
  · first | rfl | (rw [hsl]; exact congrArg Value.bool (beq_iff_eq.2 (sin_eq _ _ _ hup.1)))
  · rfl

end Go.Vk
