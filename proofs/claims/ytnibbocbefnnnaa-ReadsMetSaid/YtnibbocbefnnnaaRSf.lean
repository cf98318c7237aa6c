import Derived.Test.YtnibbocbefnnnaaRG
import Derived.Test.YtnibbocbefnnnaaRPlainSp
import Derived.Test.YtnibbocbefnnnaaRSp
set_option linter.unusedVariables false
set_option linter.unusedSimpArgs false
namespace Go.Vk
open Go.Proofs
variable {D : List Deferred}
set_option maxHeartbeats 4000000 in
set_option maxRecDepth 100000 in
theorem f33 (V : VT) (w : World) (hV : V.inW w)  :
    Calls Try.prog 33 #[] w (Ret V w [] fun rv V' E' => ∃ (b1 : Nat), ∃ (A1 : Option Addr), ∃ (c1 : Nat), ∃ (m1 : Nat), rv = .pointer (some ⟨b1, 0, none⟩) ∧ E' = [spE b1 A1 c1 m1 (([] : List Item)) (0) (0)]) := by
  refine calls_env (n := 4) Try.func33 (c := _) rfl Try.ntmps33 (by kernel_rfl) (fun R hRet => ?_)
  have hM0 : Step V w [] V w [] := Step.refl (St.nilE hV)
  refine wp_seq_k (fun K1 hK1 => ?_)
  refine wp_reg ?_
  refine wpF_seg 1 (by kernel_rfl) ?_
  refine wpF_end _ (by kernel_rfl) (then_n (hK1 _ _ ?_))
  refine wp_seq_k (fun K2 hK2 => ?_)
  refine wp_reg ?_
  refine wpF_makeMap false (slK (prK (intK .i64) (prK strK boolK))) hM0 (h := (by kernel_rfl : opAt _ _ _ _ _ = some (.makeMap 69 none, some 1))) (fun b3 w4 hM5 => ?_)
  refine wpF_seg 1 (by kernel_rfl) ?_
  refine wpF_box hM5 #[.slice none 0 0, .map (some b3), .int .i64 (0), .int .i64 (0)] (h := (by kernel_rfl : opAt _ _ _ _ _ = some (.box 71 (.tmp 2), some 3))) (by kernel_rfl) (fun b6 w7 hM8 => ?_)
  refine wpF_seg 1 (by kernel_rfl) ?_
  refine wpF_end _ (by kernel_rfl) (then_n (hK2 _ _ ?_))
  refine wp_ret ?_
  have hM9 := hM8.nilrow strK 9
  have hM10 : Step V w [] V _ ([.row strK 9 none 0 (([] : List Str)), .blk b6 (.cells #[.slice none (([] : List Str)).length 0, .map (some b3), .int .i64 (0), .int .i64 (0)] 71), mapE false (slK (prK (intK .i64) (prK strK boolK))) b3 (fun _ => none)]) := hM9
  have hM11 := hM10.front 2 rfl
  have hM12 := hM11.front 1 rfl
  have hM13 := hM12.front 2 rfl
  have hM14 : Step V w [] V _ ([.blk b6 (.cells #[.slice none (([] : List Str)).length 0, .map (some b3), .int .i64 (0), .int .i64 (0)] 71), .row strK 9 none 0 (([] : List Str)), mapE false (slK (prK (intK .i64) (prK strK boolK))) b3 (fun _ => none)]) := hM13
  have hk15 : keysOf (([] : List Item)) = ([] : List Str) := by rfl
  have hf16 : (fun k_ => lk k_ (([] : List Item))) = (fun _ => none) := by rfl
  have ho17 : SpI (([] : List Item)) := by exact spi_nil
  have hM18 : Step V w [] V _ (spE b6 none 0 b3 (([] : List Item)) (0) (0) :: []) := Step.closeSp hk15 hf16 ho17 (by exact hM14)
  have hM19 : Step V w [] V _ ([spE b6 none 0 b3 (([] : List Item)) (0) (0)]) := hM18
  have hM20 := hM19.front 0 rfl
  have hM21 : Step V w [] V _ ([spE b6 none 0 b3 (([] : List Item)) (0) (0)]) := hM20
  refine retN [.pointer (some ⟨b6, 0, none⟩)] (.pointer (some ⟨b6, 0, none⟩)) Try.results33 (.tmp (by kernel_rfl) (by kernel_rfl) .nil) (by kernel_rfl) (hRet _ _ ⟨_, _, _, rfl, hM21, ?_⟩)
  -- end 
  refine ⟨b6, none, 0, b3, ?_, ?_⟩
  · rfl
  · rfl

set_option maxHeartbeats 4000000 in
set_option maxRecDepth 100000 in
theorem f81 (V : VT) (w : World) (bp : Nat) (Ap : Option Addr) (cp mp : Nat) (pL : List (Str × List (Int × Str × Bool))) (pl pm : Int) (hS : St V w [spE bp Ap cp mp (pL) (pl) (pm)]) :
    Calls Try.prog 81 #[.pointer (some ⟨bp, 0, none⟩)] w (Ret V w [spE bp Ap cp mp (pL) (pl) (pm)] fun rv V' E' => rv = .bool (true) ∧ E' = [spE bp Ap cp mp (pL) (pl) (pm)]) := by
  refine calls_env (n := 12) Try.func81 (c := _) rfl Try.ntmps81 (by kernel_rfl) (fun R hRet => ?_)
  have hV := hS.inW
  have hM0 : Step V w [spE bp Ap cp mp (pL) (pl) (pm)] V w [spE bp Ap cp mp (pL) (pl) (pm)] := Step.refl hS
  refine wp_seq_k (fun K1 hK1 => ?_)
  refine wp_reg ?_
  refine wpF_seg 1 (by kernel_rfl) ?_
  refine wpF_end _ (by kernel_rfl) (then_n (hK1 _ _ ?_))
  refine wp_seq_k (fun K2 hK2 => ?_)
  refine wp_reg ?_
  refine wpF_seg 1 (by kernel_rfl) ?_
  refine gF hM0 (.binOp .neq 53 (.tmp 3) (.const (.pointer none)) 53) (some 4) (by kernel_rfl) (Y_neq (.pointer (some ⟨bp, 0, none⟩)) (.pointer none) (false) (by kernel_rfl) (by kernel_rfl) (by kernel_rfl)) ?_
  refine wpF_seg 4 (by kernel_rfl) ?_
  have hM3 := hM0.openSp 0 rfl
  have hs4 : SpI (pL) := (hM0.spOk 0 rfl)
  have hM5 : Step V w [spE bp Ap cp mp (pL) (pl) (pm)] V _ ([.blk bp (.cells #[.slice Ap (keysOf (pL)).length cp, .map (some mp), .int .i64 (pl), .int .i64 (pm)] 71), .row strK 9 Ap cp (keysOf (pL)), mapE false (slK (prK (intK .i64) (prK strK boolK))) mp (fun k_ => lk k_ (pL))]) := hM3
  refine gF hM5 (.load 69 (.tmp 8)) (some 9) (by kernel_rfl) (Y_load 0 rfl (off := 1) (by kernel_rfl) (.map (some mp)) (by kernel_rfl)) ?_
  refine gF hM5 (.binOp .neq 69 (.tmp 9) (.const (.map none)) 69) (some 10) (by kernel_rfl) (Y_neq (.map (some mp)) (.map none) (false) (by kernel_rfl) (by kernel_rfl) (by kernel_rfl)) ?_
  refine wpF_seg 2 (by kernel_rfl) ?_
  refine wpF_end _ (by kernel_rfl) (then_n (hK2 _ _ ?_))
  refine wp_ret ?_
  have hM6 := hM5.front 2 rfl
  have hM7 := hM6.front 2 rfl
  have hM8 := hM7.front 2 rfl
  have hM9 : Step V w [spE bp Ap cp mp (pL) (pl) (pm)] V _ ([.blk bp (.cells #[.slice Ap (keysOf (pL)).length cp, .map (some mp), .int .i64 (pl), .int .i64 (pm)] 71), .row strK 9 Ap cp (keysOf (pL)), mapE false (slK (prK (intK .i64) (prK strK boolK))) mp (fun k_ => lk k_ (pL))]) := hM8
  have hk10 : keysOf (pL) = keysOf (pL) := rfl
  have hf11 : (fun k_ => lk k_ (pL)) = (fun k_ => lk k_ (pL)) := rfl
  have ho12 : SpI (pL) := hs4
  have hM13 : Step V w [spE bp Ap cp mp (pL) (pl) (pm)] V _ (spE bp Ap cp mp (pL) (pl) (pm) :: []) := Step.closeSp hk10 hf11 ho12 (by exact hM9)
  have hM14 : Step V w [spE bp Ap cp mp (pL) (pl) (pm)] V _ ([spE bp Ap cp mp (pL) (pl) (pm)]) := hM13
  have hM15 := hM14.front 0 rfl
  have hM16 : Step V w [spE bp Ap cp mp (pL) (pl) (pm)] V _ ([spE bp Ap cp mp (pL) (pl) (pm)]) := hM15
  refine retN [.bool (true)] (.bool (true)) Try.results81 (.tmp (by kernel_rfl) (by kernel_rfl) .nil) (by kernel_rfl) (hRet _ _ ⟨_, _, _, rfl, hM16, ?_⟩)
  -- end 
  refine ⟨?_, ?_⟩
  · rfl
  · rfl

set_option maxHeartbeats 4000000 in
set_option maxRecDepth 100000 in
theorem f78 (V : VT) (w : World) (bp : Nat) (Ap : Option Addr) (cp mp : Nat) (pL : List (Str × List (Int × Str × Bool))) (pl pm : Int) (y : Str) (hy : y.length ≤ maxL) (Av : Option Addr) (cv : Nat) (v : List ((Int × Str × Bool))) (hv : Rd (prK (intK .i64) (prK strK boolK)) V Av cv v) (hS : St V w [spE bp Ap cp mp (pL) (pl) (pm)]) (h5 : pL.length ≤ 99000) :
    Calls Try.prog 78 #[.pointer (some ⟨bp, 0, none⟩), bs (y), .slice Av (v).length cv] w (Ret V w [spE bp Ap cp mp (pL) (pl) (pm)] fun rv V' E' => ∃ (Aop : Option Addr), ∃ (cop : Nat), rv = .tuple #[] ∧ E' = [spE bp Aop cop mp (setL pL y v) (pl) (pm)]) := by
  have mxy : y.length ≤ 140737488355328 := hy
  have mxv : v.length ≤ 140737488355328 := hv.max
  refine calls_env (n := 63) Try.func78 (c := _) rfl Try.ntmps78 (by kernel_rfl) (fun R hRet => ?_)
  have hV := hS.inW
  have hM0 : Step V w [spE bp Ap cp mp (pL) (pl) (pm)] V w [spE bp Ap cp mp (pL) (pl) (pm)] := Step.refl hS
  have hup : SpI pL := hM0.spOk 0 rfl
  refine wp_seq_k (fun K1 hK1 => ?_)
  refine wp_reg ?_
  refine wpF_seg 3 (by kernel_rfl) ?_
  have hM2 := hM0.openSp 0 rfl
  have hs3 : SpI (pL) := (hM0.spOk 0 rfl)
  have hM4 : Step V w [spE bp Ap cp mp (pL) (pl) (pm)] V _ ([.blk bp (.cells #[.slice Ap (keysOf (pL)).length cp, .map (some mp), .int .i64 (pl), .int .i64 (pm)] 71), .row strK 9 Ap cp (keysOf (pL)), mapE false (slK (prK (intK .i64) (prK strK boolK))) mp (fun k_ => lk k_ (pL))]) := hM2
  refine gF hM4 (.load 22 (.tmp 11)) (some 12) (by kernel_rfl) (Y_load 0 rfl (off := 0) (by kernel_rfl) (.slice Ap (keysOf (pL)).length cp) (by kernel_rfl)) ?_
  refine wpF_seg 1 (by kernel_rfl) ?_
  have hM5 := hM4.front 1 rfl
  have hM13 : Step V w [spE bp Ap cp mp (pL) (pl) (pm)] V _ ([.row strK 9 Ap cp (keysOf (pL)), .blk bp (.cells #[.slice Ap (keysOf (pL)).length cp, .map (some mp), .int .i64 (pl), .int .i64 (pm)] 71), mapE false (slK (prK (intK .i64) (prK strK boolK))) mp (fun k_ => lk k_ (pL))]) := hM5
  refine wpF_callE [.row strK 9 Ap cp (keysOf (pL))] ([.blk bp (.cells #[.slice Ap (keysOf (pL)).length cp, .map (some mp), .int .i64 (pl), .int .i64 (pm)] 71), mapE false (slK (prK (intK .i64) (prK strK boolK))) mp (fun k_ => lk k_ (pL))]) hM13 (f := 55) (caps := #[]) (h := (by kernel_rfl : opAt _ _ _ _ _ = some (.call (.mk (.value (.func 55)) #[(.tmp 12), (.tmp 13)] #[22, 9]), some 14))) (by kernel_rfl) (by kernel_rfl) (by kernel_rfl) (f55r _ _ Ap cp (keysOf (pL)) (y) (hy) (St.part (E := [.row strK 9 Ap cp (keysOf (pL))]) (F := ([.blk bp (.cells #[.slice Ap (keysOf (pL)).length cp, .map (some mp), .int .i64 (pl), .int .i64 (pm)] 71), mapE false (slK (prK (intK .i64) (prK strK boolK))) mp (fun k_ => lk k_ (pL))])) hM13.ok) (by first | omega | (rw [len_keys]; omega))) (fun v6 V7 w8 Eo9 le10 hM11 hp12 => ?_)
  obtain ⟨rfl, rfl⟩ := hp12
  have hM14 : Step V w [spE bp Ap cp mp (pL) (pl) (pm)] V7 _ ([.row strK 9 Ap cp (keysOf (pL)), .blk bp (.cells #[.slice Ap (keysOf (pL)).length cp, .map (some mp), .int .i64 (pl), .int .i64 (pm)] 71), mapE false (slK (prK (intK .i64) (prK strK boolK))) mp (fun k_ => lk k_ (pL))]) := hM11
  refine wpF_seg 5 (by kernel_rfl) ?_
  refine wpF_end _ (by kernel_rfl) (then_n (hK1 _ _ ?_))
  refine wp_block ?_
  refine wp_seq_k (fun K15 hK15 => ?_)
  refine wp_reg ?_
  refine wpF_seg 4 (by kernel_rfl) ?_
  refine wpF_caseB 21 (decide (((v.length : Int)) = (0))) (by kernel_rfl) (by kernel_rfl) (fun h16 => ?_) (fun h16 => ?_)
  · -- t
    have p17 : (((v.length : Int)) = (0)) := of_decide_eq_true h16
    refine wpF_seg 3 (by kernel_rfl) ?_
    refine wpF_end _ (by kernel_rfl) (then_n (hK15 _ _ ?_))
    refine wp_if (bsB (keysOf (pL)) (y)) (by kernel_rfl) (fun h18 => ?_) (fun h18 => ?_)
    · -- tt
      refine wp_seq_k (fun K19 hK19 => ?_)
      refine wp_reg ?_
      refine wpF_seg 4 (by kernel_rfl) ?_
      refine gF hM14 (.load 22 (.tmp 27)) (some 28) (by kernel_rfl) (Y_load 1 rfl (off := 0) (by kernel_rfl) (.slice Ap (keysOf (pL)).length cp) (by kernel_rfl)) ?_
      refine wpF_seg 2 (by kernel_rfl) ?_
      refine gF hM14 (.binOp .add 3 (.tmp 30) (.const (.int .i64 1)) 3) (some 31) (by kernel_rfl) (Y_add .i64 (((bsN (keysOf (pL)) (y) : Nat) : Int)) (1) (((bsN (keysOf (pL)) (y) + 1 : Nat) : Int)) (by kernel_rfl) (by kernel_rfl) (wrap64_ok _ (by have hbl := bsN_le (keysOf pL) y; rw [len_keys] at hbl; omega))) ?_
      have hM20 := hM14.front 0 rfl
      have hM28 : Step V w [spE bp Ap cp mp (pL) (pl) (pm)] V7 _ ([.row strK 9 Ap cp (keysOf (pL)), .blk bp (.cells #[.slice Ap (keysOf (pL)).length cp, .map (some mp), .int .i64 (pl), .int .i64 (pm)] 71), mapE false (slK (prK (intK .i64) (prK strK boolK))) mp (fun k_ => lk k_ (pL))]) := hM20
      refine wpF_callE [.row strK 9 Ap cp (keysOf (pL))] ([.blk bp (.cells #[.slice Ap (keysOf (pL)).length cp, .map (some mp), .int .i64 (pl), .int .i64 (pm)] 71), mapE false (slK (prK (intK .i64) (prK strK boolK))) mp (fun k_ => lk k_ (pL))]) hM28 (f := 117) (caps := #[]) (h := (by kernel_rfl : opAt _ _ _ _ _ = some (.call (.mk (.value (.func 117)) #[(.tmp 28), (.tmp 29), (.tmp 31)] #[22, 3, 3]), some 32))) (by kernel_rfl) (by kernel_rfl) (by kernel_rfl) (f117 _ _ Ap cp (keysOf (pL)) ((bsN (keysOf (pL)) (y))) ((bsN (keysOf (pL)) (y) + 1)) (St.part (E := [.row strK 9 Ap cp (keysOf (pL))]) (F := ([.blk bp (.cells #[.slice Ap (keysOf (pL)).length cp, .map (some mp), .int .i64 (pl), .int .i64 (pm)] 71), mapE false (slK (prK (intK .i64) (prK strK boolK))) mp (fun k_ => lk k_ (pL))])) hM28.ok) (by omega) (by have hb2 := (by assumption : bsB (keysOf pL) y = true); simp only [bsB, Bool.and_eq_true, decide_eq_true_eq] at hb2; omega)) (fun v21 V22 w23 Eo24 le25 hM26 hp27 => ?_)
      obtain ⟨Ar28_1, cr28_1, rfl, rfl⟩ := hp27
      have hM29 : Step V w [spE bp Ap cp mp (pL) (pl) (pm)] V22 _ ([.row strK 9 Ar28_1 cr28_1 ((keysOf (pL)).take ((bsN (keysOf (pL)) (y))) ++ (keysOf (pL)).drop ((bsN (keysOf (pL)) (y) + 1))), .blk bp (.cells #[.slice Ap (keysOf (pL)).length cp, .map (some mp), .int .i64 (pl), .int .i64 (pm)] 71), mapE false (slK (prK (intK .i64) (prK strK boolK))) mp (fun k_ => lk k_ (pL))]) := hM26
      refine wpF_seg 2 (by kernel_rfl) ?_
      refine wpF_store hM29 1 rfl (h := (by kernel_rfl : opAt _ _ _ _ _ = some (.store 22 (.tmp 34) (.tmp 32), none))) (off := 0) (by kernel_rfl) #[.slice Ar28_1 ((keysOf (pL)).take ((bsN (keysOf (pL)) (y))) ++ (keysOf (pL)).drop ((bsN (keysOf (pL)) (y) + 1))).length cr28_1] (by kernel_rfl) (by kernel_rfl) (by kernel_rfl) (by kernel_rfl) (fun w31 hM30 => ?_)
      have hM32 : Step V w [spE bp Ap cp mp (pL) (pl) (pm)] V22 _ ([.row strK 9 Ar28_1 cr28_1 ((keysOf (pL)).take ((bsN (keysOf (pL)) (y))) ++ (keysOf (pL)).drop ((bsN (keysOf (pL)) (y) + 1))), .blk bp (.cells #[.slice Ar28_1 ((keysOf (pL)).take ((bsN (keysOf (pL)) (y))) ++ (keysOf (pL)).drop ((bsN (keysOf (pL)) (y) + 1))).length cr28_1, .map (some mp), .int .i64 (pl), .int .i64 (pm)] 71), mapE false (slK (prK (intK .i64) (prK strK boolK))) mp (fun k_ => lk k_ (pL))]) := hM30
      refine wpF_end _ (by kernel_rfl) (then_n (hK19 _ _ ?_))
      refine wp_reg ?_
      refine wpF_seg 3 (by kernel_rfl) ?_
      refine gF hM32 (.load 69 (.tmp 37)) (some 38) (by kernel_rfl) (Y_load 1 rfl (off := 1) (by kernel_rfl) (.map (some mp)) (by kernel_rfl)) ?_
      refine wpF_seg 1 (by kernel_rfl) ?_
      refine wpF_mapDelete (kt := 9) (e := 78) hM32 2 rfl (y) (h := (by kernel_rfl : opAt _ _ _ _ _ = some (.call (.mk (.builtin .delete) #[(.tmp 38), (.tmp 39)] #[69, 9]), none))) (by kernel_rfl) (by kernel_rfl) (by kernel_rfl) (fun w34 hM33 => ?_)
      have hM35 : Step V w [spE bp Ap cp mp (pL) (pl) (pm)] V22 _ ([.row strK 9 Ar28_1 cr28_1 ((keysOf (pL)).take ((bsN (keysOf (pL)) (y))) ++ (keysOf (pL)).drop ((bsN (keysOf (pL)) (y) + 1))), .blk bp (.cells #[.slice Ar28_1 ((keysOf (pL)).take ((bsN (keysOf (pL)) (y))) ++ (keysOf (pL)).drop ((bsN (keysOf (pL)) (y) + 1))).length cr28_1, .map (some mp), .int .i64 (pl), .int .i64 (pm)] 71), mapE false (slK (prK (intK .i64) (prK strK boolK))) mp (fun k_ => if (y) = k_ then none else lk (k_) (pL))]) := hM33
      refine wpF_end _ (by kernel_rfl) (blk_n (?_))
      have hM36 := hM35.front 2 rfl
      have hM37 := hM36.front 1 rfl
      have hM38 := hM37.front 2 rfl
      have hM39 : Step V w [spE bp Ap cp mp (pL) (pl) (pm)] V22 _ ([.blk bp (.cells #[.slice Ar28_1 ((keysOf (pL)).take ((bsN (keysOf (pL)) (y))) ++ (keysOf (pL)).drop ((bsN (keysOf (pL)) (y) + 1))).length cr28_1, .map (some mp), .int .i64 (pl), .int .i64 (pm)] 71), .row strK 9 Ar28_1 cr28_1 ((keysOf (pL)).take ((bsN (keysOf (pL)) (y))) ++ (keysOf (pL)).drop ((bsN (keysOf (pL)) (y) + 1))), mapE false (slK (prK (intK .i64) (prK strK boolK))) mp (fun k_ => if (y) = k_ then none else lk (k_) (pL))]) := hM38
      have hk40 : keysOf (setL pL y v) = (keysOf (pL)).take ((bsN (keysOf (pL)) (y))) ++ (keysOf (pL)).drop ((bsN (keysOf (pL)) (y) + 1)) := by rw [set_y0 (by assumption)]; exact keys_delY hup.1 (by assumption)
      have hf41 : (fun k_ => lk k_ (setL pL y v)) = (fun k_ => if (y) = k_ then none else lk (k_) (pL)) := by rw [set_y0 (by assumption)]; exact lkf_del
      have ho42 : SpI (setL pL y v) := by exact spi_set hup
      have hM43 : Step V w [spE bp Ap cp mp (pL) (pl) (pm)] V22 _ (spE bp Ar28_1 cr28_1 mp (setL pL y v) (pl) (pm) :: []) := Step.closeSp hk40 hf41 ho42 (by exact hM39)
      have hM44 : Step V w [spE bp Ap cp mp (pL) (pl) (pm)] V22 _ ([spE bp Ar28_1 cr28_1 mp (setL pL y v) (pl) (pm)]) := hM43
      have hM45 := hM44.front 0 rfl
      have hM46 : Step V w [spE bp Ap cp mp (pL) (pl) (pm)] V22 _ ([spE bp Ar28_1 cr28_1 mp (setL pL y v) (pl) (pm)]) := hM45
      refine ret0 (.inr rfl) Try.results78 (hRet _ _ ⟨_, _, _, rfl, hM46, ?_⟩)
      -- end tt
      refine ⟨Ar28_1, cr28_1, ?_, ?_⟩
      · rfl
      · rfl
    · -- tf
      refine wp_seq_k (fun K47 hK47 => ?_)
      refine wp_reg ?_
      refine wpF_seg 4 (by kernel_rfl) ?_
      refine wpF_end _ (by kernel_rfl) (then_n (hK47 _ _ ?_))
      have h48 : (decide ((0) < ((v.length : Int)))) = false := by exact decide_eq_false (by omega)
      have p49 : ¬ ((0) < ((v.length : Int))) := of_decide_eq_false h48
      refine wp_slot 40 (.bool (decide ((0) < ((v.length : Int))))) (.bool false) (by kernel_rfl) (by rw [h48]) ?_
      refine wp_cf (by kernel_rfl) ?_
      refine wp_skip (blk_n (?_))
      have hM50 := hM14.front 2 rfl
      have hM51 := hM50.front 1 rfl
      have hM52 := hM51.front 2 rfl
      have hM53 : Step V w [spE bp Ap cp mp (pL) (pl) (pm)] V7 _ ([.blk bp (.cells #[.slice Ap (keysOf (pL)).length cp, .map (some mp), .int .i64 (pl), .int .i64 (pm)] 71), .row strK 9 Ap cp (keysOf (pL)), mapE false (slK (prK (intK .i64) (prK strK boolK))) mp (fun k_ => lk k_ (pL))]) := hM52
      have hk54 : keysOf (setL pL y v) = keysOf (pL) := by rw [set_y0 (by assumption), keys_delN hup.1 (by assumption)]
      have hf55 : (fun k_ => lk k_ (setL pL y v)) = (fun k_ => lk k_ (pL)) := by rw [set_y0 (by assumption), keys_delN hup.1 (by assumption)]
      have ho56 : SpI (setL pL y v) := by exact spi_set hup
      have hM57 : Step V w [spE bp Ap cp mp (pL) (pl) (pm)] V7 _ (spE bp Ap cp mp (setL pL y v) (pl) (pm) :: []) := Step.closeSp hk54 hf55 ho56 (by exact hM53)
      have hM58 : Step V w [spE bp Ap cp mp (pL) (pl) (pm)] V7 _ ([spE bp Ap cp mp (setL pL y v) (pl) (pm)]) := hM57
      have hM59 := hM58.front 0 rfl
      have hM60 : Step V w [spE bp Ap cp mp (pL) (pl) (pm)] V7 _ ([spE bp Ap cp mp (setL pL y v) (pl) (pm)]) := hM59
      refine ret0 (.inr rfl) Try.results78 (hRet _ _ ⟨_, _, _, rfl, hM60, ?_⟩)
      -- end tf
      refine ⟨Ap, cp, ?_, ?_⟩
      · rfl
      · rfl
  · -- f
    have p61 : ¬ (((v.length : Int)) = (0)) := of_decide_eq_false h16
    refine wpF_seg 3 (by kernel_rfl) ?_
    refine wpF_end _ (by kernel_rfl) (then_n (hK15 _ _ ?_))
    refine wp_cf (by kernel_rfl) ?_
    refine wp_seq_k (fun K62 hK62 => ?_)
    refine wp_reg ?_
    refine wpF_seg 4 (by kernel_rfl) ?_
    refine wpF_end _ (by kernel_rfl) (then_n (hK62 _ _ ?_))
    have h63 : (decide ((0) < ((v.length : Int)))) = true := by exact decide_eq_true (by omega)
    have p64 : ((0) < ((v.length : Int))) := of_decide_eq_true h63
    refine wp_slot 40 (.bool (decide ((0) < ((v.length : Int))))) (.bool true) (by kernel_rfl) (by rw [h63]) ?_
    refine wp_ct (by kernel_rfl) ?_
    refine wp_seq_k (fun K65 hK65 => ?_)
    refine wp_seq_k (fun K66 hK66 => ?_)
    refine wp_reg ?_
    refine wpF_seg 2 (by kernel_rfl) ?_
    refine wpF_end _ (by kernel_rfl) (then_n (hK66 _ _ ?_))
    refine wp_if (!(bsB (keysOf (pL)) (y))) (by kernel_rfl) (fun h67 => ?_) (fun h67 => ?_)
    · -- ft
      have h68 : (bsB (keysOf (pL)) (y)) = false := by simpa using h67
      refine wp_reg ?_
      refine wpF_seg 4 (by kernel_rfl) ?_
      refine gF hM14 (.load 22 (.tmp 49)) (some 50) (by kernel_rfl) (Y_load 1 rfl (off := 0) (by kernel_rfl) (.slice Ap (keysOf (pL)).length cp) (by kernel_rfl)) ?_
      refine wpF_seg 2 (by kernel_rfl) ?_
      refine wpF_litW strK hM14 #[bs (y)] (h := (by kernel_rfl : opAt _ _ _ _ _ = some (.buildSlice 22 1 #[(0, (.tmp 52))], some 53))) (e := 9) (by kernel_rfl) (([y] : List Str)) (Reps.one_str (hy)) rfl (by simp [maxL]) (fun A69 c70 w71 hM72 => ?_)
      have hM73 := hM72.front 0 rfl
      have hM74 := hM73.front 1 rfl
      have hM82 : Step V w [spE bp Ap cp mp (pL) (pl) (pm)] V7 _ ([.row strK 9 Ap cp (keysOf (pL)), .row strK 9 A69 c70 (([y] : List Str)), .blk bp (.cells #[.slice Ap (keysOf (pL)).length cp, .map (some mp), .int .i64 (pl), .int .i64 (pm)] 71), mapE false (slK (prK (intK .i64) (prK strK boolK))) mp (fun k_ => lk k_ (pL))]) := hM74
      refine wpF_callE [.row strK 9 Ap cp (keysOf (pL)), .row strK 9 A69 c70 (([y] : List Str))] ([.blk bp (.cells #[.slice Ap (keysOf (pL)).length cp, .map (some mp), .int .i64 (pl), .int .i64 (pm)] 71), mapE false (slK (prK (intK .i64) (prK strK boolK))) mp (fun k_ => lk k_ (pL))]) hM82 (f := 56) (caps := #[]) (h := (by kernel_rfl : opAt _ _ _ _ _ = some (.call (.mk (.value (.func 56)) #[(.tmp 50), (.tmp 51), (.tmp 53)] #[22, 3, 22]), some 54))) (by kernel_rfl) (by kernel_rfl) (by kernel_rfl) (f56 _ _ Ap cp (keysOf (pL)) ((bsN (keysOf (pL)) (y))) A69 c70 (([y] : List Str)) (St.part (E := [.row strK 9 Ap cp (keysOf (pL)), .row strK 9 A69 c70 (([y] : List Str))]) (F := ([.blk bp (.cells #[.slice Ap (keysOf (pL)).length cp, .map (some mp), .int .i64 (pl), .int .i64 (pm)] 71), mapE false (slK (prK (intK .i64) (prK strK boolK))) mp (fun k_ => lk k_ (pL))])) hM82.ok) (by exact bsN_le _ _) (by exact ⟨_, rfl⟩) (by rw [len_keys]; omega)) (fun v75 V76 w77 Eo78 le79 hM80 hp81 => ?_)
      obtain ⟨Ar82_1, cr82_1, rfl, rfl⟩ := hp81
      have hM83 : Step V w [spE bp Ap cp mp (pL) (pl) (pm)] V76 _ ([.row strK 9 Ar82_1 cr82_1 ((keysOf (pL)).take ((bsN (keysOf (pL)) (y))) ++ (([y] : List Str)) ++ (keysOf (pL)).drop ((bsN (keysOf (pL)) (y)))), .blk bp (.cells #[.slice Ap (keysOf (pL)).length cp, .map (some mp), .int .i64 (pl), .int .i64 (pm)] 71), mapE false (slK (prK (intK .i64) (prK strK boolK))) mp (fun k_ => lk k_ (pL))]) := hM80
      refine wpF_seg 2 (by kernel_rfl) ?_
      refine wpF_store hM83 1 rfl (h := (by kernel_rfl : opAt _ _ _ _ _ = some (.store 22 (.tmp 56) (.tmp 54), none))) (off := 0) (by kernel_rfl) #[.slice Ar82_1 ((keysOf (pL)).take ((bsN (keysOf (pL)) (y))) ++ (([y] : List Str)) ++ (keysOf (pL)).drop ((bsN (keysOf (pL)) (y)))).length cr82_1] (by kernel_rfl) (by kernel_rfl) (by kernel_rfl) (by kernel_rfl) (fun w85 hM84 => ?_)
      have hM86 : Step V w [spE bp Ap cp mp (pL) (pl) (pm)] V76 _ ([.row strK 9 Ar82_1 cr82_1 ((keysOf (pL)).take ((bsN (keysOf (pL)) (y))) ++ (([y] : List Str)) ++ (keysOf (pL)).drop ((bsN (keysOf (pL)) (y)))), .blk bp (.cells #[.slice Ar82_1 ((keysOf (pL)).take ((bsN (keysOf (pL)) (y))) ++ (([y] : List Str)) ++ (keysOf (pL)).drop ((bsN (keysOf (pL)) (y)))).length cr82_1, .map (some mp), .int .i64 (pl), .int .i64 (pm)] 71), mapE false (slK (prK (intK .i64) (prK strK boolK))) mp (fun k_ => lk k_ (pL))]) := hM84
      refine wpF_end _ (by kernel_rfl) (then_n (hK65 _ _ ?_))
      refine wp_reg ?_
      refine wpF_seg 3 (by kernel_rfl) ?_
      refine gF hM86 (.load 69 (.tmp 59)) (some 60) (by kernel_rfl) (Y_load 1 rfl (off := 1) (by kernel_rfl) (.map (some mp)) (by kernel_rfl)) ?_
      refine wpF_seg 2 (by kernel_rfl) ?_
      refine wpF_mapUpdate (kt := 9) (e := 78) hM86 2 rfl (y) (v) (h := (by kernel_rfl : opAt _ _ _ _ _ = some (.mapUpdate 69 (.tmp 60) (.tmp 61) (.tmp 62), none))) (by kernel_rfl) (by kernel_rfl) (by kernel_rfl) (by kernel_rfl) (elemV.of_sl (hv.up hM86.le)) (fun w88 hM87 => ?_)
      have hM89 : Step V w [spE bp Ap cp mp (pL) (pl) (pm)] V76 _ ([.row strK 9 Ar82_1 cr82_1 ((keysOf (pL)).take ((bsN (keysOf (pL)) (y))) ++ (([y] : List Str)) ++ (keysOf (pL)).drop ((bsN (keysOf (pL)) (y)))), .blk bp (.cells #[.slice Ar82_1 ((keysOf (pL)).take ((bsN (keysOf (pL)) (y))) ++ (([y] : List Str)) ++ (keysOf (pL)).drop ((bsN (keysOf (pL)) (y)))).length cr82_1, .map (some mp), .int .i64 (pl), .int .i64 (pm)] 71), mapE false (slK (prK (intK .i64) (prK strK boolK))) mp (fun k_ => if (y) = k_ then some (v) else lk (k_) (pL))]) := hM87
      refine wpF_end _ (by kernel_rfl) (blk_n (?_))
      have hM90 := hM89.front 2 rfl
      have hM91 := hM90.front 1 rfl
      have hM92 := hM91.front 2 rfl
      have hM93 : Step V w [spE bp Ap cp mp (pL) (pl) (pm)] V76 _ ([.blk bp (.cells #[.slice Ar82_1 ((keysOf (pL)).take ((bsN (keysOf (pL)) (y))) ++ (([y] : List Str)) ++ (keysOf (pL)).drop ((bsN (keysOf (pL)) (y)))).length cr82_1, .map (some mp), .int .i64 (pl), .int .i64 (pm)] 71), .row strK 9 Ar82_1 cr82_1 ((keysOf (pL)).take ((bsN (keysOf (pL)) (y))) ++ (([y] : List Str)) ++ (keysOf (pL)).drop ((bsN (keysOf (pL)) (y)))), mapE false (slK (prK (intK .i64) (prK strK boolK))) mp (fun k_ => if (y) = k_ then some (v) else lk (k_) (pL))]) := hM92
      have hk94 : keysOf (setL pL y v) = (keysOf (pL)).take ((bsN (keysOf (pL)) (y))) ++ (([y] : List Str)) ++ (keysOf (pL)).drop ((bsN (keysOf (pL)) (y))) := by rw [set_n0 (by assumption)]; exact keys_putN hup.1 (by assumption)
      have hf95 : (fun k_ => lk k_ (setL pL y v)) = (fun k_ => if (y) = k_ then some (v) else lk (k_) (pL)) := by rw [set_n0 (by assumption)]; exact lkf_put hup.1
      have ho96 : SpI (setL pL y v) := by exact spi_set hup
      have hM97 : Step V w [spE bp Ap cp mp (pL) (pl) (pm)] V76 _ (spE bp Ar82_1 cr82_1 mp (setL pL y v) (pl) (pm) :: []) := Step.closeSp hk94 hf95 ho96 (by exact hM93)
      have hM98 : Step V w [spE bp Ap cp mp (pL) (pl) (pm)] V76 _ ([spE bp Ar82_1 cr82_1 mp (setL pL y v) (pl) (pm)]) := hM97
      have hM99 := hM98.front 0 rfl
      have hM100 : Step V w [spE bp Ap cp mp (pL) (pl) (pm)] V76 _ ([spE bp Ar82_1 cr82_1 mp (setL pL y v) (pl) (pm)]) := hM99
      refine ret0 (.inr rfl) Try.results78 (hRet _ _ ⟨_, _, _, rfl, hM100, ?_⟩)
      -- end ft
      refine ⟨Ar82_1, cr82_1, ?_, ?_⟩
      · rfl
      · rfl
    · -- ff
      have h101 : (bsB (keysOf (pL)) (y)) = true := by simpa using h67
      refine wp_skip (then_n (hK65 _ _ ?_))
      refine wp_reg ?_
      refine wpF_seg 3 (by kernel_rfl) ?_
      refine gF hM14 (.load 69 (.tmp 59)) (some 60) (by kernel_rfl) (Y_load 1 rfl (off := 1) (by kernel_rfl) (.map (some mp)) (by kernel_rfl)) ?_
      refine wpF_seg 2 (by kernel_rfl) ?_
      refine wpF_mapUpdate (kt := 9) (e := 78) hM14 2 rfl (y) (v) (h := (by kernel_rfl : opAt _ _ _ _ _ = some (.mapUpdate 69 (.tmp 60) (.tmp 61) (.tmp 62), none))) (by kernel_rfl) (by kernel_rfl) (by kernel_rfl) (by kernel_rfl) (elemV.of_sl (hv.up hM14.le)) (fun w103 hM102 => ?_)
      have hM104 : Step V w [spE bp Ap cp mp (pL) (pl) (pm)] V7 _ ([.row strK 9 Ap cp (keysOf (pL)), .blk bp (.cells #[.slice Ap (keysOf (pL)).length cp, .map (some mp), .int .i64 (pl), .int .i64 (pm)] 71), mapE false (slK (prK (intK .i64) (prK strK boolK))) mp (fun k_ => if (y) = k_ then some (v) else lk (k_) (pL))]) := hM102
      refine wpF_end _ (by kernel_rfl) (blk_n (?_))
      have hM105 := hM104.front 2 rfl
      have hM106 := hM105.front 1 rfl
      have hM107 := hM106.front 2 rfl
      have hM108 : Step V w [spE bp Ap cp mp (pL) (pl) (pm)] V7 _ ([.blk bp (.cells #[.slice Ap (keysOf (pL)).length cp, .map (some mp), .int .i64 (pl), .int .i64 (pm)] 71), .row strK 9 Ap cp (keysOf (pL)), mapE false (slK (prK (intK .i64) (prK strK boolK))) mp (fun k_ => if (y) = k_ then some (v) else lk (k_) (pL))]) := hM107
      have hk109 : keysOf (setL pL y v) = keysOf (pL) := by rw [set_n0 (by assumption)]; exact keys_putY hup.1 (by assumption)
      have hf110 : (fun k_ => lk k_ (setL pL y v)) = (fun k_ => if (y) = k_ then some (v) else lk (k_) (pL)) := by rw [set_n0 (by assumption)]; exact lkf_put hup.1
      have ho111 : SpI (setL pL y v) := by exact spi_set hup
      have hM112 : Step V w [spE bp Ap cp mp (pL) (pl) (pm)] V7 _ (spE bp Ap cp mp (setL pL y v) (pl) (pm) :: []) := Step.closeSp hk109 hf110 ho111 (by exact hM108)
      have hM113 : Step V w [spE bp Ap cp mp (pL) (pl) (pm)] V7 _ ([spE bp Ap cp mp (setL pL y v) (pl) (pm)]) := hM112
      have hM114 := hM113.front 0 rfl
      have hM115 : Step V w [spE bp Ap cp mp (pL) (pl) (pm)] V7 _ ([spE bp Ap cp mp (setL pL y v) (pl) (pm)]) := hM114
      refine ret0 (.inr rfl) Try.results78 (hRet _ _ ⟨_, _, _, rfl, hM115, ?_⟩)
      -- end ff
      refine ⟨Ap, cp, ?_, ?_⟩
      · rfl
      · rfl

set_option maxHeartbeats 4000000 in
set_option maxRecDepth 100000 in
theorem f82 (V : VT) (w : World) (hV : V.inW w) (Al : Option Addr) (cl : Nat) (l : List ((Str × Str × Bool))) (hl : Rd (prK strK (prK strK boolK)) V Al cl l) :
    Calls Try.prog 82 #[.slice Al (l).length cl] w (RetP V w fun rv V' => rv = .bool (fitB l)) := by
  have mxl : l.length ≤ 140737488355328 := hl.max
  refine calls_env (n := 50) Try.func82 (c := _) rfl Try.ntmps82 (by kernel_rfl) (fun R hRet => ?_)
  have hM0 : Step V w [] V w [] := Step.refl (St.nilE hV)
  refine wp_seq_k (fun K1 hK1 => ?_)
  refine wp_reg ?_
  refine wpF_seg 1 (by kernel_rfl) ?_
  refine wpF_end _ (by kernel_rfl) (then_n (hK1 _ _ ?_))
  refine wp_seq_k (fun K2 hK2 => ?_)
  refine wp_reg ?_
  refine wpF_makeMap false (intK .i64) hM0 (h := (by kernel_rfl : opAt _ _ _ _ _ = some (.makeMap 167 none, some 8))) (fun b3 w4 hM5 => ?_)
  refine wpF_seg 1 (by kernel_rfl) ?_
  refine wpF_end _ (by kernel_rfl) (then_n (hK2 _ _ ?_))
  refine wp_seq_k (fun K6 hK6 => ?_)
  refine wp_seq_k (fun K7 hK7 => ?_)
  refine wp_reg ?_
  refine wpF_seg 3 (by kernel_rfl) ?_
  refine wpF_end _ (by kernel_rfl) (then_n (hK7 _ _ ?_))
  refine wp_block ?_
  refine wp_base [(3, .map (some b3)), (9, .slice Al (l).length cl), (10, .int .i64 ((l.length : Int))), (11, .int .i64 ((0 : Int)))] (by kernel_rfl) (fun g9 => ?_)
  refine wp_loopX (fun (x_ : Nat × (Str → Option Int)) a_ w_ => ∃ (g : Nat → Value) (V_ : VT), a_ = env [] 50 [(3, .map (some b3)), (9, .slice Al (l).length cl), (10, .int .i64 ((l.length : Int))), (11, .int .i64 ((x_.1 : Int)))] g ∧ Step V w [] V_ w_ [mapE false (intK .i64) b3 (x_.2)] ∧ VT.le V V_ ∧ (x_.1 ≤ l.length) ∧ (fitK l (x_.1) = true) ∧ (SeenI l (x_.1) (x_.2))) (fun (x_ : Nat × (Str → Option Int)) => l.length - x_.1) ((0 : Nat), (fun _ => none : (Str → Option Int))) ⟨g9, V, rfl, hM5, VT.le.refl _, by omega, by exact fitK_iff.2 (fun i hi => by omega), by exact seen_0 l⟩ ?_
  rintro ⟨k, f⟩ a_ w11 ⟨g10, Vl8, rfl, hM12, le13, hi14_0, hi14_1, hi14_2⟩ K14 hK14
  replace hi14_0 : k ≤ l.length := hi14_0
  replace hi14_1 : fitK l (k) = true := hi14_1
  replace hi14_2 : SeenI l (k) (f) := hi14_2
  refine wp_seq_k (fun K15 hK15 => ?_)
  refine wp_reg ?_
  refine wpF_seg 1 (by kernel_rfl) ?_
  refine wpF_end _ (by kernel_rfl) (then_n (hK15 _ _ ?_))
  refine wp_seq_k (fun K16 hK16 => ?_)
  refine wp_if (decide (((k : Int)) < ((l.length : Int)))) (by kernel_rfl) (fun h17 => ?_) (fun h17 => ?_)
  · -- Lt
    have p18 : (((k : Int)) < ((l.length : Int))) := of_decide_eq_true h17
    refine wp_skip (then_n (hK16 _ _ ?_))
    refine wp_seq_k (fun K19 hK19 => ?_)
    refine wp_block ?_
    refine wp_seq_k (fun K20 hK20 => ?_)
    refine wp_reg ?_
    refine wpF_seg 1 (by kernel_rfl) ?_
    refine gF_index (A := Al) (c := cl) (hl.up hM12.le) .i64 ((k : Int)) (h := (by kernel_rfl : opAt _ _ _ _ _ = some (.indexAddr 45 (.tmp 9) (.tmp 11), some 14))) (e := 105) (by kernel_rfl) (by kernel_rfl) (by kernel_rfl) (k) rfl (by omega) (fun b21 o22 at_b21 => ?_)
    have c23 : Vl8 b21 o22 = some (bs (l.getD (k) ([], [], false)).1) := (At.str (At.pr at_b21).1).1
    have l24 : (l.getD (k) ([], [], false)).1.length ≤ 140737488355328 := (At.str (At.pr at_b21).1).2
    have c25 : Vl8 b21 (o22 + 1) = some (bs (l.getD (k) ([], [], false)).2.1) := (At.str (At.pr (At.pr at_b21).2).1).1
    have l26 : (l.getD (k) ([], [], false)).2.1.length ≤ 140737488355328 := (At.str (At.pr (At.pr at_b21).2).1).2
    have c27 : Vl8 b21 (o22 + 2) = some (.bool (l.getD (k) ([], [], false)).2.2) := At.bool (At.pr (At.pr at_b21).2).2
    refine gF hM12 (.load 105 (.tmp 14)) (some 15) (by kernel_rfl) (Y_loadS (b := b21) (off := o22) [bs ((l.getD (k) ([], [], false)).1), bs ((l.getD (k) ([], [], false)).2.1), .bool ((l.getD (k) ([], [], false)).2.2)] (cells3 c23 c25 c27) (by kernel_rfl) (by kernel_rfl) (by kernel_rfl)) ?_
    refine wpF_alloc hM12 #[bs ([]), bs ([]), .bool (false)] (h := (by kernel_rfl : opAt _ _ _ _ _ = some (.alloc 105, some 5))) (by kernel_rfl) (fun b28 w29 hM30 => ?_)
    refine wpF_seg 1 (by kernel_rfl) ?_
    refine wpF_store hM30 0 rfl (h := (by kernel_rfl : opAt _ _ _ _ _ = some (.store 105 (.tmp 5) (.tmp 15), none))) (off := 0) (by kernel_rfl) #[bs ((l.getD (k) ([], [], false)).1), bs ((l.getD (k) ([], [], false)).2.1), .bool ((l.getD (k) ([], [], false)).2.2)] (by kernel_rfl) (by kernel_rfl) (by kernel_rfl) (by kernel_rfl) (fun w32 hM31 => ?_)
    have hM33 : Step V w [] Vl8 _ ([.blk b28 (.cells #[bs ((l.getD (k) ([], [], false)).1), bs ((l.getD (k) ([], [], false)).2.1), .bool ((l.getD (k) ([], [], false)).2.2)] 105), mapE false (intK .i64) b3 (f)]) := hM31
    refine wpF_end _ (by kernel_rfl) (then_n (hK20 _ _ ?_))
    refine wp_seq_k (fun K34 hK34 => ?_)
    refine wp_reg ?_
    refine wpF_seg 2 (by kernel_rfl) ?_
    refine gF hM33 (.load 9 (.tmp 18)) (some 19) (by kernel_rfl) (Y_load 0 rfl (off := 0) (by kernel_rfl) (bs ((l.getD (k) ([], [], false)).1)) (by kernel_rfl)) ?_
    refine wpF_lookupOk (kt := 9) (e := 3) (z := .int .i64 0) hM33 1 rfl ((l.getD (k) ([], [], false)).1) (h := (by kernel_rfl : opAt _ _ _ _ _ = some (.lookup 167 (.tmp 17) (.tmp 19) true, some 20))) (by kernel_rfl) (by kernel_rfl) (elemV.of_int (by decide)) (by kernel_rfl) (by kernel_rfl) (fun v35 hv36 => ?_)
    obtain ⟨rfl, r37⟩ := elemV.int (x := ((f ((l.getD (k) ([], [], false)).1)).getD 0)) hv36
    refine wpF_seg 5 (by kernel_rfl) ?_
    refine wpF_end _ (by kernel_rfl) (then_n (hK34 _ _ ?_))
    refine wp_seq_k (fun K38 hK38 => ?_)
    refine wp_seq_k (fun K39 hK39 => ?_)
    refine wp_reg ?_
    refine wpF_seg 2 (by kernel_rfl) ?_
    refine wpF_caseB 24 ((f ((l.getD (k) ([], [], false)).1)).isSome) (by kernel_rfl) (by kernel_rfl) (fun h40 => ?_) (fun h40 => ?_)
    · -- Ltt
      refine wpF_seg 20 (by kernel_rfl) ?_
      refine wpF_end _ (by kernel_rfl) (then_n (hK39 _ _ ?_))
      refine wp_ct (by kernel_rfl) ?_
      refine wp_seq_k (fun K41 hK41 => ?_)
      refine wp_reg ?_
      refine wpF_seg 1 (by kernel_rfl) ?_
      refine wpF_end _ (by kernel_rfl) (then_n (hK41 _ _ ?_))
      refine wp_ret (then_r (blk_r (then_r (then_r (blk_r (then_r (?_)))))))
      refine retN [.bool (false)] (.bool (false)) Try.results82 (.tmp (by kernel_rfl) (by kernel_rfl) .nil) (by kernel_rfl) (hRet _ _ ⟨_, _, rfl, hM33.clear, ?_⟩)
      -- end Ltt
      rw [fitB_no (k := k) (by omega) (by assumption) (by first | exact .inl (by assumption) | exact .inr (.inl (by assumption)) | exact .inr (.inr (.inl (by assumption))) | exact .inr (.inr (.inr ⟨by assumption, by assumption⟩)))]
    · -- Ltf
      refine wpF_seg 1 (by kernel_rfl) ?_
      refine gF hM33 (.load 9 (.tmp 25)) (some 26) (by kernel_rfl) (Y_load 0 rfl (off := 0) (by kernel_rfl) (bs ((l.getD (k) ([], [], false)).1)) (by kernel_rfl)) ?_
      refine wpF_seg 4 (by kernel_rfl) ?_
      refine wpF_caseB 30 (decide ((128) < ((((l.getD (k) ([], [], false)).1).length : Int)))) (by kernel_rfl) (by kernel_rfl) (fun h42 => ?_) (fun h42 => ?_)
      · -- Ltft
        have p43 : ((128) < ((((l.getD (k) ([], [], false)).1).length : Int))) := of_decide_eq_true h42
        refine wpF_seg 14 (by kernel_rfl) ?_
        refine wpF_end _ (by kernel_rfl) (then_n (hK39 _ _ ?_))
        refine wp_ct (by kernel_rfl) ?_
        refine wp_seq_k (fun K44 hK44 => ?_)
        refine wp_reg ?_
        refine wpF_seg 1 (by kernel_rfl) ?_
        refine wpF_end _ (by kernel_rfl) (then_n (hK44 _ _ ?_))
        refine wp_ret (then_r (blk_r (then_r (then_r (blk_r (then_r (?_)))))))
        refine retN [.bool (false)] (.bool (false)) Try.results82 (.tmp (by kernel_rfl) (by kernel_rfl) .nil) (by kernel_rfl) (hRet _ _ ⟨_, _, rfl, hM33.clear, ?_⟩)
        -- end Ltft
        rw [fitB_no (k := k) (by omega) (by assumption) (by first | exact .inl (by assumption) | exact .inr (.inl (by assumption)) | exact .inr (.inr (.inl (by assumption))) | exact .inr (.inr (.inr ⟨by assumption, by assumption⟩)))]
      · -- Ltff
        have p45 : ¬ ((128) < ((((l.getD (k) ([], [], false)).1).length : Int))) := of_decide_eq_false h42
        refine wpF_seg 1 (by kernel_rfl) ?_
        refine gF hM33 (.load 9 (.tmp 31)) (some 32) (by kernel_rfl) (Y_load 0 rfl (off := 1) (by kernel_rfl) (bs ((l.getD (k) ([], [], false)).2.1)) (by kernel_rfl)) ?_
        refine wpF_seg 4 (by kernel_rfl) ?_
        refine wpF_caseB 36 (decide ((200) < ((((l.getD (k) ([], [], false)).2.1).length : Int)))) (by kernel_rfl) (by kernel_rfl) (fun h46 => ?_) (fun h46 => ?_)
        · -- Ltfft
          have p47 : ((200) < ((((l.getD (k) ([], [], false)).2.1).length : Int))) := of_decide_eq_true h46
          refine wpF_seg 8 (by kernel_rfl) ?_
          refine wpF_end _ (by kernel_rfl) (then_n (hK39 _ _ ?_))
          refine wp_ct (by kernel_rfl) ?_
          refine wp_seq_k (fun K48 hK48 => ?_)
          refine wp_reg ?_
          refine wpF_seg 1 (by kernel_rfl) ?_
          refine wpF_end _ (by kernel_rfl) (then_n (hK48 _ _ ?_))
          refine wp_ret (then_r (blk_r (then_r (then_r (blk_r (then_r (?_)))))))
          refine retN [.bool (false)] (.bool (false)) Try.results82 (.tmp (by kernel_rfl) (by kernel_rfl) .nil) (by kernel_rfl) (hRet _ _ ⟨_, _, rfl, hM33.clear, ?_⟩)
          -- end Ltfft
          rw [fitB_no (k := k) (by omega) (by assumption) (by first | exact .inl (by assumption) | exact .inr (.inl (by assumption)) | exact .inr (.inr (.inl (by assumption))) | exact .inr (.inr (.inr ⟨by assumption, by assumption⟩)))]
        · -- Ltfff
          have p49 : ¬ ((200) < ((((l.getD (k) ([], [], false)).2.1).length : Int))) := of_decide_eq_false h46
          refine wpF_seg 1 (by kernel_rfl) ?_
          refine gF hM33 (.load 4 (.tmp 37)) (some 38) (by kernel_rfl) (Y_load 0 rfl (off := 2) (by kernel_rfl) (.bool ((l.getD (k) ([], [], false)).2.2)) (by kernel_rfl)) ?_
          refine wpF_seg 1 (by kernel_rfl) ?_
          refine wpF_caseB 39 ((l.getD (k) ([], [], false)).2.2) (by kernel_rfl) (by kernel_rfl) (fun h50 => ?_) (fun h50 => ?_)
          · -- Ltffft
            refine wpF_seg 1 (by kernel_rfl) ?_
            refine gF hM33 (.load 9 (.tmp 40)) (some 41) (by kernel_rfl) (Y_load 0 rfl (off := 1) (by kernel_rfl) (bs ((l.getD (k) ([], [], false)).2.1)) (by kernel_rfl)) ?_
            refine wpF_seg 3 (by kernel_rfl) ?_
            refine wpF_end _ (by kernel_rfl) (then_n (hK39 _ _ ?_))
            refine wp_if (!(decide (((l.getD (k) ([], [], false)).2.1) = ([])))) (by kernel_rfl) (fun h51 => ?_) (fun h51 => ?_)
            · -- Ltffftt
              have h52 : decide (((l.getD (k) ([], [], false)).2.1) = ([])) = false := by rw [← Bool.not_not (decide _), h51]; rfl
              have p53 : ¬ (((l.getD (k) ([], [], false)).2.1) = ([])) := of_decide_eq_false h52
              refine wp_seq_k (fun K54 hK54 => ?_)
              refine wp_reg ?_
              refine wpF_seg 1 (by kernel_rfl) ?_
              refine wpF_end _ (by kernel_rfl) (then_n (hK54 _ _ ?_))
              refine wp_ret (then_r (blk_r (then_r (then_r (blk_r (then_r (?_)))))))
              refine retN [.bool (false)] (.bool (false)) Try.results82 (.tmp (by kernel_rfl) (by kernel_rfl) .nil) (by kernel_rfl) (hRet _ _ ⟨_, _, rfl, hM33.clear, ?_⟩)
              -- end Ltffftt
              rw [fitB_no (k := k) (by omega) (by assumption) (by first | exact .inl (by assumption) | exact .inr (.inl (by assumption)) | exact .inr (.inr (.inl (by assumption))) | exact .inr (.inr (.inr ⟨by assumption, by assumption⟩)))]
            · -- Ltffftf
              have h55 : decide (((l.getD (k) ([], [], false)).2.1) = ([])) = true := by rw [← Bool.not_not (decide _), h51]; rfl
              have p56 : (((l.getD (k) ([], [], false)).2.1) = ([])) := of_decide_eq_true h55
              refine wp_skip (then_n (hK38 _ _ ?_))
              refine wp_reg ?_
              refine wpF_seg 2 (by kernel_rfl) ?_
              refine gF hM33 (.load 9 (.tmp 46)) (some 47) (by kernel_rfl) (Y_load 0 rfl (off := 0) (by kernel_rfl) (bs ((l.getD (k) ([], [], false)).1)) (by kernel_rfl)) ?_
              refine wpF_seg 1 (by kernel_rfl) ?_
              refine wpF_mapUpdate (kt := 9) (e := 3) hM33 1 rfl ((l.getD (k) ([], [], false)).1) ((k : Int)) (h := (by kernel_rfl : opAt _ _ _ _ _ = some (.mapUpdate 167 (.tmp 45) (.tmp 47) (.tmp 48), none))) (by kernel_rfl) (by kernel_rfl) (by kernel_rfl) (by kernel_rfl) (elemV.of_int (by first | assumption | decide | exact i64_ok (by omega) (by omega))) (fun w58 hM57 => ?_)
              have hM59 : Step V w [] Vl8 _ ([.blk b28 (.cells #[bs ((l.getD (k) ([], [], false)).1), bs ((l.getD (k) ([], [], false)).2.1), .bool ((l.getD (k) ([], [], false)).2.2)] 105), mapE false (intK .i64) b3 (fun k_ => if ((l.getD (k) ([], [], false)).1) = k_ then some ((k : Int)) else f (k_))]) := hM57
              refine wpF_end _ (by kernel_rfl) (blk_n (then_n (hK19 _ _ ?_)))
              refine wp_reg ?_
              refine gF hM59 (.binOp .add 3 (.tmp 11) (.const (.int .i64 1)) 3) (some 49) (by kernel_rfl) (Y_add .i64 ((k : Int)) (1) ((k : Int) + 1) (by kernel_rfl) (by kernel_rfl) (wrap64_ok _ (by omega))) ?_
              refine wpF_seg 1 (by kernel_rfl) ?_
              refine wpF_base [(3, .map (some b3)), (9, .slice Al (l).length cl), (10, .int .i64 ((l.length : Int))), (11, .int .i64 ((k + 1 : Int)))] (by kernel_rfl) (fun g60 => ?_)
              have hM61 := (hM59.front 0 rfl).drop
              refine wpF_end _ (by kernel_rfl) (then_n (hK14 _ _ (k + 1, fun k_ => if ((l.getD (k) ([], [], false)).1) = k_ then some ((k : Int)) else f (k_)) (by omega) ?_))
              refine ⟨g60, Vl8, rfl, hM61, hM59.le, ?_, ?_, ?_⟩
              · -- Ltffftf inv 0
                omega
              · -- Ltffftf inv 1
                exact fitK_step (by assumption) (by assumption) (by assumption) (by assumption) (by assumption) (by first | exact .inl (by assumption) | exact .inr (by assumption))
              · -- Ltffftf inv 2
                exact seen_step (by assumption)
          · -- Ltffff
            refine wpF_seg 5 (by kernel_rfl) ?_
            refine wpF_end _ (by kernel_rfl) (then_n (hK39 _ _ ?_))
            refine wp_cf (by kernel_rfl) ?_
            refine wp_skip (then_n (hK38 _ _ ?_))
            refine wp_reg ?_
            refine wpF_seg 2 (by kernel_rfl) ?_
            refine gF hM33 (.load 9 (.tmp 46)) (some 47) (by kernel_rfl) (Y_load 0 rfl (off := 0) (by kernel_rfl) (bs ((l.getD (k) ([], [], false)).1)) (by kernel_rfl)) ?_
            refine wpF_seg 1 (by kernel_rfl) ?_
            refine wpF_mapUpdate (kt := 9) (e := 3) hM33 1 rfl ((l.getD (k) ([], [], false)).1) ((k : Int)) (h := (by kernel_rfl : opAt _ _ _ _ _ = some (.mapUpdate 167 (.tmp 45) (.tmp 47) (.tmp 48), none))) (by kernel_rfl) (by kernel_rfl) (by kernel_rfl) (by kernel_rfl) (elemV.of_int (by first | assumption | decide | exact i64_ok (by omega) (by omega))) (fun w63 hM62 => ?_)
            have hM64 : Step V w [] Vl8 _ ([.blk b28 (.cells #[bs ((l.getD (k) ([], [], false)).1), bs ((l.getD (k) ([], [], false)).2.1), .bool ((l.getD (k) ([], [], false)).2.2)] 105), mapE false (intK .i64) b3 (fun k_ => if ((l.getD (k) ([], [], false)).1) = k_ then some ((k : Int)) else f (k_))]) := hM62
            refine wpF_end _ (by kernel_rfl) (blk_n (then_n (hK19 _ _ ?_)))
            refine wp_reg ?_
            refine gF hM64 (.binOp .add 3 (.tmp 11) (.const (.int .i64 1)) 3) (some 49) (by kernel_rfl) (Y_add .i64 ((k : Int)) (1) ((k : Int) + 1) (by kernel_rfl) (by kernel_rfl) (wrap64_ok _ (by omega))) ?_
            refine wpF_seg 1 (by kernel_rfl) ?_
            refine wpF_base [(3, .map (some b3)), (9, .slice Al (l).length cl), (10, .int .i64 ((l.length : Int))), (11, .int .i64 ((k + 1 : Int)))] (by kernel_rfl) (fun g65 => ?_)
            have hM66 := (hM64.front 0 rfl).drop
            refine wpF_end _ (by kernel_rfl) (then_n (hK14 _ _ (k + 1, fun k_ => if ((l.getD (k) ([], [], false)).1) = k_ then some ((k : Int)) else f (k_)) (by omega) ?_))
            refine ⟨g65, Vl8, rfl, hM66, hM64.le, ?_, ?_, ?_⟩
            · -- Ltffff inv 0
              omega
            · -- Ltffff inv 1
              exact fitK_step (by assumption) (by assumption) (by assumption) (by assumption) (by assumption) (by first | exact .inl (by assumption) | exact .inr (by assumption))
            · -- Ltffff inv 2
              exact seen_step (by assumption)
  · -- Lf
    have p67 : ¬ (((k : Int)) < ((l.length : Int))) := of_decide_eq_false h17
    refine wp_exit (then_x (then_x (blk_hit (then_n (hK6 _ _ ?_)))))
    obtain rfl : k = l.length := by omega
    refine wp_seq_k (fun K68 hK68 => ?_)
    refine wp_reg ?_
    refine wpF_seg 1 (by kernel_rfl) ?_
    refine wpF_end _ (by kernel_rfl) (then_n (hK68 _ _ ?_))
    refine wp_ret ?_
    refine retN [.bool (true)] (.bool (true)) Try.results82 (.tmp (by kernel_rfl) (by kernel_rfl) .nil) (by kernel_rfl) (hRet _ _ ⟨_, _, rfl, hM12.clear, ?_⟩)
    -- end Lf
    rw [fitB_yes (by assumption)]

end Go.Vk
