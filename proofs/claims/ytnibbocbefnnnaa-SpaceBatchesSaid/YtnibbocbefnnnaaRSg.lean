import Derived.Test.YtnibbocbefnnnaaRPlainSp
import Derived.Test.YtnibbocbefnnnaaRSb
import Derived.Test.YtnibbocbefnnnaaRSf
import Derived.Test.YtnibbocbefnnnaaRSp
set_option linter.unusedVariables false
set_option linter.unusedSimpArgs false
namespace Go.Vk
open Go.Proofs
variable {D : List Deferred}
set_option maxHeartbeats 4000000 in
set_option maxRecDepth 100000 in
theorem f86 (V : VT) (w : World) (bp : Nat) (Ap : Option Addr) (cp mp : Nat) (pL : List (Str × List (Int × Str × Bool))) (pl pm : Int) (t : Int) (hS : St V w [spE bp Ap cp mp (pL) (pl) (pm)]) :
    Calls Try.prog 86 #[.pointer (some ⟨bp, 0, none⟩), .int .i64 (t)] w (Ret V w [spE bp Ap cp mp (pL) (pl) (pm)] fun rv V' E' => rv = .int .i64 (kepE t pl pm) ∧ E' = [spE bp Ap cp mp (pL) (pl) (pm)]) := by
  refine calls_env (n := 23) Try.func86 (c := _) rfl Try.ntmps86 (by kernel_rfl) (fun R hRet => ?_)
  have hV := hS.inW
  have hM0 : Step V w [spE bp Ap cp mp (pL) (pl) (pm)] V w [spE bp Ap cp mp (pL) (pl) (pm)] := Step.refl hS
  refine wp_seq_k (fun K1 hK1 => ?_)
  refine wp_reg ?_
  refine wpF_seg 1 (by kernel_rfl) ?_
  refine wpF_end _ (by kernel_rfl) (then_n (hK1 _ _ ?_))
  refine wp_seq_k (fun K2 hK2 => ?_)
  refine wp_block ?_
  refine wp_seq_k (fun K3 hK3 => ?_)
  refine wp_reg ?_
  refine wpF_seg 1 (by kernel_rfl) ?_
  have hM4 := hM0.front 0 rfl
  have hM12 : Step V w [spE bp Ap cp mp (pL) (pl) (pm)] V _ ([spE bp Ap cp mp (pL) (pl) (pm)]) := hM4
  refine wpF_callE [spE bp Ap cp mp (pL) (pl) (pm)] ([]) hM12 (f := 81) (caps := #[]) (h := (by kernel_rfl : opAt _ _ _ _ _ = some (.call (.mk (.value (.func 81)) #[(.tmp 6)] #[53]), some 7))) (by kernel_rfl) (by kernel_rfl) (by kernel_rfl) (f81 _ _ bp Ap cp mp (pL) (pl) (pm) (St.part (E := [spE bp Ap cp mp (pL) (pl) (pm)]) (F := ([])) hM12.ok)) (fun v5 V6 w7 Eo8 le9 hM10 hp11 => ?_)
  obtain ⟨rfl, rfl⟩ := hp11
  have hM13 : Step V w [spE bp Ap cp mp (pL) (pl) (pm)] V6 _ ([spE bp Ap cp mp ((pL)) ((pl)) ((pm))]) := hM10
  refine wpF_seg 2 (by kernel_rfl) ?_
  refine wpF_end _ (by kernel_rfl) (then_n (hK3 _ _ ?_))
  refine wp_cf (by kernel_rfl) ?_
  refine wp_seq_k (fun K14 hK14 => ?_)
  refine wp_reg ?_
  refine wpF_seg 4 (by kernel_rfl) ?_
  have hM15 := hM13.openSp 0 rfl
  have hs16 : SpI ((pL)) := (hM13.spOk 0 rfl)
  have hM17 : Step V w [spE bp Ap cp mp (pL) (pl) (pm)] V6 _ ([.blk bp (.cells #[.slice Ap (keysOf ((pL))).length cp, .map (some mp), .int .i64 ((pl)), .int .i64 ((pm))] 71), .row strK 9 Ap cp (keysOf ((pL))), mapE false (slK (prK (intK .i64) (prK strK boolK))) mp (fun k_ => lk k_ ((pL)))]) := hM15
  refine gF hM17 (.load 3 (.tmp 13)) (some 14) (by kernel_rfl) (Y_load 0 rfl (off := 3) (by kernel_rfl) (.int .i64 ((pm))) (by kernel_rfl)) ?_
  refine wpF_seg 2 (by kernel_rfl) ?_
  refine wpF_end _ (by kernel_rfl) (then_n (hK14 _ _ ?_))
  refine wp_if (decide ((t) < ((pm)))) (by kernel_rfl) (fun h18 => ?_) (fun h18 => ?_)
  · -- t
    have p19 : ((t) < ((pm))) := of_decide_eq_true h18
    refine wp_seq_k (fun K20 hK20 => ?_)
    refine wp_reg ?_
    refine wpF_seg 1 (by kernel_rfl) ?_
    refine wpF_end _ (by kernel_rfl) (then_n (hK20 _ _ ?_))
    refine wp_ret (blk_r (then_r (?_)))
    have hM21 := hM17.front 2 rfl
    have hM22 := hM21.front 2 rfl
    have hM23 := hM22.front 2 rfl
    have hM24 : Step V w [spE bp Ap cp mp (pL) (pl) (pm)] V6 _ ([.blk bp (.cells #[.slice Ap (keysOf ((pL))).length cp, .map (some mp), .int .i64 ((pl)), .int .i64 ((pm))] 71), .row strK 9 Ap cp (keysOf ((pL))), mapE false (slK (prK (intK .i64) (prK strK boolK))) mp (fun k_ => lk k_ ((pL)))]) := hM23
    have hk25 : keysOf ((pL)) = keysOf ((pL)) := rfl
    have hf26 : (fun k_ => lk k_ ((pL))) = (fun k_ => lk k_ ((pL))) := rfl
    have ho27 : SpI ((pL)) := hs16
    have hM28 : Step V w [spE bp Ap cp mp (pL) (pl) (pm)] V6 _ (spE bp Ap cp mp ((pL)) ((pl)) ((pm)) :: []) := Step.closeSp hk25 hf26 ho27 (by exact hM24)
    have hM29 : Step V w [spE bp Ap cp mp (pL) (pl) (pm)] V6 _ ([spE bp Ap cp mp ((pL)) ((pl)) ((pm))]) := hM28
    have hM30 := hM29.front 0 rfl
    have hM31 : Step V w [spE bp Ap cp mp (pL) (pl) (pm)] V6 _ ([spE bp Ap cp mp ((pL)) ((pl)) ((pm))]) := hM30
    refine retN [.int .i64 (12)] (.int .i64 (12)) Try.results86 (.tmp (by kernel_rfl) (by kernel_rfl) .nil) (by kernel_rfl) (hRet _ _ ⟨_, _, _, rfl, hM31, ?_⟩)
    -- end t
    refine ⟨?_, ?_⟩
    · simp only [kepE, h18, cond_true, cond_false, Bool.true_or, Bool.or_true, Bool.false_or, Bool.or_false, Bool.true_and, Bool.and_true, Bool.false_and, Bool.and_false, Bool.not_true, Bool.not_false]
    · rfl
  · -- f
    have p32 : ¬ ((t) < ((pm))) := of_decide_eq_false h18
    refine wp_seq_k (fun K33 hK33 => ?_)
    refine wp_reg ?_
    refine wpF_seg 4 (by kernel_rfl) ?_
    refine gF hM17 (.load 3 (.tmp 20)) (some 21) (by kernel_rfl) (Y_load 0 rfl (off := 2) (by kernel_rfl) (.int .i64 ((pl))) (by kernel_rfl)) ?_
    refine wpF_seg 2 (by kernel_rfl) ?_
    refine wpF_end _ (by kernel_rfl) (then_n (hK33 _ _ ?_))
    refine wp_if (decide (((pl)) < (t))) (by kernel_rfl) (fun h34 => ?_) (fun h34 => ?_)
    · -- ft
      have p35 : (((pl)) < (t)) := of_decide_eq_true h34
      refine wp_seq_k (fun K36 hK36 => ?_)
      refine wp_reg ?_
      refine wpF_seg 1 (by kernel_rfl) ?_
      refine wpF_end _ (by kernel_rfl) (then_n (hK36 _ _ ?_))
      refine wp_ret (blk_r (then_r (?_)))
      have hM37 := hM17.front 2 rfl
      have hM38 := hM37.front 2 rfl
      have hM39 := hM38.front 2 rfl
      have hM40 : Step V w [spE bp Ap cp mp (pL) (pl) (pm)] V6 _ ([.blk bp (.cells #[.slice Ap (keysOf ((pL))).length cp, .map (some mp), .int .i64 ((pl)), .int .i64 ((pm))] 71), .row strK 9 Ap cp (keysOf ((pL))), mapE false (slK (prK (intK .i64) (prK strK boolK))) mp (fun k_ => lk k_ ((pL)))]) := hM39
      have hk41 : keysOf ((pL)) = keysOf ((pL)) := rfl
      have hf42 : (fun k_ => lk k_ ((pL))) = (fun k_ => lk k_ ((pL))) := rfl
      have ho43 : SpI ((pL)) := hs16
      have hM44 : Step V w [spE bp Ap cp mp (pL) (pl) (pm)] V6 _ (spE bp Ap cp mp ((pL)) ((pl)) ((pm)) :: []) := Step.closeSp hk41 hf42 ho43 (by exact hM40)
      have hM45 : Step V w [spE bp Ap cp mp (pL) (pl) (pm)] V6 _ ([spE bp Ap cp mp ((pL)) ((pl)) ((pm))]) := hM44
      have hM46 := hM45.front 0 rfl
      have hM47 : Step V w [spE bp Ap cp mp (pL) (pl) (pm)] V6 _ ([spE bp Ap cp mp ((pL)) ((pl)) ((pm))]) := hM46
      refine retN [.int .i64 (13)] (.int .i64 (13)) Try.results86 (.tmp (by kernel_rfl) (by kernel_rfl) .nil) (by kernel_rfl) (hRet _ _ ⟨_, _, _, rfl, hM47, ?_⟩)
      -- end ft
      refine ⟨?_, ?_⟩
      · simp only [kepE, h18, h34, cond_true, cond_false, Bool.true_or, Bool.or_true, Bool.false_or, Bool.or_false, Bool.true_and, Bool.and_true, Bool.false_and, Bool.and_false, Bool.not_true, Bool.not_false]
      · rfl
    · -- ff
      have p48 : ¬ (((pl)) < (t)) := of_decide_eq_false h34
      refine wp_skip (blk_n (then_n (hK2 _ _ ?_)))
      refine wp_seq_k (fun K49 hK49 => ?_)
      refine wp_reg ?_
      refine wpF_seg 1 (by kernel_rfl) ?_
      refine wpF_end _ (by kernel_rfl) (then_n (hK49 _ _ ?_))
      refine wp_ret ?_
      have hM50 := hM17.front 2 rfl
      have hM51 := hM50.front 2 rfl
      have hM52 := hM51.front 2 rfl
      have hM53 : Step V w [spE bp Ap cp mp (pL) (pl) (pm)] V6 _ ([.blk bp (.cells #[.slice Ap (keysOf ((pL))).length cp, .map (some mp), .int .i64 ((pl)), .int .i64 ((pm))] 71), .row strK 9 Ap cp (keysOf ((pL))), mapE false (slK (prK (intK .i64) (prK strK boolK))) mp (fun k_ => lk k_ ((pL)))]) := hM52
      have hk54 : keysOf ((pL)) = keysOf ((pL)) := rfl
      have hf55 : (fun k_ => lk k_ ((pL))) = (fun k_ => lk k_ ((pL))) := rfl
      have ho56 : SpI ((pL)) := hs16
      have hM57 : Step V w [spE bp Ap cp mp (pL) (pl) (pm)] V6 _ (spE bp Ap cp mp ((pL)) ((pl)) ((pm)) :: []) := Step.closeSp hk54 hf55 ho56 (by exact hM53)
      have hM58 : Step V w [spE bp Ap cp mp (pL) (pl) (pm)] V6 _ ([spE bp Ap cp mp ((pL)) ((pl)) ((pm))]) := hM57
      have hM59 := hM58.front 0 rfl
      have hM60 : Step V w [spE bp Ap cp mp (pL) (pl) (pm)] V6 _ ([spE bp Ap cp mp ((pL)) ((pl)) ((pm))]) := hM59
      refine retN [.int .i64 (0)] (.int .i64 (0)) Try.results86 (.tmp (by kernel_rfl) (by kernel_rfl) .nil) (by kernel_rfl) (hRet _ _ ⟨_, _, _, rfl, hM60, ?_⟩)
      -- end ff
      refine ⟨?_, ?_⟩
      · simp only [kepE, h18, h34, cond_true, cond_false, Bool.true_or, Bool.or_true, Bool.false_or, Bool.or_false, Bool.true_and, Bool.and_true, Bool.false_and, Bool.and_false, Bool.not_true, Bool.not_false]
      · rfl

set_option maxHeartbeats 4000000 in
set_option maxRecDepth 100000 in
theorem f39 (V : VT) (w : World) (bp : Nat) (Ap : Option Addr) (cp mp : Nat) (pL : List (Str × List (Int × Str × Bool))) (pl pm : Int) (hS : St V w [spE bp Ap cp mp (pL) (pl) (pm)]) :
    Calls Try.prog 39 #[.pointer (some ⟨bp, 0, none⟩)] w (Ret V w [spE bp Ap cp mp (pL) (pl) (pm)] fun rv V' E' => rv = .int .i64 (pl) ∧ E' = [spE bp Ap cp mp (pL) (pl) (pm)]) := by
  refine calls_env (n := 10) Try.func39 (c := _) rfl Try.ntmps39 (by kernel_rfl) (fun R hRet => ?_)
  have hV := hS.inW
  have hM0 : Step V w [spE bp Ap cp mp (pL) (pl) (pm)] V w [spE bp Ap cp mp (pL) (pl) (pm)] := Step.refl hS
  refine wp_seq_k (fun K1 hK1 => ?_)
  refine wp_reg ?_
  refine wpF_seg 1 (by kernel_rfl) ?_
  refine wpF_end _ (by kernel_rfl) (then_n (hK1 _ _ ?_))
  refine wp_seq_k (fun K2 hK2 => ?_)
  refine wp_seq_k (fun K3 hK3 => ?_)
  refine wp_reg ?_
  refine wpF_seg 1 (by kernel_rfl) ?_
  have hM4 := hM0.front 0 rfl
  have hM12 : Step V w [spE bp Ap cp mp (pL) (pl) (pm)] V _ ([spE bp Ap cp mp (pL) (pl) (pm)]) := hM4
  refine wpF_callE [spE bp Ap cp mp (pL) (pl) (pm)] ([]) hM12 (f := 81) (caps := #[]) (h := (by kernel_rfl : opAt _ _ _ _ _ = some (.call (.mk (.value (.func 81)) #[(.tmp 3)] #[53]), some 4))) (by kernel_rfl) (by kernel_rfl) (by kernel_rfl) (f81 _ _ bp Ap cp mp (pL) (pl) (pm) (St.part (E := [spE bp Ap cp mp (pL) (pl) (pm)]) (F := ([])) hM12.ok)) (fun v5 V6 w7 Eo8 le9 hM10 hp11 => ?_)
  obtain ⟨rfl, rfl⟩ := hp11
  have hM13 : Step V w [spE bp Ap cp mp (pL) (pl) (pm)] V6 _ ([spE bp Ap cp mp ((pL)) ((pl)) ((pm))]) := hM10
  refine wpF_seg 1 (by kernel_rfl) ?_
  refine wpF_end _ (by kernel_rfl) (then_n (hK3 _ _ ?_))
  refine wp_cf (by kernel_rfl) ?_
  refine wp_skip (then_n (hK2 _ _ ?_))
  refine wp_seq_k (fun K14 hK14 => ?_)
  refine wp_reg ?_
  refine wpF_seg 3 (by kernel_rfl) ?_
  have hM15 := hM13.openSp 0 rfl
  have hs16 : SpI ((pL)) := (hM13.spOk 0 rfl)
  have hM17 : Step V w [spE bp Ap cp mp (pL) (pl) (pm)] V6 _ ([.blk bp (.cells #[.slice Ap (keysOf ((pL))).length cp, .map (some mp), .int .i64 ((pl)), .int .i64 ((pm))] 71), .row strK 9 Ap cp (keysOf ((pL))), mapE false (slK (prK (intK .i64) (prK strK boolK))) mp (fun k_ => lk k_ ((pL)))]) := hM15
  refine gF hM17 (.load 3 (.tmp 8)) (some 9) (by kernel_rfl) (Y_load 0 rfl (off := 2) (by kernel_rfl) (.int .i64 ((pl))) (by kernel_rfl)) ?_
  refine wpF_seg 1 (by kernel_rfl) ?_
  refine wpF_end _ (by kernel_rfl) (then_n (hK14 _ _ ?_))
  refine wp_ret ?_
  have hM18 := hM17.front 2 rfl
  have hM19 := hM18.front 2 rfl
  have hM20 := hM19.front 2 rfl
  have hM21 : Step V w [spE bp Ap cp mp (pL) (pl) (pm)] V6 _ ([.blk bp (.cells #[.slice Ap (keysOf ((pL))).length cp, .map (some mp), .int .i64 ((pl)), .int .i64 ((pm))] 71), .row strK 9 Ap cp (keysOf ((pL))), mapE false (slK (prK (intK .i64) (prK strK boolK))) mp (fun k_ => lk k_ ((pL)))]) := hM20
  have hk22 : keysOf ((pL)) = keysOf ((pL)) := rfl
  have hf23 : (fun k_ => lk k_ ((pL))) = (fun k_ => lk k_ ((pL))) := rfl
  have ho24 : SpI ((pL)) := hs16
  have hM25 : Step V w [spE bp Ap cp mp (pL) (pl) (pm)] V6 _ (spE bp Ap cp mp ((pL)) ((pl)) ((pm)) :: []) := Step.closeSp hk22 hf23 ho24 (by exact hM21)
  have hM26 : Step V w [spE bp Ap cp mp (pL) (pl) (pm)] V6 _ ([spE bp Ap cp mp ((pL)) ((pl)) ((pm))]) := hM25
  have hM27 := hM26.front 0 rfl
  have hM28 : Step V w [spE bp Ap cp mp (pL) (pl) (pm)] V6 _ ([spE bp Ap cp mp ((pL)) ((pl)) ((pm))]) := hM27
  refine retN [.int .i64 ((pl))] (.int .i64 ((pl))) Try.results39 (.tmp (by kernel_rfl) (by kernel_rfl) .nil) (by kernel_rfl) (hRet _ _ ⟨_, _, _, rfl, hM28, ?_⟩)
  -- end 
  refine ⟨?_, ?_⟩
  · rfl
  · rfl

set_option maxHeartbeats 4000000 in
set_option maxRecDepth 100000 in
theorem f40 (V : VT) (w : World) (bp : Nat) (Ap : Option Addr) (cp mp : Nat) (pL : List (Str × List (Int × Str × Bool))) (pl pm : Int) (y : Str) (hy : y.length ≤ maxL) (t : Int) (hS : St V w [spE bp Ap cp mp (pL) (pl) (pm)]) :
    Calls Try.prog 40 #[.pointer (some ⟨bp, 0, none⟩), bs (y), .int .i64 (t)] w (Ret V w [spE bp Ap cp mp (pL) (pl) (pm)] fun rv V' E' => rv = .tuple #[bs (getS pL pl pm y t), .int .i64 (getE pL pl pm y t)] ∧ E' = [spE bp Ap cp mp (pL) (pl) (pm)] ∧ (getS pL pl pm y t).length ≤ 140737488355328) := by
  have mxy : y.length ≤ 140737488355328 := hy
  refine calls_env (n := 31) Try.func40 (c := _) rfl Try.ntmps40 (by kernel_rfl) (fun R hRet => ?_)
  have hV := hS.inW
  have hM0 : Step V w [spE bp Ap cp mp (pL) (pl) (pm)] V w [spE bp Ap cp mp (pL) (pl) (pm)] := Step.refl hS
  refine wp_seq_k (fun K1 hK1 => ?_)
  refine wp_reg ?_
  refine wpF_seg 2 (by kernel_rfl) ?_
  refine wpF_end _ (by kernel_rfl) (then_n (hK1 _ _ ?_))
  refine wp_seq_k (fun K2 hK2 => ?_)
  refine wp_seq_k (fun K3 hK3 => ?_)
  refine wp_reg ?_
  refine wpF_seg 2 (by kernel_rfl) ?_
  have hM4 := hM0.front 0 rfl
  have hM12 : Step V w [spE bp Ap cp mp (pL) (pl) (pm)] V _ ([spE bp Ap cp mp (pL) (pl) (pm)]) := hM4
  refine wpF_callE [spE bp Ap cp mp (pL) (pl) (pm)] ([]) hM12 (f := 86) (caps := #[]) (h := (by kernel_rfl : opAt _ _ _ _ _ = some (.call (.mk (.value (.func 86)) #[(.tmp 11), (.tmp 12)] #[53, 3]), some 13))) (by kernel_rfl) (by kernel_rfl) (by kernel_rfl) (f86 _ _ bp Ap cp mp (pL) (pl) (pm) (t) (St.part (E := [spE bp Ap cp mp (pL) (pl) (pm)]) (F := ([])) hM12.ok)) (fun v5 V6 w7 Eo8 le9 hM10 hp11 => ?_)
  obtain ⟨rfl, rfl⟩ := hp11
  have hM13 : Step V w [spE bp Ap cp mp (pL) (pl) (pm)] V6 _ ([spE bp Ap cp mp ((pL)) ((pl)) ((pm))]) := hM10
  refine wpF_seg 1 (by kernel_rfl) ?_
  refine wpF_end _ (by kernel_rfl) (then_n (hK3 _ _ ?_))
  refine wp_seq_k (fun K14 hK14 => ?_)
  refine wp_reg ?_
  refine wpF_seg 2 (by kernel_rfl) ?_
  refine wpF_end _ (by kernel_rfl) (then_n (hK14 _ _ ?_))
  refine wp_if (!(decide ((kepE (t) (pl) (pm)) = (0)))) (by kernel_rfl) (fun h15 => ?_) (fun h15 => ?_)
  · -- t
    have h16 : decide ((kepE (t) (pl) (pm)) = (0)) = false := by rw [← Bool.not_not (decide _), h15]; rfl
    have p17 : ¬ ((kepE (t) (pl) (pm)) = (0)) := of_decide_eq_false h16
    have hk0 : decide (kepE t pl pm = 0) = false := decide_eq_false (by omega)
    refine wp_seq_k (fun K18 hK18 => ?_)
    refine wp_reg ?_
    refine wpF_seg 3 (by kernel_rfl) ?_
    refine wpF_end _ (by kernel_rfl) (then_n (hK18 _ _ ?_))
    refine wp_ret (then_r (?_))
    have hM19 := hM13.front 0 rfl
    have hM20 : Step V w [spE bp Ap cp mp (pL) (pl) (pm)] V6 _ ([spE bp Ap cp mp ((pL)) ((pl)) ((pm))]) := hM19
    refine retN [bs ([]), .int .i64 (kepE (t) (pl) (pm))] (.tuple #[bs ([]), .int .i64 (kepE (t) (pl) (pm))]) Try.results40 (.tmp (by kernel_rfl) (by kernel_rfl) (.tmp (by kernel_rfl) (by kernel_rfl) .nil)) (by kernel_rfl) (hRet _ _ ⟨_, _, _, rfl, hM20, ?_⟩)
    -- end t
    refine ⟨?_, ?_, ?_⟩
    · first | (simp only [getS, getE, hk0, Bool.false_and, cond_false]; done) | (have ha : atO (lkD y pL) t = true := by assumption); (simp only [getS, getE, hk0, ha, Bool.true_and, Bool.and_self, cond_true] <;> rfl) | (have ha : atO (lkD y pL) t = false := by assumption); (simp only [getS, getE, hk0, ha, Bool.and_false, cond_true, cond_false] <;> rfl)
    · rfl
    · exact getS_len _ _ _ _ _
  · -- f
    have h21 : decide ((kepE (t) (pl) (pm)) = (0)) = true := by rw [← Bool.not_not (decide _), h15]; rfl
    have p22 : ((kepE (t) (pl) (pm)) = (0)) := of_decide_eq_true h21
    have hk0 : decide (kepE t pl pm = 0) = true := decide_eq_true (by omega)
    refine wp_skip (then_n (hK2 _ _ ?_))
    refine wp_seq_k (fun K23 hK23 => ?_)
    refine wp_reg ?_
    refine wpF_seg 3 (by kernel_rfl) ?_
    have hM24 := hM13.openSp 0 rfl
    have hs25 : SpI ((pL)) := (hM13.spOk 0 rfl)
    have hM26 : Step V w [spE bp Ap cp mp (pL) (pl) (pm)] V6 _ ([.blk bp (.cells #[.slice Ap (keysOf ((pL))).length cp, .map (some mp), .int .i64 ((pl)), .int .i64 ((pm))] 71), .row strK 9 Ap cp (keysOf ((pL))), mapE false (slK (prK (intK .i64) (prK strK boolK))) mp (fun k_ => lk k_ ((pL)))]) := hM24
    refine gF hM26 (.load 69 (.tmp 20)) (some 21) (by kernel_rfl) (Y_load 0 rfl (off := 1) (by kernel_rfl) (.map (some mp)) (by kernel_rfl)) ?_
    refine wpF_seg 1 (by kernel_rfl) ?_
    refine wpF_lookup (kt := 9) (e := 78) (z := .slice none 0 0) hM26 2 rfl (y) (h := (by kernel_rfl : opAt _ _ _ _ _ = some (.lookup 69 (.tmp 21) (.tmp 22) false, some 23))) (by kernel_rfl) (by kernel_rfl) (elemV.of_sl (Rd.nil _ _)) (by kernel_rfl) (by kernel_rfl) (fun v27 hv28 => ?_)
    obtain ⟨A30, c31, rfl, r29⟩ := elemV.sl (xs := ((lk (y) ((pL))).getD [])) hv28
    have l32 : (((lk (y) ((pL))).getD [])).length ≤ 140737488355328 := r29.max
    refine wpF_seg 1 (by kernel_rfl) ?_
    refine wpF_callP hM26 (f := 88) (caps := #[]) (h := (by kernel_rfl : opAt _ _ _ _ _ = some (.call (.mk (.value (.func 88)) #[(.tmp 23), (.tmp 24)] #[78, 3]), some 25))) (by kernel_rfl) (by kernel_rfl) (by kernel_rfl) (f88 _ _ hM26.inW A30 c31 (((lk (y) ((pL))).getD [])) r29 (t)) (fun v33 V34 w35 le36 hM37 hp38 => ?_)
    obtain ⟨rfl, x39⟩ := hp38
    have x39 : (atS (((lk (y) ((pL))).getD [])) (t)).length ≤ 140737488355328 := x39
    refine wpF_seg 5 (by kernel_rfl) ?_
    refine wpF_end _ (by kernel_rfl) (then_n (hK23 _ _ ?_))
    refine wp_seq_k (fun K40 hK40 => ?_)
    refine wp_seq_k (fun K41 hK41 => ?_)
    refine wp_reg ?_
    refine wpF_seg 2 (by kernel_rfl) ?_
    refine wpF_end _ (by kernel_rfl) (then_n (hK41 _ _ ?_))
    refine wp_if (!(atO (((lk (y) ((pL))).getD [])) (t))) (by kernel_rfl) (fun h42 => ?_) (fun h42 => ?_)
    · -- ft
      have h43 : (atO (((lk (y) ((pL))).getD [])) (t)) = false := by simpa using h42
      refine wp_seq_k (fun K44 hK44 => ?_)
      refine wp_reg ?_
      refine wpF_seg 2 (by kernel_rfl) ?_
      refine wpF_end _ (by kernel_rfl) (then_n (hK44 _ _ ?_))
      refine wp_ret (then_r (?_))
      have hM45 := hM37.front 2 rfl
      have hM46 := hM45.front 2 rfl
      have hM47 := hM46.front 2 rfl
      have hM48 : Step V w [spE bp Ap cp mp (pL) (pl) (pm)] V34 _ ([.blk bp (.cells #[.slice Ap (keysOf ((pL))).length cp, .map (some mp), .int .i64 ((pl)), .int .i64 ((pm))] 71), .row strK 9 Ap cp (keysOf ((pL))), mapE false (slK (prK (intK .i64) (prK strK boolK))) mp (fun k_ => lk k_ ((pL)))]) := hM47
      have hk49 : keysOf ((pL)) = keysOf ((pL)) := rfl
      have hf50 : (fun k_ => lk k_ ((pL))) = (fun k_ => lk k_ ((pL))) := rfl
      have ho51 : SpI ((pL)) := hs25
      have hM52 : Step V w [spE bp Ap cp mp (pL) (pl) (pm)] V34 _ (spE bp Ap cp mp ((pL)) ((pl)) ((pm)) :: []) := Step.closeSp hk49 hf50 ho51 (by exact hM48)
      have hM53 : Step V w [spE bp Ap cp mp (pL) (pl) (pm)] V34 _ ([spE bp Ap cp mp ((pL)) ((pl)) ((pm))]) := hM52
      have hM54 := hM53.front 0 rfl
      have hM55 : Step V w [spE bp Ap cp mp (pL) (pl) (pm)] V34 _ ([spE bp Ap cp mp ((pL)) ((pl)) ((pm))]) := hM54
      refine retN [bs ([]), .int .i64 (7)] (.tuple #[bs ([]), .int .i64 (7)]) Try.results40 (.tmp (by kernel_rfl) (by kernel_rfl) (.tmp (by kernel_rfl) (by kernel_rfl) .nil)) (by kernel_rfl) (hRet _ _ ⟨_, _, _, rfl, hM55, ?_⟩)
      -- end ft
      refine ⟨?_, ?_, ?_⟩
      · first | (simp only [getS, getE, hk0, Bool.false_and, cond_false]; done) | (have ha : atO (lkD y pL) t = true := by assumption); (simp only [getS, getE, hk0, ha, Bool.true_and, Bool.and_self, cond_true] <;> rfl) | (have ha : atO (lkD y pL) t = false := by assumption); (simp only [getS, getE, hk0, ha, Bool.and_false, cond_true, cond_false] <;> rfl)
      · rfl
      · exact getS_len _ _ _ _ _
    · -- ff
      have h56 : (atO (((lk (y) ((pL))).getD [])) (t)) = true := by simpa using h42
      refine wp_skip (then_n (hK40 _ _ ?_))
      refine wp_seq_k (fun K57 hK57 => ?_)
      refine wp_reg ?_
      refine wpF_seg 3 (by kernel_rfl) ?_
      refine wpF_end _ (by kernel_rfl) (then_n (hK57 _ _ ?_))
      refine wp_ret ?_
      have hM58 := hM37.front 2 rfl
      have hM59 := hM58.front 2 rfl
      have hM60 := hM59.front 2 rfl
      have hM61 : Step V w [spE bp Ap cp mp (pL) (pl) (pm)] V34 _ ([.blk bp (.cells #[.slice Ap (keysOf ((pL))).length cp, .map (some mp), .int .i64 ((pl)), .int .i64 ((pm))] 71), .row strK 9 Ap cp (keysOf ((pL))), mapE false (slK (prK (intK .i64) (prK strK boolK))) mp (fun k_ => lk k_ ((pL)))]) := hM60
      have hk62 : keysOf ((pL)) = keysOf ((pL)) := rfl
      have hf63 : (fun k_ => lk k_ ((pL))) = (fun k_ => lk k_ ((pL))) := rfl
      have ho64 : SpI ((pL)) := hs25
      have hM65 : Step V w [spE bp Ap cp mp (pL) (pl) (pm)] V34 _ (spE bp Ap cp mp ((pL)) ((pl)) ((pm)) :: []) := Step.closeSp hk62 hf63 ho64 (by exact hM61)
      have hM66 : Step V w [spE bp Ap cp mp (pL) (pl) (pm)] V34 _ ([spE bp Ap cp mp ((pL)) ((pl)) ((pm))]) := hM65
      have hM67 := hM66.front 0 rfl
      have hM68 : Step V w [spE bp Ap cp mp (pL) (pl) (pm)] V34 _ ([spE bp Ap cp mp ((pL)) ((pl)) ((pm))]) := hM67
      refine retN [bs (atS (((lk (y) ((pL))).getD [])) (t)), .int .i64 (0)] (.tuple #[bs (atS (((lk (y) ((pL))).getD [])) (t)), .int .i64 (0)]) Try.results40 (.tmp (by kernel_rfl) (by kernel_rfl) (.tmp (by kernel_rfl) (by kernel_rfl) .nil)) (by kernel_rfl) (hRet _ _ ⟨_, _, _, rfl, hM68, ?_⟩)
      -- end ff
      refine ⟨?_, ?_, ?_⟩
      · first | (simp only [getS, getE, hk0, Bool.false_and, cond_false]; done) | (have ha : atO (lkD y pL) t = true := by assumption); (simp only [getS, getE, hk0, ha, Bool.true_and, Bool.and_self, cond_true] <;> rfl) | (have ha : atO (lkD y pL) t = false := by assumption); (simp only [getS, getE, hk0, ha, Bool.and_false, cond_true, cond_false] <;> rfl)
      · rfl
      · exact getS_len _ _ _ _ _

end Go.Vk
