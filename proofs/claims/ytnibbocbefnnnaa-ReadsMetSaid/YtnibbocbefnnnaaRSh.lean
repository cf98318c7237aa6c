import Derived.Test.YtnibbocbefnnnaaRPlainSp
import Derived.Test.YtnibbocbefnnnaaRSd
import Derived.Test.YtnibbocbefnnnaaRSf
import Derived.Test.YtnibbocbefnnnaaRSp
set_option linter.unusedVariables false
set_option linter.unusedSimpArgs false
namespace Go.Vk
open Go.Proofs
variable {D : List Deferred}
set_option maxHeartbeats 4000000 in
set_option maxRecDepth 100000 in
theorem f35 (V : VT) (w : World) (bp : Nat) (Ap : Option Addr) (cp mp : Nat) (pL : List (Str × List (Int × Str × Bool))) (pl pm : Int) (t : Int) (Al : Option Addr) (cl : Nat) (l : List ((Str × Str × Bool))) (hl : Rd (prK strK (prK strK boolK)) V Al cl l) (hS : St V w [spE bp Ap cp mp (pL) (pl) (pm)]) (h5 : pL.length + l.length ≤ 99000) (hb : ∀ y, (lkD y pL).length + l.length < 4398046511104) (h6 : IntKind.i64.min ≤ t ∧ t ≤ IntKind.i64.max) :
    Calls Try.prog 35 #[.pointer (some ⟨bp, 0, none⟩), .int .i64 (t), .slice Al (l).length cl] w (Ret V w [spE bp Ap cp mp (pL) (pl) (pm)] fun rv V' E' => ∃ (Aop : Option Addr), ∃ (cop : Nat), rv = .int .i64 (appE t pl l) ∧ E' = [spE bp Aop cop mp (appS t pL pl l) (appT t pl l) (pm)]) := by
  have mxl : l.length ≤ 140737488355328 := hl.max
  refine calls_env (n := 63) Try.func35 (c := _) rfl Try.ntmps35 (by kernel_rfl) (fun R hRet => ?_)
  have hV := hS.inW
  have hM0 : Step V w [spE bp Ap cp mp (pL) (pl) (pm)] V w [spE bp Ap cp mp (pL) (pl) (pm)] := Step.refl hS
  have hup : SpI pL := hM0.spOk 0 rfl
  refine wp_seq_k (fun K1 hK1 => ?_)
  refine wp_reg ?_
  refine wpF_seg 1 (by kernel_rfl) ?_
  refine wpF_end _ (by kernel_rfl) (then_n (hK1 _ _ ?_))
  refine wp_seq_k (fun K2 hK2 => ?_)
  refine wp_block ?_
  refine wp_seq_k (fun K3 hK3 => ?_)
  refine wp_reg ?_
  refine wpF_seg 1 (by kernel_rfl) ?_
  have hM4 := hM0.front 0 rfl
  have hM12 : Step V w [spE bp Ap cp mp (pL) (pl) (pm)] V _ ([spE bp Ap cp mp (pL) (pl) (pm)]) := hM4
  refine wpF_callE [spE bp Ap cp mp (pL) (pl) (pm)] ([]) hM12 (f := 81) (caps := #[]) (h := (by kernel_rfl : opAt _ _ _ _ _ = some (.call (.mk (.value (.func 81)) #[(.tmp 12)] #[53]), some 13))) (by kernel_rfl) (by kernel_rfl) (by kernel_rfl) (f81 _ _ bp Ap cp mp (pL) (pl) (pm) (St.part (E := [spE bp Ap cp mp (pL) (pl) (pm)]) (F := ([])) hM12.ok)) (fun v5 V6 w7 Eo8 le9 hM10 hp11 => ?_)
  obtain ⟨rfl, rfl⟩ := hp11
  have hM13 : Step V w [spE bp Ap cp mp (pL) (pl) (pm)] V6 _ ([spE bp Ap cp mp ((pL)) ((pl)) ((pm))]) := hM10
  refine wpF_seg 2 (by kernel_rfl) ?_
  refine wpF_end _ (by kernel_rfl) (then_n (hK3 _ _ ?_))
  refine wp_cf (by kernel_rfl) ?_
  refine wp_seq_k (fun K14 hK14 => ?_)
  refine wp_reg ?_
  refine wpF_seg 4 (by kernel_rfl) ?_
  have hM15 := hM13.openSp 0 rfl
  have hs16 : SpI ((pL)) := (hM13.spOk 0 rfl)
  have hM17 : Step V w [spE bp Ap cp mp (pL) (pl) (pm)] V6 _ ([.blk bp (.cells #[.slice Ap (keysOf ((pL))).length cp, .map (some mp), .int .i64 ((pl)), .int .i64 ((pm))] 71), .row strK 9 Ap cp (keysOf ((pL))), mapE false (slK (prK (intK .i64) (prK strK boolK))) mp (fun k_ => lk k_ ((pL)))]) := hM15
  refine gF hM17 (.load 3 (.tmp 19)) (some 20) (by kernel_rfl) (Y_load 0 rfl (off := 2) (by kernel_rfl) (.int .i64 ((pl))) (by kernel_rfl)) ?_
  refine wpF_seg 2 (by kernel_rfl) ?_
  refine wpF_caseB 22 (decide ((t) ≤ ((pl)))) (by kernel_rfl) (by kernel_rfl) (fun h18 => ?_) (fun h18 => ?_)
  · -- t
    have p19 : ((t) ≤ ((pl))) := of_decide_eq_true h18
    refine wpF_seg 4 (by kernel_rfl) ?_
    refine wpF_end _ (by kernel_rfl) (then_n (hK14 _ _ ?_))
    refine wp_ct (by kernel_rfl) ?_
    refine wp_seq_k (fun K20 hK20 => ?_)
    refine wp_reg ?_
    refine wpF_seg 1 (by kernel_rfl) ?_
    refine wpF_end _ (by kernel_rfl) (then_n (hK20 _ _ ?_))
    refine wp_ret (blk_r (then_r (?_)))
    have hM21 := hM17.front 2 rfl
    have hM22 := hM21.front 2 rfl
    have hM23 := hM22.front 2 rfl
    have hM24 : Step V w [spE bp Ap cp mp (pL) (pl) (pm)] V6 _ ([.blk bp (.cells #[.slice Ap (keysOf ((pL))).length cp, .map (some mp), .int .i64 ((pl)), .int .i64 ((pm))] 71), .row strK 9 Ap cp (keysOf ((pL))), mapE false (slK (prK (intK .i64) (prK strK boolK))) mp (fun k_ => lk k_ ((pL)))]) := hM23
    have hk25 : keysOf ((pL)) = keysOf ((pL)) := rfl
    have hf26 : (fun k_ => lk k_ ((pL))) = (fun k_ => lk k_ ((pL))) := rfl
    have ho27 : SpI ((pL)) := hs16
    have hM28 : Step V w [spE bp Ap cp mp (pL) (pl) (pm)] V6 _ (spE bp Ap cp mp ((pL)) ((pl)) ((pm)) :: []) := Step.closeSp hk25 hf26 ho27 (by exact hM24)
    have hM29 : Step V w [spE bp Ap cp mp (pL) (pl) (pm)] V6 _ ([spE bp Ap cp mp ((pL)) ((pl)) ((pm))]) := hM28
    have hM30 := hM29.front 0 rfl
    have hM31 : Step V w [spE bp Ap cp mp (pL) (pl) (pm)] V6 _ ([spE bp Ap cp mp ((pL)) ((pl)) ((pm))]) := hM30
    refine retN [.int .i64 (18)] (.int .i64 (18)) Try.results35 (.tmp (by kernel_rfl) (by kernel_rfl) .nil) (by kernel_rfl) (hRet _ _ ⟨_, _, _, rfl, hM31, ?_⟩)
    -- end t
    refine ⟨Ap, cp, ?_, ?_⟩
    · simp only [appOk, appE, appS, appT, h18, cond_true, cond_false, Bool.true_or, Bool.or_true, Bool.false_or, Bool.or_false, Bool.true_and, Bool.and_true, Bool.false_and, Bool.and_false, Bool.not_true, Bool.not_false]
    · first | (rw [appK_all]; simp only [appOk, appE, appS, appT, h18, cond_true, cond_false, Bool.true_or, Bool.or_true, Bool.false_or, Bool.or_false, Bool.true_and, Bool.and_true, Bool.false_and, Bool.and_false, Bool.not_true, Bool.not_false]; done) | (simp only [appOk, appE, appS, appT, h18, cond_true, cond_false, Bool.true_or, Bool.or_true, Bool.false_or, Bool.or_false, Bool.true_and, Bool.and_true, Bool.false_and, Bool.and_false, Bool.not_true, Bool.not_false]; done)
  · -- f
    have p32 : ¬ ((t) ≤ ((pl))) := of_decide_eq_false h18
    refine wpF_seg 4 (by kernel_rfl) ?_
    refine wpF_end _ (by kernel_rfl) (then_n (hK14 _ _ ?_))
    refine wp_if (decide ((1152921504606846976) < (t))) (by kernel_rfl) (fun h33 => ?_) (fun h33 => ?_)
    · -- ft
      have p34 : ((1152921504606846976) < (t)) := of_decide_eq_true h33
      refine wp_seq_k (fun K35 hK35 => ?_)
      refine wp_reg ?_
      refine wpF_seg 1 (by kernel_rfl) ?_
      refine wpF_end _ (by kernel_rfl) (then_n (hK35 _ _ ?_))
      refine wp_ret (blk_r (then_r (?_)))
      have hM36 := hM17.front 2 rfl
      have hM37 := hM36.front 2 rfl
      have hM38 := hM37.front 2 rfl
      have hM39 : Step V w [spE bp Ap cp mp (pL) (pl) (pm)] V6 _ ([.blk bp (.cells #[.slice Ap (keysOf ((pL))).length cp, .map (some mp), .int .i64 ((pl)), .int .i64 ((pm))] 71), .row strK 9 Ap cp (keysOf ((pL))), mapE false (slK (prK (intK .i64) (prK strK boolK))) mp (fun k_ => lk k_ ((pL)))]) := hM38
      have hk40 : keysOf ((pL)) = keysOf ((pL)) := rfl
      have hf41 : (fun k_ => lk k_ ((pL))) = (fun k_ => lk k_ ((pL))) := rfl
      have ho42 : SpI ((pL)) := hs16
      have hM43 : Step V w [spE bp Ap cp mp (pL) (pl) (pm)] V6 _ (spE bp Ap cp mp ((pL)) ((pl)) ((pm)) :: []) := Step.closeSp hk40 hf41 ho42 (by exact hM39)
      have hM44 : Step V w [spE bp Ap cp mp (pL) (pl) (pm)] V6 _ ([spE bp Ap cp mp ((pL)) ((pl)) ((pm))]) := hM43
      have hM45 := hM44.front 0 rfl
      have hM46 : Step V w [spE bp Ap cp mp (pL) (pl) (pm)] V6 _ ([spE bp Ap cp mp ((pL)) ((pl)) ((pm))]) := hM45
      refine retN [.int .i64 (18)] (.int .i64 (18)) Try.results35 (.tmp (by kernel_rfl) (by kernel_rfl) .nil) (by kernel_rfl) (hRet _ _ ⟨_, _, _, rfl, hM46, ?_⟩)
      -- end ft
      refine ⟨Ap, cp, ?_, ?_⟩
      · simp only [appOk, appE, appS, appT, h18, h33, cond_true, cond_false, Bool.true_or, Bool.or_true, Bool.false_or, Bool.or_false, Bool.true_and, Bool.and_true, Bool.false_and, Bool.and_false, Bool.not_true, Bool.not_false]
      · first | (rw [appK_all]; simp only [appOk, appE, appS, appT, h18, h33, cond_true, cond_false, Bool.true_or, Bool.or_true, Bool.false_or, Bool.or_false, Bool.true_and, Bool.and_true, Bool.false_and, Bool.and_false, Bool.not_true, Bool.not_false]; done) | (simp only [appOk, appE, appS, appT, h18, h33, cond_true, cond_false, Bool.true_or, Bool.or_true, Bool.false_or, Bool.or_false, Bool.true_and, Bool.and_true, Bool.false_and, Bool.and_false, Bool.not_true, Bool.not_false]; done)
    · -- ff
      have p47 : ¬ ((1152921504606846976) < (t)) := of_decide_eq_false h33
      refine wp_seq_k (fun K48 hK48 => ?_)
      refine wp_reg ?_
      refine wpF_seg 1 (by kernel_rfl) ?_
      refine wpF_callP hM17 (f := 82) (caps := #[]) (h := (by kernel_rfl : opAt _ _ _ _ _ = some (.call (.mk (.value (.func 82)) #[(.tmp 27)] #[45]), some 28))) (by kernel_rfl) (by kernel_rfl) (by kernel_rfl) (f82 _ _ hM17.inW Al cl (l) (hl.up hM17.le)) (fun v49 V50 w51 le52 hM53 hp54 => ?_)
      obtain rfl := hp54
      refine wpF_seg 2 (by kernel_rfl) ?_
      refine wpF_end _ (by kernel_rfl) (then_n (hK48 _ _ ?_))
      refine wp_if (!(fitB (l))) (by kernel_rfl) (fun h55 => ?_) (fun h55 => ?_)
      · -- fft
        have h56 : (fitB (l)) = false := by simpa using h55
        refine wp_seq_k (fun K57 hK57 => ?_)
        refine wp_reg ?_
        refine wpF_seg 1 (by kernel_rfl) ?_
        refine wpF_end _ (by kernel_rfl) (then_n (hK57 _ _ ?_))
        refine wp_ret (blk_r (then_r (?_)))
        have hM58 := hM53.front 2 rfl
        have hM59 := hM58.front 2 rfl
        have hM60 := hM59.front 2 rfl
        have hM61 : Step V w [spE bp Ap cp mp (pL) (pl) (pm)] V50 _ ([.blk bp (.cells #[.slice Ap (keysOf ((pL))).length cp, .map (some mp), .int .i64 ((pl)), .int .i64 ((pm))] 71), .row strK 9 Ap cp (keysOf ((pL))), mapE false (slK (prK (intK .i64) (prK strK boolK))) mp (fun k_ => lk k_ ((pL)))]) := hM60
        have hk62 : keysOf ((pL)) = keysOf ((pL)) := rfl
        have hf63 : (fun k_ => lk k_ ((pL))) = (fun k_ => lk k_ ((pL))) := rfl
        have ho64 : SpI ((pL)) := hs16
        have hM65 : Step V w [spE bp Ap cp mp (pL) (pl) (pm)] V50 _ (spE bp Ap cp mp ((pL)) ((pl)) ((pm)) :: []) := Step.closeSp hk62 hf63 ho64 (by exact hM61)
        have hM66 : Step V w [spE bp Ap cp mp (pL) (pl) (pm)] V50 _ ([spE bp Ap cp mp ((pL)) ((pl)) ((pm))]) := hM65
        have hM67 := hM66.front 0 rfl
        have hM68 : Step V w [spE bp Ap cp mp (pL) (pl) (pm)] V50 _ ([spE bp Ap cp mp ((pL)) ((pl)) ((pm))]) := hM67
        refine retN [.int .i64 (2)] (.int .i64 (2)) Try.results35 (.tmp (by kernel_rfl) (by kernel_rfl) .nil) (by kernel_rfl) (hRet _ _ ⟨_, _, _, rfl, hM68, ?_⟩)
        -- end fft
        refine ⟨Ap, cp, ?_, ?_⟩
        · simp only [appOk, appE, appS, appT, h18, h33, h55, h56, cond_true, cond_false, Bool.true_or, Bool.or_true, Bool.false_or, Bool.or_false, Bool.true_and, Bool.and_true, Bool.false_and, Bool.and_false, Bool.not_true, Bool.not_false]
        · first | (rw [appK_all]; simp only [appOk, appE, appS, appT, h18, h33, h55, h56, cond_true, cond_false, Bool.true_or, Bool.or_true, Bool.false_or, Bool.or_false, Bool.true_and, Bool.and_true, Bool.false_and, Bool.and_false, Bool.not_true, Bool.not_false]; done) | (simp only [appOk, appE, appS, appT, h18, h33, h55, h56, cond_true, cond_false, Bool.true_or, Bool.or_true, Bool.false_or, Bool.or_false, Bool.true_and, Bool.and_true, Bool.false_and, Bool.and_false, Bool.not_true, Bool.not_false]; done)
      · -- fff
        have h69 : (fitB (l)) = true := by simpa using h55
        refine wp_skip (blk_n (then_n (hK2 _ _ ?_)))
        refine wp_seq_k (fun K70 hK70 => ?_)
        refine wp_seq_k (fun K71 hK71 => ?_)
        refine wp_reg ?_
        refine wpF_seg 3 (by kernel_rfl) ?_
        refine wpF_end _ (by kernel_rfl) (then_n (hK71 _ _ ?_))
        refine wp_block ?_
        have hM73 := hM53.front 2 rfl
        have hM74 := hM73.front 2 rfl
        have hM75 := hM74.front 2 rfl
        have hM76 : Step V w [spE bp Ap cp mp (pL) (pl) (pm)] V50 _ ([.blk bp (.cells #[.slice Ap (keysOf ((pL))).length cp, .map (some mp), .int .i64 ((pl)), .int .i64 ((pm))] 71), .row strK 9 Ap cp (keysOf ((pL))), mapE false (slK (prK (intK .i64) (prK strK boolK))) mp (fun k_ => lk k_ ((pL)))]) := hM75
        have hk77 : keysOf ((pL)) = keysOf ((pL)) := rfl
        have hf78 : (fun k_ => lk k_ ((pL))) = (fun k_ => lk k_ ((pL))) := rfl
        have ho79 : SpI ((pL)) := hs16
        have hM80 : Step V w [spE bp Ap cp mp (pL) (pl) (pm)] V50 _ (spE bp Ap cp mp ((pL)) ((pl)) ((pm)) :: []) := Step.closeSp hk77 hf78 ho79 (by exact hM76)
        have hM81 : Step V w [spE bp Ap cp mp (pL) (pl) (pm)] V50 _ ([spE bp Ap cp mp ((pL)) ((pl)) ((pm))]) := hM80
        have hq82 : (pL) = appK t pL l (0) := by first | rfl | simp | exact (vacK_0 _ _).symm
        have hM83 : Step V w [spE bp Ap cp mp (pL) (pl) (pm)] V50 _ ([spE bp Ap cp mp (appK t pL l (0)) ((pl)) ((pm))]) := Step.reSp (B := []) (F := []) hq82 hM81
        refine wp_base [(0, .pointer (some ⟨bp, 0, none⟩)), (1, .int .i64 (t)), (6, .int .i64 (0)), (30, .slice Al (l).length cl), (31, .int .i64 ((l.length : Int))), (32, .int .i64 ((0 : Int)))] (by kernel_rfl) (fun g84 => ?_)
        refine wp_loopX (fun (x_ : Nat) a_ w_ => ∃ (g : Nat → Value) (V_ : VT), ∃ (Ars0 : Option Addr) (crs0 : Nat), a_ = env [] 63 [(0, .pointer (some ⟨bp, 0, none⟩)), (1, .int .i64 (t)), (6, .int .i64 (0)), (30, .slice Al (l).length cl), (31, .int .i64 ((l.length : Int))), (32, .int .i64 ((x_ : Int)))] g ∧ Step V w [spE bp Ap cp mp (pL) (pl) (pm)] V_ w_ [spE bp Ars0 crs0 mp (appK t pL l (x_)) (pl) (pm)] ∧ VT.le V50 V_ ∧ (x_ ≤ l.length)) (fun (x_ : Nat) => l.length - x_) (0) ⟨g84, V50, Ap, cp, rfl, hM83, VT.le.refl _, by omega⟩ ?_
        rintro k a_ w86 ⟨g85, Vl72, Ar_89s0, cr_89s0, rfl, hM87, le88, hi89_0⟩ K89 hK89
        refine wp_seq_k (fun K90 hK90 => ?_)
        refine wp_reg ?_
        refine wpF_seg 1 (by kernel_rfl) ?_
        refine wpF_end _ (by kernel_rfl) (then_n (hK90 _ _ ?_))
        refine wp_seq_k (fun K91 hK91 => ?_)
        refine wp_if (decide (((k : Int)) < ((l.length : Int)))) (by kernel_rfl) (fun h92 => ?_) (fun h92 => ?_)
        · -- fffLt
          have p93 : (((k : Int)) < ((l.length : Int))) := of_decide_eq_true h92
          refine wp_skip (then_n (hK91 _ _ ?_))
          refine wp_seq_k (fun K94 hK94 => ?_)
          refine wp_block ?_
          refine wp_seq_k (fun K95 hK95 => ?_)
          refine wp_reg ?_
          refine gF_index (A := Al) (c := cl) (hl.up hM87.le) .i64 ((k : Int)) (h := (by kernel_rfl : opAt _ _ _ _ _ = some (.indexAddr 45 (.tmp 30) (.tmp 32), some 34))) (e := 105) (by kernel_rfl) (by kernel_rfl) (by kernel_rfl) (k) rfl (by omega) (fun b96 o97 at_b96 => ?_)
          have c98 : Vl72 b96 o97 = some (bs (l.getD (k) ([], [], false)).1) := (At.str (At.pr at_b96).1).1
          have l99 : (l.getD (k) ([], [], false)).1.length ≤ 140737488355328 := (At.str (At.pr at_b96).1).2
          have c100 : Vl72 b96 (o97 + 1) = some (bs (l.getD (k) ([], [], false)).2.1) := (At.str (At.pr (At.pr at_b96).2).1).1
          have l101 : (l.getD (k) ([], [], false)).2.1.length ≤ 140737488355328 := (At.str (At.pr (At.pr at_b96).2).1).2
          have c102 : Vl72 b96 (o97 + 2) = some (.bool (l.getD (k) ([], [], false)).2.2) := At.bool (At.pr (At.pr at_b96).2).2
          refine gF hM87 (.load 105 (.tmp 34)) (some 35) (by kernel_rfl) (Y_loadS (b := b96) (off := o97) [bs ((l.getD (k) ([], [], false)).1), bs ((l.getD (k) ([], [], false)).2.1), .bool ((l.getD (k) ([], [], false)).2.2)] (cells3 c98 c100 c102) (by kernel_rfl) (by kernel_rfl) (by kernel_rfl)) ?_
          refine wpF_alloc hM87 #[bs ([]), bs ([]), .bool (false)] (h := (by kernel_rfl : opAt _ _ _ _ _ = some (.alloc 105, some 8))) (by kernel_rfl) (fun b103 w104 hM105 => ?_)
          refine wpF_store hM105 0 rfl (h := (by kernel_rfl : opAt _ _ _ _ _ = some (.store 105 (.tmp 8) (.tmp 35), none))) (off := 0) (by kernel_rfl) #[bs ((l.getD (k) ([], [], false)).1), bs ((l.getD (k) ([], [], false)).2.1), .bool ((l.getD (k) ([], [], false)).2.2)] (by kernel_rfl) (by kernel_rfl) (by kernel_rfl) (by kernel_rfl) (fun w107 hM106 => ?_)
          have hM108 : Step V w [spE bp Ap cp mp (pL) (pl) (pm)] Vl72 _ ([.blk b103 (.cells #[bs ((l.getD (k) ([], [], false)).1), bs ((l.getD (k) ([], [], false)).2.1), .bool ((l.getD (k) ([], [], false)).2.2)] 105), spE bp Ar_89s0 cr_89s0 mp (appK t pL l (k)) (pl) (pm)]) := hM106
          refine wpF_end _ (by kernel_rfl) (then_n (hK95 _ _ ?_))
          refine wp_seq_k (fun K109 hK109 => ?_)
          refine wp_base [(0, .pointer (some ⟨bp, 0, none⟩)), (1, .int .i64 (t)), (6, .int .i64 (0)), (8, .pointer (some ⟨b103, 0, none⟩)), (30, .slice Al (l).length cl), (31, .int .i64 ((l.length : Int))), (32, .int .i64 ((k : Int))), (33, .bool (decide (((k : Int)) < ((l.length : Int))))), (34, .pointer (some ⟨b96, o97, none⟩)), (35, .agg #[bs ((l.getD (k) ([], [], false)).1), bs ((l.getD (k) ([], [], false)).2.1), .bool ((l.getD (k) ([], [], false)).2.2)])] (by kernel_rfl) (fun g110 => ?_)
          refine wp_drawN hM108 [(.blk b103 (.cells #[bs ((l.getD (k) ([], [], false)).1), bs ((l.getD (k) ([], [], false)).2.1), .bool ((l.getD (k) ([], [], false)).2.2)] 105), 9999)] (and_held 0 rfl no_held) [] [0, 1, 2, 4, 5, 7, 8, 9, 10, 11, 12] [.a 3, .a 6, .a 13, .p 14, .p 15, .p 16, .p 17, .p 18] [.p 0, .p 1, .p 2, .p 4, .p 5, .p 7, .p 8, .p 9, .p 10, .p 11, .p 12, .s, .a 3, .a 6, .a 13, .p 14, .p 15, .p 16, .p 17, .p 18] rfl (by kernel_rfl) (by kernel_rfl) ?_
          refine h_seg 4 (by kernel_rfl) ?_
          refine gH (.load 9 (.tmp 41)) (some 42) (by kernel_rfl) (Y_load 0 (by kernel_rfl : (FOf _ _ _)[0]? = some (.blk b103 (.cells #[bs ((l.getD (k) ([], [], false)).1), bs ((l.getD (k) ([], [], false)).2.1), .bool ((l.getD (k) ([], [], false)).2.2)] 105))) (off := 0) (by kernel_rfl) (bs ((l.getD (k) ([], [], false)).1)) (by kernel_rfl)) ?_
          refine h_seg 2 (by kernel_rfl) ?_
          refine gH (.load 9 (.tmp 45)) (some 46) (by kernel_rfl) (Y_load 0 (by kernel_rfl : (FOf _ _ _)[0]? = some (.blk b103 (.cells #[bs ((l.getD (k) ([], [], false)).1), bs ((l.getD (k) ([], [], false)).2.1), .bool ((l.getD (k) ([], [], false)).2.2)] 105))) (off := 1) (by kernel_rfl) (bs ((l.getD (k) ([], [], false)).2.1)) (by kernel_rfl)) ?_
          refine h_seg 1 (by kernel_rfl) ?_
          refine gH (.load 4 (.tmp 47)) (some 48) (by kernel_rfl) (Y_load 0 (by kernel_rfl : (FOf _ _ _)[0]? = some (.blk b103 (.cells #[bs ((l.getD (k) ([], [], false)).1), bs ((l.getD (k) ([], [], false)).2.1), .bool ((l.getD (k) ([], [], false)).2.2)] 105))) (off := 2) (by kernel_rfl) (.bool ((l.getD (k) ([], [], false)).2.2)) (by kernel_rfl)) ?_
          refine h_seg 1 (by kernel_rfl) ?_
          refine h_s no_fs ?_
          refine h_a (by kernel_rfl) (by kernel_rfl) (fun w111 X112 hM113 => ?_)
          have hM114 := hM113.openSp 1 rfl
          have hs115 : SpI (appK t pL l (k)) := (hM113.spOk 1 rfl)
          have hM116 : Step V w [spE bp Ap cp mp (pL) (pl) (pm)] Vl72 _ ([.blk bp (.cells #[.slice Ar_89s0 (keysOf (appK t pL l (k))).length cr_89s0, .map (some mp), .int .i64 (pl), .int .i64 (pm)] 71), .row strK 9 Ar_89s0 cr_89s0 (keysOf (appK t pL l (k))), mapE false (slK (prK (intK .i64) (prK strK boolK))) mp (fun k_ => lk k_ (appK t pL l (k))), .blk b103 (.cells #[bs ((l.getD (k) ([], [], false)).1), bs ((l.getD (k) ([], [], false)).2.1), .bool ((l.getD (k) ([], [], false)).2.2)] 105)] ++ X112) := hM114
          refine gF hM116 (.load 69 (.tmp 39)) (some 40) (by kernel_rfl) (Y_load 0 rfl (off := 1) (by kernel_rfl) (.map (some mp)) (by kernel_rfl)) ?_
          refine wpF_end _ (by kernel_rfl) (then_n (h_d [(.blk b103 (.cells #[bs ((l.getD (k) ([], [], false)).1), bs ((l.getD (k) ([], [], false)).2.1), .bool ((l.getD (k) ([], [], false)).2.2)] 105), 9999)] (by kernel_rfl) [.blk bp (.cells #[.slice Ar_89s0 (keysOf (appK t pL l (k))).length cr_89s0, .map (some mp), .int .i64 (pl), .int .i64 (pm)] 71), .row strK 9 Ar_89s0 cr_89s0 (keysOf (appK t pL l (k))), mapE false (slK (prK (intK .i64) (prK strK boolK))) mp (fun k_ => lk k_ (appK t pL l (k))), .blk b103 (.cells #[bs ((l.getD (k) ([], [], false)).1), bs ((l.getD (k) ([], [], false)).2.1), .bool ((l.getD (k) ([], [], false)).2.2)] 105)] hM116 (and_held 3 rfl no_held) (VT.le.refl _) ?_))
          refine h_a (by kernel_rfl) (by kernel_rfl) (fun w117 X118 hM119 => ?_)
          refine wpF_lookup (kt := 9) (e := 78) (z := .slice none 0 0) hM119 2 rfl ((l.getD (k) ([], [], false)).1) (h := (by kernel_rfl : opAt _ _ _ _ _ = some (.lookup 69 (.tmp 40) (.tmp 42) false, some 43))) (by kernel_rfl) (by kernel_rfl) (elemV.of_sl (Rd.nil _ _)) (by kernel_rfl) (by kernel_rfl) (fun v120 hv121 => ?_)
          obtain ⟨A123, c124, rfl, r122⟩ := elemV.sl (xs := ((lk ((l.getD (k) ([], [], false)).1) (appK t pL l (k))).getD [])) hv121
          have l125 : (((lk ((l.getD (k) ([], [], false)).1) (appK t pL l (k))).getD [])).length ≤ 140737488355328 := r122.max
          refine wpF_end _ (by kernel_rfl) (then_n (h_d [(.blk b103 (.cells #[bs ((l.getD (k) ([], [], false)).1), bs ((l.getD (k) ([], [], false)).2.1), .bool ((l.getD (k) ([], [], false)).2.2)] 105), 9999)] (by kernel_rfl) [.blk bp (.cells #[.slice Ar_89s0 (keysOf (appK t pL l (k))).length cr_89s0, .map (some mp), .int .i64 (pl), .int .i64 (pm)] 71), .row strK 9 Ar_89s0 cr_89s0 (keysOf (appK t pL l (k))), mapE false (slK (prK (intK .i64) (prK strK boolK))) mp (fun k_ => lk k_ (appK t pL l (k))), .blk b103 (.cells #[bs ((l.getD (k) ([], [], false)).1), bs ((l.getD (k) ([], [], false)).2.1), .bool ((l.getD (k) ([], [], false)).2.2)] 105)] hM119 (and_held 3 rfl no_held) (VT.le.refl _) ?_))
          refine h_a (by kernel_rfl) (by kernel_rfl) (fun w126 X127 hM128 => ?_)
          refine wpF_callP hM128 (f := 83) (caps := #[]) (h := (by kernel_rfl : opAt _ _ _ _ _ = some (.call (.mk (.value (.func 83)) #[(.tmp 43), (.tmp 49)] #[78, 126]), some 50))) (by kernel_rfl) (by kernel_rfl) (by kernel_rfl) (f83 _ _ hM128.inW A123 c124 (((lk ((l.getD (k) ([], [], false)).1) (appK t pL l (k))).getD [])) r122 (t) ((l.getD (k) ([], [], false)).2.1) (l101) ((l.getD (k) ([], [], false)).2.2) (by have hq := lk_appK_len (t := t) (l := l) hup (l.getD k ([], [], false)).1 k (by omega); have hq2 := hb (l.getD k ([], [], false)).1; show (lkD (l.getD (k) ([], [], false)).1 (appK t pL l (k))).length < _; omega) (by assumption)) (fun v129 V130 w131 le132 hM133 hp134 => ?_)
          obtain ⟨Ar134_1, cr134_1, rfl, r135⟩ := hp134
          have l136 : (addL (((lk ((l.getD (k) ([], [], false)).1) (appK t pL l (k))).getD [])) (t) ((l.getD (k) ([], [], false)).2.1) ((l.getD (k) ([], [], false)).2.2)).length ≤ 140737488355328 := r135.max
          refine wpF_end _ (by kernel_rfl) (then_n (h_d [(.blk b103 (.cells #[bs ((l.getD (k) ([], [], false)).1), bs ((l.getD (k) ([], [], false)).2.1), .bool ((l.getD (k) ([], [], false)).2.2)] 105), 9999)] (by kernel_rfl) [.blk bp (.cells #[.slice Ar_89s0 (keysOf (appK t pL l (k))).length cr_89s0, .map (some mp), .int .i64 (pl), .int .i64 (pm)] 71), .row strK 9 Ar_89s0 cr_89s0 (keysOf (appK t pL l (k))), mapE false (slK (prK (intK .i64) (prK strK boolK))) mp (fun k_ => lk k_ (appK t pL l (k))), .blk b103 (.cells #[bs ((l.getD (k) ([], [], false)).1), bs ((l.getD (k) ([], [], false)).2.1), .bool ((l.getD (k) ([], [], false)).2.2)] 105)] hM133 (and_held 3 rfl no_held) le132 ?_))
          refine h_seg 5 (by kernel_rfl) ?_
          refine h_n (fun w137 hM138 => ?_)
          refine  (then_n (hK109 _ _ ?_))
          refine wp_reg ?_
          refine wpF_seg 2 (by kernel_rfl) ?_
          refine gF hM138 (.load 9 (.tmp 54)) (some 55) (by kernel_rfl) (Y_load 3 rfl (off := 0) (by kernel_rfl) (bs ((l.getD (k) ([], [], false)).1)) (by kernel_rfl)) ?_
          refine wpF_seg 1 (by kernel_rfl) ?_
          have hM139 := hM138.front 2 rfl
          have hM140 := hM139.front 2 rfl
          have hM141 := hM140.front 2 rfl
          have hM142 : Step V w [spE bp Ap cp mp (pL) (pl) (pm)] V130 _ ([.blk bp (.cells #[.slice Ar_89s0 (keysOf (appK t pL l (k))).length cr_89s0, .map (some mp), .int .i64 (pl), .int .i64 (pm)] 71), .row strK 9 Ar_89s0 cr_89s0 (keysOf (appK t pL l (k))), mapE false (slK (prK (intK .i64) (prK strK boolK))) mp (fun k_ => lk k_ (appK t pL l (k))), .blk b103 (.cells #[bs ((l.getD (k) ([], [], false)).1), bs ((l.getD (k) ([], [], false)).2.1), .bool ((l.getD (k) ([], [], false)).2.2)] 105)]) := hM141
          have hk143 : keysOf (appK t pL l (k)) = keysOf (appK t pL l (k)) := rfl
          have hf144 : (fun k_ => lk k_ (appK t pL l (k))) = (fun k_ => lk k_ (appK t pL l (k))) := rfl
          have ho145 : SpI (appK t pL l (k)) := hs115
          have hM146 : Step V w [spE bp Ap cp mp (pL) (pl) (pm)] V130 _ (spE bp Ar_89s0 cr_89s0 mp (appK t pL l (k)) (pl) (pm) :: [.blk b103 (.cells #[bs ((l.getD (k) ([], [], false)).1), bs ((l.getD (k) ([], [], false)).2.1), .bool ((l.getD (k) ([], [], false)).2.2)] 105)]) := Step.closeSp hk143 hf144 ho145 (by exact hM142)
          have hM147 : Step V w [spE bp Ap cp mp (pL) (pl) (pm)] V130 _ ([spE bp Ar_89s0 cr_89s0 mp (appK t pL l (k)) (pl) (pm), .blk b103 (.cells #[bs ((l.getD (k) ([], [], false)).1), bs ((l.getD (k) ([], [], false)).2.1), .bool ((l.getD (k) ([], [], false)).2.2)] 105)]) := hM146
          have hM148 := hM147.front 0 rfl
          have hM156 : Step V w [spE bp Ap cp mp (pL) (pl) (pm)] V130 _ ([spE bp Ar_89s0 cr_89s0 mp (appK t pL l (k)) (pl) (pm), .blk b103 (.cells #[bs ((l.getD (k) ([], [], false)).1), bs ((l.getD (k) ([], [], false)).2.1), .bool ((l.getD (k) ([], [], false)).2.2)] 105)]) := hM148
          refine wpF_callE [spE bp Ar_89s0 cr_89s0 mp (appK t pL l (k)) (pl) (pm)] ([.blk b103 (.cells #[bs ((l.getD (k) ([], [], false)).1), bs ((l.getD (k) ([], [], false)).2.1), .bool ((l.getD (k) ([], [], false)).2.2)] 105)]) hM156 (f := 78) (caps := #[]) (h := (by kernel_rfl : opAt _ _ _ _ _ = some (.call (.mk (.value (.func 78)) #[(.tmp 53), (.tmp 55), (.tmp 56)] #[53, 9, 78]), some 57))) (by kernel_rfl) (by kernel_rfl) (by kernel_rfl) (f78 _ _ bp Ar_89s0 cr_89s0 mp (appK t pL l (k)) (pl) (pm) ((l.getD (k) ([], [], false)).1) (l99) Ar134_1 cr134_1 (addL (((lk ((l.getD (k) ([], [], false)).1) (appK t pL l (k))).getD [])) (t) ((l.getD (k) ([], [], false)).2.1) ((l.getD (k) ([], [], false)).2.2)) r135 (St.part (E := [spE bp Ar_89s0 cr_89s0 mp (appK t pL l (k)) (pl) (pm)]) (F := ([.blk b103 (.cells #[bs ((l.getD (k) ([], [], false)).1), bs ((l.getD (k) ([], [], false)).2.1), .bool ((l.getD (k) ([], [], false)).2.2)] 105)])) hM156.ok) (by have := len_appK t pL l k (by omega); omega)) (fun v149 V150 w151 Eo152 le153 hM154 hp155 => ?_)
          obtain ⟨Aor156_p, cor156_p, rfl, rfl⟩ := hp155
          have hM157 : Step V w [spE bp Ap cp mp (pL) (pl) (pm)] V150 _ ([spE bp Aor156_p cor156_p mp (setL (appK t pL l (k)) ((l.getD (k) ([], [], false)).1) (addL (((lk ((l.getD (k) ([], [], false)).1) (appK t pL l (k))).getD [])) (t) ((l.getD (k) ([], [], false)).2.1) ((l.getD (k) ([], [], false)).2.2))) ((pl)) ((pm)), .blk b103 (.cells #[bs ((l.getD (k) ([], [], false)).1), bs ((l.getD (k) ([], [], false)).2.1), .bool ((l.getD (k) ([], [], false)).2.2)] 105)]) := hM154
          have hq158 : setL (appK t pL l (k)) ((l.getD (k) ([], [], false)).1) (addL (((lk ((l.getD (k) ([], [], false)).1) (appK t pL l (k))).getD [])) (t) ((l.getD (k) ([], [], false)).2.1) ((l.getD (k) ([], [], false)).2.2)) = appK t pL l (k + 1) := by rw [appK_step (by omega)]; rfl
          have hM159 : Step V w [spE bp Ap cp mp (pL) (pl) (pm)] V150 _ ([spE bp Aor156_p cor156_p mp (appK t pL l (k + 1)) ((pl)) ((pm)), .blk b103 (.cells #[bs ((l.getD (k) ([], [], false)).1), bs ((l.getD (k) ([], [], false)).2.1), .bool ((l.getD (k) ([], [], false)).2.2)] 105)]) := Step.reSp (B := []) (F := [.blk b103 (.cells #[bs ((l.getD (k) ([], [], false)).1), bs ((l.getD (k) ([], [], false)).2.1), .bool ((l.getD (k) ([], [], false)).2.2)] 105)]) hq158 hM157
          refine wpF_end _ (by kernel_rfl) (blk_n (then_n (hK94 _ _ ?_)))
          refine wp_reg ?_
          refine gF hM159 (.binOp .add 3 (.tmp 32) (.const (.int .i64 1)) 3) (some 58) (by kernel_rfl) (Y_add .i64 ((k : Int)) (1) ((k : Int) + 1) (by kernel_rfl) (by kernel_rfl) (wrap64_ok _ (by omega))) ?_
          refine wpF_seg 1 (by kernel_rfl) ?_
          refine wpF_base [(0, .pointer (some ⟨bp, 0, none⟩)), (1, .int .i64 (t)), (6, .int .i64 (0)), (30, .slice Al (l).length cl), (31, .int .i64 ((l.length : Int))), (32, .int .i64 ((k + 1 : Int)))] (by kernel_rfl) (fun g160 => ?_)
          have hM161 := (hM159.front 1 rfl).drop
          refine wpF_end _ (by kernel_rfl) (then_n (hK89 _ _ (k + 1) (by omega) ?_))
          refine ⟨g160, V150, Aor156_p, cor156_p, rfl, hM161, ((le88.trans le132).trans le153), ?_⟩
          · -- fffLt inv 0
            omega
        · -- fffLf
          have p162 : ¬ (((k : Int)) < ((l.length : Int))) := of_decide_eq_false h92
          refine wp_exit (then_x (then_x (blk_hit (then_n (hK70 _ _ ?_)))))
          obtain rfl : k = l.length := by omega
          refine wp_seq_k (fun K163 hK163 => ?_)
          refine wp_reg ?_
          refine wpF_seg 4 (by kernel_rfl) ?_
          have hM164 := hM87.openSp 0 rfl
          have hs165 : SpI (appK t pL l ((l.length))) := (hM87.spOk 0 rfl)
          have hM166 : Step V w [spE bp Ap cp mp (pL) (pl) (pm)] Vl72 _ ([.blk bp (.cells #[.slice Ar_89s0 (keysOf (appK t pL l ((l.length)))).length cr_89s0, .map (some mp), .int .i64 (pl), .int .i64 (pm)] 71), .row strK 9 Ar_89s0 cr_89s0 (keysOf (appK t pL l ((l.length)))), mapE false (slK (prK (intK .i64) (prK strK boolK))) mp (fun k_ => lk k_ (appK t pL l ((l.length))))]) := hM164
          refine wpF_store hM166 0 rfl (h := (by kernel_rfl : opAt _ _ _ _ _ = some (.store 3 (.tmp 62) (.tmp 60), none))) (off := 2) (by kernel_rfl) #[.int .i64 (t)] (by kernel_rfl) (by kernel_rfl) (by kernel_rfl) (by kernel_rfl) (fun w168 hM167 => ?_)
          have hM169 : Step V w [spE bp Ap cp mp (pL) (pl) (pm)] Vl72 _ ([.blk bp (.cells #[.slice Ar_89s0 (keysOf (appK t pL l ((l.length)))).length cr_89s0, .map (some mp), .int .i64 (t), .int .i64 (pm)] 71), .row strK 9 Ar_89s0 cr_89s0 (keysOf (appK t pL l ((l.length)))), mapE false (slK (prK (intK .i64) (prK strK boolK))) mp (fun k_ => lk k_ (appK t pL l ((l.length))))]) := hM167
          refine wpF_end _ (by kernel_rfl) (then_n (hK163 _ _ ?_))
          refine wp_seq_k (fun K170 hK170 => ?_)
          refine wp_reg ?_
          refine wpF_seg 1 (by kernel_rfl) ?_
          refine wpF_end _ (by kernel_rfl) (then_n (hK170 _ _ ?_))
          refine wp_ret ?_
          have hM171 := hM169.front 2 rfl
          have hM172 := hM171.front 2 rfl
          have hM173 := hM172.front 2 rfl
          have hM174 : Step V w [spE bp Ap cp mp (pL) (pl) (pm)] Vl72 _ ([.blk bp (.cells #[.slice Ar_89s0 (keysOf (appK t pL l ((l.length)))).length cr_89s0, .map (some mp), .int .i64 (t), .int .i64 (pm)] 71), .row strK 9 Ar_89s0 cr_89s0 (keysOf (appK t pL l ((l.length)))), mapE false (slK (prK (intK .i64) (prK strK boolK))) mp (fun k_ => lk k_ (appK t pL l ((l.length))))]) := hM173
          have hk175 : keysOf (appK t pL l ((l.length))) = keysOf (appK t pL l ((l.length))) := rfl
          have hf176 : (fun k_ => lk k_ (appK t pL l ((l.length)))) = (fun k_ => lk k_ (appK t pL l ((l.length)))) := rfl
          have ho177 : SpI (appK t pL l ((l.length))) := hs165
          have hM178 : Step V w [spE bp Ap cp mp (pL) (pl) (pm)] Vl72 _ (spE bp Ar_89s0 cr_89s0 mp (appK t pL l ((l.length))) (t) (pm) :: []) := Step.closeSp hk175 hf176 ho177 (by exact hM174)
          have hM179 : Step V w [spE bp Ap cp mp (pL) (pl) (pm)] Vl72 _ ([spE bp Ar_89s0 cr_89s0 mp (appK t pL l ((l.length))) (t) (pm)]) := hM178
          have hM180 := hM179.front 0 rfl
          have hM181 : Step V w [spE bp Ap cp mp (pL) (pl) (pm)] Vl72 _ ([spE bp Ar_89s0 cr_89s0 mp (appK t pL l ((l.length))) (t) (pm)]) := hM180
          refine retN [.int .i64 (0)] (.int .i64 (0)) Try.results35 (.tmp (by kernel_rfl) (by kernel_rfl) .nil) (by kernel_rfl) (hRet _ _ ⟨_, _, _, rfl, hM181, ?_⟩)
          -- end fffLf
          refine ⟨Ar_89s0, cr_89s0, ?_, ?_⟩
          · simp only [appOk, appE, appS, appT, h18, h33, h55, h69, h92, cond_true, cond_false, Bool.true_or, Bool.or_true, Bool.false_or, Bool.or_false, Bool.true_and, Bool.and_true, Bool.false_and, Bool.and_false, Bool.not_true, Bool.not_false]
          · first | (rw [appK_all]; simp only [appOk, appE, appS, appT, h18, h33, h55, h69, h92, cond_true, cond_false, Bool.true_or, Bool.or_true, Bool.false_or, Bool.or_false, Bool.true_and, Bool.and_true, Bool.false_and, Bool.and_false, Bool.not_true, Bool.not_false]; done) | (simp only [appOk, appE, appS, appT, h18, h33, h55, h69, h92, cond_true, cond_false, Bool.true_or, Bool.or_true, Bool.false_or, Bool.or_false, Bool.true_and, Bool.and_true, Bool.false_and, Bool.and_false, Bool.not_true, Bool.not_false]; done)

end Go.Vk
