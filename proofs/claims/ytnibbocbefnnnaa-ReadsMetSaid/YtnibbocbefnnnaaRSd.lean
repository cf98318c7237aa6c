import Derived.Test.YtnibbocbefnnnaaRPlainSp
import Derived.Test.YtnibbocbefnnnaaRSa
import Derived.Test.YtnibbocbefnnnaaRSc
set_option linter.unusedVariables false
set_option linter.unusedSimpArgs false
namespace Go.Vk
open Go.Proofs
variable {D : List Deferred}
set_option maxHeartbeats 4000000 in
set_option maxRecDepth 100000 in
theorem f83 (V : VT) (w : World) (hV : V.inW w) (Al : Option Addr) (cl : Nat) (l : List ((Int × Str × Bool))) (hl : Rd (prK (intK .i64) (prK strK boolK)) V Al cl l) (vt : Int) (vs : Str) (hvs : vs.length ≤ maxL) (vd : Bool) (h5 : l.length < 4398046511104) (h6 : IntKind.i64.min ≤ vt ∧ vt ≤ IntKind.i64.max) :
    Calls Try.prog 83 #[.slice Al (l).length cl, .agg #[.int .i64 (vt), bs (vs), .bool (vd)]] w (RetP V w fun rv V' => ∃ (A1 : Option Addr), ∃ (c1 : Nat), rv = .tuple #[.slice A1 (addL l vt vs vd).length c1, .int .i64 (addE l vt vs vd)] ∧ Rd (prK (intK .i64) (prK strK boolK)) V' A1 c1 (addL l vt vs vd)) := by
  have mxl : l.length ≤ 140737488355328 := hl.max
  have mxvs : vs.length ≤ 140737488355328 := hvs
  refine calls_env (n := 32) Try.func83 (c := _) rfl Try.ntmps83 (by kernel_rfl) (fun R hRet => ?_)
  have hM0 : Step V w [] V w [] := Step.refl (St.nilE hV)
  refine wp_seq_k (fun K1 hK1 => ?_)
  refine wp_reg ?_
  refine wpF_box hM0 #[.int .i64 (vt), bs (vs), .bool (vd)] (h := (by kernel_rfl : opAt _ _ _ _ _ = some (.box 126 (.tmp 1), some 3))) (by kernel_rfl) (fun b2 w3 hM4 => ?_)
  obtain ⟨V5, le6, hM7, hc8⟩ := hM4.settle 0 rfl
  have hM9 : Step V w [] V5 _ ([]) := hM7
  refine wpF_seg 2 (by kernel_rfl) ?_
  refine wpF_end _ (by kernel_rfl) (then_n (hK1 _ _ ?_))
  refine wp_seq_k (fun K10 hK10 => ?_)
  refine wp_block ?_
  refine wp_seq_k (fun K11 hK11 => ?_)
  refine wp_reg ?_
  refine wpF_seg 1 (by kernel_rfl) ?_
  refine wpF_callP hM9 (f := 116) (caps := #[]) (h := (by kernel_rfl : opAt _ _ _ _ _ = some (.call (.mk (.value (.func 116)) #[(.tmp 7)] #[78]), some 8))) (by kernel_rfl) (by kernel_rfl) (by kernel_rfl) (f116 _ _ hM9.inW Al cl (l) (hl.up hM9.le)) (fun v12 V13 w14 le15 hM16 hp17 => ?_)
  obtain rfl := hp17
  refine wpF_seg 2 (by kernel_rfl) ?_
  refine wpF_end _ (by kernel_rfl) (then_n (hK11 _ _ ?_))
  refine wp_if (!(decide ((chnE (l)) = (0)))) (by kernel_rfl) (fun h18 => ?_) (fun h18 => ?_)
  · -- t
    have h19 : decide ((chnE (l)) = (0)) = false := by rw [← Bool.not_not (decide _), h18]; rfl
    have p20 : ¬ ((chnE (l)) = (0)) := of_decide_eq_false h19
    have hb := chn_n (by assumption : ¬ chnE l = 0)
    refine wp_seq_k (fun K21 hK21 => ?_)
    refine wp_reg ?_
    refine wpF_seg 2 (by kernel_rfl) ?_
    refine wpF_end _ (by kernel_rfl) (then_n (hK21 _ _ ?_))
    refine wp_ret (blk_r (then_r (?_)))
    refine retN [.slice none 0 0, .int .i64 (4)] (.tuple #[.slice none 0 0, .int .i64 (4)]) Try.results83 (.tmp (by kernel_rfl) (by kernel_rfl) (.tmp (by kernel_rfl) (by kernel_rfl) .nil)) (by kernel_rfl) (hRet _ _ ⟨_, _, rfl, hM16.clear, ?_⟩)
    -- end t
    refine ⟨none, 0, ?_, ?_⟩
    · simp only [addL, addE, addOk, hb, Bool.false_and, cond_false] <;> rfl
    · first | exact (Rd.nil _ _) | (exact Rd.eq (Rd.nil _ _) (by simp only [addL, addOk, hb, Bool.false_and, cond_false]))
  · -- f
    have h22 : decide ((chnE (l)) = (0)) = true := by rw [← Bool.not_not (decide _), h18]; rfl
    have p23 : ((chnE (l)) = (0)) := of_decide_eq_true h22
    have hb := chn_0 (by assumption : chnE l = 0)
    refine wp_seq_k (fun K24 hK24 => ?_)
    refine wp_reg ?_
    refine gF hM16 (.load 126 (.tmp 3)) (some 11) (by kernel_rfl) (Y_loadB #[.int .i64 (vt), bs (vs), .bool (vd)] (fun i v hi => le15 _ _ _ (hc8 i v hi)) (off := 0) (by kernel_rfl) (.agg #[.int .i64 (vt), bs (vs), .bool (vd)]) (by kernel_rfl)) ?_
    refine wpF_callP hM16 (f := 119) (caps := #[]) (h := (by kernel_rfl : opAt _ _ _ _ _ = some (.call (.mk (.value (.func 119)) #[(.tmp 11)] #[126]), some 12))) (by kernel_rfl) (by kernel_rfl) (by kernel_rfl) (f119 _ _ hM16.inW (vt) (vs) (hvs) (vd)) (fun v25 V26 w27 le28 hM29 hp30 => ?_)
    obtain rfl := hp30
    refine wpF_seg 2 (by kernel_rfl) ?_
    refine wpF_end _ (by kernel_rfl) (then_n (hK24 _ _ ?_))
    refine wp_if (!(verB (vt) (vs) (vd))) (by kernel_rfl) (fun h31 => ?_) (fun h31 => ?_)
    · -- ft
      have h32 : (verB (vt) (vs) (vd)) = false := by simpa using h31
      have hv := (by assumption : verB vt vs vd = false)
      refine wp_seq_k (fun K33 hK33 => ?_)
      refine wp_reg ?_
      refine wpF_seg 2 (by kernel_rfl) ?_
      refine wpF_end _ (by kernel_rfl) (then_n (hK33 _ _ ?_))
      refine wp_ret (blk_r (then_r (?_)))
      refine retN [.slice none 0 0, .int .i64 (2)] (.tuple #[.slice none 0 0, .int .i64 (2)]) Try.results83 (.tmp (by kernel_rfl) (by kernel_rfl) (.tmp (by kernel_rfl) (by kernel_rfl) .nil)) (by kernel_rfl) (hRet _ _ ⟨_, _, rfl, hM29.clear, ?_⟩)
      -- end ft
      refine ⟨none, 0, ?_, ?_⟩
      · simp only [addL, addE, addOk, hb, hv, Bool.true_and, Bool.and_false, Bool.false_and, cond_false, cond_true] <;> rfl
      · first | exact (Rd.nil _ _) | (exact Rd.eq (Rd.nil _ _) (by simp only [addL, addOk, hb, hv, Bool.true_and, Bool.and_false, Bool.false_and, cond_false]))
    · -- ff
      have h34 : (verB (vt) (vs) (vd)) = true := by simpa using h31
      have hv := (by assumption : verB vt vs vd = true)
      refine wp_seq_k (fun K35 hK35 => ?_)
      refine wp_base [(0, .slice Al (l).length cl), (3, .pointer (some ⟨b2, 0, none⟩)), (4, .slice none 0 0), (5, .int .i64 (0))] (by kernel_rfl) (fun g36 => ?_)
      refine wp_drawN hM29 [] no_held [] [0, 1, 2, 3, 4, 5, 6, 7, 8, 9, 10, 11, 12] [] [.p 0, .p 1, .p 2, .p 3, .p 4, .p 5, .p 6, .p 7, .p 8, .p 9, .p 10, .p 11, .p 12, .s] rfl (by kernel_rfl) (by kernel_rfl) ?_
      refine h_seg 4 (by kernel_rfl) ?_
      refine h_caseB 18 (decide ((0) < ((l.length : Int)))) (by kernel_rfl) (by kernel_rfl) (fun h37 => ?_) (fun h37 => ?_)
      · -- fft
        have p38 : ((0) < ((l.length : Int))) := of_decide_eq_true h37
        have hdone := True.intro
        refine h_seg 1 (by kernel_rfl) ?_
        refine gH (.load 3 (.tmp 19)) (some 20) (by kernel_rfl) (Y_loadB #[.int .i64 (vt), bs (vs), .bool (vd)] (fun i v hi => (le15.trans le28) _ _ _ (hc8 i v hi)) (off := 0) (by kernel_rfl) (.int .i64 (vt)) (by kernel_rfl)) ?_
        refine h_seg 1 (by kernel_rfl) ?_
        refine gH_index (A := Al) (c := cl) (hl.up hM29.le) .i64 (0) (h := (by kernel_rfl : opAt _ _ _ _ _ = some (.indexAddr 78 (.tmp 21) (.const (.int .i64 0)), some 22))) (e := 126) (by kernel_rfl) (by kernel_rfl) (by kernel_rfl) (0) (by omega) (by omega) (fun b39 o40 at_b39 => ?_)
        have c41 : V26 b39 o40 = some (.int .i64 (l.getD (0) (0, [], false)).1) := (At.int (At.pr at_b39).1).1
        have l42 : IntKind.i64.min ≤ (l.getD (0) (0, [], false)).1 ∧ (l.getD (0) (0, [], false)).1 ≤ IntKind.i64.max := (At.int (At.pr at_b39).1).2
        have c43 : V26 b39 (o40 + 1) = some (bs (l.getD (0) (0, [], false)).2.1) := (At.str (At.pr (At.pr at_b39).2).1).1
        have l44 : (l.getD (0) (0, [], false)).2.1.length ≤ 140737488355328 := (At.str (At.pr (At.pr at_b39).2).1).2
        have c45 : V26 b39 (o40 + 2) = some (.bool (l.getD (0) (0, [], false)).2.2) := At.bool (At.pr (At.pr at_b39).2).2
        refine h_seg 1 (by kernel_rfl) ?_
        refine gH (.load 3 (.tmp 23)) (some 24) (by kernel_rfl) (Y_loadV c41 (by kernel_rfl) (by kernel_rfl)) ?_
        refine h_seg 3 (by kernel_rfl) ?_
        refine h_s no_fs ?_
        refine h_n (fun w46 hM47 => ?_)
        refine  (then_n (hK35 _ _ ?_))
        refine wp_if (decide ((vt) ≤ ((l.getD (0) (0, [], false)).1))) (by kernel_rfl) (fun h48 => ?_) (fun h48 => ?_)
        · -- fftt
          have p49 : ((vt) ≤ ((l.getD (0) (0, [], false)).1)) := of_decide_eq_true h48
          have hdone := True.intro
          refine wp_seq_k (fun K50 hK50 => ?_)
          refine wp_reg ?_
          refine wpF_seg 2 (by kernel_rfl) ?_
          refine wpF_end _ (by kernel_rfl) (then_n (hK50 _ _ ?_))
          refine wp_ret (blk_r (then_r (?_)))
          refine retN [.slice none 0 0, .int .i64 (18)] (.tuple #[.slice none 0 0, .int .i64 (18)]) Try.results83 (.tmp (by kernel_rfl) (by kernel_rfl) (.tmp (by kernel_rfl) (by kernel_rfl) .nil)) (by kernel_rfl) (hRet _ _ ⟨_, _, rfl, hM47.clear, ?_⟩)
          -- end fftt
          refine ⟨none, 0, ?_, ?_⟩
          · rw [(add_late hb hv (by omega) (by omega)).1, (add_late hb hv (by omega) (by omega)).2]; rfl
          · first | exact (Rd.nil _ _) | (exact Rd.eq (Rd.nil _ _) (by exact (add_late hb hv (by omega) (by omega)).1.symm))
        · -- fftf
          have p51 : ¬ ((vt) ≤ ((l.getD (0) (0, [], false)).1)) := of_decide_eq_false h48
          have hdone := True.intro
          refine wp_skip (blk_n (then_n (hK10 _ _ ?_)))
          refine wp_seq_k (fun K52 hK52 => ?_)
          refine wp_reg ?_
          refine gF hM47 (.load 126 (.tmp 3)) (some 27) (by kernel_rfl) (Y_loadB #[.int .i64 (vt), bs (vs), .bool (vd)] (fun i v hi => (le15.trans le28) _ _ _ (hc8 i v hi)) (off := 0) (by kernel_rfl) (.agg #[.int .i64 (vt), bs (vs), .bool (vd)]) (by kernel_rfl)) ?_
          refine wpF_litR (prK (intK .i64) (prK strK boolK)) hM47 #[.int .i64 (vt), bs (vs), .bool (vd)] (h := (by kernel_rfl : opAt _ _ _ _ _ = some (.buildSlice 78 1 #[(0, (.tmp 27))], some 28))) (e := 126) (by kernel_rfl) ([(vt, vs, vd)]) (Reps.single (K := (prK (intK .i64) (prK strK boolK))) (x := (vt, vs, vd)) ⟨[.int .i64 (vt)], [bs (vs), .bool (vd)], rfl, ⟨rfl, by first | assumption | decide | exact i64_ok (by omega) (by omega) | (constructor <;> omega)⟩, ⟨[bs (vs)], [.bool (vd)], rfl, ⟨rfl, hvs⟩, rfl⟩⟩) rfl (by simp [maxL]) (fun A53 c54 V57 w55 le58 hM56 r59 => ?_)
          refine wpF_seg 1 (by kernel_rfl) ?_
          refine wpF_litR (slK (prK (intK .i64) (prK strK boolK))) hM56 #[.slice A53 ([(vt, vs, vd)]).length c54, .slice Al (l).length cl] (h := (by kernel_rfl : opAt _ _ _ _ _ = some (.buildSlice 184 2 #[(0, (.tmp 28)), (1, (.tmp 29))], some 30))) (e := 78) (by kernel_rfl) ([[(vt, vs, vd)], l]) (Reps.append (K := (slK (prK (intK .i64) (prK strK boolK)))) (xs := [[(vt, vs, vd)]]) (ys := [l]) (Reps.single (K := (slK (prK (intK .i64) (prK strK boolK)))) (x := [(vt, vs, vd)]) ⟨A53, c54, rfl, r59⟩) (Reps.single (K := (slK (prK (intK .i64) (prK strK boolK)))) (x := l) ⟨Al, cl, rfl, (hl.up hM56.le)⟩)) rfl (by simp [maxL]) (fun A60 c61 V64 w62 le65 hM63 r66 => ?_)
          refine wpF_callP hM63 (f := 120) (caps := #[]) (h := (by kernel_rfl : opAt _ _ _ _ _ = some (.call (.mk (.value (.func 120)) #[(.tmp 30)] #[184]), some 31))) (by kernel_rfl) (by kernel_rfl) (by kernel_rfl) (f120 _ _ hM63.inW A60 c61 ([[(vt, vs, vd)], l]) r66 (by simp) (by simp; omega)) (fun v67 V68 w69 le70 hM71 hp72 => ?_)
          obtain ⟨Ar72_1, cr72_1, rfl, r73⟩ := hp72
          have l74 : (([[(vt, vs, vd)], l]).flatten).length ≤ 140737488355328 := r73.max
          refine wpF_seg 2 (by kernel_rfl) ?_
          refine wpF_end _ (by kernel_rfl) (then_n (hK52 _ _ ?_))
          refine wp_ret ?_
          refine retN [.slice Ar72_1 (([[(vt, vs, vd)], l]).flatten).length cr72_1, .int .i64 (0)] (.tuple #[.slice Ar72_1 (([[(vt, vs, vd)], l]).flatten).length cr72_1, .int .i64 (0)]) Try.results83 (.tmp (by kernel_rfl) (by kernel_rfl) (.tmp (by kernel_rfl) (by kernel_rfl) .nil)) (by kernel_rfl) (hRet _ _ ⟨_, _, rfl, hM71.clear, ?_⟩)
          -- end fftf
          have ha := add_ok (l := l) (t := vt) (s := vs) (d := vd) hb hv (by omega)
          refine ⟨Ar72_1, cr72_1, ?_, ?_⟩
          · rw [ha.1, ha.2]
          · first | exact r73 | (exact Rd.eq r73 (by first | exact ha.1.symm | (rw [ha.1]; simp)))
      · -- fff
        have p75 : ¬ ((0) < ((l.length : Int))) := of_decide_eq_false h37
        have hdone := True.intro
        refine h_seg 9 (by kernel_rfl) ?_
        refine h_s no_fs ?_
        refine h_n (fun w76 hM77 => ?_)
        refine  (then_n (hK35 _ _ ?_))
        refine wp_cf (by kernel_rfl) ?_
        refine wp_skip (blk_n (then_n (hK10 _ _ ?_)))
        refine wp_seq_k (fun K78 hK78 => ?_)
        refine wp_reg ?_
        refine gF hM77 (.load 126 (.tmp 3)) (some 27) (by kernel_rfl) (Y_loadB #[.int .i64 (vt), bs (vs), .bool (vd)] (fun i v hi => (le15.trans le28) _ _ _ (hc8 i v hi)) (off := 0) (by kernel_rfl) (.agg #[.int .i64 (vt), bs (vs), .bool (vd)]) (by kernel_rfl)) ?_
        refine wpF_litR (prK (intK .i64) (prK strK boolK)) hM77 #[.int .i64 (vt), bs (vs), .bool (vd)] (h := (by kernel_rfl : opAt _ _ _ _ _ = some (.buildSlice 78 1 #[(0, (.tmp 27))], some 28))) (e := 126) (by kernel_rfl) ([(vt, vs, vd)]) (Reps.single (K := (prK (intK .i64) (prK strK boolK))) (x := (vt, vs, vd)) ⟨[.int .i64 (vt)], [bs (vs), .bool (vd)], rfl, ⟨rfl, by first | assumption | decide | exact i64_ok (by omega) (by omega) | (constructor <;> omega)⟩, ⟨[bs (vs)], [.bool (vd)], rfl, ⟨rfl, hvs⟩, rfl⟩⟩) rfl (by simp [maxL]) (fun A79 c80 V83 w81 le84 hM82 r85 => ?_)
        refine wpF_seg 1 (by kernel_rfl) ?_
        refine wpF_litR (slK (prK (intK .i64) (prK strK boolK))) hM82 #[.slice A79 ([(vt, vs, vd)]).length c80, .slice Al (l).length cl] (h := (by kernel_rfl : opAt _ _ _ _ _ = some (.buildSlice 184 2 #[(0, (.tmp 28)), (1, (.tmp 29))], some 30))) (e := 78) (by kernel_rfl) ([[(vt, vs, vd)], l]) (Reps.append (K := (slK (prK (intK .i64) (prK strK boolK)))) (xs := [[(vt, vs, vd)]]) (ys := [l]) (Reps.single (K := (slK (prK (intK .i64) (prK strK boolK)))) (x := [(vt, vs, vd)]) ⟨A79, c80, rfl, r85⟩) (Reps.single (K := (slK (prK (intK .i64) (prK strK boolK)))) (x := l) ⟨Al, cl, rfl, (hl.up hM82.le)⟩)) rfl (by simp [maxL]) (fun A86 c87 V90 w88 le91 hM89 r92 => ?_)
        refine wpF_callP hM89 (f := 120) (caps := #[]) (h := (by kernel_rfl : opAt _ _ _ _ _ = some (.call (.mk (.value (.func 120)) #[(.tmp 30)] #[184]), some 31))) (by kernel_rfl) (by kernel_rfl) (by kernel_rfl) (f120 _ _ hM89.inW A86 c87 ([[(vt, vs, vd)], l]) r92 (by simp) (by simp; omega)) (fun v93 V94 w95 le96 hM97 hp98 => ?_)
        obtain ⟨Ar98_1, cr98_1, rfl, r99⟩ := hp98
        have l100 : (([[(vt, vs, vd)], l]).flatten).length ≤ 140737488355328 := r99.max
        refine wpF_seg 2 (by kernel_rfl) ?_
        refine wpF_end _ (by kernel_rfl) (then_n (hK78 _ _ ?_))
        refine wp_ret ?_
        refine retN [.slice Ar98_1 (([[(vt, vs, vd)], l]).flatten).length cr98_1, .int .i64 (0)] (.tuple #[.slice Ar98_1 (([[(vt, vs, vd)], l]).flatten).length cr98_1, .int .i64 (0)]) Try.results83 (.tmp (by kernel_rfl) (by kernel_rfl) (.tmp (by kernel_rfl) (by kernel_rfl) .nil)) (by kernel_rfl) (hRet _ _ ⟨_, _, rfl, hM97.clear, ?_⟩)
        -- end fff
        have ha := add_ok (l := l) (t := vt) (s := vs) (d := vd) hb hv (by omega)
        refine ⟨Ar98_1, cr98_1, ?_, ?_⟩
        · rw [ha.1, ha.2]
        · first | exact r99 | (exact Rd.eq r99 (by first | exact ha.1.symm | (rw [ha.1]; simp)))

end Go.Vk
