import Derived.Test.YtnibbocbefnnnaaRIt
import Derived.Test.YtnibbocbefnnnaaRMathSp
import Derived.Test.YtnibbocbefnnnaaRPlainSp
import Derived.Test.YtnibbocbefnnnaaRSj
import Derived.Test.YtnibbocbefnnnaaRSm
import Derived.Test.YtnibbocbefnnnaaRSp
import Derived.Test.YtnibbocbefnnnaaRSq
import Derived.Test.YtnibbocbefnnnaaRSr
set_option linter.unusedVariables false
set_option linter.unusedSimpArgs false
namespace Go.Vk
open Go.Proofs
variable {D : List Deferred}
set_option maxHeartbeats 4000000 in
set_option maxRecDepth 100000 in
theorem f9y (V : VT) (w : World) (hV : V.inW w) (Al : Option Addr) (cl : Nat) (l : List ((Str × (List ((Int × Str × Bool)))))) (hl : Rd (prK strK (slK (prK (intK .i64) (prK strK boolK)))) V Al cl l) (t : Int) (m : Int) (y : Str) (hy : y.length ≤ maxL) (d : Int) (hld : ldB l t m = true) :
    Calls Try.prog 9 #[.slice Al (l).length cl, .int .i64 (t), .int .i64 (m), bs (y), .int .i64 (d)] w (RetP V w fun rv V' => rv = .bool (true)) := by
  have mxl : l.length ≤ 140737488355328 := hl.max
  have mxy : y.length ≤ 140737488355328 := hy
  refine calls_env (n := 82) Try.func9 (c := _) rfl Try.ntmps9 (by kernel_rfl) (fun R hRet => ?_)
  have hM0 : Step V w [] V w [] := Step.refl (St.nilE hV)
  refine wp_seq_k (fun K1 hK1 => ?_)
  refine wp_reg ?_
  refine wpF_seg 1 (by kernel_rfl) ?_
  refine wpF_end _ (by kernel_rfl) (then_n (hK1 _ _ ?_))
  refine wp_seq_k (fun K2 hK2 => ?_)
  refine wp_reg ?_
  refine wpF_seg 3 (by kernel_rfl) ?_
  refine wpF_end _ (by kernel_rfl) (then_n (hK2 _ _ ?_))
  refine wp_seq_k (fun K3 hK3 => ?_)
  refine wp_seq_k (fun K4 hK4 => ?_)
  refine wp_reg ?_
  refine wpF_seg 1 (by kernel_rfl) ?_
  refine wpF_end _ (by kernel_rfl) (then_n (hK4 _ _ ?_))
  refine wp_block ?_
  refine wp_base [(0, .slice Al (l).length cl), (1, .int .i64 (t)), (2, .int .i64 (m)), (3, bs (y)), (4, .int .i64 (d)), (10, .bool (false)), (11, .int .i64 (((totN l (0) : Nat) : Int))), (12, .int .i64 ((0 : Int)))] (by kernel_rfl) (fun g6 => ?_)
  refine wp_loopX (fun (x_ : Nat) a_ w_ => ∃ (g : Nat → Value) (V_ : VT), a_ = env [] 82 [(0, .slice Al (l).length cl), (1, .int .i64 (t)), (2, .int .i64 (m)), (3, bs (y)), (4, .int .i64 (d)), (10, .bool (false)), (11, .int .i64 (((totN l (x_) : Nat) : Int))), (12, .int .i64 ((x_ : Int)))] g ∧ Step V w [] V_ w_ [] ∧ VT.le V V_ ∧ (x_ ≤ l.length)) (fun (x_ : Nat) => l.length - x_) (0) ⟨g6, V, rfl, hM0, VT.le.refl _, by omega⟩ ?_
  rintro k a_ w8 ⟨g7, Vl5, rfl, hM9, le10, hi11_0⟩ K11 hK11
  refine wp_seq_k (fun K12 hK12 => ?_)
  refine wp_seq_k (fun K13 hK13 => ?_)
  refine wp_reg ?_
  refine wpF_seg 5 (by kernel_rfl) ?_
  refine wpF_caseB 23 (decide (((k : Int)) < ((l.length : Int)))) (by kernel_rfl) (by kernel_rfl) (fun h14 => ?_) (fun h14 => ?_)
  · -- Lt
    have p15 : (((k : Int)) < ((l.length : Int))) := of_decide_eq_true h14
    refine wpF_seg 3 (by kernel_rfl) ?_
    refine wpF_end _ (by kernel_rfl) (then_n (hK13 _ _ ?_))
    refine wp_if (decide ((((totN l (k) : Nat) : Int)) < (2000))) (by kernel_rfl) (fun h16 => ?_) (fun h16 => ?_)
    · -- Ltt
      have p17 : ((((totN l (k) : Nat) : Int)) < (2000)) := of_decide_eq_true h16
      refine wp_skip (then_n (hK12 _ _ ?_))
      refine wp_seq_k (fun K18 hK18 => ?_)
      refine wp_block ?_
      refine wp_reg ?_
      refine wpF_seg 3 (by kernel_rfl) ?_
      refine gF_index (A := Al) (c := cl) (hl.up hM9.le) .i64 ((k : Int)) (h := (by kernel_rfl : opAt _ _ _ _ _ = some (.indexAddr 46 (.tmp 30) (.tmp 31), some 32))) (e := 80) (by kernel_rfl) (by kernel_rfl) (by kernel_rfl) (k) rfl (by omega) (fun b19 o20 at_b19 => ?_)
      have c21 : Vl5 b19 o20 = some (bs (l.getD (k) ([], [])).1) := (At.str (At.pr at_b19).1).1
      have l22 : (l.getD (k) ([], [])).1.length ≤ 140737488355328 := (At.str (At.pr at_b19).1).2
      obtain ⟨A23, c24, c25, r26⟩ := At.sl (At.pr at_b19).2
      have c25 : Vl5 b19 (o20 + 1) = some (.slice A23 ((l.getD (k) ([], [])).2).length c24) := c25
      have r26 : Rd (prK (intK .i64) (prK strK boolK)) Vl5 A23 c24 ((l.getD (k) ([], [])).2) := r26
      have l27 : ((l.getD (k) ([], [])).2).length ≤ 140737488355328 := r26.max
      refine wpF_seg 1 (by kernel_rfl) ?_
      refine gF hM9 (.load 78 (.tmp 33)) (some 34) (by kernel_rfl) (Y_loadV c25 (by kernel_rfl) (by kernel_rfl)) ?_
      refine wpF_seg 1 (by kernel_rfl) ?_
      refine gF hM9 (.binOp .add 3 (.tmp 29) (.tmp 35) 3) (some 36) (by kernel_rfl) (Y_add .i64 (((totN l (k) : Nat) : Int)) ((((l.getD (k) ([], [])).2).length : Int)) ((((totN l (k) : Nat) : Int)) + ((((l.getD (k) ([], [])).2).length : Int))) (by kernel_rfl) (by kernel_rfl) (wrap64_ok _ (by omega))) ?_
      refine wpF_seg 1 (by kernel_rfl) ?_
      refine wpF_slot 11 (.int .i64 ((((totN l (k) : Nat) : Int)) + ((((l.getD (k) ([], [])).2).length : Int)))) (.int .i64 (((totN l (k + 1) : Nat) : Int))) (by kernel_rfl) (by kernel_rfl) (by exact congrArg (Value.int .i64) (by rw [tot_step (by omega)]; omega)) ?_
      refine wpF_end _ (by kernel_rfl) (blk_n (then_n (hK18 _ _ ?_)))
      refine wp_reg ?_
      refine wpF_seg 1 (by kernel_rfl) ?_
      refine gF hM9 (.binOp .add 3 (.tmp 27) (.const (.int .i64 1)) 3) (some 28) (by kernel_rfl) (Y_add .i64 ((k : Int)) (1) ((k : Int) + 1) (by kernel_rfl) (by kernel_rfl) (wrap64_ok _ (by omega))) ?_
      refine wpF_seg 1 (by kernel_rfl) ?_
      refine wpF_base [(0, .slice Al (l).length cl), (1, .int .i64 (t)), (2, .int .i64 (m)), (3, bs (y)), (4, .int .i64 (d)), (10, .bool (false)), (11, .int .i64 (((totN l (k + 1) : Nat) : Int))), (12, .int .i64 ((k + 1 : Int)))] (by kernel_rfl) (fun g28 => ?_)
      refine wpF_end _ (by kernel_rfl) (then_n (hK11 _ _ (k + 1) (by omega) ?_))
      refine ⟨g28, Vl5, rfl, hM9, hM9.le, ?_⟩
      · -- Ltt inv 0
        omega
    · -- Ltf
      have p29 : ¬ ((((totN l (k) : Nat) : Int)) < (2000)) := of_decide_eq_false h16
      refine wp_exit (then_x (then_x (blk_hit (then_n (hK3 _ _ ?_)))))
      refine wp_seq_k (fun K30 hK30 => ?_)
      refine wp_seq_k (fun K31 hK31 => ?_)
      refine wp_reg ?_
      refine wpF_seg 2 (by kernel_rfl) ?_
      refine wpF_end _ (by kernel_rfl) (then_n (hK31 _ _ ?_))
      refine wp_if (decide ((2000) ≤ (((totN l (k) : Nat) : Int)))) (by kernel_rfl) (fun h32 => ?_) (fun h32 => ?_)
      · -- Ltft
        have p33 : ((2000) ≤ (((totN l (k) : Nat) : Int))) := of_decide_eq_true h32
        refine wp_seq_k (fun K34 hK34 => ?_)
        refine wp_reg ?_
        refine wpF_callP hM9 (f := 34) (caps := #[]) (h := (by kernel_rfl : opAt _ _ _ _ _ = some (.call (.mk (.value (.func 34)) #[] #[]), some 39))) (by kernel_rfl) (by kernel_rfl) (by kernel_rfl) (f34 _ _ hM9.inW ) (fun v35 V36 w37 le38 hM39 hp40 => ?_)
        obtain rfl := hp40
        refine wpF_seg 1 (by kernel_rfl) ?_
        refine wpF_end _ (by kernel_rfl) (then_n (hK34 _ _ ?_))
        refine wp_ret (then_r (?_))
        refine retN [.bool (true)] (.bool (true)) Try.results9 (.tmp (by kernel_rfl) (by kernel_rfl) .nil) (by kernel_rfl) (hRet _ _ ⟨_, _, rfl, hM39.clear, ?_⟩)
        -- end Ltft
        rfl
      · -- Ltff
        have p41 : ¬ ((2000) ≤ (((totN l (k) : Nat) : Int))) := of_decide_eq_false h32
        omega
  · -- Lf
    have p42 : ¬ (((k : Int)) < ((l.length : Int))) := of_decide_eq_false h14
    refine wpF_seg 3 (by kernel_rfl) ?_
    refine wpF_end _ (by kernel_rfl) (then_n (hK13 _ _ ?_))
    refine wp_cf (by kernel_rfl) ?_
    refine wp_exit (then_x (then_x (blk_hit (then_n (hK3 _ _ ?_)))))
    refine wp_seq_k (fun K43 hK43 => ?_)
    refine wp_seq_k (fun K44 hK44 => ?_)
    refine wp_reg ?_
    refine wpF_seg 2 (by kernel_rfl) ?_
    refine wpF_end _ (by kernel_rfl) (then_n (hK44 _ _ ?_))
    refine wp_if (decide ((2000) ≤ (((totN l (k) : Nat) : Int)))) (by kernel_rfl) (fun h45 => ?_) (fun h45 => ?_)
    · -- Lft
      have p46 : ((2000) ≤ (((totN l (k) : Nat) : Int))) := of_decide_eq_true h45
      refine wp_seq_k (fun K47 hK47 => ?_)
      refine wp_reg ?_
      refine wpF_callP hM9 (f := 34) (caps := #[]) (h := (by kernel_rfl : opAt _ _ _ _ _ = some (.call (.mk (.value (.func 34)) #[] #[]), some 39))) (by kernel_rfl) (by kernel_rfl) (by kernel_rfl) (f34 _ _ hM9.inW ) (fun v48 V49 w50 le51 hM52 hp53 => ?_)
      obtain rfl := hp53
      refine wpF_seg 1 (by kernel_rfl) ?_
      refine wpF_end _ (by kernel_rfl) (then_n (hK47 _ _ ?_))
      refine wp_ret (then_r (?_))
      refine retN [.bool (true)] (.bool (true)) Try.results9 (.tmp (by kernel_rfl) (by kernel_rfl) .nil) (by kernel_rfl) (hRet _ _ ⟨_, _, rfl, hM52.clear, ?_⟩)
      -- end Lft
      rfl
    · -- Lff
      have p54 : ¬ ((2000) ≤ (((totN l (k) : Nat) : Int))) := of_decide_eq_false h45
      have hk : k = l.length := by omega
      have htl : totN l l.length < 2000 := by rw [← hk]; omega
      have hll := tot_len l l.length
      have hv0 : ∀ i, i < l.length → (l.getD i ([], [])).2.length ≤ 4398046511104 := fun i hi => by have := tot_ge l i hi; omega
      have hbb := lkD_bnd hv0
      refine wp_skip (then_n (hK43 _ _ ?_))
      refine wp_seq_k (fun K55 hK55 => ?_)
      refine wp_reg ?_
      refine wpF_seg 3 (by kernel_rfl) ?_
      have hM63 : Step V w [] Vl5 _ ([]) := hM9
      refine wpF_callE [] ([]) hM63 (f := 31) (caps := #[]) (h := (by kernel_rfl : opAt _ _ _ _ _ = some (.call (.mk (.value (.func 31)) #[(.tmp 41), (.tmp 42), (.tmp 43)] #[46, 3, 3]), some 44))) (by kernel_rfl) (by kernel_rfl) (by kernel_rfl) (f31y _ _ hM63.inW Al cl (l) (hl.up hM9.le) (t) (m) (by omega) (by assumption) (by assumption)) (fun v56 V57 w58 Eo59 le60 hM61 hp62 => ?_)
      obtain ⟨br63_1, Ar63_1, cr63_1, mr63_1, rfl, rfl⟩ := hp62
      have hM64 : Step V w [] V57 _ ([spE br63_1 Ar63_1 cr63_1 mr63_1 ((l)) ((t)) ((m))]) := hM61
      refine wpF_seg 5 (by kernel_rfl) ?_
      refine wpF_end _ (by kernel_rfl) (then_n (hK55 _ _ ?_))
      refine wp_seq_k (fun K65 hK65 => ?_)
      refine wp_reg ?_
      refine wpF_seg 3 (by kernel_rfl) ?_
      refine wpF_callP hM64 (f := 30) (caps := #[]) (h := (by kernel_rfl : opAt _ _ _ _ _ = some (.call (.mk (.value (.func 30)) #[(.tmp 48), (.tmp 49), (.tmp 50)] #[46, 3, 3]), some 51))) (by kernel_rfl) (by kernel_rfl) (by kernel_rfl) (f30 _ _ hM64.inW Al cl (l) (hl.up hM64.le) (t) (m)) (fun v66 V67 w68 le69 hM70 hp71 => ?_)
      obtain ⟨Ar71_1, cr71_1, rfl, r72⟩ := hp71
      have l73 : ((bif ldB (l) (t) (m) then (l) else [])).length ≤ 140737488355328 := r72.max
      refine wpF_seg 3 (by kernel_rfl) ?_
      refine wpF_alloc hM70 #[.slice none 0 0, .int .i64 (0), .int .i64 (0)] (h := (by kernel_rfl : opAt _ _ _ _ _ = some (.alloc 50, some 15))) (by kernel_rfl) (fun b74 w75 hM76 => ?_)
      refine wpF_store hM76 0 rfl (h := (by kernel_rfl : opAt _ _ _ _ _ = some (.store 50 (.tmp 15) (.tmp 52), none))) (off := 0) (by kernel_rfl) #[.slice Ar71_1 ((bif ldB (l) (t) (m) then (l) else [])).length cr71_1, .int .i64 ((bif ldB (l) (t) (m) then (t) else 0)), .int .i64 ((bif ldB (l) (t) (m) then (m) else 0))] (by kernel_rfl) (by kernel_rfl) (by kernel_rfl) (by kernel_rfl) (fun w78 hM77 => ?_)
      have hM79 : Step V w [] V67 _ ([.blk b74 (.cells #[.slice Ar71_1 ((bif ldB (l) (t) (m) then (l) else [])).length cr71_1, .int .i64 ((bif ldB (l) (t) (m) then (t) else 0)), .int .i64 ((bif ldB (l) (t) (m) then (m) else 0))] 50), spE br63_1 Ar63_1 cr63_1 mr63_1 ((l)) ((t)) ((m))]) := hM77
      refine wpF_seg 1 (by kernel_rfl) ?_
      refine wpF_end _ (by kernel_rfl) (then_n (hK65 _ _ ?_))
      refine wp_seq_k (fun K80 hK80 => ?_)
      refine wp_seq_k (fun K81 hK81 => ?_)
      refine wp_reg ?_
      refine wpF_seg 4 (by kernel_rfl) ?_
      have h82 : (decide ((0) = ((bif ldB (l) (t) (m) then 0 else 4 : Int)))) = true := by first | (rw [hld]; rfl) | (rw [hld]; simp)
      have p83 : ((0) = ((bif ldB (l) (t) (m) then 0 else 4 : Int))) := of_decide_eq_true h82
      refine wpF_slot 57 (.bool (!(decide ((0) = ((bif ldB (l) (t) (m) then 0 else 4 : Int)))))) (.bool false) (by kernel_rfl) (by kernel_rfl) (by rw [(show (!(decide ((0) = ((bif ldB (l) (t) (m) then 0 else 4 : Int))))) = false from by rw [h82]; rfl)]) ?_
      refine wpF_seg 1 (by kernel_rfl) ?_
      refine gF hM79 (.binOp .eql 53 (.tmp 58) (.const (.pointer none)) 53) (some 59) (by kernel_rfl) (Y_eql (.pointer (some ⟨br63_1, 0, none⟩)) (.pointer none) (false) (by kernel_rfl) (by kernel_rfl) (by kernel_rfl)) ?_
      refine wpF_seg 2 (by kernel_rfl) ?_
      refine gF hM79 (.binOp .neq 4 (.tmp 59) (.tmp 61) 4) (some 62) (by kernel_rfl) (Y_neq (.bool (false)) (.bool (false)) (true) (by kernel_rfl) (by kernel_rfl) (by kernel_rfl)) ?_
      refine wpF_seg 1 (by kernel_rfl) ?_
      refine wpF_end _ (by kernel_rfl) (then_n (hK81 _ _ ?_))
      refine wp_cf (by kernel_rfl) ?_
      refine wp_skip (then_n (hK80 _ _ ?_))
      refine wp_seq_k (fun K84 hK84 => ?_)
      refine wp_reg ?_
      refine wpF_seg 1 (by kernel_rfl) ?_
      refine gF hM79 (.binOp .eql 53 (.tmp 64) (.const (.pointer none)) 53) (some 65) (by kernel_rfl) (Y_eql (.pointer (some ⟨br63_1, 0, none⟩)) (.pointer none) (false) (by kernel_rfl) (by kernel_rfl) (by kernel_rfl)) ?_
      refine wpF_seg 2 (by kernel_rfl) ?_
      refine gF hM79 (.load 50 (.tmp 15)) (some 68) (by kernel_rfl) (Y_load 0 rfl (off := 0) (by kernel_rfl) (.agg #[.slice Ar71_1 ((bif ldB (l) (t) (m) then (l) else [])).length cr71_1, .int .i64 ((bif ldB (l) (t) (m) then (t) else 0)), .int .i64 ((bif ldB (l) (t) (m) then (m) else 0))]) (by kernel_rfl)) ?_
      have hM85 := hM79.front 1 rfl
      have hM93 : Step V w [] V67 _ ([spE br63_1 Ar63_1 cr63_1 mr63_1 ((l)) ((t)) ((m)), .blk b74 (.cells #[.slice Ar71_1 ((bif ldB (l) (t) (m) then (l) else [])).length cr71_1, .int .i64 ((bif ldB (l) (t) (m) then (t) else 0)), .int .i64 ((bif ldB (l) (t) (m) then (m) else 0))] 50)]) := hM85
      refine wpF_callE [spE br63_1 Ar63_1 cr63_1 mr63_1 ((l)) ((t)) ((m))] ([.blk b74 (.cells #[.slice Ar71_1 ((bif ldB (l) (t) (m) then (l) else [])).length cr71_1, .int .i64 ((bif ldB (l) (t) (m) then (t) else 0)), .int .i64 ((bif ldB (l) (t) (m) then (m) else 0))] 50)]) hM93 (f := 46) (caps := #[]) (h := (by kernel_rfl : opAt _ _ _ _ _ = some (.call (.mk (.value (.func 46)) #[(.tmp 67), (.tmp 68)] #[53, 50]), some 69))) (by kernel_rfl) (by kernel_rfl) (by kernel_rfl) (f46 _ _ br63_1 Ar63_1 cr63_1 mr63_1 ((l)) ((t)) ((m)) Ar71_1 cr71_1 ((bif ldB (l) (t) (m) then (l) else [])) r72 ((bif ldB (l) (t) (m) then (t) else 0)) ((bif ldB (l) (t) (m) then (m) else 0)) (St.part (E := [spE br63_1 Ar63_1 cr63_1 mr63_1 ((l)) ((t)) ((m))]) (F := ([.blk b74 (.cells #[.slice Ar71_1 ((bif ldB (l) (t) (m) then (l) else [])).length cr71_1, .int .i64 ((bif ldB (l) (t) (m) then (t) else 0)), .int .i64 ((bif ldB (l) (t) (m) then (m) else 0))] 50)])) hM93.ok) (by omega) (by assumption)) (fun v86 V87 w88 Eo89 le90 hM91 hp92 => ?_)
      obtain ⟨rfl, rfl⟩ := hp92
      have hM94 : Step V w [] V87 _ ([spE br63_1 Ar63_1 cr63_1 mr63_1 (((l))) (((t))) (((m))), .blk b74 (.cells #[.slice Ar71_1 ((bif ldB (l) (t) (m) then (l) else [])).length cr71_1, .int .i64 ((bif ldB (l) (t) (m) then (t) else 0)), .int .i64 ((bif ldB (l) (t) (m) then (m) else 0))] 50)]) := hM91
      refine wpF_seg 1 (by kernel_rfl) ?_
      have h95 : (decide (((l)) = ((bif ldB (l) (t) (m) then (l) else []))) && decide (((t)) = ((bif ldB (l) (t) (m) then (t) else 0))) && decide (((m)) = ((bif ldB (l) (t) (m) then (m) else 0)))) = true := by first | (rw [hld]; rfl) | (rw [hld]; simp)
      refine wpF_slot 70 (.bool (decide (((l)) = ((bif ldB (l) (t) (m) then (l) else []))) && decide (((t)) = ((bif ldB (l) (t) (m) then (t) else 0))) && decide (((m)) = ((bif ldB (l) (t) (m) then (m) else 0))))) (.bool true) (by kernel_rfl) (by kernel_rfl) (by rw [h95]) ?_
      refine wpF_seg 1 (by kernel_rfl) ?_
      refine gF hM94 (.load 50 (.tmp 15)) (some 72) (by kernel_rfl) (Y_load 1 rfl (off := 0) (by kernel_rfl) (.agg #[.slice Ar71_1 ((bif ldB (l) (t) (m) then (l) else [])).length cr71_1, .int .i64 ((bif ldB (l) (t) (m) then (t) else 0)), .int .i64 ((bif ldB (l) (t) (m) then (m) else 0))]) (by kernel_rfl)) ?_
      refine wpF_seg 3 (by kernel_rfl) ?_
      have hM96 := hM94.front 0 rfl
      have hM104 : Step V w [] V87 _ ([spE br63_1 Ar63_1 cr63_1 mr63_1 (((l))) (((t))) (((m))), .blk b74 (.cells #[.slice Ar71_1 ((bif ldB (l) (t) (m) then (l) else [])).length cr71_1, .int .i64 ((bif ldB (l) (t) (m) then (t) else 0)), .int .i64 ((bif ldB (l) (t) (m) then (m) else 0))] 50)]) := hM96
      refine wpF_callE [spE br63_1 Ar63_1 cr63_1 mr63_1 (((l))) (((t))) (((m)))] ([.blk b74 (.cells #[.slice Ar71_1 ((bif ldB (l) (t) (m) then (l) else [])).length cr71_1, .int .i64 ((bif ldB (l) (t) (m) then (t) else 0)), .int .i64 ((bif ldB (l) (t) (m) then (m) else 0))] 50)]) hM104 (f := 47) (caps := #[]) (h := (by kernel_rfl : opAt _ _ _ _ _ = some (.call (.mk (.value (.func 47)) #[(.tmp 71), (.tmp 72), (.tmp 73), (.tmp 74), (.const (.string (ByteArray.mk #[]))), (.tmp 75), (.const (.int .i64 3))] #[53, 50, 9, 9, 9, 3, 3]), some 76))) (by kernel_rfl) (by kernel_rfl) (by kernel_rfl) (f47 _ _ br63_1 Ar63_1 cr63_1 mr63_1 (((l))) (((t))) (((m))) Ar71_1 cr71_1 ((bif ldB (l) (t) (m) then (l) else [])) (r72.up le90) ((bif ldB (l) (t) (m) then (t) else 0)) ((bif ldB (l) (t) (m) then (m) else 0)) (y) (hy) (y) (hy) ([]) (by first | decide | (simp only [maxL, List.length_append, List.length_cons, List.length_nil]; omega)) (d) (3) (St.part (E := [spE br63_1 Ar63_1 cr63_1 mr63_1 (((l))) (((t))) (((m)))]) (F := ([.blk b74 (.cells #[.slice Ar71_1 ((bif ldB (l) (t) (m) then (l) else [])).length cr71_1, .int .i64 ((bif ldB (l) (t) (m) then (t) else 0)), .int .i64 ((bif ldB (l) (t) (m) then (m) else 0))] 50)])) hM104.ok) (by omega) (by assumption) (by rw [hld]; rfl) (by rw [hld]; rfl) (by rw [hld]; rfl)) (fun v97 V98 w99 Eo100 le101 hM102 hp103 => ?_)
      obtain ⟨rfl, rfl⟩ := hp103
      have hM105 : Step V w [] V98 _ ([spE br63_1 Ar63_1 cr63_1 mr63_1 ((((l)))) ((((t)))) ((((m)))), .blk b74 (.cells #[.slice Ar71_1 ((bif ldB (l) (t) (m) then (l) else [])).length cr71_1, .int .i64 ((bif ldB (l) (t) (m) then (t) else 0)), .int .i64 ((bif ldB (l) (t) (m) then (m) else 0))] 50)]) := hM102
      refine wpF_seg 3 (by kernel_rfl) ?_
      refine wpF_callP hM105 (f := 34) (caps := #[]) (h := (by kernel_rfl : opAt _ _ _ _ _ = some (.call (.mk (.value (.func 34)) #[] #[]), some 80))) (by kernel_rfl) (by kernel_rfl) (by kernel_rfl) (f34 _ _ hM105.inW ) (fun v106 V107 w108 le109 hM110 hp111 => ?_)
      obtain rfl := hp111
      refine wpF_seg 2 (by kernel_rfl) ?_
      refine wpF_end _ (by kernel_rfl) (then_n (hK84 _ _ ?_))
      refine wp_ret ?_
      refine retN [.bool (true)] (.bool (true)) Try.results9 (.tmp (by kernel_rfl) (by kernel_rfl) .nil) (by kernel_rfl) (hRet _ _ ⟨_, _, rfl, hM110.clear, ?_⟩)
      -- end Lff
      rfl

set_option maxHeartbeats 4000000 in
set_option maxRecDepth 100000 in
theorem f9x (V : VT) (w : World) (hV : V.inW w) (Al : Option Addr) (cl : Nat) (l : List ((Str × (List ((Int × Str × Bool)))))) (hl : Rd (prK strK (slK (prK (intK .i64) (prK strK boolK)))) V Al cl l) (t : Int) (m : Int) (y : Str) (hy : y.length ≤ maxL) (d : Int) (hld : ldB l t m = false) :
    Calls Try.prog 9 #[.slice Al (l).length cl, .int .i64 (t), .int .i64 (m), bs (y), .int .i64 (d)] w (RetP V w fun rv V' => rv = .bool (true)) := by
  have mxl : l.length ≤ 140737488355328 := hl.max
  have mxy : y.length ≤ 140737488355328 := hy
  refine calls_env (n := 82) Try.func9 (c := _) rfl Try.ntmps9 (by kernel_rfl) (fun R hRet => ?_)
  have hM0 : Step V w [] V w [] := Step.refl (St.nilE hV)
  refine wp_seq_k (fun K1 hK1 => ?_)
  refine wp_reg ?_
  refine wpF_seg 1 (by kernel_rfl) ?_
  refine wpF_end _ (by kernel_rfl) (then_n (hK1 _ _ ?_))
  refine wp_seq_k (fun K2 hK2 => ?_)
  refine wp_reg ?_
  refine wpF_seg 3 (by kernel_rfl) ?_
  refine wpF_end _ (by kernel_rfl) (then_n (hK2 _ _ ?_))
  refine wp_seq_k (fun K3 hK3 => ?_)
  refine wp_seq_k (fun K4 hK4 => ?_)
  refine wp_reg ?_
  refine wpF_seg 1 (by kernel_rfl) ?_
  refine wpF_end _ (by kernel_rfl) (then_n (hK4 _ _ ?_))
  refine wp_block ?_
  refine wp_base [(0, .slice Al (l).length cl), (1, .int .i64 (t)), (2, .int .i64 (m)), (3, bs (y)), (4, .int .i64 (d)), (10, .bool (false)), (11, .int .i64 (((totN l (0) : Nat) : Int))), (12, .int .i64 ((0 : Int)))] (by kernel_rfl) (fun g6 => ?_)
  refine wp_loopX (fun (x_ : Nat) a_ w_ => ∃ (g : Nat → Value) (V_ : VT), a_ = env [] 82 [(0, .slice Al (l).length cl), (1, .int .i64 (t)), (2, .int .i64 (m)), (3, bs (y)), (4, .int .i64 (d)), (10, .bool (false)), (11, .int .i64 (((totN l (x_) : Nat) : Int))), (12, .int .i64 ((x_ : Int)))] g ∧ Step V w [] V_ w_ [] ∧ VT.le V V_ ∧ (x_ ≤ l.length)) (fun (x_ : Nat) => l.length - x_) (0) ⟨g6, V, rfl, hM0, VT.le.refl _, by omega⟩ ?_
  rintro k a_ w8 ⟨g7, Vl5, rfl, hM9, le10, hi11_0⟩ K11 hK11
  refine wp_seq_k (fun K12 hK12 => ?_)
  refine wp_seq_k (fun K13 hK13 => ?_)
  refine wp_reg ?_
  refine wpF_seg 5 (by kernel_rfl) ?_
  refine wpF_caseB 23 (decide (((k : Int)) < ((l.length : Int)))) (by kernel_rfl) (by kernel_rfl) (fun h14 => ?_) (fun h14 => ?_)
  · -- Lt
    have p15 : (((k : Int)) < ((l.length : Int))) := of_decide_eq_true h14
    refine wpF_seg 3 (by kernel_rfl) ?_
    refine wpF_end _ (by kernel_rfl) (then_n (hK13 _ _ ?_))
    refine wp_if (decide ((((totN l (k) : Nat) : Int)) < (2000))) (by kernel_rfl) (fun h16 => ?_) (fun h16 => ?_)
    · -- Ltt
      have p17 : ((((totN l (k) : Nat) : Int)) < (2000)) := of_decide_eq_true h16
      refine wp_skip (then_n (hK12 _ _ ?_))
      refine wp_seq_k (fun K18 hK18 => ?_)
      refine wp_block ?_
      refine wp_reg ?_
      refine wpF_seg 3 (by kernel_rfl) ?_
      refine gF_index (A := Al) (c := cl) (hl.up hM9.le) .i64 ((k : Int)) (h := (by kernel_rfl : opAt _ _ _ _ _ = some (.indexAddr 46 (.tmp 30) (.tmp 31), some 32))) (e := 80) (by kernel_rfl) (by kernel_rfl) (by kernel_rfl) (k) rfl (by omega) (fun b19 o20 at_b19 => ?_)
      have c21 : Vl5 b19 o20 = some (bs (l.getD (k) ([], [])).1) := (At.str (At.pr at_b19).1).1
      have l22 : (l.getD (k) ([], [])).1.length ≤ 140737488355328 := (At.str (At.pr at_b19).1).2
      obtain ⟨A23, c24, c25, r26⟩ := At.sl (At.pr at_b19).2
      have c25 : Vl5 b19 (o20 + 1) = some (.slice A23 ((l.getD (k) ([], [])).2).length c24) := c25
      have r26 : Rd (prK (intK .i64) (prK strK boolK)) Vl5 A23 c24 ((l.getD (k) ([], [])).2) := r26
      have l27 : ((l.getD (k) ([], [])).2).length ≤ 140737488355328 := r26.max
      refine wpF_seg 1 (by kernel_rfl) ?_
      refine gF hM9 (.load 78 (.tmp 33)) (some 34) (by kernel_rfl) (Y_loadV c25 (by kernel_rfl) (by kernel_rfl)) ?_
      refine wpF_seg 1 (by kernel_rfl) ?_
      refine gF hM9 (.binOp .add 3 (.tmp 29) (.tmp 35) 3) (some 36) (by kernel_rfl) (Y_add .i64 (((totN l (k) : Nat) : Int)) ((((l.getD (k) ([], [])).2).length : Int)) ((((totN l (k) : Nat) : Int)) + ((((l.getD (k) ([], [])).2).length : Int))) (by kernel_rfl) (by kernel_rfl) (wrap64_ok _ (by omega))) ?_
      refine wpF_seg 1 (by kernel_rfl) ?_
      refine wpF_slot 11 (.int .i64 ((((totN l (k) : Nat) : Int)) + ((((l.getD (k) ([], [])).2).length : Int)))) (.int .i64 (((totN l (k + 1) : Nat) : Int))) (by kernel_rfl) (by kernel_rfl) (by exact congrArg (Value.int .i64) (by rw [tot_step (by omega)]; omega)) ?_
      refine wpF_end _ (by kernel_rfl) (blk_n (then_n (hK18 _ _ ?_)))
      refine wp_reg ?_
      refine wpF_seg 1 (by kernel_rfl) ?_
      refine gF hM9 (.binOp .add 3 (.tmp 27) (.const (.int .i64 1)) 3) (some 28) (by kernel_rfl) (Y_add .i64 ((k : Int)) (1) ((k : Int) + 1) (by kernel_rfl) (by kernel_rfl) (wrap64_ok _ (by omega))) ?_
      refine wpF_seg 1 (by kernel_rfl) ?_
      refine wpF_base [(0, .slice Al (l).length cl), (1, .int .i64 (t)), (2, .int .i64 (m)), (3, bs (y)), (4, .int .i64 (d)), (10, .bool (false)), (11, .int .i64 (((totN l (k + 1) : Nat) : Int))), (12, .int .i64 ((k + 1 : Int)))] (by kernel_rfl) (fun g28 => ?_)
      refine wpF_end _ (by kernel_rfl) (then_n (hK11 _ _ (k + 1) (by omega) ?_))
      refine ⟨g28, Vl5, rfl, hM9, hM9.le, ?_⟩
      · -- Ltt inv 0
        omega
    · -- Ltf
      have p29 : ¬ ((((totN l (k) : Nat) : Int)) < (2000)) := of_decide_eq_false h16
      refine wp_exit (then_x (then_x (blk_hit (then_n (hK3 _ _ ?_)))))
      refine wp_seq_k (fun K30 hK30 => ?_)
      refine wp_seq_k (fun K31 hK31 => ?_)
      refine wp_reg ?_
      refine wpF_seg 2 (by kernel_rfl) ?_
      refine wpF_end _ (by kernel_rfl) (then_n (hK31 _ _ ?_))
      refine wp_if (decide ((2000) ≤ (((totN l (k) : Nat) : Int)))) (by kernel_rfl) (fun h32 => ?_) (fun h32 => ?_)
      · -- Ltft
        have p33 : ((2000) ≤ (((totN l (k) : Nat) : Int))) := of_decide_eq_true h32
        refine wp_seq_k (fun K34 hK34 => ?_)
        refine wp_reg ?_
        refine wpF_callP hM9 (f := 34) (caps := #[]) (h := (by kernel_rfl : opAt _ _ _ _ _ = some (.call (.mk (.value (.func 34)) #[] #[]), some 39))) (by kernel_rfl) (by kernel_rfl) (by kernel_rfl) (f34 _ _ hM9.inW ) (fun v35 V36 w37 le38 hM39 hp40 => ?_)
        obtain rfl := hp40
        refine wpF_seg 1 (by kernel_rfl) ?_
        refine wpF_end _ (by kernel_rfl) (then_n (hK34 _ _ ?_))
        refine wp_ret (then_r (?_))
        refine retN [.bool (true)] (.bool (true)) Try.results9 (.tmp (by kernel_rfl) (by kernel_rfl) .nil) (by kernel_rfl) (hRet _ _ ⟨_, _, rfl, hM39.clear, ?_⟩)
        -- end Ltft
        rfl
      · -- Ltff
        have p41 : ¬ ((2000) ≤ (((totN l (k) : Nat) : Int))) := of_decide_eq_false h32
        omega
  · -- Lf
    have p42 : ¬ (((k : Int)) < ((l.length : Int))) := of_decide_eq_false h14
    refine wpF_seg 3 (by kernel_rfl) ?_
    refine wpF_end _ (by kernel_rfl) (then_n (hK13 _ _ ?_))
    refine wp_cf (by kernel_rfl) ?_
    refine wp_exit (then_x (then_x (blk_hit (then_n (hK3 _ _ ?_)))))
    refine wp_seq_k (fun K43 hK43 => ?_)
    refine wp_seq_k (fun K44 hK44 => ?_)
    refine wp_reg ?_
    refine wpF_seg 2 (by kernel_rfl) ?_
    refine wpF_end _ (by kernel_rfl) (then_n (hK44 _ _ ?_))
    refine wp_if (decide ((2000) ≤ (((totN l (k) : Nat) : Int)))) (by kernel_rfl) (fun h45 => ?_) (fun h45 => ?_)
    · -- Lft
      have p46 : ((2000) ≤ (((totN l (k) : Nat) : Int))) := of_decide_eq_true h45
      refine wp_seq_k (fun K47 hK47 => ?_)
      refine wp_reg ?_
      refine wpF_callP hM9 (f := 34) (caps := #[]) (h := (by kernel_rfl : opAt _ _ _ _ _ = some (.call (.mk (.value (.func 34)) #[] #[]), some 39))) (by kernel_rfl) (by kernel_rfl) (by kernel_rfl) (f34 _ _ hM9.inW ) (fun v48 V49 w50 le51 hM52 hp53 => ?_)
      obtain rfl := hp53
      refine wpF_seg 1 (by kernel_rfl) ?_
      refine wpF_end _ (by kernel_rfl) (then_n (hK47 _ _ ?_))
      refine wp_ret (then_r (?_))
      refine retN [.bool (true)] (.bool (true)) Try.results9 (.tmp (by kernel_rfl) (by kernel_rfl) .nil) (by kernel_rfl) (hRet _ _ ⟨_, _, rfl, hM52.clear, ?_⟩)
      -- end Lft
      rfl
    · -- Lff
      have p54 : ¬ ((2000) ≤ (((totN l (k) : Nat) : Int))) := of_decide_eq_false h45
      have hk : k = l.length := by omega
      have htl : totN l l.length < 2000 := by rw [← hk]; omega
      have hll := tot_len l l.length
      have hv0 : ∀ i, i < l.length → (l.getD i ([], [])).2.length ≤ 4398046511104 := fun i hi => by have := tot_ge l i hi; omega
      have hbb := lkD_bnd hv0
      refine wp_skip (then_n (hK43 _ _ ?_))
      refine wp_seq_k (fun K55 hK55 => ?_)
      refine wp_reg ?_
      refine wpF_seg 3 (by kernel_rfl) ?_
      refine wpF_callP hM9 (f := 31) (caps := #[]) (h := (by kernel_rfl : opAt _ _ _ _ _ = some (.call (.mk (.value (.func 31)) #[(.tmp 41), (.tmp 42), (.tmp 43)] #[46, 3, 3]), some 44))) (by kernel_rfl) (by kernel_rfl) (by kernel_rfl) (f31x _ _ hM9.inW Al cl (l) (hl.up hM9.le) (t) (m) (by omega) (by assumption) (by assumption)) (fun v56 V57 w58 le59 hM60 hp61 => ?_)
      obtain rfl := hp61
      refine wpF_seg 5 (by kernel_rfl) ?_
      refine wpF_end _ (by kernel_rfl) (then_n (hK55 _ _ ?_))
      refine wp_seq_k (fun K62 hK62 => ?_)
      refine wp_reg ?_
      refine wpF_seg 3 (by kernel_rfl) ?_
      refine wpF_callP hM60 (f := 30) (caps := #[]) (h := (by kernel_rfl : opAt _ _ _ _ _ = some (.call (.mk (.value (.func 30)) #[(.tmp 48), (.tmp 49), (.tmp 50)] #[46, 3, 3]), some 51))) (by kernel_rfl) (by kernel_rfl) (by kernel_rfl) (f30 _ _ hM60.inW Al cl (l) (hl.up hM60.le) (t) (m)) (fun v63 V64 w65 le66 hM67 hp68 => ?_)
      obtain ⟨Ar68_1, cr68_1, rfl, r69⟩ := hp68
      have l70 : ((bif ldB (l) (t) (m) then (l) else [])).length ≤ 140737488355328 := r69.max
      refine wpF_seg 3 (by kernel_rfl) ?_
      refine wpF_alloc hM67 #[.slice none 0 0, .int .i64 (0), .int .i64 (0)] (h := (by kernel_rfl : opAt _ _ _ _ _ = some (.alloc 50, some 15))) (by kernel_rfl) (fun b71 w72 hM73 => ?_)
      refine wpF_store hM73 0 rfl (h := (by kernel_rfl : opAt _ _ _ _ _ = some (.store 50 (.tmp 15) (.tmp 52), none))) (off := 0) (by kernel_rfl) #[.slice Ar68_1 ((bif ldB (l) (t) (m) then (l) else [])).length cr68_1, .int .i64 ((bif ldB (l) (t) (m) then (t) else 0)), .int .i64 ((bif ldB (l) (t) (m) then (m) else 0))] (by kernel_rfl) (by kernel_rfl) (by kernel_rfl) (by kernel_rfl) (fun w75 hM74 => ?_)
      have hM76 : Step V w [] V64 _ ([.blk b71 (.cells #[.slice Ar68_1 ((bif ldB (l) (t) (m) then (l) else [])).length cr68_1, .int .i64 ((bif ldB (l) (t) (m) then (t) else 0)), .int .i64 ((bif ldB (l) (t) (m) then (m) else 0))] 50)]) := hM74
      refine wpF_seg 1 (by kernel_rfl) ?_
      refine wpF_end _ (by kernel_rfl) (then_n (hK62 _ _ ?_))
      refine wp_seq_k (fun K77 hK77 => ?_)
      refine wp_seq_k (fun K78 hK78 => ?_)
      refine wp_reg ?_
      refine wpF_seg 4 (by kernel_rfl) ?_
      have h79 : (decide ((4) = ((bif ldB (l) (t) (m) then 0 else 4 : Int)))) = true := by first | (rw [hld]; rfl) | (rw [hld]; simp)
      have p80 : ((4) = ((bif ldB (l) (t) (m) then 0 else 4 : Int))) := of_decide_eq_true h79
      refine wpF_slot 57 (.bool (!(decide ((4) = ((bif ldB (l) (t) (m) then 0 else 4 : Int)))))) (.bool false) (by kernel_rfl) (by kernel_rfl) (by rw [(show (!(decide ((4) = ((bif ldB (l) (t) (m) then 0 else 4 : Int))))) = false from by rw [h79]; rfl)]) ?_
      refine wpF_seg 1 (by kernel_rfl) ?_
      refine gF hM76 (.binOp .eql 53 (.tmp 58) (.const (.pointer none)) 53) (some 59) (by kernel_rfl) (Y_eql (.pointer none) (.pointer none) (true) (by kernel_rfl) (by kernel_rfl) (by kernel_rfl)) ?_
      refine wpF_seg 2 (by kernel_rfl) ?_
      refine gF hM76 (.binOp .neq 4 (.tmp 59) (.tmp 61) 4) (some 62) (by kernel_rfl) (Y_neq (.bool (true)) (.bool (true)) (true) (by kernel_rfl) (by kernel_rfl) (by kernel_rfl)) ?_
      refine wpF_seg 1 (by kernel_rfl) ?_
      refine wpF_end _ (by kernel_rfl) (then_n (hK78 _ _ ?_))
      refine wp_cf (by kernel_rfl) ?_
      refine wp_skip (then_n (hK77 _ _ ?_))
      refine wp_seq_k (fun K81 hK81 => ?_)
      refine wp_reg ?_
      refine wpF_seg 1 (by kernel_rfl) ?_
      refine gF hM76 (.binOp .eql 53 (.tmp 64) (.const (.pointer none)) 53) (some 65) (by kernel_rfl) (Y_eql (.pointer none) (.pointer none) (true) (by kernel_rfl) (by kernel_rfl) (by kernel_rfl)) ?_
      refine wpF_seg 14 (by kernel_rfl) ?_
      refine wpF_callP hM76 (f := 34) (caps := #[]) (h := (by kernel_rfl : opAt _ _ _ _ _ = some (.call (.mk (.value (.func 34)) #[] #[]), some 80))) (by kernel_rfl) (by kernel_rfl) (by kernel_rfl) (f34 _ _ hM76.inW ) (fun v82 V83 w84 le85 hM86 hp87 => ?_)
      obtain rfl := hp87
      refine wpF_seg 2 (by kernel_rfl) ?_
      refine wpF_end _ (by kernel_rfl) (then_n (hK81 _ _ ?_))
      refine wp_ret ?_
      refine retN [.bool (true)] (.bool (true)) Try.results9 (.tmp (by kernel_rfl) (by kernel_rfl) .nil) (by kernel_rfl) (hRet _ _ ⟨_, _, rfl, hM86.clear, ?_⟩)
      -- end Lff
      rfl

theorem f9 (V : VT) (w : World) (hV : V.inW w) (Al : Option Addr) (cl : Nat) (l : List Item) (hl : Rd (prK strK (slK (prK (intK .i64) (prK strK boolK)))) V Al cl l) (t m : Int) (y : Str) (hy : y.length ≤ maxL) (d : Int) :
    Calls Try.prog 9 #[.slice Al (l).length cl, .int .i64 (t), .int .i64 (m), bs (y), .int .i64 (d)] w (RetP V w fun rv V' => rv = .bool (true)) := by
  cases h : ldB l t m with
  | true => exact f9y V w hV Al cl l hl t m y hy d h
  | false => exact f9x V w hV Al cl l hl t m y hy d h

end Go.Vk
