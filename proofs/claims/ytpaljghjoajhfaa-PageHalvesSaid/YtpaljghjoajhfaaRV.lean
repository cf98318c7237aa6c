/- Contracts of the page's functions, part V: printed by wip/tools/p8.py. -/
import Derived.Test.YtpaljghjoajhfaaRP
import Derived.Test.YtpaljghjoajhfaaVk14
set_option linter.unusedVariables false
set_option linter.unusedSimpArgs false
namespace Go.Vk
open Go.Proofs
open Go.Shelf in
def ins_ren : Go.Shelf.Ren := ⟨fun | 22 => 64 | 17 => 71 | 29 => 68 | 30 => 69 | 36 => 70 | 24 => 65 | n => n, fun | 24 => 22 | n => n, fun n => n⟩
open Go.Shelf in
theorem ins_lays : Lays2.n22 Try.prog ins_ren where
  mixed := by kernel_rfl
  f17 := Try.func71.trans (congrArg some (by kernel_rfl))
  f22 := Try.func64.trans (congrArg some (by kernel_rfl))
  f29 := Try.func68.trans (congrArg some (by kernel_rfl))
  f30 := Try.func69.trans (congrArg some (by kernel_rfl))
  f36 := Try.func70.trans (congrArg some (by kernel_rfl))
  t0 := Try.underlying0
  a0 := fun _ => run_agg (by kernel_rfl)
  z0 := fun _ => run_sz (by kernel_rfl)
  v0 := fun _ => run_zero (by kernel_rfl)
  t3 := Try.underlying3
  a3 := fun _ => run_agg (by kernel_rfl)
  z3 := fun _ => run_sz (by kernel_rfl)
  v3 := fun _ => run_zero (by kernel_rfl)
  t4 := Try.underlying4
  a4 := fun _ => run_agg (by kernel_rfl)
  z4 := fun _ => run_sz (by kernel_rfl)
  v4 := fun _ => run_zero (by kernel_rfl)
  t9 := Try.underlying9
  a9 := fun _ => run_agg (by kernel_rfl)
  z9 := fun _ => run_sz (by kernel_rfl)
  v9 := fun _ => run_zero (by kernel_rfl)
  t24 := Try.underlying22
  a24 := fun _ => run_agg (by kernel_rfl)
  z24 := fun _ => run_sz (by kernel_rfl)
  v24 := fun _ => run_zero (by kernel_rfl)
  i9 := by kernel_rfl
open Go.Shelf in
theorem del_lays : Lays2.n24 Try.prog ins_ren where
  mixed := by kernel_rfl
  f24 := Try.func65.trans (congrArg some (by kernel_rfl))
  t0 := Try.underlying0
  a0 := fun _ => run_agg (by kernel_rfl)
  z0 := fun _ => run_sz (by kernel_rfl)
  v0 := fun _ => run_zero (by kernel_rfl)
  t3 := Try.underlying3
  a3 := fun _ => run_agg (by kernel_rfl)
  z3 := fun _ => run_sz (by kernel_rfl)
  v3 := fun _ => run_zero (by kernel_rfl)
  t4 := Try.underlying4
  a4 := fun _ => run_agg (by kernel_rfl)
  z4 := fun _ => run_sz (by kernel_rfl)
  v4 := fun _ => run_zero (by kernel_rfl)
  t9 := Try.underlying9
  a9 := fun _ => run_agg (by kernel_rfl)
  z9 := fun _ => run_sz (by kernel_rfl)
  v9 := fun _ => run_zero (by kernel_rfl)
  t24 := Try.underlying22
  a24 := fun _ => run_agg (by kernel_rfl)
  z24 := fun _ => run_sz (by kernel_rfl)
  v24 := fun _ => run_zero (by kernel_rfl)
  i9 := by kernel_rfl
theorem f64 (V : VT) (w : World) (Al : Option Addr) (cl : Nat) (l : List Str) (i : Nat) (Av : Option Addr) (cv : Nat) (v : List Str) (hS : St V w [.row strK 9 Al cl l, .row strK 9 Av cv v]) (h1 : i ≤ l.length) (h2 : ∃ y, v = [y]) (h3 : l.length ≤ 100000) :
    Calls Try.prog 64 #[.slice Al l.length cl, .int .i64 (i : Int), .slice Av v.length cv] w (Ret V w [.row strK 9 Al cl l, .row strK 9 Av cv v] fun rv V' E' => ∃ (A1 : Option Addr), ∃ (c1 : Nat), rv = .slice A1 (l.take i ++ v ++ l.drop i).length c1 ∧ E' = [.row strK 9 A1 c1 (l.take i ++ v ++ l.drop i)]) := by
  obtain ⟨y, rfl⟩ := h2
  exact ins_row ins_lays hS h1 (by omega)
theorem f65 (V : VT) (w : World) (Al : Option Addr) (cl : Nat) (l : List Str) (i j : Nat) (hS : St V w [.row strK 9 Al cl l]) (h1 : i < j) (h2 : j ≤ l.length) :
    Calls Try.prog 65 #[.slice Al l.length cl, .int .i64 (i : Int), .int .i64 (j : Int)] w (Ret V w [.row strK 9 Al cl l] fun rv V' E' => ∃ (A1 : Option Addr), ∃ (c1 : Nat), rv = .slice A1 (l.take i ++ l.drop j).length c1 ∧ E' = [.row strK 9 A1 c1 (l.take i ++ l.drop j)]) := del_row del_lays hS h1 h2
set_option maxHeartbeats 4000000 in
set_option maxRecDepth 100000 in
theorem f51 (V : VT) (w : World) (hV : V.inW w) (Al : Option Addr) (cl : Nat) (l : List Str) (hl : Rd strK V Al cl l) (i : Nat) (y : Str) (hy : y.length ≤ maxL) (h1 : i ≤ l.length) (h5 : l.length ≤ 100000) :
    Calls Try.prog 51 #[.slice Al (l).length cl, .int .i64 ((i : Int)), bs (y)] w (RetP V w fun rv V' => ∃ (A1 : Option Addr), ∃ (c1 : Nat), rv = .slice A1 (l.take i ++ ([y] : List Str) ++ l.drop i).length c1 ∧ Rd strK V' A1 c1 (l.take i ++ ([y] : List Str) ++ l.drop i)) := by
  have mxl : l.length ≤ 140737488355328 := hl.max
  have mxy : y.length ≤ 140737488355328 := hy
  refine calls_env (n := 13) Try.func51 (c := _) rfl Try.ntmps51 (by kernel_rfl) (fun R hRet => ?_)
  have hM0 : Step V w [] V w [] := Step.refl (St.nilE hV)
  refine wp_seq_k (fun K1 hK1 => ?_)
  refine wp_reg ?_
  refine wpF_seg 1 (by kernel_rfl) ?_
  refine wpF_end _ (by kernel_rfl) (then_n (hK1 _ _ ?_))
  refine wp_seq_k (fun K2 hK2 => ?_)
  refine wp_reg ?_
  refine wpF_seg 1 (by kernel_rfl) ?_
  have hM10 : Step V w [] V _ ([]) := hM0
  refine wpF_callE [] ([]) hM10 (f := 50) (caps := #[]) (h := (by kernel_rfl : opAt _ _ _ _ _ = some (.call (.mk (.value (.func 50)) #[(.tmp 7)] #[22]), some 8))) (by kernel_rfl) (by kernel_rfl) (by kernel_rfl) (f50 _ _ hM10.inW Al cl (l) hl (by omega)) (fun v3 V4 w5 Eo6 le7 hM8 hp9 => ?_)
  obtain ⟨Ar10_1, cr10_1, rfl, rfl⟩ := hp9
  have hM11 : Step V w [] V4 _ ([.row strK 9 Ar10_1 cr10_1 ((l))]) := hM8
  refine wpF_seg 2 (by kernel_rfl) ?_
  refine wpF_litW strK hM11 #[bs (y)] (h := (by kernel_rfl : opAt _ _ _ _ _ = some (.buildSlice 22 1 #[(0, (.tmp 10))], some 11))) (e := 9) (by kernel_rfl) (([y] : List Str)) (Reps.one_str (hy)) rfl (by simp [maxL]) (fun A12 c13 w14 hM15 => ?_)
  have hM16 := hM15.front 0 rfl
  have hM17 := hM16.front 1 rfl
  have hM25 : Step V w [] V4 _ ([.row strK 9 Ar10_1 cr10_1 ((l)), .row strK 9 A12 c13 (([y] : List Str))]) := hM17
  refine wpF_callE [.row strK 9 Ar10_1 cr10_1 ((l)), .row strK 9 A12 c13 (([y] : List Str))] ([]) hM25 (f := 64) (caps := #[]) (h := (by kernel_rfl : opAt _ _ _ _ _ = some (.call (.mk (.value (.func 64)) #[(.tmp 8), (.tmp 9), (.tmp 11)] #[22, 3, 22]), some 12))) (by kernel_rfl) (by kernel_rfl) (by kernel_rfl) (f64 _ _ Ar10_1 cr10_1 ((l)) (i) A12 c13 (([y] : List Str)) (St.part (E := [.row strK 9 Ar10_1 cr10_1 ((l)), .row strK 9 A12 c13 (([y] : List Str))]) (F := ([])) hM25.ok) (by omega) (by exact ⟨_, rfl⟩) (by omega)) (fun v18 V19 w20 Eo21 le22 hM23 hp24 => ?_)
  obtain ⟨Ar25_1, cr25_1, rfl, rfl⟩ := hp24
  have hM26 : Step V w [] V19 _ ([.row strK 9 Ar25_1 cr25_1 (((l)).take (i) ++ (([y] : List Str)) ++ ((l)).drop (i))]) := hM23
  refine wpF_seg 1 (by kernel_rfl) ?_
  refine wpF_end _ (by kernel_rfl) (then_n (hK2 _ _ ?_))
  refine wp_ret ?_
  obtain ⟨V27, le28, hM29, r30⟩ := hM26.settleRow 0 rfl
  have hM31 : Step V w [] V27 _ ([]) := hM29
  refine retN [.slice Ar25_1 (((l)).take (i) ++ (([y] : List Str)) ++ ((l)).drop (i)).length cr25_1] (.slice Ar25_1 (((l)).take (i) ++ (([y] : List Str)) ++ ((l)).drop (i)).length cr25_1) Try.results51 (.tmp (by kernel_rfl) (by kernel_rfl) .nil) (by kernel_rfl) (hRet _ _ ⟨_, _, rfl, hM31.clear, ?_⟩)
  -- end 
  refine ⟨Ar25_1, cr25_1, ?_, ?_⟩
  · rfl
  · first | exact r30 | (exact Rd.eq r30 (by simp))

set_option maxHeartbeats 4000000 in
set_option maxRecDepth 100000 in
theorem f52 (V : VT) (w : World) (hV : V.inW w) (Al : Option Addr) (cl : Nat) (l : List Str) (hl : Rd strK V Al cl l) (i : Nat) (y : Str) (hy : y.length ≤ maxL) (h1 : i ≤ l.length) (h5 : l.length ≤ 100000) :
    Calls Try.prog 52 #[.slice Al (l).length cl, .int .i64 ((i : Int)), bs (y)] w (RetP V w fun rv V' => ∃ (A1 : Option Addr), ∃ (c1 : Nat), rv = .slice A1 (l.take i ++ ([y] : List Str) ++ l.drop i).length c1 ∧ Rd strK V' A1 c1 (l.take i ++ ([y] : List Str) ++ l.drop i)) := by
  have mxl : l.length ≤ 140737488355328 := hl.max
  have mxy : y.length ≤ 140737488355328 := hy
  refine calls_env (n := 19) Try.func52 (c := _) rfl Try.ntmps52 (by kernel_rfl) (fun R hRet => ?_)
  have hM0 : Step V w [] V w [] := Step.refl (St.nilE hV)
  refine wp_seq_k (fun K1 hK1 => ?_)
  refine wp_reg ?_
  refine wpF_seg 1 (by kernel_rfl) ?_
  refine wpF_end _ (by kernel_rfl) (then_n (hK1 _ _ ?_))
  refine wp_seq_k (fun K2 hK2 => ?_)
  refine wp_base [(0, .slice Al (l).length cl), (1, .int .i64 ((i : Int))), (2, bs (y)), (6, .slice none 0 0)] (by kernel_rfl) (fun g3 => ?_)
  refine wp_drawN hM0 [] no_held [⟨0, fun b_ => .slice (some ⟨b_, 0, none⟩) 0 0, #[], 9⟩, ⟨6, fun b_ => .slice (some ⟨b_, 0, none⟩) 1 1, #[bs (y)], 9⟩] [1, 2, 3, 5, 8, 9, 10] [.f 0, .a 4, .f 6, .a 7, .a 11, .p 12] [.p 1, .p 2, .p 3, .p 5, .p 8, .p 9, .p 10, .s, .f 0, .a 4, .f 6, .a 7, .a 11, .p 12] rfl (by kernel_rfl) (by kernel_rfl) ?_
  refine h_seg 2 (by kernel_rfl) ?_
  refine gH_slice (A := Al) (c := cl) hl (h := (by kernel_rfl : opAt _ _ _ _ _ = some (.slice 22 (.tmp 8) none (some (.tmp 9)) none, some 10))) (e := 9) (by kernel_rfl) (by kernel_rfl) (0) (i) rfl ⟨.i64, by kernel_rfl⟩ (by omega) (by omega) (l.take (i)) (by simp) (fun A4 c5 r6 => ?_)
  refine h_seg 3 (by kernel_rfl) ?_
  refine gH_slice (A := Al) (c := cl) hl (h := (by kernel_rfl : opAt _ _ _ _ _ = some (.slice 22 (.tmp 15) (some (.tmp 16)) none none, some 17))) (e := 9) (by kernel_rfl) (by kernel_rfl) (i) (l.length) ⟨.i64, by kernel_rfl⟩ rfl (by omega) (by omega) (l.drop (i)) (by rw [List.take_length]) (fun A7 c8 r9 => ?_)
  refine h_s (and_fs (fre_lit (h := (by kernel_rfl : opAt _ _ _ _ _ = some (.buildSlice 22 0 #[], some 7))) (by kernel_rfl)) (and_fs (fre_lit (h := (by kernel_rfl : opAt _ _ _ _ _ = some (.buildSlice 22 1 #[(0, (.tmp 12))], some 13))) (by kernel_rfl)) no_fs)) ?_
  refine h_f (d := 7) ⟨0, fun b_ => .slice (some ⟨b_, 0, none⟩) 0 0, #[], 9⟩ (by kernel_rfl) (by kernel_rfl) (by kernel_rfl) (fun b10 => ?_)
  refine h_a (by kernel_rfl) (by kernel_rfl) (fun w11 X12 hM13 => ?_)
  have hM14 := hM13.blkrow 0 rfl (K := strK) (ys := ([] : List Str)) Reps.nils (by simp [maxL])
  have hM15 : Step V w [] V _ ([.row strK 9 (some ⟨b10, 0, none⟩) 0 (([] : List Str))] ++ X12) := hM14
  refine wpF_append (by_ := 16) hM15 0 rfl (h := (by kernel_rfl : opAt _ _ _ _ _ = some (.call (.mk (.builtin .append) #[(.tmp 7), (.tmp 10)] #[22, 22]), some 11))) (by kernel_rfl) (by kernel_rfl) (by kernel_rfl) (by kernel_rfl) (by kernel_rfl) (by kernel_rfl) (by kernel_rfl) (Src.rd r6) (by first | omega | (simp only [List.length_append, List.length_cons, List.length_nil, List.length_take, List.length_drop]; omega)) (fun A16 c17 w18 hM19 => ?_)
  have hM20 : Step V w [] V _ ([.row strK 9 A16 c17 (l.take (i))] ++ X12) := hM19
  refine wpF_end _ (by kernel_rfl) (then_n (h_d [] (by kernel_rfl) [.row strK 9 A16 c17 (l.take (i))] hM20 no_held (VT.le.refl _) ?_))
  refine h_f (d := 13) ⟨6, fun b_ => .slice (some ⟨b_, 0, none⟩) 1 1, #[bs (y)], 9⟩ (by kernel_rfl) (by kernel_rfl) (by kernel_rfl) (fun b21 => ?_)
  refine h_a (by kernel_rfl) (by kernel_rfl) (fun w22 X23 hM24 => ?_)
  have hM25 := hM24.blkrow 0 rfl (K := strK) (ys := ([y] : List Str)) (Reps.one_str (hy)) (by simp [maxL])
  have hM26 : Step V w [] V _ ([.row strK 9 (some ⟨b21, 0, none⟩) 1 (([y] : List Str)), .row strK 9 A16 c17 (l.take (i))] ++ X23) := hM25
  obtain ⟨V27, le28, hM29, r30⟩ := hM26.settleRow 0 rfl
  have hM31 : Step V w [] V27 _ ([.row strK 9 A16 c17 (l.take (i))] ++ X23) := hM29
  refine wpF_append (by_ := 16) hM31 0 rfl (h := (by kernel_rfl : opAt _ _ _ _ _ = some (.call (.mk (.builtin .append) #[(.tmp 11), (.tmp 13)] #[22, 22]), some 14))) (by kernel_rfl) (by kernel_rfl) (by kernel_rfl) (by kernel_rfl) (by kernel_rfl) (by kernel_rfl) (by kernel_rfl) (Src.rd r30) (by first | omega | (simp only [List.length_append, List.length_cons, List.length_nil, List.length_take, List.length_drop]; omega)) (fun A32 c33 w34 hM35 => ?_)
  have hM36 : Step V w [] V27 _ ([.row strK 9 A32 c33 (l.take (i) ++ ([y] : List Str))] ++ X23) := hM35
  refine wpF_end _ (by kernel_rfl) (then_n (h_d [] (by kernel_rfl) [.row strK 9 A32 c33 (l.take (i) ++ ([y] : List Str))] hM36 no_held hM36.le ?_))
  refine h_a (by kernel_rfl) (by kernel_rfl) (fun w37 X38 hM39 => ?_)
  refine wpF_append (by_ := 16) hM39 0 rfl (h := (by kernel_rfl : opAt _ _ _ _ _ = some (.call (.mk (.builtin .append) #[(.tmp 14), (.tmp 17)] #[22, 22]), some 18))) (by kernel_rfl) (by kernel_rfl) (by kernel_rfl) (by kernel_rfl) (by kernel_rfl) (by kernel_rfl) (by kernel_rfl) (Src.rd (r9.up hM39.le)) (by first | omega | (simp only [List.length_append, List.length_cons, List.length_nil, List.length_take, List.length_drop]; omega)) (fun A40 c41 w42 hM43 => ?_)
  have hM44 : Step V w [] V27 _ ([.row strK 9 A40 c41 (l.take (i) ++ ([y] : List Str) ++ l.drop (i))] ++ X38) := hM43
  refine wpF_end _ (by kernel_rfl) (then_n (h_d [] (by kernel_rfl) [.row strK 9 A40 c41 (l.take (i) ++ ([y] : List Str) ++ l.drop (i))] hM44 no_held (VT.le.refl _) ?_))
  refine h_seg 1 (by kernel_rfl) ?_
  refine h_n (fun w45 hM46 => ?_)
  refine  (then_n (hK2 _ _ ?_))
  refine wp_ret ?_
  obtain ⟨V47, le48, hM49, r50⟩ := hM46.settleRow 0 rfl
  have hM51 : Step V w [] V47 _ ([]) := hM49
  refine retN [.slice A40 (l.take (i) ++ ([y] : List Str) ++ l.drop (i)).length c41] (.slice A40 (l.take (i) ++ ([y] : List Str) ++ l.drop (i)).length c41) Try.results52 (.tmp (by kernel_rfl) (by kernel_rfl) .nil) (by kernel_rfl) (hRet _ _ ⟨_, _, rfl, hM51.clear, ?_⟩)
  -- end 
  refine ⟨A40, c41, ?_, ?_⟩
  · rfl
  · first | exact r50 | (exact Rd.eq r50 (by simp))

set_option maxHeartbeats 4000000 in
set_option maxRecDepth 100000 in
theorem f53 (V : VT) (w : World) (hV : V.inW w) (Al : Option Addr) (cl : Nat) (l : List Str) (hl : Rd strK V Al cl l) (i : Nat) (h1 : i < l.length) (h5 : l.length ≤ 100000) :
    Calls Try.prog 53 #[.slice Al (l).length cl, .int .i64 ((i : Int))] w (RetP V w fun rv V' => ∃ (A1 : Option Addr), ∃ (c1 : Nat), rv = .slice A1 (l.take i ++ l.drop (i + 1)).length c1 ∧ Rd strK V' A1 c1 (l.take i ++ l.drop (i + 1))) := by
  have mxl : l.length ≤ 140737488355328 := hl.max
  refine calls_env (n := 11) Try.func53 (c := _) rfl Try.ntmps53 (by kernel_rfl) (fun R hRet => ?_)
  have hM0 : Step V w [] V w [] := Step.refl (St.nilE hV)
  refine wp_seq_k (fun K1 hK1 => ?_)
  refine wp_reg ?_
  refine wpF_seg 1 (by kernel_rfl) ?_
  refine wpF_end _ (by kernel_rfl) (then_n (hK1 _ _ ?_))
  refine wp_seq_k (fun K2 hK2 => ?_)
  refine wp_reg ?_
  refine wpF_seg 1 (by kernel_rfl) ?_
  have hM10 : Step V w [] V _ ([]) := hM0
  refine wpF_callE [] ([]) hM10 (f := 50) (caps := #[]) (h := (by kernel_rfl : opAt _ _ _ _ _ = some (.call (.mk (.value (.func 50)) #[(.tmp 5)] #[22]), some 6))) (by kernel_rfl) (by kernel_rfl) (by kernel_rfl) (f50 _ _ hM10.inW Al cl (l) hl (by omega)) (fun v3 V4 w5 Eo6 le7 hM8 hp9 => ?_)
  obtain ⟨Ar10_1, cr10_1, rfl, rfl⟩ := hp9
  have hM11 : Step V w [] V4 _ ([.row strK 9 Ar10_1 cr10_1 ((l))]) := hM8
  refine wpF_seg 2 (by kernel_rfl) ?_
  refine gF hM11 (.binOp .add 3 (.tmp 8) (.const (.int .i64 1)) 3) (some 9) (by kernel_rfl) (Y_add .i64 ((i : Int)) (1) ((i : Int) + 1) (by kernel_rfl) (by kernel_rfl) (wrap64_ok _ (by omega))) ?_
  have hM12 := hM11.front 0 rfl
  have hM20 : Step V w [] V4 _ ([.row strK 9 Ar10_1 cr10_1 ((l))]) := hM12
  refine wpF_callE [.row strK 9 Ar10_1 cr10_1 ((l))] ([]) hM20 (f := 65) (caps := #[]) (h := (by kernel_rfl : opAt _ _ _ _ _ = some (.call (.mk (.value (.func 65)) #[(.tmp 6), (.tmp 7), (.tmp 9)] #[22, 3, 3]), some 10))) (by kernel_rfl) (by kernel_rfl) (by kernel_rfl) (f65 _ _ Ar10_1 cr10_1 ((l)) (i) (i + 1) (St.part (E := [.row strK 9 Ar10_1 cr10_1 ((l))]) (F := ([])) hM20.ok) (by omega) (by omega)) (fun v13 V14 w15 Eo16 le17 hM18 hp19 => ?_)
  obtain ⟨Ar20_1, cr20_1, rfl, rfl⟩ := hp19
  have hM21 : Step V w [] V14 _ ([.row strK 9 Ar20_1 cr20_1 (((l)).take (i) ++ ((l)).drop (i + 1))]) := hM18
  refine wpF_seg 1 (by kernel_rfl) ?_
  refine wpF_end _ (by kernel_rfl) (then_n (hK2 _ _ ?_))
  refine wp_ret ?_
  obtain ⟨V22, le23, hM24, r25⟩ := hM21.settleRow 0 rfl
  have hM26 : Step V w [] V22 _ ([]) := hM24
  refine retN [.slice Ar20_1 (((l)).take (i) ++ ((l)).drop (i + 1)).length cr20_1] (.slice Ar20_1 (((l)).take (i) ++ ((l)).drop (i + 1)).length cr20_1) Try.results53 (.tmp (by kernel_rfl) (by kernel_rfl) .nil) (by kernel_rfl) (hRet _ _ ⟨_, _, rfl, hM26.clear, ?_⟩)
  -- end 
  refine ⟨Ar20_1, cr20_1, ?_, ?_⟩
  · rfl
  · first | exact r25 | (exact Rd.eq r25 (by simp))

end Go.Vk
