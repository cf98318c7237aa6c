/- Contracts of the page's functions, part N: printed by wip/tools/p8.py. -/
import Derived.Test.YtpaljghjoajhfaaRB
import Derived.Test.YtpaljghjoajhfaaRD
import Derived.Test.YtpaljghjoajhfaaRK
set_option linter.unusedVariables false
set_option linter.unusedSimpArgs false
namespace Go.Vk
open Go.Proofs
set_option maxHeartbeats 4000000 in
set_option maxRecDepth 100000 in
theorem f12 (V : VT) (w : World) (hV : V.inW w)  :
    Calls Try.prog 12 #[] w (RetP V w fun rv V' => rv = .bool (true)) := by
  have hlv := of_decide_eq_true live0
  refine calls_env (n := 86) Try.func12 (c := _) rfl Try.ntmps12 (by kernel_rfl) (fun R hRet => ?_)
  have hM0 : Step V w [] V w [] := Step.refl (St.nilE hV)
  refine wp_seq_k (fun K1 hK1 => ?_)
  refine wp_reg ?_
  refine wpF_seg 1 (by kernel_rfl) ?_
  refine wpF_end _ (by kernel_rfl) (then_n (hK1 _ _ ?_))
  refine wp_seq_k (fun K2 hK2 => ?_)
  refine wp_reg ?_
  refine wpF_litR strK hM0 #[bs (([97] : Str))] (h := (by kernel_rfl : opAt _ _ _ _ _ = some (.buildSlice 22 1 #[(0, (.const (.string (ByteArray.mk #[97]))))], some 13))) (e := 9) (by kernel_rfl) (([([97] : Str)] : List Str)) (Reps.one_str (by first | decide | (simp only [maxL, List.length_append, List.length_cons, List.length_nil]; omega))) rfl (by simp [maxL]) (fun A3 c4 V7 w5 le8 hM6 r9 => ?_)
  refine wpF_litR strK hM6 #[bs (([49] : Str))] (h := (by kernel_rfl : opAt _ _ _ _ _ = some (.buildSlice 22 1 #[(0, (.const (.string (ByteArray.mk #[49]))))], some 14))) (e := 9) (by kernel_rfl) (([([49] : Str)] : List Str)) (Reps.one_str (by first | decide | (simp only [maxL, List.length_append, List.length_cons, List.length_nil]; omega))) rfl (by simp [maxL]) (fun A10 c11 V14 w12 le15 hM13 r16 => ?_)
  refine wpF_seg 1 (by kernel_rfl) ?_
  refine wpF_alloc hM13 #[.bool (false), .slice none 0 0, .slice none 0 0, .slice none 0 0] (h := (by kernel_rfl : opAt _ _ _ _ _ = some (.alloc 25, some 1))) (by kernel_rfl) (fun b17 w18 hM19 => ?_)
  refine wpF_store hM19 0 rfl (h := (by kernel_rfl : opAt _ _ _ _ _ = some (.store 25 (.tmp 1) (.tmp 15), none))) (off := 0) (by kernel_rfl) #[.bool (true), .slice A3 (([([97] : Str)] : List Str)).length c4, .slice A10 (([([49] : Str)] : List Str)).length c11, .slice none 0 0] (by kernel_rfl) (by kernel_rfl) (by kernel_rfl) (by kernel_rfl) (fun w21 hM20 => ?_)
  have hM22 : Step V w [] V14 _ ([.blk b17 (.cells #[.bool (true), .slice A3 (([([97] : Str)] : List Str)).length c4, .slice A10 (([([49] : Str)] : List Str)).length c11, .slice none 0 0] 25)]) := hM20
  refine wpF_end _ (by kernel_rfl) (then_n (hK2 _ _ ?_))
  refine wp_seq_k (fun K23 hK23 => ?_)
  refine wp_reg ?_
  refine wpF_litR strK hM22 #[bs (([98] : Str)), bs (([100] : Str))] (h := (by kernel_rfl : opAt _ _ _ _ _ = some (.buildSlice 22 2 #[(0, (.const (.string (ByteArray.mk #[98])))), (1, (.const (.string (ByteArray.mk #[100]))))], some 16))) (e := 9) (by kernel_rfl) (([([98] : Str), ([100] : Str)] : List Str)) (Reps.append (K := strK) (xs := [([98] : Str)]) (ys := [([100] : Str)]) (Reps.one_str (by first | decide | (simp only [maxL, List.length_append, List.length_cons, List.length_nil]; omega))) (Reps.one_str (by first | decide | (simp only [maxL, List.length_append, List.length_cons, List.length_nil]; omega)))) rfl (by simp [maxL]) (fun A24 c25 V28 w26 le29 hM27 r30 => ?_)
  refine wpF_litR (intK .i64) hM27 #[.int .i64 (5), .int .i64 (6), .int .i64 (7)] (h := (by kernel_rfl : opAt _ _ _ _ _ = some (.buildSlice 23 3 #[(0, (.const (.int .i64 5))), (1, (.const (.int .i64 6))), (2, (.const (.int .i64 7)))], some 17))) (e := 3) (by kernel_rfl) (([5, 6, 7] : List Int)) (Reps.append (K := (intK .i64)) (xs := [5]) (ys := [6, 7]) (Reps.one_int (by first | assumption | decide | (constructor <;> omega))) (Reps.append (K := (intK .i64)) (xs := [6]) (ys := [7]) (Reps.one_int (by first | assumption | decide | (constructor <;> omega))) (Reps.one_int (by first | assumption | decide | (constructor <;> omega))))) rfl (by simp [maxL]) (fun A31 c32 V35 w33 le36 hM34 r37 => ?_)
  refine wpF_seg 1 (by kernel_rfl) ?_
  refine wpF_alloc hM34 #[.bool (false), .slice none 0 0, .slice none 0 0, .slice none 0 0] (h := (by kernel_rfl : opAt _ _ _ _ _ = some (.alloc 25, some 2))) (by kernel_rfl) (fun b38 w39 hM40 => ?_)
  refine wpF_store hM40 0 rfl (h := (by kernel_rfl : opAt _ _ _ _ _ = some (.store 25 (.tmp 2) (.tmp 18), none))) (off := 0) (by kernel_rfl) #[.bool (false), .slice A24 (([([98] : Str), ([100] : Str)] : List Str)).length c25, .slice none 0 0, .slice A31 (([5, 6, 7] : List Int)).length c32] (by kernel_rfl) (by kernel_rfl) (by kernel_rfl) (by kernel_rfl) (fun w42 hM41 => ?_)
  have hM43 : Step V w [] V35 _ ([.blk b38 (.cells #[.bool (false), .slice A24 (([([98] : Str), ([100] : Str)] : List Str)).length c25, .slice none 0 0, .slice A31 (([5, 6, 7] : List Int)).length c32] 25), .blk b17 (.cells #[.bool (true), .slice A3 (([([97] : Str)] : List Str)).length c4, .slice A10 (([([49] : Str)] : List Str)).length c11, .slice none 0 0] 25)]) := hM41
  refine wpF_end _ (by kernel_rfl) (then_n (hK23 _ _ ?_))
  refine wp_seq_k (fun K44 hK44 => ?_)
  refine wp_reg ?_
  refine gF hM43 (.load 25 (.tmp 1)) (some 20) (by kernel_rfl) (Y_load 1 rfl (off := 0) (by kernel_rfl) (.agg #[.bool (true), .slice A3 (([([97] : Str)] : List Str)).length c4, .slice A10 (([([49] : Str)] : List Str)).length c11, .slice none 0 0]) (by kernel_rfl)) ?_
  refine wpF_callP hM43 (f := 13) (caps := #[]) (h := (by kernel_rfl : opAt _ _ _ _ _ = some (.call (.mk (.value (.func 13)) #[(.tmp 20)] #[25]), some 21))) (by kernel_rfl) (by kernel_rfl) (by kernel_rfl) (f13 _ _ hM43.inW (true) A3 c4 (([([97] : Str)] : List Str)) (r9.up ((le15.trans le29).trans le36)) A10 c11 (([([49] : Str)] : List Str)) (r16.up (le29.trans le36)) none 0 ([] : List Int) (Rd.nil _ _) (by decide) (by decide)) (fun v45 V46 w47 le48 hM49 hp50 => ?_)
  obtain ⟨Ar50_1, cr50_1, rfl, r51⟩ := hp50
  have l52 : (bytesM (true) (([([97] : Str)] : List Str)) (([([49] : Str)] : List Str)) ([] : List Int)).length ≤ 140737488355328 := r51.max
  refine wpF_seg 5 (by kernel_rfl) ?_
  refine wpF_end _ (by kernel_rfl) (then_n (hK44 _ _ ?_))
  refine wp_seq_k (fun K53 hK53 => ?_)
  refine wp_reg ?_
  refine gF hM49 (.load 25 (.tmp 1)) (some 25) (by kernel_rfl) (Y_load 1 rfl (off := 0) (by kernel_rfl) (.agg #[.bool (true), .slice A3 (([([97] : Str)] : List Str)).length c4, .slice A10 (([([49] : Str)] : List Str)).length c11, .slice none 0 0]) (by kernel_rfl)) ?_
  refine wpF_callP hM49 (f := 22) (caps := #[]) (h := (by kernel_rfl : opAt _ _ _ _ _ = some (.call (.mk (.value (.func 22)) #[(.tmp 25), (.const (.string (ByteArray.mk #[98])))] #[25, 9]), some 26))) (by kernel_rfl) (by kernel_rfl) (by kernel_rfl) (f22 _ _ hM49.inW (true) A3 c4 (([([97] : Str)] : List Str)) (r9.up (((le15.trans le29).trans le36).trans le48)) A10 c11 (([([49] : Str)] : List Str)) (r16.up ((le29.trans le36).trans le48)) none 0 ([] : List Int) (Rd.nil _ _) (([98] : Str)) (by first | decide | (simp only [maxL, List.length_append, List.length_cons, List.length_nil]; omega))) (fun v54 V55 w56 le57 hM58 hp59 => ?_)
  obtain rfl := hp59
  refine wpF_seg 5 (by kernel_rfl) ?_
  refine wpF_end _ (by kernel_rfl) (then_n (hK53 _ _ ?_))
  refine wp_seq_k (fun K60 hK60 => ?_)
  refine wp_reg ?_
  refine gF hM58 (.load 25 (.tmp 2)) (some 30) (by kernel_rfl) (Y_load 0 rfl (off := 0) (by kernel_rfl) (.agg #[.bool (false), .slice A24 (([([98] : Str), ([100] : Str)] : List Str)).length c25, .slice none 0 0, .slice A31 (([5, 6, 7] : List Int)).length c32]) (by kernel_rfl)) ?_
  refine wpF_callP hM58 (f := 22) (caps := #[]) (h := (by kernel_rfl : opAt _ _ _ _ _ = some (.call (.mk (.value (.func 22)) #[(.tmp 30), (.const (.string (ByteArray.mk #[98])))] #[25, 9]), some 31))) (by kernel_rfl) (by kernel_rfl) (by kernel_rfl) (f22 _ _ hM58.inW (false) A24 c25 (([([98] : Str), ([100] : Str)] : List Str)) (r30.up ((le36.trans le48).trans le57)) none 0 ([] : List Str) (Rd.nil _ _) A31 c32 (([5, 6, 7] : List Int)) (r37.up (le48.trans le57)) (([98] : Str)) (by first | decide | (simp only [maxL, List.length_append, List.length_cons, List.length_nil]; omega))) (fun v61 V62 w63 le64 hM65 hp66 => ?_)
  obtain rfl := hp66
  refine wpF_seg 5 (by kernel_rfl) ?_
  refine wpF_end _ (by kernel_rfl) (then_n (hK60 _ _ ?_))
  refine wp_seq_k (fun K67 hK67 => ?_)
  refine wp_reg ?_
  refine gF hM65 (.load 25 (.tmp 2)) (some 35) (by kernel_rfl) (Y_load 0 rfl (off := 0) (by kernel_rfl) (.agg #[.bool (false), .slice A24 (([([98] : Str), ([100] : Str)] : List Str)).length c25, .slice none 0 0, .slice A31 (([5, 6, 7] : List Int)).length c32]) (by kernel_rfl)) ?_
  refine wpF_callP hM65 (f := 22) (caps := #[]) (h := (by kernel_rfl : opAt _ _ _ _ _ = some (.call (.mk (.value (.func 22)) #[(.tmp 35), (.const (.string (ByteArray.mk #[97])))] #[25, 9]), some 36))) (by kernel_rfl) (by kernel_rfl) (by kernel_rfl) (f22 _ _ hM65.inW (false) A24 c25 (([([98] : Str), ([100] : Str)] : List Str)) (r30.up (((le36.trans le48).trans le57).trans le64)) none 0 ([] : List Str) (Rd.nil _ _) A31 c32 (([5, 6, 7] : List Int)) (r37.up ((le48.trans le57).trans le64)) (([97] : Str)) (by first | decide | (simp only [maxL, List.length_append, List.length_cons, List.length_nil]; omega))) (fun v68 V69 w70 le71 hM72 hp73 => ?_)
  obtain rfl := hp73
  refine wpF_seg 5 (by kernel_rfl) ?_
  refine wpF_end _ (by kernel_rfl) (then_n (hK67 _ _ ?_))
  refine wp_seq_k (fun K74 hK74 => ?_)
  refine wp_reg ?_
  refine gF hM72 (.load 25 (.tmp 2)) (some 40) (by kernel_rfl) (Y_load 0 rfl (off := 0) (by kernel_rfl) (.agg #[.bool (false), .slice A24 (([([98] : Str), ([100] : Str)] : List Str)).length c25, .slice none 0 0, .slice A31 (([5, 6, 7] : List Int)).length c32]) (by kernel_rfl)) ?_
  refine wpF_callP hM72 (f := 22) (caps := #[]) (h := (by kernel_rfl : opAt _ _ _ _ _ = some (.call (.mk (.value (.func 22)) #[(.tmp 40), (.const (.string (ByteArray.mk #[122])))] #[25, 9]), some 41))) (by kernel_rfl) (by kernel_rfl) (by kernel_rfl) (f22 _ _ hM72.inW (false) A24 c25 (([([98] : Str), ([100] : Str)] : List Str)) (r30.up ((((le36.trans le48).trans le57).trans le64).trans le71)) none 0 ([] : List Str) (Rd.nil _ _) A31 c32 (([5, 6, 7] : List Int)) (r37.up (((le48.trans le57).trans le64).trans le71)) (([122] : Str)) (by first | decide | (simp only [maxL, List.length_append, List.length_cons, List.length_nil]; omega))) (fun v75 V76 w77 le78 hM79 hp80 => ?_)
  obtain rfl := hp80
  refine wpF_seg 5 (by kernel_rfl) ?_
  refine wpF_end _ (by kernel_rfl) (then_n (hK74 _ _ ?_))
  refine wp_seq_k (fun K81 hK81 => ?_)
  refine wp_reg ?_
  refine wpF_seg 4 (by kernel_rfl) ?_
  refine wpF_slot 47 (.bool (decide ((((bytesM (true) (([([97] : Str)] : List Str)) (([([49] : Str)] : List Str)) ([] : List Int)).length : Int)) = (1024)))) (.bool true) (by kernel_rfl) (by kernel_rfl) (by rw [live0]) ?_
  refine wpF_seg 1 (by kernel_rfl) ?_
  refine gF_slice (A := Ar50_1) (c := cr50_1) (r51.up (((le57.trans le64).trans le71).trans le78)) (h := (by kernel_rfl : opAt _ _ _ _ _ = some (.slice 28 (.tmp 48) none (some (.const (.int .i64 9))) none, some 49))) (e := 5) (by kernel_rfl) (by kernel_rfl) (0) (9) rfl ⟨.i64, by kernel_rfl⟩ (by omega) (by omega) ((bytesM (true) (([([97] : Str)] : List Str)) (([([49] : Str)] : List Str)) ([] : List Int)).take (9)) (by simp) (fun A82 c83 r84 => ?_)
  refine gF hM79 (.convert 28 9 (.tmp 49)) (some 50) (by kernel_rfl) (Y_toStr (A := A82) (c := c83) r84 (e := 5) (by kernel_rfl) (by kernel_rfl) (by kernel_rfl)) ?_
  refine wpF_seg 3 (by kernel_rfl) ?_
  refine wpF_slot 53 (.bool (decide (((bytesM (true) (([([97] : Str)] : List Str)) (([([49] : Str)] : List Str)) ([] : List Int)).take (9)) = (([76, 0, 1, 1, 97, 0, 1, 49, 0] : Str))))) (.bool true) (by kernel_rfl) (by kernel_rfl) (by rw [live1]) ?_
  refine wpF_seg 4 (by kernel_rfl) ?_
  refine wpF_slot 57 (.bool (decide ((checkM (true) (([([97] : Str)] : List Str)) (([([49] : Str)] : List Str)) ([] : List Int)) = (0)))) (.bool true) (by kernel_rfl) (by kernel_rfl) (by rw [live2]) ?_
  refine gF hM79 (.load 25 (.tmp 1)) (some 58) (by kernel_rfl) (Y_load 1 rfl (off := 0) (by kernel_rfl) (.agg #[.bool (true), .slice A3 (([([97] : Str)] : List Str)).length c4, .slice A10 (([([49] : Str)] : List Str)).length c11, .slice none 0 0]) (by kernel_rfl)) ?_
  refine wpF_callP hM79 (f := 15) (caps := #[]) (h := (by kernel_rfl : opAt _ _ _ _ _ = some (.call (.mk (.value (.func 15)) #[(.tmp 58)] #[25]), some 59))) (by kernel_rfl) (by kernel_rfl) (by kernel_rfl) (f15 _ _ hM79.inW (true) A3 c4 (([([97] : Str)] : List Str)) (r9.up (((((((le15.trans le29).trans le36).trans le48).trans le57).trans le64).trans le71).trans le78)) A10 c11 (([([49] : Str)] : List Str)) (r16.up ((((((le29.trans le36).trans le48).trans le57).trans le64).trans le71).trans le78)) none 0 ([] : List Int) (Rd.nil _ _) (by decide) (by decide)) (fun v85 V86 w87 le88 hM89 hp90 => ?_)
  obtain rfl := hp90
  refine wpF_seg 3 (by kernel_rfl) ?_
  refine wpF_slot 62 (.bool (decide ((sizeM (true) (([([97] : Str)] : List Str)) (([([49] : Str)] : List Str))) = (8)))) (.bool true) (by kernel_rfl) (by kernel_rfl) (by rw [live3]) ?_
  refine wpF_seg 4 (by kernel_rfl) ?_
  refine wpF_slot 66 (.bool (decide ((findI (true) (([([97] : Str)] : List Str)) (([([49] : Str)] : List Str)) ([] : List Int) (([98] : Str))) = (1)))) (.bool true) (by kernel_rfl) (by kernel_rfl) (by rw [live4]) ?_
  refine wpF_seg 4 (by kernel_rfl) ?_
  refine wpF_slot 70 (.bool (!(findB (true) (([([97] : Str)] : List Str)) (([([49] : Str)] : List Str)) ([] : List Int) (([98] : Str))))) (.bool true) (by kernel_rfl) (by kernel_rfl) (by rw [(show (!(findB (true) (([([97] : Str)] : List Str)) (([([49] : Str)] : List Str)) ([] : List Int) (([98] : Str)))) = true from by rw [live8]; rfl)]) ?_
  refine wpF_seg 4 (by kernel_rfl) ?_
  refine wpF_slot 74 (.bool (decide ((findI (false) (([([98] : Str), ([100] : Str)] : List Str)) ([] : List Str) (([5, 6, 7] : List Int)) (([98] : Str))) = (1)))) (.bool true) (by kernel_rfl) (by kernel_rfl) (by rw [live5]) ?_
  refine wpF_seg 4 (by kernel_rfl) ?_
  refine wpF_slot 78 (.bool (decide ((findI (false) (([([98] : Str), ([100] : Str)] : List Str)) ([] : List Str) (([5, 6, 7] : List Int)) (([97] : Str))) = (0)))) (.bool true) (by kernel_rfl) (by kernel_rfl) (by rw [live6]) ?_
  refine wpF_seg 4 (by kernel_rfl) ?_
  refine wpF_slot 82 (.bool (decide ((findI (false) (([([98] : Str), ([100] : Str)] : List Str)) ([] : List Str) (([5, 6, 7] : List Int)) (([122] : Str))) = (2)))) (.bool true) (by kernel_rfl) (by kernel_rfl) (by rw [live7]) ?_
  refine wpF_seg 4 (by kernel_rfl) ?_
  refine wpF_end _ (by kernel_rfl) (then_n (hK81 _ _ ?_))
  refine wp_ret ?_
  refine retN [.bool (true)] (.bool (true)) Try.results12 (.tmp (by kernel_rfl) (by kernel_rfl) .nil) (by kernel_rfl) (hRet _ _ ⟨_, _, rfl, hM89.clear, ?_⟩)
  -- end 
  rfl

end Go.Vk
