/- Contracts of the page's functions, part X: printed by wip/tools/p8.py. -/
import Derived.Test.YtpaljghjoajhfaaRC
import Derived.Test.YtpaljghjoajhfaaRN
import Derived.Test.YtpaljghjoajhfaaRT
import Derived.Test.YtpaljghjoajhfaaRU
set_option linter.unusedVariables false
set_option linter.unusedSimpArgs false
namespace Go.Vk
open Go.Proofs
set_option maxHeartbeats 4000000 in
set_option maxRecDepth 100000 in
theorem f6 (V : VT) (w : World) (hV : V.inW w) (Ab : Option Addr) (cb : Nat) (b : List UInt8) (hb : Rd byteK V Ab cb b) :
    Calls Try.prog 6 #[.slice Ab (b).length cb] w (RetP V w fun rv V' => rv = .bool (true)) := by
  have mxb : b.length ≤ 140737488355328 := hb.max
  refine calls_env (n := 31) Try.func6 (c := _) rfl Try.ntmps6 (by kernel_rfl) (fun R hRet => ?_)
  have hM0 : Step V w [] V w [] := Step.refl (St.nilE hV)
  refine wp_seq_k (fun K1 hK1 => ?_)
  refine wp_reg ?_
  refine wpF_seg 1 (by kernel_rfl) ?_
  refine wpF_end _ (by kernel_rfl) (then_n (hK1 _ _ ?_))
  refine wp_seq_k (fun K2 hK2 => ?_)
  refine wp_reg ?_
  refine wpF_litW byteK hM0 #[] (h := (by kernel_rfl : opAt _ _ _ _ _ = some (.buildSlice 28 0 #[], some 8))) (e := 5) (by kernel_rfl) (([] : List UInt8)) Reps.nils rfl (by simp [maxL]) (fun A3 c4 w5 hM6 => ?_)
  refine wpF_seg 1 (by kernel_rfl) ?_
  refine wpF_append (by_ := 1) hM6 0 rfl (h := (by kernel_rfl : opAt _ _ _ _ _ = some (.call (.mk (.builtin .append) #[(.tmp 8), (.tmp 9)] #[28, 28]), some 10))) (by kernel_rfl) (by kernel_rfl) (by kernel_rfl) (by kernel_rfl) (by kernel_rfl) (by kernel_rfl) (by kernel_rfl) (Src.rd hb) (by first | omega | (simp only [List.length_append, List.length_cons, List.length_nil, List.length_take, List.length_drop]; omega)) (fun A7 c8 w9 hM10 => ?_)
  have hM11 : Step V w [] V _ ([.row byteK 5 A7 c8 (b)]) := hM10
  obtain ⟨V12, le13, hM14, r15⟩ := hM11.settleRow 0 rfl
  have hM16 : Step V w [] V12 _ ([]) := hM14
  refine wpF_callP hM16 (f := 23) (caps := #[]) (h := (by kernel_rfl : opAt _ _ _ _ _ = some (.call (.mk (.value (.func 23)) #[(.tmp 10)] #[28]), some 11))) (by kernel_rfl) (by kernel_rfl) (by kernel_rfl) (f23 _ _ hM16.inW A7 c8 (b) r15) (fun v17 V18 w19 le20 hM21 hp22 => ?_)
  obtain ⟨Ar22_1, cr22_1, Ar22_2, cr22_2, Ar22_3, cr22_3, rfl, r23, r24, r25⟩ := hp22
  have l26 : (rdK (b)).length ≤ 140737488355328 := r23.max
  have l27 : (rdV (b)).length ≤ 140737488355328 := r24.max
  have l28 : (rdC (b)).length ≤ 140737488355328 := r25.max
  refine wpF_seg 3 (by kernel_rfl) ?_
  refine wpF_alloc hM21 #[.bool (false), .slice none 0 0, .slice none 0 0, .slice none 0 0] (h := (by kernel_rfl : opAt _ _ _ _ _ = some (.alloc 25, some 3))) (by kernel_rfl) (fun b29 w30 hM31 => ?_)
  refine wpF_store hM31 0 rfl (h := (by kernel_rfl : opAt _ _ _ _ _ = some (.store 25 (.tmp 3) (.tmp 12), none))) (off := 0) (by kernel_rfl) #[.bool (rdL (b)), .slice Ar22_1 (rdK (b)).length cr22_1, .slice Ar22_2 (rdV (b)).length cr22_2, .slice Ar22_3 (rdC (b)).length cr22_3] (by kernel_rfl) (by kernel_rfl) (by kernel_rfl) (by kernel_rfl) (fun w33 hM32 => ?_)
  have hM34 : Step V w [] V18 _ ([.blk b29 (.cells #[.bool (rdL (b)), .slice Ar22_1 (rdK (b)).length cr22_1, .slice Ar22_2 (rdV (b)).length cr22_2, .slice Ar22_3 (rdC (b)).length cr22_3] 25)]) := hM32
  refine wpF_seg 1 (by kernel_rfl) ?_
  refine wpF_end _ (by kernel_rfl) (then_n (hK2 _ _ ?_))
  refine wp_seq_k (fun K35 hK35 => ?_)
  refine wp_reg ?_
  refine wpF_seg 1 (by kernel_rfl) ?_
  refine gF hM34 (.convert 28 9 (.tmp 15)) (some 16) (by kernel_rfl) (Y_toStr (A := Ab) (c := cb) (hb.up hM34.le) (e := 5) (by kernel_rfl) (by kernel_rfl) (by kernel_rfl)) ?_
  refine wpF_callP hM34 (f := 24) (caps := #[]) (h := (by kernel_rfl : opAt _ _ _ _ _ = some (.call (.mk (.value (.func 24)) #[(.tmp 16)] #[9]), some 17))) (by kernel_rfl) (by kernel_rfl) (by kernel_rfl) (f24 _ _ hM34.inW (b) (by first | decide | (simp only [maxL, List.length_append, List.length_cons, List.length_nil]; omega))) (fun v36 V37 w38 le39 hM40 hp41 => ?_)
  obtain ⟨Ar41_1, cr41_1, Ar41_2, cr41_2, Ar41_3, cr41_3, rfl, r42, r43, r44⟩ := hp41
  have l45 : (rdK (b)).length ≤ 140737488355328 := r42.max
  have l46 : (rdV (b)).length ≤ 140737488355328 := r43.max
  have l47 : (rdC (b)).length ≤ 140737488355328 := r44.max
  refine wpF_seg 3 (by kernel_rfl) ?_
  refine wpF_alloc hM40 #[.bool (false), .slice none 0 0, .slice none 0 0, .slice none 0 0] (h := (by kernel_rfl : opAt _ _ _ _ _ = some (.alloc 25, some 5))) (by kernel_rfl) (fun b48 w49 hM50 => ?_)
  refine wpF_store hM50 0 rfl (h := (by kernel_rfl : opAt _ _ _ _ _ = some (.store 25 (.tmp 5) (.tmp 18), none))) (off := 0) (by kernel_rfl) #[.bool (rdL (b)), .slice Ar41_1 (rdK (b)).length cr41_1, .slice Ar41_2 (rdV (b)).length cr41_2, .slice Ar41_3 (rdC (b)).length cr41_3] (by kernel_rfl) (by kernel_rfl) (by kernel_rfl) (by kernel_rfl) (fun w52 hM51 => ?_)
  have hM53 : Step V w [] V37 _ ([.blk b48 (.cells #[.bool (rdL (b)), .slice Ar41_1 (rdK (b)).length cr41_1, .slice Ar41_2 (rdV (b)).length cr41_2, .slice Ar41_3 (rdC (b)).length cr41_3] 25), .blk b29 (.cells #[.bool (rdL (b)), .slice Ar22_1 (rdK (b)).length cr22_1, .slice Ar22_2 (rdV (b)).length cr22_2, .slice Ar22_3 (rdC (b)).length cr22_3] 25)]) := hM51
  refine wpF_seg 1 (by kernel_rfl) ?_
  refine wpF_end _ (by kernel_rfl) (then_n (hK35 _ _ ?_))
  refine wp_seq_k (fun K54 hK54 => ?_)
  refine wp_reg ?_
  refine gF hM53 (.load 25 (.tmp 3)) (some 20) (by kernel_rfl) (Y_load 1 rfl (off := 0) (by kernel_rfl) (.agg #[.bool (rdL (b)), .slice Ar22_1 (rdK (b)).length cr22_1, .slice Ar22_2 (rdV (b)).length cr22_2, .slice Ar22_3 (rdC (b)).length cr22_3]) (by kernel_rfl)) ?_
  refine gF hM53 (.load 25 (.tmp 5)) (some 21) (by kernel_rfl) (Y_load 0 rfl (off := 0) (by kernel_rfl) (.agg #[.bool (rdL (b)), .slice Ar41_1 (rdK (b)).length cr41_1, .slice Ar41_2 (rdV (b)).length cr41_2, .slice Ar41_3 (rdC (b)).length cr41_3]) (by kernel_rfl)) ?_
  refine wpF_callP hM53 (f := 21) (caps := #[]) (h := (by kernel_rfl : opAt _ _ _ _ _ = some (.call (.mk (.value (.func 21)) #[(.tmp 20), (.tmp 21)] #[25, 25]), some 22))) (by kernel_rfl) (by kernel_rfl) (by kernel_rfl) (f21 _ _ hM53.inW (rdL (b)) Ar22_1 cr22_1 (rdK (b)) (r23.up le39) Ar22_2 cr22_2 (rdV (b)) (r24.up le39) Ar22_3 cr22_3 (rdC (b)) (r25.up le39) (rdL (b)) Ar41_1 cr41_1 (rdK (b)) r42 Ar41_2 cr41_2 (rdV (b)) r43 Ar41_3 cr41_3 (rdC (b)) r44) (fun v55 V56 w57 le58 hM59 hp60 => ?_)
  obtain rfl := hp60
  refine wpF_seg 1 (by kernel_rfl) ?_
  refine wpF_slot 23 (.bool (decide ((rdL (b)) = (rdL (b)) ∧ (rdK (b)) = (rdK (b)) ∧ (rdV (b)) = (rdV (b)) ∧ (rdC (b)) = (rdC (b))))) (.bool true) (by kernel_rfl) (by kernel_rfl) (by rw [(decide_eq_true ⟨rfl, rfl, rfl, rfl⟩ : (decide ((rdL (b)) = (rdL (b)) ∧ (rdK (b)) = (rdK (b)) ∧ (rdV (b)) = (rdV (b)) ∧ (rdC (b)) = (rdC (b)))) = true)]) ?_
  refine wpF_seg 5 (by kernel_rfl) ?_
  refine wpF_slot 28 (.bool (decide ((rdE (b)) = (rdE (b))))) (.bool true) (by kernel_rfl) (by kernel_rfl) (by rw [(decide_eq_true rfl : (decide ((rdE (b)) = (rdE (b)))) = true)]) ?_
  refine wpF_callP hM59 (f := 12) (caps := #[]) (h := (by kernel_rfl : opAt _ _ _ _ _ = some (.call (.mk (.value (.func 12)) #[] #[]), some 29))) (by kernel_rfl) (by kernel_rfl) (by kernel_rfl) (f12 _ _ hM59.inW ) (fun v61 V62 w63 le64 hM65 hp66 => ?_)
  obtain rfl := hp66
  refine wpF_seg 2 (by kernel_rfl) ?_
  refine wpF_end _ (by kernel_rfl) (then_n (hK54 _ _ ?_))
  refine wp_ret ?_
  refine retN [.bool (true)] (.bool (true)) Try.results6 (.tmp (by kernel_rfl) (by kernel_rfl) .nil) (by kernel_rfl) (hRet _ _ ⟨_, _, rfl, hM65.clear, ?_⟩)
  -- end 
  rfl

end Go.Vk
