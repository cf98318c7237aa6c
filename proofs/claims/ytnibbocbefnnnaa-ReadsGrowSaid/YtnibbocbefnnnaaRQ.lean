/- Contracts of the second seat's functions, part Q: printed by wip/tools/st.py. -/
import Derived.Test.YtnibbocbefnnnaaRPlain
set_option linter.unusedVariables false
set_option linter.unusedSimpArgs false
namespace Go.Vk
open Go.Proofs
set_option maxHeartbeats 4000000 in
set_option maxRecDepth 100000 in
theorem f17 (V : VT) (w : World) (hV : V.inW w) (Ark : Option Addr) (crk : Nat) (rk : List Str) (hrk : Rd strK V Ark crk rk) (Arq : Option Addr) (crq : Nat) (rq : List ((Str × Str))) (hrq : Rd (prK strK strK) V Arq crq rq) (h5 : rk.length ≤ 100000) (h6 : rq.length ≤ 100000) :
    Calls Try.prog 17 #[.agg #[.slice Ark (rk).length crk, .slice Arq (rq).length crq]] w (RetP V w fun rv V' => ∃ (A1 : Option Addr), ∃ (c1 : Nat), ∃ (A2 : Option Addr), ∃ (c2 : Nat), rv = .agg #[.slice A1 (rk).length c1, .slice A2 (rq).length c2] ∧ Rd strK V' A1 c1 (rk) ∧ Rd (prK strK strK) V' A2 c2 (rq) ∧ Rd strK V' A1 c1 (rk ++ ([([63] : Str)] : List Str)) ∧ Rd (prK strK strK) V' A2 c2 (rq ++ ([([63], [])] : List (Str × Str)))) := by
  have mxrk : rk.length ≤ 140737488355328 := hrk.max
  have mxrq : rq.length ≤ 140737488355328 := hrq.max
  refine calls_env (n := 29) Try.func17 (c := _) rfl Try.ntmps17 (by kernel_rfl) (fun R hRet => ?_)
  have hM0 : Step V w [] V w [] := Step.refl (St.nilE hV)
  refine wp_seq_k (fun K1 hK1 => ?_)
  refine wp_reg ?_
  refine wpF_box hM0 #[.slice Ark (rk).length crk, .slice Arq (rq).length crq] (h := (by kernel_rfl : opAt _ _ _ _ _ = some (.box 25 (.tmp 0), some 1))) (by kernel_rfl) (fun b2 w3 hM4 => ?_)
  obtain ⟨V5, le6, hM7, hc8⟩ := hM4.settle 0 rfl
  have hM9 : Step V w [] V5 _ ([]) := hM7
  refine wpF_alloc hM9 #[.slice none 0 0, .slice none 0 0] (h := (by kernel_rfl : opAt _ _ _ _ _ = some (.alloc 25, some 2))) (by kernel_rfl) (fun b10 w11 hM12 => ?_)
  refine wpF_end _ (by kernel_rfl) (then_n (hK1 _ _ ?_))
  refine wp_seq_k (fun K13 hK13 => ?_)
  refine wp_reg ?_
  refine wpF_litW strK hM12 #[] (h := (by kernel_rfl : opAt _ _ _ _ _ = some (.buildSlice 22 0 #[], some 5))) (e := 9) (by kernel_rfl) (([] : List Str)) Reps.nils rfl (by simp [maxL]) (fun A14 c15 w16 hM17 => ?_)
  refine wpF_seg 1 (by kernel_rfl) ?_
  refine gF hM17 (.load 22 (.tmp 6)) (some 7) (by kernel_rfl) (Y_loadB #[.slice Ark (rk).length crk, .slice Arq (rq).length crq] hc8 (off := 0) (by kernel_rfl) (.slice Ark (rk).length crk) (by kernel_rfl)) ?_
  refine wpF_append (by_ := 16) hM17 0 rfl (h := (by kernel_rfl : opAt _ _ _ _ _ = some (.call (.mk (.builtin .append) #[(.tmp 5), (.tmp 7)] #[22, 22]), some 8))) (by kernel_rfl) (by kernel_rfl) (by kernel_rfl) (by kernel_rfl) (by kernel_rfl) (by kernel_rfl) (by kernel_rfl) (Src.rd (hrk.up hM17.le)) (by first | omega | (simp only [List.length_append, List.length_cons, List.length_nil]; omega)) (fun A18 c19 w20 hM21 => ?_)
  have hM22 : Step V w [] V5 _ ([.row strK 9 A18 c19 (rk), .blk b10 (.cells #[.slice none 0 0, .slice none 0 0] 25)]) := hM21
  refine wpF_litR strK hM22 #[bs (([63] : Str))] (h := (by kernel_rfl : opAt _ _ _ _ _ = some (.buildSlice 22 1 #[(0, (.const (.string (ByteArray.mk #[63]))))], some 9))) (e := 9) (by kernel_rfl) (([([63] : Str)] : List Str)) (Reps.one_str (by first | decide | (simp only [maxL, List.length_append, List.length_cons, List.length_nil]; omega))) rfl (by simp [maxL]) (fun A23 c24 V27 w25 le28 hM26 r29 => ?_)
  refine wpF_append (by_ := 16) hM26 0 rfl (h := (by kernel_rfl : opAt _ _ _ _ _ = some (.call (.mk (.builtin .append) #[(.tmp 8), (.tmp 9)] #[22, 22]), some 10))) (by kernel_rfl) (by kernel_rfl) (by kernel_rfl) (by kernel_rfl) (by kernel_rfl) (by kernel_rfl) (by kernel_rfl) (Src.rd r29) (by first | omega | (simp only [List.length_append, List.length_cons, List.length_nil]; omega)) (fun A30 c31 w32 hM33 => ?_)
  have hM34 : Step V w [] V27 _ ([.row strK 9 A30 c31 (rk ++ ([([63] : Str)] : List Str)), .blk b10 (.cells #[.slice none 0 0, .slice none 0 0] 25)]) := hM33
  refine wpF_seg 1 (by kernel_rfl) ?_
  obtain ⟨V35, le36, hM37, r38⟩ := hM34.settleRow 0 rfl
  have hM39 : Step V w [] V35 _ ([.blk b10 (.cells #[.slice none 0 0, .slice none 0 0] 25)]) := hM37
  refine wpF_end _ (by kernel_rfl) (then_n (hK13 _ _ ?_))
  refine wp_seq_k (fun K40 hK40 => ?_)
  refine wp_reg ?_
  refine wpF_litW (prK strK strK) hM39 #[] (h := (by kernel_rfl : opAt _ _ _ _ _ = some (.buildSlice 23 0 #[], some 11))) (e := 40) (by kernel_rfl) (([] : List ((Str × Str)))) Reps.nils rfl (by simp [maxL]) (fun A41 c42 w43 hM44 => ?_)
  refine wpF_seg 1 (by kernel_rfl) ?_
  refine gF hM44 (.load 23 (.tmp 12)) (some 13) (by kernel_rfl) (Y_loadB #[.slice Ark (rk).length crk, .slice Arq (rq).length crq] (fun i v hi => (le28.trans le36) _ _ _ (hc8 i v hi)) (off := 1) (by kernel_rfl) (.slice Arq (rq).length crq) (by kernel_rfl)) ?_
  refine wpF_append (by_ := 32) hM44 0 rfl (h := (by kernel_rfl : opAt _ _ _ _ _ = some (.call (.mk (.builtin .append) #[(.tmp 11), (.tmp 13)] #[23, 23]), some 14))) (by kernel_rfl) (by kernel_rfl) (by kernel_rfl) (by kernel_rfl) (by kernel_rfl) (by kernel_rfl) (by kernel_rfl) (Src.rd (hrq.up hM44.le)) (by first | omega | (simp only [List.length_append, List.length_cons, List.length_nil]; omega)) (fun A45 c46 w47 hM48 => ?_)
  have hM49 : Step V w [] V35 _ ([.row (prK strK strK) 40 A45 c46 (rq), .blk b10 (.cells #[.slice none 0 0, .slice none 0 0] 25)]) := hM48
  refine wpF_seg 1 (by kernel_rfl) ?_
  refine wpF_litR (prK strK strK) hM49 #[bs (([63] : Str)), bs ([])] (h := (by kernel_rfl : opAt _ _ _ _ _ = some (.buildSlice 23 1 #[(0, (.tmp 15))], some 16))) (e := 40) (by kernel_rfl) ([(([63] : Str), [])]) (Reps.single (K := (prK strK strK)) (x := (([63] : Str), [])) ⟨[bs (([63] : Str))], [bs ([])], rfl, ⟨rfl, by first | decide | (simp only [maxL, List.length_append, List.length_cons, List.length_nil]; omega)⟩, ⟨rfl, by first | decide | (simp only [maxL, List.length_append, List.length_cons, List.length_nil]; omega)⟩⟩) rfl (by simp [maxL]) (fun A50 c51 V54 w52 le55 hM53 r56 => ?_)
  refine wpF_append (by_ := 32) hM53 0 rfl (h := (by kernel_rfl : opAt _ _ _ _ _ = some (.call (.mk (.builtin .append) #[(.tmp 14), (.tmp 16)] #[23, 23]), some 17))) (by kernel_rfl) (by kernel_rfl) (by kernel_rfl) (by kernel_rfl) (by kernel_rfl) (by kernel_rfl) (by kernel_rfl) (Src.rd r56) (by first | omega | (simp only [List.length_append, List.length_cons, List.length_nil]; omega)) (fun A57 c58 w59 hM60 => ?_)
  have hM61 : Step V w [] V54 _ ([.row (prK strK strK) 40 A57 c58 (rq ++ [(([63] : Str), [])]), .blk b10 (.cells #[.slice none 0 0, .slice none 0 0] 25)]) := hM60
  refine wpF_seg 1 (by kernel_rfl) ?_
  obtain ⟨V62, le63, hM64, r65⟩ := hM61.settleRow 0 rfl
  have hM66 : Step V w [] V62 _ ([.blk b10 (.cells #[.slice none 0 0, .slice none 0 0] 25)]) := hM64
  refine wpF_end _ (by kernel_rfl) (then_n (hK40 _ _ ?_))
  refine wp_seq_k (fun K67 hK67 => ?_)
  refine wp_base [(1, .pointer (some ⟨b2, 0, none⟩)), (2, .pointer (some ⟨b10, 0, none⟩)), (3, .slice A30 (rk ++ ([([63] : Str)] : List Str)).length c31), (4, .slice A57 (rq ++ [(([63] : Str), [])]).length c58)] (by kernel_rfl) (fun g68 => ?_)
  refine wp_drawN hM66 [] no_held [] [0, 1, 2, 3, 4, 5, 6, 7, 8, 9, 10] [.a 11] [.p 0, .p 1, .p 2, .p 3, .p 4, .p 5, .p 6, .p 7, .p 8, .p 9, .p 10, .s, .a 11] rfl (by kernel_rfl) (by kernel_rfl) ?_
  refine h_seg 2 (by kernel_rfl) ?_
  refine gH (.load 22 (.tmp 19)) (some 20) (by kernel_rfl) (Y_loadB #[.slice Ark (rk).length crk, .slice Arq (rq).length crq] (fun i v hi => (((le28.trans le36).trans le55).trans le63) _ _ _ (hc8 i v hi)) (off := 0) (by kernel_rfl) (.slice Ark (rk).length crk) (by kernel_rfl)) ?_
  refine h_seg 1 (by kernel_rfl) ?_
  refine gH (.slice 22 (.tmp 18) none (some (.tmp 21)) none) (some 22) (by kernel_rfl) (Y_sliceP (xs := (rk ++ ([([63] : Str)] : List Str))) (n := (rk ++ ([([63] : Str)] : List Str)).length) (r38.up (le55.trans le63)) (by simp) (by simp) (e := 9) (by kernel_rfl) (by kernel_rfl) (rk.length) ⟨.i64, by kernel_rfl⟩ (by simp)) ?_
  have r69 : Rd strK _ A30 c31 (rk) := Rd.pre (r38.up (le55.trans le63)) (rk.length) (by simp) (by simp)
  refine h_seg 2 (by kernel_rfl) ?_
  refine gH (.load 23 (.tmp 24)) (some 25) (by kernel_rfl) (Y_loadB #[.slice Ark (rk).length crk, .slice Arq (rq).length crq] (fun i v hi => (((le28.trans le36).trans le55).trans le63) _ _ _ (hc8 i v hi)) (off := 1) (by kernel_rfl) (.slice Arq (rq).length crq) (by kernel_rfl)) ?_
  refine h_seg 1 (by kernel_rfl) ?_
  refine gH (.slice 23 (.tmp 23) none (some (.tmp 26)) none) (some 27) (by kernel_rfl) (Y_sliceP (xs := (rq ++ ([([63], [])] : List (Str × Str)))) (n := (rq ++ [(([63] : Str), [])]).length) r65 (by simp) (by simp) (e := 40) (by kernel_rfl) (by kernel_rfl) (rq.length) ⟨.i64, by kernel_rfl⟩ (by simp)) ?_
  have r70 : Rd (prK strK strK) _ A57 c58 (rq) := Rd.pre r65 (rq.length) (by simp) (by simp)
  refine h_seg 1 (by kernel_rfl) ?_
  refine h_s no_fs ?_
  refine h_a (by kernel_rfl) (by kernel_rfl) (fun w71 X72 hM73 => ?_)
  refine wpF_store hM73 0 rfl (h := (by kernel_rfl : opAt _ _ _ _ _ = some (.store 25 (.tmp 2) (.tmp 28), none))) (off := 0) (by kernel_rfl) #[.slice A30 (rk.length) c31, .slice A57 (rq.length) c58] (by kernel_rfl) (by kernel_rfl) (by kernel_rfl) (by kernel_rfl) (fun w75 hM74 => ?_)
  have hM76 : Step V w [] V62 _ ([.blk b10 (.cells #[.slice A30 (rk.length) c31, .slice A57 (rq.length) c58] 25)] ++ X72) := hM74
  refine wpF_end _ (by kernel_rfl) (then_n (h_d [] (by kernel_rfl) [.blk b10 (.cells #[.slice A30 (rk.length) c31, .slice A57 (rq.length) c58] 25)] hM76 no_held (VT.le.refl _) ?_))
  refine h_n (fun w77 hM78 => ?_)
  refine  (then_n (hK67 _ _ ?_))
  refine wp_ret ?_
  refine retN [.agg #[.slice A30 (rk.length) c31, .slice A57 (rq.length) c58]] (.agg #[.slice A30 (rk.length) c31, .slice A57 (rq.length) c58]) Try.results17 (.cell (by kernel_rfl) (by kernel_rfl) hM78 0 rfl (by kernel_rfl) .nil) (by kernel_rfl) (hRet _ _ ⟨_, _, rfl, hM78.clear, ?_⟩)
  -- end 
  refine ⟨A30, c31, A57, c58, ?_, ?_, ?_, ?_, ?_⟩
  · rfl
  · first | exact r69 | (exact Rd.eq r69 (by rfl))
  · first | exact r70 | (exact Rd.eq r70 (by rfl))
  · first | exact (r38.up (le55.trans le63)) | exact r65
  · first | exact (r38.up (le55.trans le63)) | exact r65

end Go.Vk
