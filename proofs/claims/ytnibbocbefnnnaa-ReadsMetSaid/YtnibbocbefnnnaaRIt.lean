import Derived.Test.YtnibbocbefnnnaaRSp
import Derived.Test.YtnibbocbefnnnaaVk21
set_option linter.unusedVariables false
set_option linter.unusedSimpArgs false
namespace Go.Vk
open Go.Proofs
/-- The keys that come. -/
def btwL (ks : List Str) (f t : Str) : List Str := (ks.drop (bsN ks f)).takeWhile (btwF t)
theorem btwL_sub {ks : List Str} {f t y : Str} (h : y ∈ btwL ks f t) : y ∈ ks := List.mem_of_mem_drop ((List.takeWhile_prefix _).subset h)
theorem btwL_len (ks : List Str) (f t : Str) : (btwL ks f t).length ≤ ks.length := by
  have h1 := btwF_le (ks.drop (bsN ks f)) (btwF t)
  have h2 : (ks.drop (bsN ks f)).length ≤ ks.length := by simp
  unfold btwL; omega
set_option maxHeartbeats 4000000 in
set_option maxRecDepth 100000 in
theorem it122 (bp : Nat) (A : Option Addr) (c : Nat) (ks : List Str) (mb : Nat) (la ma : Int) (f t : Str) (hf : f.length ≤ maxL) (ht : t.length ≤ maxL) (b1 b2 b3 : Nat) (h5 : ks.length ≤ 99000) :
    Iter Try.prog 122 #[.pointer (some ⟨b1, 0, none⟩), .pointer (some ⟨b2, 0, none⟩), .pointer (some ⟨b3, 0, none⟩)] bs (btwL ks f t)
      [.blk bp (.cells #[.slice A ks.length c, .map (some mb), .int .i64 la, .int .i64 ma] 71), .row strK 9 A c ks]
      (fun V => (∀ i v, (#[.pointer (some ⟨bp, 0, none⟩)] : Array Value)[i]? = some v → V b1 i = some v) ∧ (∀ i v, (#[bs f] : Array Value)[i]? = some v → V b2 i = some v) ∧ (∀ i v, (#[bs t] : Array Value)[i]? = some v → V b3 i = some v)) := by
  intro l J Jx V w h0 hJ hst hy
  obtain ⟨hS, hb1, hb2, hb3⟩ := hJ 0 V w h0
  have hn := bsN_le ks f
  have hrl : (ks.drop (bsN ks f)).length = ks.length - bsN ks f := List.length_drop
  refine calls_env1 (n := 43) Try.func122 (c := _) rfl Try.ntmps122 (by kernel_rfl) ?_
  have hno : ¬ LetsOut (bodyPost Try.prog Try.f122 fun e w' => (∃ v, e = .returned v) ∧ ((∃ V', J (btwL ks f t).length V' w') ∨ Jx w')) := by
    rintro ⟨_, w', ⟨v, hv⟩, _⟩; cases hv
  have hM0 : Step V w [.blk bp (.cells #[.slice A (ks).length c, .map (some mb), .int .i64 (la), .int .i64 (ma)] 71), .row strK 9 A c (ks)] V w [.blk bp (.cells #[.slice A (ks).length c, .map (some mb), .int .i64 (la), .int .i64 (ma)] 71), .row strK 9 A c (ks)] := Step.refl hS
  refine wp_seq_k (fun K1 hK1 => ?_)
  refine wp_base [(0, .func (.yield l) #[] #[]), (1, .pointer (some ⟨b1, 0, none⟩)), (2, .pointer (some ⟨b2, 0, none⟩)), (3, .pointer (some ⟨b3, 0, none⟩))] (by kernel_rfl) (fun g2 => ?_)
  refine wp_drawN hM0 [(.blk bp (.cells #[.slice A (ks).length c, .map (some mb), .int .i64 (la), .int .i64 (ma)] 71), 9999)] (and_held 0 rfl no_held) [] [0, 1, 2, 3, 4] [.a 5, .p 6, .p 7, .p 8, .p 9, .p 10] [.p 0, .p 1, .p 2, .p 3, .p 4, .s, .a 5, .p 6, .p 7, .p 8, .p 9, .p 10] rfl (by kernel_rfl) (by kernel_rfl) ?_
  refine gH (.load 53 (.tmp 1)) (some 10) (by kernel_rfl) (Y_loadB #[.pointer (some ⟨bp, 0, none⟩)] hb1 (off := 0) (by kernel_rfl) (.pointer (some ⟨bp, 0, none⟩)) (by kernel_rfl)) ?_
  refine h_seg 2 (by kernel_rfl) ?_
  refine gH (.load 22 (.tmp 12)) (some 13) (by kernel_rfl) (Y_load 0 (by kernel_rfl : (FOf _ _ _)[0]? = some (.blk bp (.cells #[.slice A (ks).length c, .map (some mb), .int .i64 (la), .int .i64 (ma)] 71))) (off := 0) (by kernel_rfl) (.slice A (ks).length c) (by kernel_rfl)) ?_
  refine gH (.load 9 (.tmp 2)) (some 14) (by kernel_rfl) (Y_loadB #[bs (f)] hb2 (off := 0) (by kernel_rfl) (bs (f)) (by kernel_rfl)) ?_
  refine h_s no_fs ?_
  refine h_a (by kernel_rfl) (by kernel_rfl) (fun w3 X4 hM5 => ?_)
  have hM6 := hM5.front 1 rfl
  have hM14 : Step V w [.blk bp (.cells #[.slice A (ks).length c, .map (some mb), .int .i64 (la), .int .i64 (ma)] 71), .row strK 9 A c (ks)] V _ ([.row strK 9 A c (ks), .blk bp (.cells #[.slice A (ks).length c, .map (some mb), .int .i64 (la), .int .i64 (ma)] 71)] ++ X4) := hM6
  refine wpF_callE [.row strK 9 A c (ks)] ([.blk bp (.cells #[.slice A (ks).length c, .map (some mb), .int .i64 (la), .int .i64 (ma)] 71)] ++ X4) hM14 (f := 55) (caps := #[]) (h := (by kernel_rfl : opAt _ _ _ _ _ = some (.call (.mk (.value (.func 55)) #[(.tmp 13), (.tmp 14)] #[22, 9]), some 15))) (by kernel_rfl) (by kernel_rfl) (by kernel_rfl) (f55r _ _ A c (ks) (f) (hf) (St.part (E := [.row strK 9 A c (ks)]) (F := ([.blk bp (.cells #[.slice A (ks).length c, .map (some mb), .int .i64 (la), .int .i64 (ma)] 71)] ++ X4)) hM14.ok) (by omega)) (fun v7 V8 w9 Eo10 le11 hM12 hp13 => ?_)
  obtain ⟨rfl, rfl⟩ := hp13
  have hM15 : Step V w [.blk bp (.cells #[.slice A (ks).length c, .map (some mb), .int .i64 (la), .int .i64 (ma)] 71), .row strK 9 A c (ks)] V8 _ ([.row strK 9 A c (ks), .blk bp (.cells #[.slice A (ks).length c, .map (some mb), .int .i64 (la), .int .i64 (ma)] 71)] ++ X4) := hM12
  refine wpF_end _ (by kernel_rfl) (then_n (h_d [(.blk bp (.cells #[.slice A (ks).length c, .map (some mb), .int .i64 (la), .int .i64 (ma)] 71), 9999)] (by kernel_rfl) [.row strK 9 A c (ks), .blk bp (.cells #[.slice A (ks).length c, .map (some mb), .int .i64 (la), .int .i64 (ma)] 71)] hM15 (and_held 1 rfl no_held) hM15.le ?_))
  refine h_seg 5 (by kernel_rfl) ?_
  refine h_n (fun w16 hM17 => ?_)
  refine  (then_n (hK1 _ _ ?_))
  refine wp_seq_k (fun K18 hK18 => ?_)
  refine wp_reg ?_
  refine gF hM17 (.load 53 (.tmp 1)) (some 18) (by kernel_rfl) (Y_loadB #[.pointer (some ⟨bp, 0, none⟩)] (fun i v hi => hM17.le _ _ _ (hb1 i v hi)) (off := 0) (by kernel_rfl) (.pointer (some ⟨bp, 0, none⟩)) (by kernel_rfl)) ?_
  refine wpF_seg 2 (by kernel_rfl) ?_
  refine gF hM17 (.load 22 (.tmp 20)) (some 21) (by kernel_rfl) (Y_load 1 rfl (off := 0) (by kernel_rfl) (.slice A (ks).length c) (by kernel_rfl)) ?_
  refine wpF_seg 1 (by kernel_rfl) ?_
  refine wpF_sliceLoA (e' := 9) hM17 0 rfl (h := (by kernel_rfl : opAt _ _ _ _ _ = some (.slice 22 (.tmp 21) (some (.tmp 22)) none none, some 23))) (by kernel_rfl) (by kernel_rfl) (bsN ks f) ⟨.i64, by kernel_rfl⟩ hn (fun A2 c2 hA2 => ?_)
  refine wpF_seg 2 (by kernel_rfl) ?_
  refine wpF_end _ (by kernel_rfl) (then_n (hK18 _ _ ?_))
  refine wp_block ?_
  have hJ1 : J 0 V8 w16 := hst 0 V w V8 w16 h0 (hM17.front 1 rfl)
  refine wp_base [(0, .func (.yield l) #[] #[]), (3, .pointer (some ⟨b3, 0, none⟩)), (23, .slice A2 (ks.length - bsN ks f) c2), (24, .int .i64 ((ks.length - bsN ks f : Nat) : Int)), (25, .int .i64 ((0 : Nat) : Int))] (by kernel_rfl) (fun g19 => ?_)
  refine wp_loopX (fun (q : Nat) a w' => ∃ g V', a = env [] 43 [(0, .func (.yield l) #[] #[]), (3, .pointer (some ⟨b3, 0, none⟩)), (23, .slice A2 (ks.length - bsN ks f) c2), (24, .int .i64 ((ks.length - bsN ks f : Nat) : Int)), (25, .int .i64 (q : Int))] g ∧ J q V' w' ∧ q ≤ (btwL ks f t).length) (fun q => ks.length + 1 - q) 0 ⟨g19, V8, rfl, hJ1, Nat.zero_le _⟩ ?_
  rintro q a w1 ⟨g, V1, rfl, hj, hq⟩ K20 hK20
  obtain ⟨hS1, hc1, hc2, hc3⟩ := hJ q V1 w1 hj
  have hM := Step.refl hS1
  have htl : (btwL ks f t).length ≤ ks.length - bsN ks f := by
    have := (List.takeWhile_prefix (btwF t) (l := ks.drop (bsN ks f))).length_le
    rw [hrl] at this; exact this
  refine wp_seq_k (fun K21 hK21 => ?_)
  refine wp_reg ?_
  refine wpF_seg 1 (by kernel_rfl) ?_
  refine wpF_end _ (by kernel_rfl) (then_n (hK21 _ _ ?_))
  refine wp_seq_k (fun K22 hK22 => ?_)
  refine wp_if (decide ((q : Int) < ((ks.length - bsN ks f : Nat) : Int))) (by kernel_rfl) (fun h => ?_) (fun h => ?_)
  · have hlt : (q : Int) < ((ks.length - bsN ks f : Nat) : Int) := of_decide_eq_true h
    have hg : (ks.drop (bsN ks f)).getD q [] = ks.getD (bsN ks f + q * 1) [] := by rw [getD_drop, Nat.mul_one]
    obtain ⟨t1, t2⟩ := tw_get (p := btwF t) (ks.drop (bsN ks f)) q hq (by omega)
    rw [hg] at t1 t2
    refine wp_skip (then_n (hK22 _ _ ?_))
    refine wp_seq_k (fun K23 hK23 => ?_)
    refine wp_block ?_
    refine wp_seq_k (fun K24 hK24 => ?_)
    refine wp_reg ?_
    obtain ⟨b, rfl, rfl⟩ := hA2 q (by omega)
    refine gF hM (.indexAddr 22 (.tmp 23) (.tmp 25)) (some 27) (by kernel_rfl) (Y_index (e := 9) (z := 1) (m := ks.length - bsN ks f) (c := c2) (b := b) (o := bsN ks f) .i64 (q : Int) (by kernel_rfl) (by kernel_rfl) (by kernel_rfl) q rfl (by omega)) ?_
    refine wpF_loadW (m := bsN ks f + q * 1) hM 1 rfl rfl (h := (by kernel_rfl : opAt _ _ _ _ _ = some (.load 9 (.tmp 27), some 28))) (by kernel_rfl) (by kernel_rfl) (by omega) (fun hkl => ?_)
    generalize hk : ks.getD (bsN ks f + q * 1) [] = k at t1 t2 hkl
    refine wpF_seg 1 (by kernel_rfl) ?_
    refine wpF_end _ (by kernel_rfl) (then_n (hK24 _ _ ?_))
    refine wp_seq_k (fun K25 hK25 => ?_)
    refine wp_regY ?_
    refine gY hM (.load 9 (.tmp 3)) (some 29) (by kernel_rfl) (Y_loadB #[bs t] hc3 (off := 0) (by kernel_rfl) (bs t) (by kernel_rfl)) ?_
    refine wpY_seg 2 (by kernel_rfl) ?_
    -- one more round, or no more
    have go : ∀ (L' : List (Nat × Value)) (g' : Nat → Value) (w2 : World), (∀ s, s = 0 ∨ s = 3 ∨ s = 23 ∨ s = 24 ∨ s = 25 → look L' g' s = look [(0, .func (.yield l) #[] #[]), (3, .pointer (some ⟨b3, 0, none⟩)), (23, .slice (some ⟨b, bsN ks f, none⟩) (ks.length - bsN ks f) c2), (24, .int .i64 ((ks.length - bsN ks f : Nat) : Int)), (25, .int .i64 (q : Int))] g s) → (∃ V2, J (q + 1) V2 w2) → (btwL ks f t)[q]? = some k → look L' g' 41 = .bool false → K25 (env [] 43 L' g') w2 := by
      intro L' g' w2 hL hJ2 hx h41
      obtain ⟨V2, hJ2⟩ := hJ2
      refine hK25 _ _ ?_
      refine wp_cf h41 ?_
      refine wp_skip (blk_n (hK23 _ _ ?_))
      refine wp_reg ?_
      refine wpF_base [(0, .func (.yield l) #[] #[]), (3, .pointer (some ⟨b3, 0, none⟩)), (23, .slice (some ⟨b, bsN ks f, none⟩) (ks.length - bsN ks f) c2), (24, .int .i64 ((ks.length - bsN ks f : Nat) : Int)), (25, .int .i64 (q : Int))] (by simp only [List.map_cons, List.map_nil, hL 0 (.inl rfl), hL 3 (.inr (.inl rfl)), hL 23 (.inr (.inr (.inl rfl))), hL 24 (.inr (.inr (.inr (.inl rfl)))), hL 25 (.inr (.inr (.inr (.inr rfl))))]; rfl) (fun g3 => ?_)
      have hS2 := (hJ (q + 1) V2 w2 hJ2).1
      refine gF (Step.refl hS2) (.binOp .add 3 (.tmp 25) (.const (.int .i64 1)) 3) (some 42) (by kernel_rfl) (Y_add .i64 (q : Int) 1 ((q : Int) + 1) (by kernel_rfl) (by kernel_rfl) (wrap64_ok _ (by omega))) ?_
      refine wpF_seg 1 (by kernel_rfl) ?_
      refine wpF_base [(0, .func (.yield l) #[] #[]), (3, .pointer (some ⟨b3, 0, none⟩)), (23, .slice (some ⟨b, bsN ks f, none⟩) (ks.length - bsN ks f) c2), (24, .int .i64 ((ks.length - bsN ks f : Nat) : Int)), (25, .int .i64 ((q + 1 : Nat) : Int))] (by kernel_rfl) (fun g4 => ?_)
      have hq2 : q + 1 ≤ (btwL ks f t).length := (List.getElem?_eq_some_iff.1 hx).1
      exact wpF_end _ (by kernel_rfl) (then_n (hK20 _ _ (q + 1) (by omega) ⟨g4, V2, rfl, hJ2, hq2⟩))
    have stop : ∀ (L' : List (Nat × Value)) (g' : Nat → Value) (w2 : World), ((∃ V', J (btwL ks f t).length V' w2) ∨ Jx w2) → look L' g' 41 = .bool true → K25 (env [] 43 L' g') w2 := by
      intro L' g' w2 hR h41
      refine hK25 _ _ ?_
      refine wp_ct h41 ?_
      exact wp_ret (blk_r (then_r (then_r (blk_r (ret0 (.inl rfl) Try.results122 ⟨⟨_, rfl⟩, hR⟩)))))
    have yes : btwF t k = true → ∀ (L' : List (Nat × Value)) (g' : Nat → Value), True := fun _ _ _ => trivial
    by_cases ht0 : t = []
    · refine wpY_slot 31 (.bool (!decide (t = []))) (.bool false) (by kernel_rfl) (by rw [decide_eq_true ht0]; rfl) ?_
      refine wpY_seg 7 (by kernel_rfl) ?_
      have hx := t1 (by unfold btwF; rw [decide_eq_true ht0]; rfl)
      refine wpY_yield (h := (by kernel_rfl : opAt _ _ _ _ _ = some (.call ⟨.value (.tmp 37), #[.tmp 38], #[9]⟩, some 39))) (by kernel_rfl) (av := #[bs k]) (by kernel_rfl) (hy q V1 w1 k hx hj) (fun e w2 hr => ?_)
      rcases hr with ⟨rfl, hJ2⟩ | ⟨rfl, hjx⟩
      · refine ⟨_, rfl, ?_⟩
        refine wpY_seg 2 (by kernel_rfl) ?_
        exact wpY_end _ (by kernel_rfl) (then_n (go _ _ _ (by rintro s (rfl | rfl | rfl | rfl | rfl) <;> rfl) hJ2 hx rfl))
      · refine ⟨_, rfl, ?_⟩
        refine wpY_seg 2 (by kernel_rfl) ?_
        exact wpY_end _ (by kernel_rfl) (then_n (stop _ _ _ (.inr hjx) rfl))
    · refine wpY_slot 31 (.bool (!decide (t = []))) (.bool true) (by kernel_rfl) (by rw [decide_eq_false ht0]; rfl) ?_
      refine wpY_seg 1 (by kernel_rfl) ?_
      refine gY hM (.load 9 (.tmp 3)) (some 33) (by kernel_rfl) (Y_loadB #[bs t] hc3 (off := 0) (by kernel_rfl) (bs t) (by kernel_rfl)) ?_
      refine wpY_seg 3 (by kernel_rfl) ?_
      by_cases hkt : k < t
      · refine wpY_slot 36 (.bool (!decide (k < t))) (.bool false) (by kernel_rfl) (by rw [decide_eq_true hkt]; rfl) ?_
        refine wpY_seg 2 (by kernel_rfl) ?_
        have hx := t1 (by unfold btwF; rw [decide_eq_true hkt, Bool.or_true])
        refine wpY_yield (h := (by kernel_rfl : opAt _ _ _ _ _ = some (.call ⟨.value (.tmp 37), #[.tmp 38], #[9]⟩, some 39))) (by kernel_rfl) (av := #[bs k]) (by kernel_rfl) (hy q V1 w1 k hx hj) (fun e w2 hr => ?_)
        rcases hr with ⟨rfl, hJ2⟩ | ⟨rfl, hjx⟩
        · refine ⟨_, rfl, ?_⟩
          refine wpY_seg 2 (by kernel_rfl) ?_
          exact wpY_end _ (by kernel_rfl) (then_n (go _ _ _ (by rintro s (rfl | rfl | rfl | rfl | rfl) <;> rfl) hJ2 hx rfl))
        · refine ⟨_, rfl, ?_⟩
          refine wpY_seg 2 (by kernel_rfl) ?_
          exact wpY_end _ (by kernel_rfl) (then_n (stop _ _ _ (.inr hjx) rfl))
      · refine wpY_slot 36 (.bool (!decide (k < t))) (.bool true) (by kernel_rfl) (by rw [decide_eq_false hkt]; rfl) ?_
        refine wpY_seg 5 (by kernel_rfl) ?_
        have hq3 := t2 (by unfold btwF; rw [decide_eq_false ht0, decide_eq_false hkt]; rfl)
        refine wpY_end _ (by kernel_rfl) (then_n (stop _ _ _ (.inl ⟨V1, ?_⟩) rfl))
        show J ((ks.drop (bsN ks f)).takeWhile (btwF t)).length V1 w1
        rw [← hq3]; exact hj
  · have hnl : ¬ (q : Int) < ((ks.length - bsN ks f : Nat) : Int) := of_decide_eq_false h
    have hq3 : q = (btwL ks f t).length := tw_end hq (by omega)
    refine wp_exit (then_x (then_x (blk_hit ?_)))
    exact ret0 (.inr rfl) Try.results122 ⟨⟨_, rfl⟩, .inl ⟨V1, hq3 ▸ hj⟩⟩
set_option maxRecDepth 100000 in
/-- The iterator is made. -/
theorem f87 (V : VT) (w : World) (hV : V.inW w) (bp : Nat) (f : Str) (hf : f.length ≤ maxL) (t : Str) (ht : t.length ≤ maxL) :
    Calls Try.prog 87 #[.pointer (some ⟨bp, 0, none⟩), bs f, bs t] w (RetP V w fun rv V' => ∃ b1 b2 b3, rv = .func (.func 122) #[] #[.pointer (some ⟨b1, 0, none⟩), .pointer (some ⟨b2, 0, none⟩), .pointer (some ⟨b3, 0, none⟩)] ∧
      (∀ i v, (#[.pointer (some ⟨bp, 0, none⟩)] : Array Value)[i]? = some v → V' b1 i = some v) ∧ (∀ i v, (#[bs f] : Array Value)[i]? = some v → V' b2 i = some v) ∧ (∀ i v, (#[bs t] : Array Value)[i]? = some v → V' b3 i = some v)) := by
  refine calls_env (n := 8) Try.func87 (c := _) rfl Try.ntmps87 (by kernel_rfl) (fun R hRet => ?_)
  have hM0 : Step V w [] V w [] := Step.refl (St.nilE hV)
  refine wp_seq_k (fun K1 hK1 => ?_)
  refine wp_reg ?_
  refine wpF_box hM0 #[.pointer (some ⟨bp, 0, none⟩)] (h := (by kernel_rfl : opAt _ _ _ _ _ = some (.box 53 (.tmp 0), some 3))) (by kernel_rfl) (fun b1 w1 hM1 => ?_)
  refine wpF_box hM1 #[bs f] (h := (by kernel_rfl : opAt _ _ _ _ _ = some (.box 9 (.tmp 1), some 4))) (by kernel_rfl) (fun b2 w2 hM2 => ?_)
  refine wpF_box hM2 #[bs t] (h := (by kernel_rfl : opAt _ _ _ _ _ = some (.box 9 (.tmp 2), some 5))) (by kernel_rfl) (fun b3 w3 hM3 => ?_)
  obtain ⟨V4, le4, hM4, hc4⟩ := hM3.settle 2 rfl
  obtain ⟨V5, le5, hM5, hc5⟩ := hM4.settle 1 rfl
  obtain ⟨V6, le6, hM6, hc6⟩ := hM5.settle 0 rfl
  refine wpF_seg 1 (by kernel_rfl) ?_
  refine wpF_end _ (by kernel_rfl) (then_n (hK1 _ _ ?_))
  refine wp_seq_k (fun K2 hK2 => ?_)
  refine wp_reg ?_
  refine wpF_seg 2 (by kernel_rfl) ?_
  refine wpF_end _ (by kernel_rfl) (then_n (hK2 _ _ ?_))
  refine wp_ret ?_
  refine retN [.func (.func 122) #[] #[.pointer (some ⟨b1, 0, none⟩), .pointer (some ⟨b2, 0, none⟩), .pointer (some ⟨b3, 0, none⟩)]] _ Try.results87 (.tmp (by kernel_rfl) (by kernel_rfl) .nil) (by kernel_rfl) (hRet _ _ ⟨_, _, rfl, hM6.clear, b1, b2, b3, rfl, ?_, ?_, ?_⟩)
  · exact fun i v hi => le6 _ _ _ (le5 _ _ _ (hc4 i v hi))
  · exact fun i v hi => le6 _ _ _ (hc5 i v hi)
  · exact fun i v hi => hc6 i v hi
def sinL (L : List Item) (t : Int) (xs : List Str) : Bool := xs.any fun k => sncB (lkD k L) t
def sinB (L : List Item) (f u : Str) (t : Int) : Bool := sinL L t (btwL (keysOf L) f u)
theorem sin_yes {L : List Item} {t : Int} {xs : List Str} {j : Nat} {k : Str} (h : xs[j]? = some k) (ha : sncB (lkD k L) t = true) : sinL L t xs = true := List.any_eq_true.2 ⟨k, List.mem_of_getElem? h, ha⟩
theorem sin_step {L : List Item} {t : Int} {xs : List Str} {j : Nat} {k : Str} (h : xs[j]? = some k) (h0 : ∀ i y, i < j → xs[i]? = some y → sncB (lkD y L) t = false) (ha : sncB (lkD k L) t = false) : ∀ i y, i < j + 1 → xs[i]? = some y → sncB (lkD y L) t = false := by
  intro i y hi hy
  by_cases e : i = j
  · subst e; rw [h] at hy; cases hy; exact ha
  · exact h0 i y (by omega) hy
theorem sin_no {L : List Item} {t : Int} {xs : List Str} (h0 : ∀ i y, i < xs.length → xs[i]? = some y → sncB (lkD y L) t = false) : sinL L t xs = false := by
  unfold sinL
  rw [List.any_eq_false]
  intro y hy
  obtain ⟨i, hi⟩ := List.getElem?_of_mem hy
  have := h0 i y (List.getElem?_eq_some_iff.1 hi).1 hi
  rw [this]; simp
end Go.Vk
