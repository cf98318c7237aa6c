import Derived.Test.YtnibbocbefnnnaaRIt
import Derived.Test.YtnibbocbefnnnaaRPlainSp
import Derived.Test.YtnibbocbefnnnaaRSb
import Derived.Test.YtnibbocbefnnnaaRSf
import Derived.Test.YtnibbocbefnnnaaRSp
set_option linter.unusedVariables false
set_option linter.unusedSimpArgs false
namespace Go.Vk
open Go.Proofs
variable {D : List Deferred}
set_option maxHeartbeats 4000000 in
set_option maxRecDepth 100000 in
theorem f42 (V : VT) (w : World) (bp : Nat) (Ap : Option Addr) (cp mp : Nat) (pL : List (Str × List (Int × Str × Bool))) (pl pm : Int) (f : Str) (hf : f.length ≤ maxL) (u : Str) (hu : u.length ≤ maxL) (t : Int) (hS : St V w [spE bp Ap cp mp (pL) (pl) (pm)]) (h5 : pL.length ≤ 99000) :
    Calls Try.prog 42 #[.pointer (some ⟨bp, 0, none⟩), bs (f), bs (u), .int .i64 (t)] w (Ret V w [spE bp Ap cp mp (pL) (pl) (pm)] fun rv V' E' => rv = .bool (sinB pL f u t) ∧ E' = [spE bp Ap cp mp (pL) (pl) (pm)]) := by
  have mxf : f.length ≤ 140737488355328 := hf
  have mxu : u.length ≤ 140737488355328 := hu
  refine calls_envM (n := 26) Try.func42 (c := _) rfl Try.ntmps42 (by kernel_rfl) (fun R hRet => ?_)
  have hV := hS.inW
  have hM0 : Step V w [spE bp Ap cp mp (pL) (pl) (pm)] V w [spE bp Ap cp mp (pL) (pl) (pm)] := Step.refl hS
  refine wp_seq_k (fun K1 hK1 => ?_)
  refine wp_reg ?_
  refine wpF_box hM0 #[.pointer (some ⟨bp, 0, none⟩)] (h := (by kernel_rfl : opAt _ _ _ _ _ = some (.box 53 (.tmp 0), some 4))) (by kernel_rfl) (fun b2 w3 hM4 => ?_)
  obtain ⟨V5, le6, hM7, hc8⟩ := hM4.settle 0 rfl
  have hM9 : Step V w [spE bp Ap cp mp (pL) (pl) (pm)] V5 _ ([spE bp Ap cp mp (pL) (pl) (pm)]) := hM7
  refine wpF_box hM9 #[.int .i64 (t)] (h := (by kernel_rfl : opAt _ _ _ _ _ = some (.box 3 (.tmp 3), some 7))) (by kernel_rfl) (fun b10 w11 hM12 => ?_)
  obtain ⟨V13, le14, hM15, hc16⟩ := hM12.settle 0 rfl
  have hM17 : Step V w [spE bp Ap cp mp (pL) (pl) (pm)] V13 _ ([spE bp Ap cp mp (pL) (pl) (pm)]) := hM15
  refine wpF_alloc hM17 #[.bool (false)] (h := (by kernel_rfl : opAt _ _ _ _ _ = some (.alloc 4, some 8))) (by kernel_rfl) (fun b18 w19 hM20 => ?_)
  refine wpF_end _ (by kernel_rfl) (then_n (hK1 _ _ ?_))
  refine wp_seq_k (fun K21 hK21 => ?_)
  refine wp_seq_k (fun K22 hK22 => ?_)
  refine wp_reg ?_
  refine gF hM20 (.load 53 (.tmp 4)) (some 10) (by kernel_rfl) (Y_loadB #[.pointer (some ⟨bp, 0, none⟩)] (fun i v hi => le14 _ _ _ (hc8 i v hi)) (off := 0) (by kernel_rfl) (.pointer (some ⟨bp, 0, none⟩)) (by kernel_rfl)) ?_
  have hM23 := hM20.front 1 rfl
  have hM31 : Step V w [spE bp Ap cp mp (pL) (pl) (pm)] V13 _ ([spE bp Ap cp mp (pL) (pl) (pm), .blk b18 (.cells #[.bool (false)] 4)]) := hM23
  refine wpF_callE [spE bp Ap cp mp (pL) (pl) (pm)] ([.blk b18 (.cells #[.bool (false)] 4)]) hM31 (f := 81) (caps := #[]) (h := (by kernel_rfl : opAt _ _ _ _ _ = some (.call (.mk (.value (.func 81)) #[(.tmp 10)] #[53]), some 11))) (by kernel_rfl) (by kernel_rfl) (by kernel_rfl) (f81 _ _ bp Ap cp mp (pL) (pl) (pm) (St.part (E := [spE bp Ap cp mp (pL) (pl) (pm)]) (F := ([.blk b18 (.cells #[.bool (false)] 4)])) hM31.ok)) (fun v24 V25 w26 Eo27 le28 hM29 hp30 => ?_)
  obtain ⟨rfl, rfl⟩ := hp30
  have hM32 : Step V w [spE bp Ap cp mp (pL) (pl) (pm)] V25 _ ([spE bp Ap cp mp ((pL)) ((pl)) ((pm)), .blk b18 (.cells #[.bool (false)] 4)]) := hM29
  refine wpF_seg 1 (by kernel_rfl) ?_
  refine wpF_end _ (by kernel_rfl) (then_n (hK22 _ _ ?_))
  refine wp_cf (by kernel_rfl) ?_
  refine wp_skip (then_n (hK21 _ _ ?_))
  refine wp_seq_k (fun K33 hK33 => ?_)
  refine wp_seq_k (fun K34 hK34 => ?_)
  refine wp_reg ?_
  refine gF hM32 (.load 53 (.tmp 4)) (some 13) (by kernel_rfl) (Y_loadB #[.pointer (some ⟨bp, 0, none⟩)] (fun i v hi => (le14.trans le28) _ _ _ (hc8 i v hi)) (off := 0) (by kernel_rfl) (.pointer (some ⟨bp, 0, none⟩)) (by kernel_rfl)) ?_
  refine wpF_seg 2 (by kernel_rfl) ?_
  refine wpF_callP hM32 (f := 87) (caps := #[]) (h := (by kernel_rfl : opAt _ _ _ _ _ = some (.call (.mk (.value (.func 87)) #[(.tmp 13), (.tmp 14), (.tmp 15)] #[53, 9, 9]), some 16))) (by kernel_rfl) (by kernel_rfl) (by kernel_rfl) (f87 _ _ hM32.inW bp (f) (hf) (u) (hu)) (fun v41 V42 w43 le44 hM45 hp46 => ?_)
  obtain ⟨bx35, bx36, bx37, rfl, hc38, hc39, hc40⟩ := hp46
  refine wpF_end _ (by kernel_rfl) (then_n (hK34 _ _ ?_))
  refine wp_block ?_
  have hM47 := hM45.openSp 0 rfl
  have hs48 : SpI ((pL)) := (hM45.spOk 0 rfl)
  have hM49 : Step V w [spE bp Ap cp mp (pL) (pl) (pm)] V42 _ ([.blk bp (.cells #[.slice Ap (keysOf ((pL))).length cp, .map (some mp), .int .i64 ((pl)), .int .i64 ((pm))] 71), .row strK 9 Ap cp (keysOf ((pL))), mapE false (slK (prK (intK .i64) (prK strK boolK))) mp (fun k_ => lk k_ ((pL))), .blk b18 (.cells #[.bool (false)] 4)]) := hM47
  have hM50 := hM49.front 1 rfl
  have hM51 := hM50.front 1 rfl
  have hM52 : Step V w [spE bp Ap cp mp (pL) (pl) (pm)] V42 _ ([.blk bp (.cells #[.slice Ap (keysOf ((pL))).length cp, .map (some mp), .int .i64 ((pl)), .int .i64 ((pm))] 71), .row strK 9 Ap cp (keysOf ((pL))), mapE false (slK (prK (intK .i64) (prK strK boolK))) mp (fun k_ => lk k_ ((pL))), .blk b18 (.cells #[.bool (false)] 4)]) := hM51
  refine wp_base [(4, .pointer (some ⟨b2, 0, none⟩)), (7, .pointer (some ⟨b10, 0, none⟩)), (8, .pointer (some ⟨b18, 0, none⟩)), (16, .func (.func 122) #[] #[.pointer (some ⟨bx35, 0, none⟩), .pointer (some ⟨bx36, 0, none⟩), .pointer (some ⟨bx37, 0, none⟩)])] (by kernel_rfl) (fun g53 => ?_)
  refine wp_rangeFunc (X := Bool) (α := Str) (enc := bs) (xs := (btwL (keysOf ((pL))) (f) (u))) (Esp := [.blk bp (.cells #[.slice Ap (keysOf ((pL))).length cp, .map (some mp), .int .i64 ((pl)), .int .i64 ((pm))] 71), .row strK 9 Ap cp (keysOf ((pL)))]) (it122 bp Ap cp (keysOf ((pL))) mp ((pl)) ((pm)) (f) (u) (hf) (hu) bx35 bx36 bx37 (by first | omega | (rw [len_keys]; omega))) (by kernel_rfl) (by kernel_rfl) (by kernel_rfl) (fun (x_ : Bool) => [mapE false (slK (prK (intK .i64) (prK strK boolK))) mp (fun k_ => lk k_ ((pL))), .blk b18 (.cells #[.bool (x_)] 4)]) (fun (j_ : Nat) (x_ : Bool) (V_ : VT) => (x_ = false) ∧ (∀ i y, i < j_ → (btwL (keysOf ((pL))) (f) (u))[i]? = some y → sncB (lkD y pL) t = false)) (fun (c_ : Code) (x_ : Bool) (V_ : VT) => (c_ = Code.ret) ∧ (x_ = true) ∧ (sinL pL t (btwL (keysOf ((pL))) (f) (u)) = true)) false hM52 ⟨by rfl, by exact fun i y hi => absurd hi (Nat.not_lt_zero i)⟩ ⟨hc38, hc39, hc40⟩ (fun V_ l_ h_ => ⟨fun i v hi => l_ _ _ _ (h_.1 i v hi), fun i v hi => l_ _ _ _ (h_.2.1 i v hi), fun i v hi => l_ _ _ _ (h_.2.2 i v hi)⟩) (fun j_ x_ V_ V2_ h_ l_ => h_) (fun e_ => [(9, bs e_), (17, bs e_), (4, .pointer (some ⟨b2, 0, none⟩)), (7, .pointer (some ⟨b10, 0, none⟩)), (8, .pointer (some ⟨b18, 0, none⟩)), (16, .func (.func 122) #[] #[.pointer (some ⟨bx35, 0, none⟩), .pointer (some ⟨bx36, 0, none⟩), .pointer (some ⟨bx37, 0, none⟩)])]) ?_ ?_ ?_ ?_
  · intro l_ e_ w_ K_ hK_
    refine wpR_reg (by kernel_rfl) (fun h_ => by obtain ⟨_, _, h_⟩ := h_; exact h_) ?_
    refine wpF_seg 1 (by kernel_rfl) ?_
    exact wpF_end _ (by kernel_rfl) (then_n hK_)
  · rintro l_ j_ z e_ V55 w56 Ex_ hx59 le57 ⟨hi_54_0, hi_54_1⟩ hM58
    have hM60 : Step V w [spE bp Ap cp mp (pL) (pl) (pm)] V55 _ ([grp Ex_, .blk bp (.cells #[.slice Ap (keysOf ((pL))).length cp, .map (some mp), .int .i64 ((pl)), .int .i64 ((pm))] 71), .row strK 9 Ap cp (keysOf ((pL))), mapE false (slK (prK (intK .i64) (prK strK boolK))) mp (fun k_ => lk k_ ((pL))), .blk b18 (.cells #[.bool (z)] 4)]) := Step.bodyIn (Esp := [.blk bp (.cells #[.slice Ap (keysOf ((pL))).length cp, .map (some mp), .int .i64 ((pl)), .int .i64 ((pm))] 71), .row strK 9 Ap cp (keysOf ((pL)))]) (G := [mapE false (slK (prK (intK .i64) (prK strK boolK))) mp (fun k_ => lk k_ ((pL))), .blk b18 (.cells #[.bool (z)] 4)]) hM58
    have l61 : e_.length ≤ 140737488355328 := row_lens (hM60.ok.holds _ (List.mem_of_getElem? (show _ = some _ from (rfl : ([grp Ex_, .blk bp (.cells #[.slice Ap (keysOf ((pL))).length cp, .map (some mp), .int .i64 ((pl)), .int .i64 ((pm))] 71), .row strK 9 Ap cp (keysOf ((pL))), mapE false (slK (prK (intK .i64) (prK strK boolK))) mp (fun k_ => lk k_ ((pL))), .blk b18 (.cells #[.bool (z)] 4)])[2]? = _)))) e_ (btwL_sub (List.mem_of_getElem? hx59))
    replace hi_54_0 : z = false := hi_54_0
    replace hi_54_1 : ∀ i y, i < j_ → (btwL (keysOf ((pL))) (f) (u))[i]? = some y → sncB (lkD y pL) t = false := hi_54_1
    have hj_ : j_ < (btwL (keysOf ((pL))) (f) (u)).length := (List.getElem?_eq_some_iff.1 hx59).1
    have hbl_ := btwL_len (keysOf ((pL))) (f) (u)
    have hkl_ := len_keys ((pL))
    refine wpR_block ?_
    refine wpR_seq_k (fun K62 hK62 => ?_)
    refine wpR_base [(4, .pointer (some ⟨b2, 0, none⟩)), (7, .pointer (some ⟨b10, 0, none⟩)), (8, .pointer (some ⟨b18, 0, none⟩)), (9, bs (e_))] (by kernel_rfl) (fun g63 => ?_)
    refine wpR_drawN (by kernel_rfl) (fun h_ => by obtain ⟨_, _, h_⟩ := h_; exact h_) hM60 [(.blk bp (.cells #[.slice Ap (keysOf ((pL))).length cp, .map (some mp), .int .i64 ((pl)), .int .i64 ((pm))] 71), 9999)] (and_held 1 rfl no_held) [] [0, 1, 2, 3, 4, 6] [.a 5, .a 7] [.p 0, .p 1, .p 2, .p 3, .p 4, .p 6, .s, .a 5, .a 7] rfl (by kernel_rfl) (by kernel_rfl) ?_
    refine gH (.load 53 (.tmp 4)) (some 18) (by kernel_rfl) (Y_loadB #[.pointer (some ⟨bp, 0, none⟩)] (fun i v hi => (((le14.trans le28).trans le44).trans le57) _ _ _ (hc8 i v hi)) (off := 0) (by kernel_rfl) (.pointer (some ⟨bp, 0, none⟩)) (by kernel_rfl)) ?_
    refine h_seg 2 (by kernel_rfl) ?_
    refine gH (.load 69 (.tmp 20)) (some 21) (by kernel_rfl) (Y_load 0 (by kernel_rfl : (FOf _ _ _)[0]? = some (.blk bp (.cells #[.slice Ap (keysOf ((pL))).length cp, .map (some mp), .int .i64 ((pl)), .int .i64 ((pm))] 71))) (off := 1) (by kernel_rfl) (.map (some mp)) (by kernel_rfl)) ?_
    refine h_seg 1 (by kernel_rfl) ?_
    refine gH (.load 3 (.tmp 7)) (some 24) (by kernel_rfl) (Y_loadB #[.int .i64 (t)] (fun i v hi => ((le28.trans le44).trans le57) _ _ _ (hc16 i v hi)) (off := 0) (by kernel_rfl) (.int .i64 (t)) (by kernel_rfl)) ?_
    refine h_s no_fs ?_
    refine h_a (by kernel_rfl) (by kernel_rfl) (fun w64 X65 hM66 => ?_)
    refine wpF_lookup (kt := 9) (e := 78) (z := .slice none 0 0) hM66 3 rfl (e_) (h := (by kernel_rfl : opAt _ _ _ _ _ = some (.lookup 69 (.tmp 21) (.tmp 22) false, some 23))) (by kernel_rfl) (by kernel_rfl) (elemV.of_sl (Rd.nil _ _)) (by kernel_rfl) (by kernel_rfl) (fun v67 hv68 => ?_)
    obtain ⟨A70, c71, rfl, r69⟩ := elemV.sl (xs := ((lk (e_) ((pL))).getD [])) hv68
    have l72 : (((lk (e_) ((pL))).getD [])).length ≤ 140737488355328 := r69.max
    refine wpF_end _ (by kernel_rfl) (then_n (h_d [(.blk bp (.cells #[.slice Ap (keysOf ((pL))).length cp, .map (some mp), .int .i64 ((pl)), .int .i64 ((pm))] 71), 9999)] (by kernel_rfl) [grp Ex_, .blk bp (.cells #[.slice Ap (keysOf ((pL))).length cp, .map (some mp), .int .i64 ((pl)), .int .i64 ((pm))] 71), .row strK 9 Ap cp (keysOf ((pL))), mapE false (slK (prK (intK .i64) (prK strK boolK))) mp (fun k_ => lk k_ ((pL))), .blk b18 (.cells #[.bool (z)] 4)] hM66 (and_held 1 rfl no_held) (VT.le.refl _) ?_))
    refine h_a (by kernel_rfl) (by kernel_rfl) (fun w73 X74 hM75 => ?_)
    refine wpF_callP hM75 (f := 90) (caps := #[]) (h := (by kernel_rfl : opAt _ _ _ _ _ = some (.call (.mk (.value (.func 90)) #[(.tmp 23), (.tmp 24)] #[78, 3]), some 25))) (by kernel_rfl) (by kernel_rfl) (by kernel_rfl) (f90 _ _ hM75.inW A70 c71 (((lk (e_) ((pL))).getD [])) r69 (t)) (fun v76 V77 w78 le79 hM80 hp81 => ?_)
    obtain rfl := hp81
    refine wpF_end _ (by kernel_rfl) (then_n (h_d [(.blk bp (.cells #[.slice Ap (keysOf ((pL))).length cp, .map (some mp), .int .i64 ((pl)), .int .i64 ((pm))] 71), 9999)] (by kernel_rfl) [grp Ex_, .blk bp (.cells #[.slice Ap (keysOf ((pL))).length cp, .map (some mp), .int .i64 ((pl)), .int .i64 ((pm))] 71), .row strK 9 Ap cp (keysOf ((pL))), mapE false (slK (prK (intK .i64) (prK strK boolK))) mp (fun k_ => lk k_ ((pL))), .blk b18 (.cells #[.bool (z)] 4)] hM80 (and_held 1 rfl no_held) le79 ?_))
    refine h_n (fun w82 hM83 => ?_)
    refine  (then_n (hK62 _ _ ?_))
    refine wpR_if (sncB (((lk (e_) ((pL))).getD [])) (t)) (by kernel_rfl) (fun h84 => ?_) (fun h84 => ?_)
    · -- Bt
      refine wpR_seq_k (fun K85 hK85 => ?_)
      refine wpR_reg (by kernel_rfl) (fun h_ => by obtain ⟨_, _, h_⟩ := h_; exact h_) ?_
      refine wpF_store hM83 4 rfl (h := (by kernel_rfl : opAt _ _ _ _ _ = some (.store 4 (.tmp 8) (.const (.bool true)), none))) (off := 0) (by kernel_rfl) #[.bool (true)] (by kernel_rfl) (by kernel_rfl) (by kernel_rfl) (by kernel_rfl) (fun w87 hM86 => ?_)
      have hM88 : Step V w [spE bp Ap cp mp (pL) (pl) (pm)] V77 _ ([grp Ex_, .blk bp (.cells #[.slice Ap (keysOf ((pL))).length cp, .map (some mp), .int .i64 ((pl)), .int .i64 ((pm))] 71), .row strK 9 Ap cp (keysOf ((pL))), mapE false (slK (prK (intK .i64) (prK strK boolK))) mp (fun k_ => lk k_ ((pL))), .blk b18 (.cells #[.bool (true)] 4)]) := hM86
      refine wpF_end _ (by kernel_rfl) (then_n (hK85 _ _ ?_))
      refine wpR_ret (blk_r (?_))
      have hM89 := hM88.front 4 rfl
      have hM90 := hM89.front 4 rfl
      have hM91 := hM90.front 4 rfl
      have hM92 := hM91.front 4 rfl
      have hM93 := hM92.front 4 rfl
      have hM94 : Step V w [spE bp Ap cp mp (pL) (pl) (pm)] V77 _ ([grp Ex_, .blk bp (.cells #[.slice Ap (keysOf ((pL))).length cp, .map (some mp), .int .i64 ((pl)), .int .i64 ((pm))] 71), .row strK 9 Ap cp (keysOf ((pL))), mapE false (slK (prK (intK .i64) (prK strK boolK))) mp (fun k_ => lk k_ ((pL))), .blk b18 (.cells #[.bool (true)] 4)]) := hM93
      refine ⟨true, V77, le79, ?_, Step.bodyOut (Esp := [.blk bp (.cells #[.slice Ap (keysOf ((pL))).length cp, .map (some mp), .int .i64 ((pl)), .int .i64 ((pm))] 71), .row strK 9 Ap cp (keysOf ((pL)))]) (G := [mapE false (slK (prK (intK .i64) (prK strK boolK))) mp (fun k_ => lk k_ ((pL))), .blk b18 (.cells #[.bool (true)] 4)]) hM94⟩
      exact ⟨by rfl, by rfl, by exact sin_yes hx59 (by assumption)⟩
    · -- Bf
      refine wpR_skip (blk_n (?_))
      have hM95 := hM83.front 4 rfl
      have hM96 := hM95.front 4 rfl
      have hM97 := hM96.front 4 rfl
      have hM98 := hM97.front 4 rfl
      have hM99 := hM98.front 4 rfl
      have hM100 : Step V w [spE bp Ap cp mp (pL) (pl) (pm)] V77 _ ([grp Ex_, .blk bp (.cells #[.slice Ap (keysOf ((pL))).length cp, .map (some mp), .int .i64 ((pl)), .int .i64 ((pm))] 71), .row strK 9 Ap cp (keysOf ((pL))), mapE false (slK (prK (intK .i64) (prK strK boolK))) mp (fun k_ => lk k_ ((pL))), .blk b18 (.cells #[.bool (z)] 4)]) := hM99
      refine ⟨z, V77, le79, ?_, Step.bodyOut (Esp := [.blk bp (.cells #[.slice Ap (keysOf ((pL))).length cp, .map (some mp), .int .i64 ((pl)), .int .i64 ((pm))] 71), .row strK 9 Ap cp (keysOf ((pL)))]) (G := [mapE false (slK (prK (intK .i64) (prK strK boolK))) mp (fun k_ => lk k_ ((pL))), .blk b18 (.cells #[.bool (z)] 4)]) hM100⟩
      exact ⟨by assumption, by exact sin_step hx59 (by assumption) (by assumption)⟩
  · rintro r105 z V101 w102 le103 ⟨hi_105_0, hi_105_1⟩ hM104
    have hM106 : Step V w [spE bp Ap cp mp (pL) (pl) (pm)] V101 _ ([.blk bp (.cells #[.slice Ap (keysOf ((pL))).length cp, .map (some mp), .int .i64 ((pl)), .int .i64 ((pm))] 71), .row strK 9 Ap cp (keysOf ((pL))), mapE false (slK (prK (intK .i64) (prK strK boolK))) mp (fun k_ => lk k_ ((pL))), .blk b18 (.cells #[.bool (z)] 4), .blk r105 (.deferred (some []))]) := hM104
    replace hi_105_0 : z = false := hi_105_0
    replace hi_105_1 : ∀ i y, i < (btwL (keysOf ((pL))) (f) (u)).length → (btwL (keysOf ((pL))) (f) (u))[i]? = some y → sncB (lkD y pL) t = false := hi_105_1
    refine  (blk_n (then_n (hK33 _ _ ?_)))
    refine wp_seq_k (fun K107 hK107 => ?_)
    refine wp_reg ?_
    refine wpF_store hM106 3 rfl (h := (by kernel_rfl : opAt _ _ _ _ _ = some (.store 4 (.tmp 8) (.const (.bool false)), none))) (off := 0) (by kernel_rfl) #[.bool (false)] (by kernel_rfl) (by kernel_rfl) (by kernel_rfl) (by kernel_rfl) (fun w109 hM108 => ?_)
    have hM110 : Step V w [spE bp Ap cp mp (pL) (pl) (pm)] V101 _ ([.blk bp (.cells #[.slice Ap (keysOf ((pL))).length cp, .map (some mp), .int .i64 ((pl)), .int .i64 ((pm))] 71), .row strK 9 Ap cp (keysOf ((pL))), mapE false (slK (prK (intK .i64) (prK strK boolK))) mp (fun k_ => lk k_ ((pL))), .blk b18 (.cells #[.bool (false)] 4), .blk r105 (.deferred (some []))]) := hM108
    refine wpF_end _ (by kernel_rfl) (then_n (hK107 _ _ ?_))
    refine wp_ret ?_
    have hM111 := hM110.front 2 rfl
    have hM112 := hM111.front 2 rfl
    have hM113 := hM112.front 2 rfl
    have hM114 : Step V w [spE bp Ap cp mp (pL) (pl) (pm)] V101 _ ([.blk bp (.cells #[.slice Ap (keysOf ((pL))).length cp, .map (some mp), .int .i64 ((pl)), .int .i64 ((pm))] 71), .row strK 9 Ap cp (keysOf ((pL))), mapE false (slK (prK (intK .i64) (prK strK boolK))) mp (fun k_ => lk k_ ((pL))), .blk b18 (.cells #[.bool (false)] 4), .blk r105 (.deferred (some []))]) := hM113
    have hk115 : keysOf ((pL)) = keysOf ((pL)) := rfl
    have hf116 : (fun k_ => lk k_ ((pL))) = (fun k_ => lk k_ ((pL))) := rfl
    have ho117 : SpI ((pL)) := hs48
    have hM118 : Step V w [spE bp Ap cp mp (pL) (pl) (pm)] V101 _ (spE bp Ap cp mp ((pL)) ((pl)) ((pm)) :: [.blk b18 (.cells #[.bool (false)] 4), .blk r105 (.deferred (some []))]) := Step.closeSp hk115 hf116 ho117 (by exact hM114)
    have hM119 : Step V w [spE bp Ap cp mp (pL) (pl) (pm)] V101 _ ([spE bp Ap cp mp ((pL)) ((pl)) ((pm)), .blk b18 (.cells #[.bool (false)] 4), .blk r105 (.deferred (some []))]) := hM118
    refine retM hM119 2 rfl [.bool (false)] (.bool (false)) Try.results42 (by kernel_rfl) (fun w121 hM120 => ⟨(.cell (by kernel_rfl) (by kernel_rfl) hM120 1 rfl (by kernel_rfl) .nil), ?_⟩)
    have hM122 : Step V w [spE bp Ap cp mp (pL) (pl) (pm)] V101 _ ([spE bp Ap cp mp ((pL)) ((pl)) ((pm)), .blk b18 (.cells #[.bool (false)] 4)]) := hM120
    have hM123 := hM122.front 0 rfl
    have hM124 := (hM123.front 1 rfl).drop
    have hM125 : Step V w [spE bp Ap cp mp (pL) (pl) (pm)] V101 _ ([spE bp Ap cp mp ((pL)) ((pl)) ((pm))]) := hM124
    refine hRet _ _ ⟨_, _, _, rfl, hM125, ?_⟩
    -- end D
    refine ⟨?_, ?_⟩
    · exact congrArg Value.bool (sin_no (by assumption)).symm
    · rfl
  · rintro r130 c_ z V126 w127 le128 ⟨hi_130_0, hi_130_1, hi_130_2⟩ hM129
    have hM131 : Step V w [spE bp Ap cp mp (pL) (pl) (pm)] V126 _ ([.blk bp (.cells #[.slice Ap (keysOf ((pL))).length cp, .map (some mp), .int .i64 ((pl)), .int .i64 ((pm))] 71), .row strK 9 Ap cp (keysOf ((pL))), mapE false (slK (prK (intK .i64) (prK strK boolK))) mp (fun k_ => lk k_ ((pL))), .blk b18 (.cells #[.bool (z)] 4), .blk r130 (.deferred (some []))]) := hM129
    replace hi_130_0 : c_ = Code.ret := hi_130_0
    replace hi_130_1 : z = true := hi_130_1
    replace hi_130_2 : sinL pL t (btwL (keysOf ((pL))) (f) (u)) = true := hi_130_2
    obtain rfl := hi_130_0
    refine wp_ret (blk_r (then_r (?_)))
    have hM132 := hM131.front 2 rfl
    have hM133 := hM132.front 2 rfl
    have hM134 := hM133.front 2 rfl
    have hM135 : Step V w [spE bp Ap cp mp (pL) (pl) (pm)] V126 _ ([.blk bp (.cells #[.slice Ap (keysOf ((pL))).length cp, .map (some mp), .int .i64 ((pl)), .int .i64 ((pm))] 71), .row strK 9 Ap cp (keysOf ((pL))), mapE false (slK (prK (intK .i64) (prK strK boolK))) mp (fun k_ => lk k_ ((pL))), .blk b18 (.cells #[.bool (z)] 4), .blk r130 (.deferred (some []))]) := hM134
    have hk136 : keysOf ((pL)) = keysOf ((pL)) := rfl
    have hf137 : (fun k_ => lk k_ ((pL))) = (fun k_ => lk k_ ((pL))) := rfl
    have ho138 : SpI ((pL)) := hs48
    have hM139 : Step V w [spE bp Ap cp mp (pL) (pl) (pm)] V126 _ (spE bp Ap cp mp ((pL)) ((pl)) ((pm)) :: [.blk b18 (.cells #[.bool (z)] 4), .blk r130 (.deferred (some []))]) := Step.closeSp hk136 hf137 ho138 (by exact hM135)
    have hM140 : Step V w [spE bp Ap cp mp (pL) (pl) (pm)] V126 _ ([spE bp Ap cp mp ((pL)) ((pl)) ((pm)), .blk b18 (.cells #[.bool (z)] 4), .blk r130 (.deferred (some []))]) := hM139
    refine retM hM140 2 rfl [.bool (z)] (.bool (z)) Try.results42 (by kernel_rfl) (fun w142 hM141 => ⟨(.cell (by kernel_rfl) (by kernel_rfl) hM141 1 rfl (by kernel_rfl) .nil), ?_⟩)
    have hM143 : Step V w [spE bp Ap cp mp (pL) (pl) (pm)] V126 _ ([spE bp Ap cp mp ((pL)) ((pl)) ((pm)), .blk b18 (.cells #[.bool (z)] 4)]) := hM141
    have hM144 := hM143.front 0 rfl
    have hM145 := (hM144.front 1 rfl).drop
    have hM146 : Step V w [spE bp Ap cp mp (pL) (pl) (pm)] V126 _ ([spE bp Ap cp mp ((pL)) ((pl)) ((pm))]) := hM145
    refine hRet _ _ ⟨_, _, _, rfl, hM146, ?_⟩
    -- end X
    refine ⟨?_, ?_⟩
    · subst_vars; exact congrArg Value.bool (by symm; assumption)
    · rfl

end Go.Vk
