import Derived.Test.YtnibbocbefnnnaaRIt
import Derived.Test.YtnibbocbefnnnaaRPlainSp
import Derived.Test.YtnibbocbefnnnaaRSb
import Derived.Test.YtnibbocbefnnnaaRSf
import Derived.Test.YtnibbocbefnnnaaRSg
import Derived.Test.YtnibbocbefnnnaaRSp
set_option linter.unusedVariables false
set_option linter.unusedSimpArgs false
namespace Go.Vk
open Go.Proofs
variable {D : List Deferred}
set_option maxHeartbeats 4000000 in
set_option maxRecDepth 100000 in
theorem f37 (V : VT) (w : World) (bp : Nat) (Ap : Option Addr) (cp mp : Nat) (pL : List (Str × List (Int × Str × Bool))) (pl pm : Int) (f : Str) (hf : f.length ≤ maxL) (u : Str) (hu : u.length ≤ maxL) (t : Int) (n : Int) (hS : St V w [spE bp Ap cp mp (pL) (pl) (pm)]) (h5 : pL.length ≤ 99000) :
    Calls Try.prog 37 #[.pointer (some ⟨bp, 0, none⟩), bs (f), bs (u), .int .i64 (t), .int .i64 (n)] w (Ret V w [spE bp Ap cp mp (pL) (pl) (pm)] fun rv V' E' => ∃ (A1 : Option Addr), ∃ (c1 : Nat), rv = .tuple #[.slice A1 (scnR pL pl pm f u t n).length c1, .int .i64 (kepE t pl pm)] ∧ E' = [spE bp Ap cp mp (pL) (pl) (pm)] ∧ Rd (prK strK strK) V' A1 c1 (scnR pL pl pm f u t n)) := by
  have mxf : f.length ≤ 140737488355328 := hf
  have mxu : u.length ≤ 140737488355328 := hu
  refine calls_envM (n := 55) Try.func37 (c := _) rfl Try.ntmps37 (by kernel_rfl) (fun R hRet => ?_)
  have hV := hS.inW
  have hM0 : Step V w [spE bp Ap cp mp (pL) (pl) (pm)] V w [spE bp Ap cp mp (pL) (pl) (pm)] := Step.refl hS
  refine wp_seq_k (fun K1 hK1 => ?_)
  refine wp_reg ?_
  refine wpF_box hM0 #[.pointer (some ⟨bp, 0, none⟩)] (h := (by kernel_rfl : opAt _ _ _ _ _ = some (.box 53 (.tmp 0), some 5))) (by kernel_rfl) (fun b2 w3 hM4 => ?_)
  obtain ⟨V5, le6, hM7, hc8⟩ := hM4.settle 0 rfl
  have hM9 : Step V w [spE bp Ap cp mp (pL) (pl) (pm)] V5 _ ([spE bp Ap cp mp (pL) (pl) (pm)]) := hM7
  refine wpF_box hM9 #[.int .i64 (t)] (h := (by kernel_rfl : opAt _ _ _ _ _ = some (.box 3 (.tmp 3), some 8))) (by kernel_rfl) (fun b10 w11 hM12 => ?_)
  obtain ⟨V13, le14, hM15, hc16⟩ := hM12.settle 0 rfl
  have hM17 : Step V w [spE bp Ap cp mp (pL) (pl) (pm)] V13 _ ([spE bp Ap cp mp (pL) (pl) (pm)]) := hM15
  refine wpF_box hM17 #[.int .i64 (n)] (h := (by kernel_rfl : opAt _ _ _ _ _ = some (.box 3 (.tmp 4), some 9))) (by kernel_rfl) (fun b18 w19 hM20 => ?_)
  obtain ⟨V21, le22, hM23, hc24⟩ := hM20.settle 0 rfl
  have hM25 : Step V w [spE bp Ap cp mp (pL) (pl) (pm)] V21 _ ([spE bp Ap cp mp (pL) (pl) (pm)]) := hM23
  refine wpF_seg 2 (by kernel_rfl) ?_
  refine wpF_end _ (by kernel_rfl) (then_n (hK1 _ _ ?_))
  refine wp_seq_k (fun K26 hK26 => ?_)
  refine wp_seq_k (fun K27 hK27 => ?_)
  refine wp_reg ?_
  refine gF hM25 (.load 53 (.tmp 5)) (some 17) (by kernel_rfl) (Y_loadB #[.pointer (some ⟨bp, 0, none⟩)] (fun i v hi => (le14.trans le22) _ _ _ (hc8 i v hi)) (off := 0) (by kernel_rfl) (.pointer (some ⟨bp, 0, none⟩)) (by kernel_rfl)) ?_
  refine gF hM25 (.load 3 (.tmp 8)) (some 18) (by kernel_rfl) (Y_loadB #[.int .i64 (t)] (fun i v hi => le22 _ _ _ (hc16 i v hi)) (off := 0) (by kernel_rfl) (.int .i64 (t)) (by kernel_rfl)) ?_
  have hM28 := hM25.front 0 rfl
  have hM36 : Step V w [spE bp Ap cp mp (pL) (pl) (pm)] V21 _ ([spE bp Ap cp mp (pL) (pl) (pm)]) := hM28
  refine wpF_callE [spE bp Ap cp mp (pL) (pl) (pm)] ([]) hM36 (f := 86) (caps := #[]) (h := (by kernel_rfl : opAt _ _ _ _ _ = some (.call (.mk (.value (.func 86)) #[(.tmp 17), (.tmp 18)] #[53, 3]), some 19))) (by kernel_rfl) (by kernel_rfl) (by kernel_rfl) (f86 _ _ bp Ap cp mp (pL) (pl) (pm) (t) (St.part (E := [spE bp Ap cp mp (pL) (pl) (pm)]) (F := ([])) hM36.ok)) (fun v29 V30 w31 Eo32 le33 hM34 hp35 => ?_)
  obtain ⟨rfl, rfl⟩ := hp35
  have hM37 : Step V w [spE bp Ap cp mp (pL) (pl) (pm)] V30 _ ([spE bp Ap cp mp ((pL)) ((pl)) ((pm))]) := hM34
  refine wpF_seg 1 (by kernel_rfl) ?_
  refine wpF_end _ (by kernel_rfl) (then_n (hK27 _ _ ?_))
  refine wp_seq_k (fun K38 hK38 => ?_)
  refine wp_reg ?_
  refine wpF_seg 2 (by kernel_rfl) ?_
  refine wpF_end _ (by kernel_rfl) (then_n (hK38 _ _ ?_))
  refine wp_if (!(decide ((kepE (t) (pl) (pm)) = (0)))) (by kernel_rfl) (fun h39 => ?_) (fun h39 => ?_)
  · -- t
    have h40 : decide ((kepE (t) (pl) (pm)) = (0)) = false := by rw [← Bool.not_not (decide _), h39]; rfl
    have p41 : ¬ ((kepE (t) (pl) (pm)) = (0)) := of_decide_eq_false h40
    have hk0 : decide (kepE t pl pm = 0) = false := decide_eq_false (by omega)
    refine wp_seq_k (fun K42 hK42 => ?_)
    refine wp_reg ?_
    refine wpF_seg 3 (by kernel_rfl) ?_
    refine wpF_end _ (by kernel_rfl) (then_n (hK42 _ _ ?_))
    refine wp_ret (then_r (?_))
    have hM43 := hM37.front 0 rfl
    have hM44 : Step V w [spE bp Ap cp mp (pL) (pl) (pm)] V30 _ ([spE bp Ap cp mp ((pL)) ((pl)) ((pm))]) := hM43
    refine retM0 [.slice none 0 0, .int .i64 (kepE (t) (pl) (pm))] (.tuple #[.slice none 0 0, .int .i64 (kepE (t) (pl) (pm))]) Try.results37 (.tmp (by kernel_rfl) (by kernel_rfl) (.tmp (by kernel_rfl) (by kernel_rfl) .nil)) (by kernel_rfl) (hRet _ _ ⟨_, _, _, rfl, hM44, ?_⟩)
    -- end t
    refine ⟨none, 0, ?_, ?_, ?_⟩
    · simp only [scnR, hk0, cond_false] <;> rfl
    · rfl
    · first | exact (Rd.nil _ _) | (exact Rd.eq (Rd.nil _ _) (by simp only [scnR, hk0, cond_false]))
  · -- f
    have h45 : decide ((kepE (t) (pl) (pm)) = (0)) = true := by rw [← Bool.not_not (decide _), h39]; rfl
    have p46 : ((kepE (t) (pl) (pm)) = (0)) := of_decide_eq_true h45
    have hk0 : decide (kepE t pl pm = 0) = true := decide_eq_true (by omega)
    refine wp_skip (then_n (hK26 _ _ ?_))
    refine wp_seq_k (fun K47 hK47 => ?_)
    refine wp_reg ?_
    refine wpF_alloc hM37 #[.slice none 0 0] (h := (by kernel_rfl : opAt _ _ _ _ _ = some (.alloc 60, some 13))) (by kernel_rfl) (fun b48 w49 hM50 => ?_)
    refine wpF_end _ (by kernel_rfl) (then_n (hK47 _ _ ?_))
    refine wp_seq_k (fun K51 hK51 => ?_)
    refine wp_seq_k (fun K52 hK52 => ?_)
    refine wp_reg ?_
    refine gF hM50 (.load 53 (.tmp 5)) (some 23) (by kernel_rfl) (Y_loadB #[.pointer (some ⟨bp, 0, none⟩)] (fun i v hi => ((le14.trans le22).trans le33) _ _ _ (hc8 i v hi)) (off := 0) (by kernel_rfl) (.pointer (some ⟨bp, 0, none⟩)) (by kernel_rfl)) ?_
    refine wpF_seg 2 (by kernel_rfl) ?_
    refine wpF_callP hM50 (f := 87) (caps := #[]) (h := (by kernel_rfl : opAt _ _ _ _ _ = some (.call (.mk (.value (.func 87)) #[(.tmp 23), (.tmp 24), (.tmp 25)] #[53, 9, 9]), some 26))) (by kernel_rfl) (by kernel_rfl) (by kernel_rfl) (f87 _ _ hM50.inW bp (f) (hf) (u) (hu)) (fun v59 V60 w61 le62 hM63 hp64 => ?_)
    obtain ⟨bx53, bx54, bx55, rfl, hc56, hc57, hc58⟩ := hp64
    refine wpF_end _ (by kernel_rfl) (then_n (hK52 _ _ ?_))
    refine wp_block ?_
    have hM65 := hM63.openSp 1 rfl
    have hs66 : SpI ((pL)) := (hM63.spOk 1 rfl)
    have hM67 : Step V w [spE bp Ap cp mp (pL) (pl) (pm)] V60 _ ([.blk bp (.cells #[.slice Ap (keysOf ((pL))).length cp, .map (some mp), .int .i64 ((pl)), .int .i64 ((pm))] 71), .row strK 9 Ap cp (keysOf ((pL))), mapE false (slK (prK (intK .i64) (prK strK boolK))) mp (fun k_ => lk k_ ((pL))), .blk b48 (.cells #[.slice none 0 0] 60)]) := hM65
    have hM68 := hM67.nilrow (prK strK strK) 93
    have hM69 : Step V w [spE bp Ap cp mp (pL) (pl) (pm)] V60 _ ([.row (prK strK strK) 93 none 0 (([] : List ((Str × Str)))), .blk bp (.cells #[.slice Ap (keysOf ((pL))).length cp, .map (some mp), .int .i64 ((pl)), .int .i64 ((pm))] 71), .row strK 9 Ap cp (keysOf ((pL))), mapE false (slK (prK (intK .i64) (prK strK boolK))) mp (fun k_ => lk k_ ((pL))), .blk b48 (.cells #[.slice none (([] : List ((Str × Str)))).length 0] 60)]) := hM68
    have hM70 := hM69.front 2 rfl
    have hM71 := hM70.front 2 rfl
    have hM72 : Step V w [spE bp Ap cp mp (pL) (pl) (pm)] V60 _ ([.blk bp (.cells #[.slice Ap (keysOf ((pL))).length cp, .map (some mp), .int .i64 ((pl)), .int .i64 ((pm))] 71), .row strK 9 Ap cp (keysOf ((pL))), .row (prK strK strK) 93 none 0 (([] : List ((Str × Str)))), mapE false (slK (prK (intK .i64) (prK strK boolK))) mp (fun k_ => lk k_ ((pL))), .blk b48 (.cells #[.slice none (([] : List ((Str × Str)))).length 0] 60)]) := hM71
    refine wp_base [(5, .pointer (some ⟨b2, 0, none⟩)), (8, .pointer (some ⟨b10, 0, none⟩)), (9, .pointer (some ⟨b18, 0, none⟩)), (10, .slice none 0 0), (11, .int .i64 (0)), (13, .pointer (some ⟨b48, 0, none⟩)), (26, .func (.func 122) #[] #[.pointer (some ⟨bx53, 0, none⟩), .pointer (some ⟨bx54, 0, none⟩), .pointer (some ⟨bx55, 0, none⟩)])] (by kernel_rfl) (fun g73 => ?_)
    refine wp_rangeFunc (X := Option Addr × Nat × List (Str × Str)) (α := Str) (enc := bs) (xs := (btwL (keysOf ((pL))) (f) (u))) (Esp := [.blk bp (.cells #[.slice Ap (keysOf ((pL))).length cp, .map (some mp), .int .i64 ((pl)), .int .i64 ((pm))] 71), .row strK 9 Ap cp (keysOf ((pL)))]) (it122 bp Ap cp (keysOf ((pL))) mp ((pl)) ((pm)) (f) (u) (hf) (hu) bx53 bx54 bx55 (by first | omega | (rw [len_keys]; omega))) (by kernel_rfl) (by kernel_rfl) (by kernel_rfl) (fun (x_ : Option Addr × Nat × List (Str × Str)) => [.row (prK strK strK) 93 x_.1 x_.2.1 (x_.2.2), mapE false (slK (prK (intK .i64) (prK strK boolK))) mp (fun k_ => lk k_ ((pL))), .blk b48 (.cells #[.slice x_.1 (x_.2.2).length x_.2.1] 60)]) (fun (j_ : Nat) (x_ : Option Addr × Nat × List (Str × Str)) (V_ : VT) => (x_.2.2 = prs pL t ((btwL (keysOf ((pL))) (f) (u)).take (j_))) ∧ (n < 0 ∨ ((x_.2.2).length : Int) ≤ n) ∧ ((x_.2.2).length ≤ j_)) (fun (c_ : Code) (x_ : Option Addr × Nat × List (Str × Str)) (V_ : VT) => (c_ = Code.exit 0) ∧ (x_.2.2 = scnL pL t n (btwL (keysOf ((pL))) (f) (u)))) (none, 0, ([] : List (Str × Str))) hM72 ⟨by rfl, by first | exact .inl (by omega) | exact .inr (by simp; omega) | (simp; omega), by exact Nat.zero_le _⟩ ⟨hc56, hc57, hc58⟩ (fun V_ l_ h_ => ⟨fun i v hi => l_ _ _ _ (h_.1 i v hi), fun i v hi => l_ _ _ _ (h_.2.1 i v hi), fun i v hi => l_ _ _ _ (h_.2.2 i v hi)⟩) (fun j_ x_ V_ V2_ h_ l_ => h_) (fun e_ => [(14, bs e_), (27, bs e_), (5, .pointer (some ⟨b2, 0, none⟩)), (8, .pointer (some ⟨b10, 0, none⟩)), (9, .pointer (some ⟨b18, 0, none⟩)), (10, .slice none 0 0), (11, .int .i64 (0)), (13, .pointer (some ⟨b48, 0, none⟩)), (26, .func (.func 122) #[] #[.pointer (some ⟨bx53, 0, none⟩), .pointer (some ⟨bx54, 0, none⟩), .pointer (some ⟨bx55, 0, none⟩)])]) ?_ ?_ ?_ ?_
    · intro l_ e_ w_ K_ hK_
      refine wpR_reg (by kernel_rfl) (fun h_ => by obtain ⟨_, _, h_⟩ := h_; exact h_) ?_
      refine wpF_seg 1 (by kernel_rfl) ?_
      exact wpF_end _ (by kernel_rfl) (then_n hK_)
    · rintro l_ j_ ⟨Ax13_74, cx13_74, o⟩ e_ V75 w76 Ex_ hx79 le77 ⟨hi_74_0, hi_74_1, hi_74_2⟩ hM78
      have hM80 : Step V w [spE bp Ap cp mp (pL) (pl) (pm)] V75 _ ([grp Ex_, .blk bp (.cells #[.slice Ap (keysOf ((pL))).length cp, .map (some mp), .int .i64 ((pl)), .int .i64 ((pm))] 71), .row strK 9 Ap cp (keysOf ((pL))), .row (prK strK strK) 93 Ax13_74 cx13_74 (o), mapE false (slK (prK (intK .i64) (prK strK boolK))) mp (fun k_ => lk k_ ((pL))), .blk b48 (.cells #[.slice Ax13_74 (o).length cx13_74] 60)]) := Step.bodyIn (Esp := [.blk bp (.cells #[.slice Ap (keysOf ((pL))).length cp, .map (some mp), .int .i64 ((pl)), .int .i64 ((pm))] 71), .row strK 9 Ap cp (keysOf ((pL)))]) (G := [.row (prK strK strK) 93 Ax13_74 cx13_74 (o), mapE false (slK (prK (intK .i64) (prK strK boolK))) mp (fun k_ => lk k_ ((pL))), .blk b48 (.cells #[.slice Ax13_74 (o).length cx13_74] 60)]) hM78
      have l81 : e_.length ≤ 140737488355328 := row_lens (hM80.ok.holds _ (List.mem_of_getElem? (show _ = some _ from (rfl : ([grp Ex_, .blk bp (.cells #[.slice Ap (keysOf ((pL))).length cp, .map (some mp), .int .i64 ((pl)), .int .i64 ((pm))] 71), .row strK 9 Ap cp (keysOf ((pL))), .row (prK strK strK) 93 Ax13_74 cx13_74 (o), mapE false (slK (prK (intK .i64) (prK strK boolK))) mp (fun k_ => lk k_ ((pL))), .blk b48 (.cells #[.slice Ax13_74 (o).length cx13_74] 60)])[2]? = _)))) e_ (btwL_sub (List.mem_of_getElem? hx79))
      replace hi_74_0 : o = prs pL t ((btwL (keysOf ((pL))) (f) (u)).take (j_)) := hi_74_0
      replace hi_74_1 : n < 0 ∨ ((o).length : Int) ≤ n := hi_74_1
      replace hi_74_2 : (o).length ≤ j_ := hi_74_2
      have hj_ : j_ < (btwL (keysOf ((pL))) (f) (u)).length := (List.getElem?_eq_some_iff.1 hx79).1
      have hbl_ := btwL_len (keysOf ((pL))) (f) (u)
      have hkl_ := len_keys ((pL))
      refine wpR_block ?_
      refine wpR_seq_k (fun K82 hK82 => ?_)
      refine wpR_seq_k (fun K83 hK83 => ?_)
      refine wpR_reg (by kernel_rfl) (fun h_ => by obtain ⟨_, _, h_⟩ := h_; exact h_) ?_
      refine gF hM80 (.load 3 (.tmp 9)) (some 28) (by kernel_rfl) (Y_loadB #[.int .i64 (n)] (fun i v hi => ((le33.trans le62).trans le77) _ _ _ (hc24 i v hi)) (off := 0) (by kernel_rfl) (.int .i64 (n)) (by kernel_rfl)) ?_
      refine wpF_seg 2 (by kernel_rfl) ?_
      refine wpF_caseB 30 (decide ((0) ≤ (n))) (by kernel_rfl) (by kernel_rfl) (fun h84 => ?_) (fun h84 => ?_)
      · -- fBt
        have p85 : ((0) ≤ (n)) := of_decide_eq_true h84
        refine gF hM80 (.load 60 (.tmp 13)) (some 31) (by kernel_rfl) (Y_load 5 rfl (off := 0) (by kernel_rfl) (.slice Ax13_74 (o).length cx13_74) (by kernel_rfl)) ?_
        refine wpF_seg 1 (by kernel_rfl) ?_
        refine gF hM80 (.load 3 (.tmp 9)) (some 33) (by kernel_rfl) (Y_loadB #[.int .i64 (n)] (fun i v hi => ((le33.trans le62).trans le77) _ _ _ (hc24 i v hi)) (off := 0) (by kernel_rfl) (.int .i64 (n)) (by kernel_rfl)) ?_
        refine wpF_seg 2 (by kernel_rfl) ?_
        refine wpF_end _ (by kernel_rfl) (then_n (hK83 _ _ ?_))
        refine wpR_if (decide ((n) ≤ ((o.length : Int)))) (by kernel_rfl) (fun h86 => ?_) (fun h86 => ?_)
        · -- fBtt
          have p87 : ((n) ≤ ((o.length : Int))) := of_decide_eq_true h86
          refine wpR_exit (then_x (blk_miss (by rfl) (?_)))
          have hM88 := hM80.front 5 rfl
          have hM89 := hM88.front 5 rfl
          have hM90 := hM89.front 5 rfl
          have hM91 := hM90.front 5 rfl
          have hM92 := hM91.front 5 rfl
          have hM93 := hM92.front 5 rfl
          have hM94 : Step V w [spE bp Ap cp mp (pL) (pl) (pm)] V75 _ ([grp Ex_, .blk bp (.cells #[.slice Ap (keysOf ((pL))).length cp, .map (some mp), .int .i64 ((pl)), .int .i64 ((pm))] 71), .row strK 9 Ap cp (keysOf ((pL))), .row (prK strK strK) 93 Ax13_74 cx13_74 (o), mapE false (slK (prK (intK .i64) (prK strK boolK))) mp (fun k_ => lk k_ ((pL))), .blk b48 (.cells #[.slice Ax13_74 (o).length cx13_74] 60)]) := hM93
          refine ⟨(Ax13_74, cx13_74, o), V75, VT.le.refl _, ?_, Step.bodyOut (Esp := [.blk bp (.cells #[.slice Ap (keysOf ((pL))).length cp, .map (some mp), .int .i64 ((pl)), .int .i64 ((pm))] 71), .row strK 9 Ap cp (keysOf ((pL)))]) (G := [.row (prK strK strK) 93 Ax13_74 cx13_74 (o), mapE false (slK (prK (intK .i64) (prK strK boolK))) mp (fun k_ => lk k_ ((pL))), .blk b48 (.cells #[.slice Ax13_74 (o).length cx13_74] 60)]) hM94⟩
          exact ⟨by rfl, by exact scn_stop (by assumption) (by omega) (by omega) (by assumption)⟩
        · -- fBtf
          have p95 : ¬ ((n) ≤ ((o.length : Int))) := of_decide_eq_false h86
          refine wpR_skip (then_n (hK82 _ _ ?_))
          refine wpR_seq_k (fun K96 hK96 => ?_)
          refine wpR_base [(5, .pointer (some ⟨b2, 0, none⟩)), (8, .pointer (some ⟨b10, 0, none⟩)), (10, .slice none 0 0), (11, .int .i64 (0)), (13, .pointer (some ⟨b48, 0, none⟩)), (14, bs (e_))] (by kernel_rfl) (fun g97 => ?_)
          refine wpR_drawN (by kernel_rfl) (fun h_ => by obtain ⟨_, _, h_⟩ := h_; exact h_) hM80 [(.blk bp (.cells #[.slice Ap (keysOf ((pL))).length cp, .map (some mp), .int .i64 ((pl)), .int .i64 ((pm))] 71), 9999)] (and_held 1 rfl no_held) [] [0, 1, 2, 3, 4, 6] [.a 5, .a 7, .p 8, .p 9, .p 10, .p 11, .p 12] [.p 0, .p 1, .p 2, .p 3, .p 4, .p 6, .s, .a 5, .a 7, .p 8, .p 9, .p 10, .p 11, .p 12] rfl (by kernel_rfl) (by kernel_rfl) ?_
          refine gH (.load 53 (.tmp 5)) (some 37) (by kernel_rfl) (Y_loadB #[.pointer (some ⟨bp, 0, none⟩)] (fun i v hi => ((((le14.trans le22).trans le33).trans le62).trans le77) _ _ _ (hc8 i v hi)) (off := 0) (by kernel_rfl) (.pointer (some ⟨bp, 0, none⟩)) (by kernel_rfl)) ?_
          refine h_seg 2 (by kernel_rfl) ?_
          refine gH (.load 69 (.tmp 39)) (some 40) (by kernel_rfl) (Y_load 0 (by kernel_rfl : (FOf _ _ _)[0]? = some (.blk bp (.cells #[.slice Ap (keysOf ((pL))).length cp, .map (some mp), .int .i64 ((pl)), .int .i64 ((pm))] 71))) (off := 1) (by kernel_rfl) (.map (some mp)) (by kernel_rfl)) ?_
          refine h_seg 1 (by kernel_rfl) ?_
          refine gH (.load 3 (.tmp 8)) (some 43) (by kernel_rfl) (Y_loadB #[.int .i64 (t)] (fun i v hi => (((le22.trans le33).trans le62).trans le77) _ _ _ (hc16 i v hi)) (off := 0) (by kernel_rfl) (.int .i64 (t)) (by kernel_rfl)) ?_
          refine h_s no_fs ?_
          refine h_a (by kernel_rfl) (by kernel_rfl) (fun w98 X99 hM100 => ?_)
          refine wpF_lookup (kt := 9) (e := 78) (z := .slice none 0 0) hM100 4 rfl (e_) (h := (by kernel_rfl : opAt _ _ _ _ _ = some (.lookup 69 (.tmp 40) (.tmp 41) false, some 42))) (by kernel_rfl) (by kernel_rfl) (elemV.of_sl (Rd.nil _ _)) (by kernel_rfl) (by kernel_rfl) (fun v101 hv102 => ?_)
          obtain ⟨A104, c105, rfl, r103⟩ := elemV.sl (xs := ((lk (e_) ((pL))).getD [])) hv102
          have l106 : (((lk (e_) ((pL))).getD [])).length ≤ 140737488355328 := r103.max
          refine wpF_end _ (by kernel_rfl) (then_n (h_d [(.blk bp (.cells #[.slice Ap (keysOf ((pL))).length cp, .map (some mp), .int .i64 ((pl)), .int .i64 ((pm))] 71), 9999)] (by kernel_rfl) [grp Ex_, .blk bp (.cells #[.slice Ap (keysOf ((pL))).length cp, .map (some mp), .int .i64 ((pl)), .int .i64 ((pm))] 71), .row strK 9 Ap cp (keysOf ((pL))), .row (prK strK strK) 93 Ax13_74 cx13_74 (o), mapE false (slK (prK (intK .i64) (prK strK boolK))) mp (fun k_ => lk k_ ((pL))), .blk b48 (.cells #[.slice Ax13_74 (o).length cx13_74] 60)] hM100 (and_held 1 rfl no_held) (VT.le.refl _) ?_))
          refine h_a (by kernel_rfl) (by kernel_rfl) (fun w107 X108 hM109 => ?_)
          refine wpF_callP hM109 (f := 88) (caps := #[]) (h := (by kernel_rfl : opAt _ _ _ _ _ = some (.call (.mk (.value (.func 88)) #[(.tmp 42), (.tmp 43)] #[78, 3]), some 44))) (by kernel_rfl) (by kernel_rfl) (by kernel_rfl) (f88 _ _ hM109.inW A104 c105 (((lk (e_) ((pL))).getD [])) r103 (t)) (fun v110 V111 w112 le113 hM114 hp115 => ?_)
          obtain ⟨rfl, x116⟩ := hp115
          have x116 : (atS (((lk (e_) ((pL))).getD [])) (t)).length ≤ 140737488355328 := x116
          refine wpF_end _ (by kernel_rfl) (then_n (h_d [(.blk bp (.cells #[.slice Ap (keysOf ((pL))).length cp, .map (some mp), .int .i64 ((pl)), .int .i64 ((pm))] 71), 9999)] (by kernel_rfl) [grp Ex_, .blk bp (.cells #[.slice Ap (keysOf ((pL))).length cp, .map (some mp), .int .i64 ((pl)), .int .i64 ((pm))] 71), .row strK 9 Ap cp (keysOf ((pL))), .row (prK strK strK) 93 Ax13_74 cx13_74 (o), mapE false (slK (prK (intK .i64) (prK strK boolK))) mp (fun k_ => lk k_ ((pL))), .blk b48 (.cells #[.slice Ax13_74 (o).length cx13_74] 60)] hM114 (and_held 1 rfl no_held) le113 ?_))
          refine h_seg 5 (by kernel_rfl) ?_
          refine h_n (fun w117 hM118 => ?_)
          refine  (then_n (hK96 _ _ ?_))
          refine wpR_seq_k (fun K119 hK119 => ?_)
          refine wpR_reg (by kernel_rfl) (fun h_ => by obtain ⟨_, _, h_⟩ := h_; exact h_) ?_
          refine wpF_seg 1 (by kernel_rfl) ?_
          refine wpF_end _ (by kernel_rfl) (then_n (hK119 _ _ ?_))
          refine wpR_if (atO (((lk (e_) ((pL))).getD [])) (t)) (by kernel_rfl) (fun h120 => ?_) (fun h120 => ?_)
          · -- fBtft
            refine wpR_reg (by kernel_rfl) (fun h_ => by obtain ⟨_, _, h_⟩ := h_; exact h_) ?_
            refine gF hM118 (.load 60 (.tmp 13)) (some 48) (by kernel_rfl) (Y_load 5 rfl (off := 0) (by kernel_rfl) (.slice Ax13_74 (o).length cx13_74) (by kernel_rfl)) ?_
            refine wpF_seg 3 (by kernel_rfl) ?_
            refine wpF_litR (prK strK strK) hM118 #[bs (e_), bs (atS (((lk (e_) ((pL))).getD [])) (t))] (h := (by kernel_rfl : opAt _ _ _ _ _ = some (.buildSlice 60 1 #[(0, (.tmp 51))], some 52))) (e := 93) (by kernel_rfl) ([(e_, atS (((lk (e_) ((pL))).getD [])) (t))]) (Reps.single (K := (prK strK strK)) (x := (e_, atS (((lk (e_) ((pL))).getD [])) (t))) ⟨[bs (e_)], [bs (atS (((lk (e_) ((pL))).getD [])) (t))], rfl, ⟨rfl, l81⟩, ⟨rfl, by first | decide | (simp only [maxL, List.length_append, List.length_cons, List.length_nil]; omega)⟩⟩) rfl (by simp [maxL]) (fun A121 c122 V125 w123 le126 hM124 r127 => ?_)
            refine wpF_append (by_ := 32) hM124 3 rfl (h := (by kernel_rfl : opAt _ _ _ _ _ = some (.call (.mk (.builtin .append) #[(.tmp 48), (.tmp 52)] #[60, 60]), some 53))) (by kernel_rfl) (by kernel_rfl) (by kernel_rfl) (by kernel_rfl) (by kernel_rfl) (by kernel_rfl) (by kernel_rfl) (Src.rd r127) (by first | omega | (simp only [List.length_append, List.length_cons, List.length_nil]; omega)) (fun A128 c129 w130 hM131 => ?_)
            have hM132 : Step V w [spE bp Ap cp mp (pL) (pl) (pm)] V125 _ ([.row (prK strK strK) 93 A128 c129 (o ++ [(e_, atS (((lk (e_) ((pL))).getD [])) (t))]), grp Ex_, .blk bp (.cells #[.slice Ap (keysOf ((pL))).length cp, .map (some mp), .int .i64 ((pl)), .int .i64 ((pm))] 71), .row strK 9 Ap cp (keysOf ((pL))), mapE false (slK (prK (intK .i64) (prK strK boolK))) mp (fun k_ => lk k_ ((pL))), .blk b48 (.cells #[.slice Ax13_74 (o).length cx13_74] 60)]) := hM131
            refine wpF_store hM132 5 rfl (h := (by kernel_rfl : opAt _ _ _ _ _ = some (.store 60 (.tmp 13) (.tmp 53), none))) (off := 0) (by kernel_rfl) #[.slice A128 (o ++ [(e_, atS (((lk (e_) ((pL))).getD [])) (t))]).length c129] (by kernel_rfl) (by kernel_rfl) (by kernel_rfl) (by kernel_rfl) (fun w134 hM133 => ?_)
            have hM135 : Step V w [spE bp Ap cp mp (pL) (pl) (pm)] V125 _ ([.row (prK strK strK) 93 A128 c129 (o ++ [(e_, atS (((lk (e_) ((pL))).getD [])) (t))]), grp Ex_, .blk bp (.cells #[.slice Ap (keysOf ((pL))).length cp, .map (some mp), .int .i64 ((pl)), .int .i64 ((pm))] 71), .row strK 9 Ap cp (keysOf ((pL))), mapE false (slK (prK (intK .i64) (prK strK boolK))) mp (fun k_ => lk k_ ((pL))), .blk b48 (.cells #[.slice A128 (o ++ [(e_, atS (((lk (e_) ((pL))).getD [])) (t))]).length c129] 60)]) := hM133
            refine wpF_end _ (by kernel_rfl) (blk_n (?_))
            have hM136 := hM135.front 5 rfl
            have hM137 := hM136.front 5 rfl
            have hM138 := hM137.front 2 rfl
            have hM139 := hM138.front 5 rfl
            have hM140 := hM139.front 5 rfl
            have hM141 := hM140.front 5 rfl
            have hM142 : Step V w [spE bp Ap cp mp (pL) (pl) (pm)] V125 _ ([grp Ex_, .blk bp (.cells #[.slice Ap (keysOf ((pL))).length cp, .map (some mp), .int .i64 ((pl)), .int .i64 ((pm))] 71), .row strK 9 Ap cp (keysOf ((pL))), .row (prK strK strK) 93 A128 c129 (o ++ [(e_, atS (((lk (e_) ((pL))).getD [])) (t))]), mapE false (slK (prK (intK .i64) (prK strK boolK))) mp (fun k_ => lk k_ ((pL))), .blk b48 (.cells #[.slice A128 (o ++ [(e_, atS (((lk (e_) ((pL))).getD [])) (t))]).length c129] 60)]) := hM141
            refine ⟨(A128, c129, o ++ ([(e_, atS ((lk (e_) (pL)).getD []) (t))] : List (Str × Str))), V125, (le113.trans le126), ?_, Step.bodyOut (Esp := [.blk bp (.cells #[.slice Ap (keysOf ((pL))).length cp, .map (some mp), .int .i64 ((pl)), .int .i64 ((pm))] 71), .row strK 9 Ap cp (keysOf ((pL)))]) (G := [.row (prK strK strK) 93 A128 c129 (o ++ ([(e_, atS ((lk (e_) (pL)).getD []) (t))] : List (Str × Str))), mapE false (slK (prK (intK .i64) (prK strK boolK))) mp (fun k_ => lk k_ ((pL))), .blk b48 (.cells #[.slice A128 (o ++ ([(e_, atS ((lk (e_) (pL)).getD []) (t))] : List (Str × Str))).length c129] 60)]) hM142⟩
            exact ⟨by exact prs_yes hx79 (by assumption) (by assumption), by simp only [List.length_append, List.length_cons, List.length_nil]; omega, by simp only [List.length_append, List.length_cons, List.length_nil]; omega⟩
          · -- fBtff
            refine wpR_skip (blk_n (?_))
            have hM143 := hM118.front 5 rfl
            have hM144 := hM143.front 5 rfl
            have hM145 := hM144.front 5 rfl
            have hM146 := hM145.front 5 rfl
            have hM147 := hM146.front 5 rfl
            have hM148 := hM147.front 5 rfl
            have hM149 : Step V w [spE bp Ap cp mp (pL) (pl) (pm)] V111 _ ([grp Ex_, .blk bp (.cells #[.slice Ap (keysOf ((pL))).length cp, .map (some mp), .int .i64 ((pl)), .int .i64 ((pm))] 71), .row strK 9 Ap cp (keysOf ((pL))), .row (prK strK strK) 93 Ax13_74 cx13_74 (o), mapE false (slK (prK (intK .i64) (prK strK boolK))) mp (fun k_ => lk k_ ((pL))), .blk b48 (.cells #[.slice Ax13_74 (o).length cx13_74] 60)]) := hM148
            refine ⟨(Ax13_74, cx13_74, o), V111, le113, ?_, Step.bodyOut (Esp := [.blk bp (.cells #[.slice Ap (keysOf ((pL))).length cp, .map (some mp), .int .i64 ((pl)), .int .i64 ((pm))] 71), .row strK 9 Ap cp (keysOf ((pL)))]) (G := [.row (prK strK strK) 93 Ax13_74 cx13_74 (o), mapE false (slK (prK (intK .i64) (prK strK boolK))) mp (fun k_ => lk k_ ((pL))), .blk b48 (.cells #[.slice Ax13_74 (o).length cx13_74] 60)]) hM149⟩
            exact ⟨by exact prs_no hx79 (by assumption) (by assumption), by assumption, by exact Nat.le_succ_of_le (by assumption)⟩
      · -- fBf
        have p150 : ¬ ((0) ≤ (n)) := of_decide_eq_false h84
        refine wpF_seg 5 (by kernel_rfl) ?_
        refine wpF_end _ (by kernel_rfl) (then_n (hK83 _ _ ?_))
        refine wpR_cf (by kernel_rfl) ?_
        refine wpR_skip (then_n (hK82 _ _ ?_))
        refine wpR_seq_k (fun K151 hK151 => ?_)
        refine wpR_base [(5, .pointer (some ⟨b2, 0, none⟩)), (8, .pointer (some ⟨b10, 0, none⟩)), (10, .slice none 0 0), (11, .int .i64 (0)), (13, .pointer (some ⟨b48, 0, none⟩)), (14, bs (e_))] (by kernel_rfl) (fun g152 => ?_)
        refine wpR_drawN (by kernel_rfl) (fun h_ => by obtain ⟨_, _, h_⟩ := h_; exact h_) hM80 [(.blk bp (.cells #[.slice Ap (keysOf ((pL))).length cp, .map (some mp), .int .i64 ((pl)), .int .i64 ((pm))] 71), 9999)] (and_held 1 rfl no_held) [] [0, 1, 2, 3, 4, 6] [.a 5, .a 7, .p 8, .p 9, .p 10, .p 11, .p 12] [.p 0, .p 1, .p 2, .p 3, .p 4, .p 6, .s, .a 5, .a 7, .p 8, .p 9, .p 10, .p 11, .p 12] rfl (by kernel_rfl) (by kernel_rfl) ?_
        refine gH (.load 53 (.tmp 5)) (some 37) (by kernel_rfl) (Y_loadB #[.pointer (some ⟨bp, 0, none⟩)] (fun i v hi => ((((le14.trans le22).trans le33).trans le62).trans le77) _ _ _ (hc8 i v hi)) (off := 0) (by kernel_rfl) (.pointer (some ⟨bp, 0, none⟩)) (by kernel_rfl)) ?_
        refine h_seg 2 (by kernel_rfl) ?_
        refine gH (.load 69 (.tmp 39)) (some 40) (by kernel_rfl) (Y_load 0 (by kernel_rfl : (FOf _ _ _)[0]? = some (.blk bp (.cells #[.slice Ap (keysOf ((pL))).length cp, .map (some mp), .int .i64 ((pl)), .int .i64 ((pm))] 71))) (off := 1) (by kernel_rfl) (.map (some mp)) (by kernel_rfl)) ?_
        refine h_seg 1 (by kernel_rfl) ?_
        refine gH (.load 3 (.tmp 8)) (some 43) (by kernel_rfl) (Y_loadB #[.int .i64 (t)] (fun i v hi => (((le22.trans le33).trans le62).trans le77) _ _ _ (hc16 i v hi)) (off := 0) (by kernel_rfl) (.int .i64 (t)) (by kernel_rfl)) ?_
        refine h_s no_fs ?_
        refine h_a (by kernel_rfl) (by kernel_rfl) (fun w153 X154 hM155 => ?_)
        refine wpF_lookup (kt := 9) (e := 78) (z := .slice none 0 0) hM155 4 rfl (e_) (h := (by kernel_rfl : opAt _ _ _ _ _ = some (.lookup 69 (.tmp 40) (.tmp 41) false, some 42))) (by kernel_rfl) (by kernel_rfl) (elemV.of_sl (Rd.nil _ _)) (by kernel_rfl) (by kernel_rfl) (fun v156 hv157 => ?_)
        obtain ⟨A159, c160, rfl, r158⟩ := elemV.sl (xs := ((lk (e_) ((pL))).getD [])) hv157
        have l161 : (((lk (e_) ((pL))).getD [])).length ≤ 140737488355328 := r158.max
        refine wpF_end _ (by kernel_rfl) (then_n (h_d [(.blk bp (.cells #[.slice Ap (keysOf ((pL))).length cp, .map (some mp), .int .i64 ((pl)), .int .i64 ((pm))] 71), 9999)] (by kernel_rfl) [grp Ex_, .blk bp (.cells #[.slice Ap (keysOf ((pL))).length cp, .map (some mp), .int .i64 ((pl)), .int .i64 ((pm))] 71), .row strK 9 Ap cp (keysOf ((pL))), .row (prK strK strK) 93 Ax13_74 cx13_74 (o), mapE false (slK (prK (intK .i64) (prK strK boolK))) mp (fun k_ => lk k_ ((pL))), .blk b48 (.cells #[.slice Ax13_74 (o).length cx13_74] 60)] hM155 (and_held 1 rfl no_held) (VT.le.refl _) ?_))
        refine h_a (by kernel_rfl) (by kernel_rfl) (fun w162 X163 hM164 => ?_)
        refine wpF_callP hM164 (f := 88) (caps := #[]) (h := (by kernel_rfl : opAt _ _ _ _ _ = some (.call (.mk (.value (.func 88)) #[(.tmp 42), (.tmp 43)] #[78, 3]), some 44))) (by kernel_rfl) (by kernel_rfl) (by kernel_rfl) (f88 _ _ hM164.inW A159 c160 (((lk (e_) ((pL))).getD [])) r158 (t)) (fun v165 V166 w167 le168 hM169 hp170 => ?_)
        obtain ⟨rfl, x171⟩ := hp170
        have x171 : (atS (((lk (e_) ((pL))).getD [])) (t)).length ≤ 140737488355328 := x171
        refine wpF_end _ (by kernel_rfl) (then_n (h_d [(.blk bp (.cells #[.slice Ap (keysOf ((pL))).length cp, .map (some mp), .int .i64 ((pl)), .int .i64 ((pm))] 71), 9999)] (by kernel_rfl) [grp Ex_, .blk bp (.cells #[.slice Ap (keysOf ((pL))).length cp, .map (some mp), .int .i64 ((pl)), .int .i64 ((pm))] 71), .row strK 9 Ap cp (keysOf ((pL))), .row (prK strK strK) 93 Ax13_74 cx13_74 (o), mapE false (slK (prK (intK .i64) (prK strK boolK))) mp (fun k_ => lk k_ ((pL))), .blk b48 (.cells #[.slice Ax13_74 (o).length cx13_74] 60)] hM169 (and_held 1 rfl no_held) le168 ?_))
        refine h_seg 5 (by kernel_rfl) ?_
        refine h_n (fun w172 hM173 => ?_)
        refine  (then_n (hK151 _ _ ?_))
        refine wpR_seq_k (fun K174 hK174 => ?_)
        refine wpR_reg (by kernel_rfl) (fun h_ => by obtain ⟨_, _, h_⟩ := h_; exact h_) ?_
        refine wpF_seg 1 (by kernel_rfl) ?_
        refine wpF_end _ (by kernel_rfl) (then_n (hK174 _ _ ?_))
        refine wpR_if (atO (((lk (e_) ((pL))).getD [])) (t)) (by kernel_rfl) (fun h175 => ?_) (fun h175 => ?_)
        · -- fBft
          refine wpR_reg (by kernel_rfl) (fun h_ => by obtain ⟨_, _, h_⟩ := h_; exact h_) ?_
          refine gF hM173 (.load 60 (.tmp 13)) (some 48) (by kernel_rfl) (Y_load 5 rfl (off := 0) (by kernel_rfl) (.slice Ax13_74 (o).length cx13_74) (by kernel_rfl)) ?_
          refine wpF_seg 3 (by kernel_rfl) ?_
          refine wpF_litR (prK strK strK) hM173 #[bs (e_), bs (atS (((lk (e_) ((pL))).getD [])) (t))] (h := (by kernel_rfl : opAt _ _ _ _ _ = some (.buildSlice 60 1 #[(0, (.tmp 51))], some 52))) (e := 93) (by kernel_rfl) ([(e_, atS (((lk (e_) ((pL))).getD [])) (t))]) (Reps.single (K := (prK strK strK)) (x := (e_, atS (((lk (e_) ((pL))).getD [])) (t))) ⟨[bs (e_)], [bs (atS (((lk (e_) ((pL))).getD [])) (t))], rfl, ⟨rfl, l81⟩, ⟨rfl, by first | decide | (simp only [maxL, List.length_append, List.length_cons, List.length_nil]; omega)⟩⟩) rfl (by simp [maxL]) (fun A176 c177 V180 w178 le181 hM179 r182 => ?_)
          refine wpF_append (by_ := 32) hM179 3 rfl (h := (by kernel_rfl : opAt _ _ _ _ _ = some (.call (.mk (.builtin .append) #[(.tmp 48), (.tmp 52)] #[60, 60]), some 53))) (by kernel_rfl) (by kernel_rfl) (by kernel_rfl) (by kernel_rfl) (by kernel_rfl) (by kernel_rfl) (by kernel_rfl) (Src.rd r182) (by first | omega | (simp only [List.length_append, List.length_cons, List.length_nil]; omega)) (fun A183 c184 w185 hM186 => ?_)
          have hM187 : Step V w [spE bp Ap cp mp (pL) (pl) (pm)] V180 _ ([.row (prK strK strK) 93 A183 c184 (o ++ [(e_, atS (((lk (e_) ((pL))).getD [])) (t))]), grp Ex_, .blk bp (.cells #[.slice Ap (keysOf ((pL))).length cp, .map (some mp), .int .i64 ((pl)), .int .i64 ((pm))] 71), .row strK 9 Ap cp (keysOf ((pL))), mapE false (slK (prK (intK .i64) (prK strK boolK))) mp (fun k_ => lk k_ ((pL))), .blk b48 (.cells #[.slice Ax13_74 (o).length cx13_74] 60)]) := hM186
          refine wpF_store hM187 5 rfl (h := (by kernel_rfl : opAt _ _ _ _ _ = some (.store 60 (.tmp 13) (.tmp 53), none))) (off := 0) (by kernel_rfl) #[.slice A183 (o ++ [(e_, atS (((lk (e_) ((pL))).getD [])) (t))]).length c184] (by kernel_rfl) (by kernel_rfl) (by kernel_rfl) (by kernel_rfl) (fun w189 hM188 => ?_)
          have hM190 : Step V w [spE bp Ap cp mp (pL) (pl) (pm)] V180 _ ([.row (prK strK strK) 93 A183 c184 (o ++ [(e_, atS (((lk (e_) ((pL))).getD [])) (t))]), grp Ex_, .blk bp (.cells #[.slice Ap (keysOf ((pL))).length cp, .map (some mp), .int .i64 ((pl)), .int .i64 ((pm))] 71), .row strK 9 Ap cp (keysOf ((pL))), mapE false (slK (prK (intK .i64) (prK strK boolK))) mp (fun k_ => lk k_ ((pL))), .blk b48 (.cells #[.slice A183 (o ++ [(e_, atS (((lk (e_) ((pL))).getD [])) (t))]).length c184] 60)]) := hM188
          refine wpF_end _ (by kernel_rfl) (blk_n (?_))
          have hM191 := hM190.front 5 rfl
          have hM192 := hM191.front 5 rfl
          have hM193 := hM192.front 2 rfl
          have hM194 := hM193.front 5 rfl
          have hM195 := hM194.front 5 rfl
          have hM196 := hM195.front 5 rfl
          have hM197 : Step V w [spE bp Ap cp mp (pL) (pl) (pm)] V180 _ ([grp Ex_, .blk bp (.cells #[.slice Ap (keysOf ((pL))).length cp, .map (some mp), .int .i64 ((pl)), .int .i64 ((pm))] 71), .row strK 9 Ap cp (keysOf ((pL))), .row (prK strK strK) 93 A183 c184 (o ++ [(e_, atS (((lk (e_) ((pL))).getD [])) (t))]), mapE false (slK (prK (intK .i64) (prK strK boolK))) mp (fun k_ => lk k_ ((pL))), .blk b48 (.cells #[.slice A183 (o ++ [(e_, atS (((lk (e_) ((pL))).getD [])) (t))]).length c184] 60)]) := hM196
          refine ⟨(A183, c184, o ++ ([(e_, atS ((lk (e_) (pL)).getD []) (t))] : List (Str × Str))), V180, (le168.trans le181), ?_, Step.bodyOut (Esp := [.blk bp (.cells #[.slice Ap (keysOf ((pL))).length cp, .map (some mp), .int .i64 ((pl)), .int .i64 ((pm))] 71), .row strK 9 Ap cp (keysOf ((pL)))]) (G := [.row (prK strK strK) 93 A183 c184 (o ++ ([(e_, atS ((lk (e_) (pL)).getD []) (t))] : List (Str × Str))), mapE false (slK (prK (intK .i64) (prK strK boolK))) mp (fun k_ => lk k_ ((pL))), .blk b48 (.cells #[.slice A183 (o ++ ([(e_, atS ((lk (e_) (pL)).getD []) (t))] : List (Str × Str))).length c184] 60)]) hM197⟩
          exact ⟨by exact prs_yes hx79 (by assumption) (by assumption), by simp only [List.length_append, List.length_cons, List.length_nil]; omega, by simp only [List.length_append, List.length_cons, List.length_nil]; omega⟩
        · -- fBff
          refine wpR_skip (blk_n (?_))
          have hM198 := hM173.front 5 rfl
          have hM199 := hM198.front 5 rfl
          have hM200 := hM199.front 5 rfl
          have hM201 := hM200.front 5 rfl
          have hM202 := hM201.front 5 rfl
          have hM203 := hM202.front 5 rfl
          have hM204 : Step V w [spE bp Ap cp mp (pL) (pl) (pm)] V166 _ ([grp Ex_, .blk bp (.cells #[.slice Ap (keysOf ((pL))).length cp, .map (some mp), .int .i64 ((pl)), .int .i64 ((pm))] 71), .row strK 9 Ap cp (keysOf ((pL))), .row (prK strK strK) 93 Ax13_74 cx13_74 (o), mapE false (slK (prK (intK .i64) (prK strK boolK))) mp (fun k_ => lk k_ ((pL))), .blk b48 (.cells #[.slice Ax13_74 (o).length cx13_74] 60)]) := hM203
          refine ⟨(Ax13_74, cx13_74, o), V166, le168, ?_, Step.bodyOut (Esp := [.blk bp (.cells #[.slice Ap (keysOf ((pL))).length cp, .map (some mp), .int .i64 ((pl)), .int .i64 ((pm))] 71), .row strK 9 Ap cp (keysOf ((pL)))]) (G := [.row (prK strK strK) 93 Ax13_74 cx13_74 (o), mapE false (slK (prK (intK .i64) (prK strK boolK))) mp (fun k_ => lk k_ ((pL))), .blk b48 (.cells #[.slice Ax13_74 (o).length cx13_74] 60)]) hM204⟩
          exact ⟨by exact prs_no hx79 (by assumption) (by assumption), by assumption, by exact Nat.le_succ_of_le (by assumption)⟩
    · rintro r209 ⟨Ax13_209, cx13_209, o⟩ V205 w206 le207 ⟨hi_209_0, hi_209_1, hi_209_2⟩ hM208
      have hM210 : Step V w [spE bp Ap cp mp (pL) (pl) (pm)] V205 _ ([.blk bp (.cells #[.slice Ap (keysOf ((pL))).length cp, .map (some mp), .int .i64 ((pl)), .int .i64 ((pm))] 71), .row strK 9 Ap cp (keysOf ((pL))), .row (prK strK strK) 93 Ax13_209 cx13_209 (o), mapE false (slK (prK (intK .i64) (prK strK boolK))) mp (fun k_ => lk k_ ((pL))), .blk b48 (.cells #[.slice Ax13_209 (o).length cx13_209] 60), .blk r209 (.deferred (some []))]) := hM208
      replace hi_209_0 : o = prs pL t ((btwL (keysOf ((pL))) (f) (u)).take ((btwL (keysOf ((pL))) (f) (u)).length)) := hi_209_0
      replace hi_209_1 : n < 0 ∨ ((o).length : Int) ≤ n := hi_209_1
      replace hi_209_2 : (o).length ≤ (btwL (keysOf ((pL))) (f) (u)).length := hi_209_2
      have ho : o = scnL pL t n (btwL (keysOf ((pL))) (f) (u)) := scn_all (by assumption) (by assumption)
      have hke : kepE t pl pm = 0 := by omega
      refine  (blk_n (then_n (hK51 _ _ ?_)))
      refine wp_seq_k (fun K211 hK211 => ?_)
      refine wp_reg ?_
      refine gF hM210 (.load 60 (.tmp 13)) (some 54) (by kernel_rfl) (Y_load 4 rfl (off := 0) (by kernel_rfl) (.slice Ax13_209 (o).length cx13_209) (by kernel_rfl)) ?_
      refine wpF_seg 2 (by kernel_rfl) ?_
      refine wpF_end _ (by kernel_rfl) (then_n (hK211 _ _ ?_))
      refine wp_ret ?_
      obtain ⟨V212, le213, hM214, r215⟩ := hM210.settleRow 2 rfl
      have hM216 : Step V w [spE bp Ap cp mp (pL) (pl) (pm)] V212 _ ([.blk bp (.cells #[.slice Ap (keysOf ((pL))).length cp, .map (some mp), .int .i64 ((pl)), .int .i64 ((pm))] 71), .row strK 9 Ap cp (keysOf ((pL))), mapE false (slK (prK (intK .i64) (prK strK boolK))) mp (fun k_ => lk k_ ((pL))), .blk b48 (.cells #[.slice Ax13_209 (o).length cx13_209] 60), .blk r209 (.deferred (some []))]) := hM214
      have hM217 := hM216.front 2 rfl
      have hM218 := hM217.front 2 rfl
      have hM219 := hM218.front 2 rfl
      have hM220 : Step V w [spE bp Ap cp mp (pL) (pl) (pm)] V212 _ ([.blk bp (.cells #[.slice Ap (keysOf ((pL))).length cp, .map (some mp), .int .i64 ((pl)), .int .i64 ((pm))] 71), .row strK 9 Ap cp (keysOf ((pL))), mapE false (slK (prK (intK .i64) (prK strK boolK))) mp (fun k_ => lk k_ ((pL))), .blk b48 (.cells #[.slice Ax13_209 (o).length cx13_209] 60), .blk r209 (.deferred (some []))]) := hM219
      have hk221 : keysOf ((pL)) = keysOf ((pL)) := rfl
      have hf222 : (fun k_ => lk k_ ((pL))) = (fun k_ => lk k_ ((pL))) := rfl
      have ho223 : SpI ((pL)) := hs66
      have hM224 : Step V w [spE bp Ap cp mp (pL) (pl) (pm)] V212 _ (spE bp Ap cp mp ((pL)) ((pl)) ((pm)) :: [.blk b48 (.cells #[.slice Ax13_209 (o).length cx13_209] 60), .blk r209 (.deferred (some []))]) := Step.closeSp hk221 hf222 ho223 (by exact hM220)
      have hM225 : Step V w [spE bp Ap cp mp (pL) (pl) (pm)] V212 _ ([spE bp Ap cp mp ((pL)) ((pl)) ((pm)), .blk b48 (.cells #[.slice Ax13_209 (o).length cx13_209] 60), .blk r209 (.deferred (some []))]) := hM224
      refine retM hM225 2 rfl [.slice Ax13_209 (o).length cx13_209, .int .i64 (0)] (.tuple #[.slice Ax13_209 (o).length cx13_209, .int .i64 (0)]) Try.results37 (by kernel_rfl) (fun w227 hM226 => ⟨(.tmp (by kernel_rfl) (by kernel_rfl) (.tmp (by kernel_rfl) (by kernel_rfl) .nil)), ?_⟩)
      have hM228 : Step V w [spE bp Ap cp mp (pL) (pl) (pm)] V212 _ ([spE bp Ap cp mp ((pL)) ((pl)) ((pm)), .blk b48 (.cells #[.slice Ax13_209 (o).length cx13_209] 60)]) := hM226
      have hM229 := hM228.front 0 rfl
      have hM230 := (hM229.front 1 rfl).drop
      have hM231 : Step V w [spE bp Ap cp mp (pL) (pl) (pm)] V212 _ ([spE bp Ap cp mp ((pL)) ((pl)) ((pm))]) := hM230
      refine hRet _ _ ⟨_, _, _, rfl, hM231, ?_⟩
      -- end fD
      refine ⟨Ax13_209, cx13_209, ?_, ?_, ?_⟩
      · rw [ho, hke]; simp only [scnR, hk0, cond_true]
      · rfl
      · first | exact r215 | (exact Rd.eq r215 (by rw [ho]; simp only [scnR, hk0, cond_true]))
    · rintro r236 c_ ⟨Ax13_236, cx13_236, o⟩ V232 w233 le234 ⟨hi_236_0, hi_236_1⟩ hM235
      have hM237 : Step V w [spE bp Ap cp mp (pL) (pl) (pm)] V232 _ ([.blk bp (.cells #[.slice Ap (keysOf ((pL))).length cp, .map (some mp), .int .i64 ((pl)), .int .i64 ((pm))] 71), .row strK 9 Ap cp (keysOf ((pL))), .row (prK strK strK) 93 Ax13_236 cx13_236 (o), mapE false (slK (prK (intK .i64) (prK strK boolK))) mp (fun k_ => lk k_ ((pL))), .blk b48 (.cells #[.slice Ax13_236 (o).length cx13_236] 60), .blk r236 (.deferred (some []))]) := hM235
      replace hi_236_0 : c_ = Code.exit 0 := hi_236_0
      replace hi_236_1 : o = scnL pL t n (btwL (keysOf ((pL))) (f) (u)) := hi_236_1
      obtain rfl := hi_236_0
      have ho : o = scnL pL t n (btwL (keysOf ((pL))) (f) (u)) := by assumption
      have hke : kepE t pl pm = 0 := by omega
      refine wp_exit (blk_hit (then_n (hK51 _ _ ?_)))
      refine wp_seq_k (fun K238 hK238 => ?_)
      refine wp_reg ?_
      refine gF hM237 (.load 60 (.tmp 13)) (some 54) (by kernel_rfl) (Y_load 4 rfl (off := 0) (by kernel_rfl) (.slice Ax13_236 (o).length cx13_236) (by kernel_rfl)) ?_
      refine wpF_seg 2 (by kernel_rfl) ?_
      refine wpF_end _ (by kernel_rfl) (then_n (hK238 _ _ ?_))
      refine wp_ret ?_
      obtain ⟨V239, le240, hM241, r242⟩ := hM237.settleRow 2 rfl
      have hM243 : Step V w [spE bp Ap cp mp (pL) (pl) (pm)] V239 _ ([.blk bp (.cells #[.slice Ap (keysOf ((pL))).length cp, .map (some mp), .int .i64 ((pl)), .int .i64 ((pm))] 71), .row strK 9 Ap cp (keysOf ((pL))), mapE false (slK (prK (intK .i64) (prK strK boolK))) mp (fun k_ => lk k_ ((pL))), .blk b48 (.cells #[.slice Ax13_236 (o).length cx13_236] 60), .blk r236 (.deferred (some []))]) := hM241
      have hM244 := hM243.front 2 rfl
      have hM245 := hM244.front 2 rfl
      have hM246 := hM245.front 2 rfl
      have hM247 : Step V w [spE bp Ap cp mp (pL) (pl) (pm)] V239 _ ([.blk bp (.cells #[.slice Ap (keysOf ((pL))).length cp, .map (some mp), .int .i64 ((pl)), .int .i64 ((pm))] 71), .row strK 9 Ap cp (keysOf ((pL))), mapE false (slK (prK (intK .i64) (prK strK boolK))) mp (fun k_ => lk k_ ((pL))), .blk b48 (.cells #[.slice Ax13_236 (o).length cx13_236] 60), .blk r236 (.deferred (some []))]) := hM246
      have hk248 : keysOf ((pL)) = keysOf ((pL)) := rfl
      have hf249 : (fun k_ => lk k_ ((pL))) = (fun k_ => lk k_ ((pL))) := rfl
      have ho250 : SpI ((pL)) := hs66
      have hM251 : Step V w [spE bp Ap cp mp (pL) (pl) (pm)] V239 _ (spE bp Ap cp mp ((pL)) ((pl)) ((pm)) :: [.blk b48 (.cells #[.slice Ax13_236 (o).length cx13_236] 60), .blk r236 (.deferred (some []))]) := Step.closeSp hk248 hf249 ho250 (by exact hM247)
      have hM252 : Step V w [spE bp Ap cp mp (pL) (pl) (pm)] V239 _ ([spE bp Ap cp mp ((pL)) ((pl)) ((pm)), .blk b48 (.cells #[.slice Ax13_236 (o).length cx13_236] 60), .blk r236 (.deferred (some []))]) := hM251
      refine retM hM252 2 rfl [.slice Ax13_236 (o).length cx13_236, .int .i64 (0)] (.tuple #[.slice Ax13_236 (o).length cx13_236, .int .i64 (0)]) Try.results37 (by kernel_rfl) (fun w254 hM253 => ⟨(.tmp (by kernel_rfl) (by kernel_rfl) (.tmp (by kernel_rfl) (by kernel_rfl) .nil)), ?_⟩)
      have hM255 : Step V w [spE bp Ap cp mp (pL) (pl) (pm)] V239 _ ([spE bp Ap cp mp ((pL)) ((pl)) ((pm)), .blk b48 (.cells #[.slice Ax13_236 (o).length cx13_236] 60)]) := hM253
      have hM256 := hM255.front 0 rfl
      have hM257 := (hM256.front 1 rfl).drop
      have hM258 : Step V w [spE bp Ap cp mp (pL) (pl) (pm)] V239 _ ([spE bp Ap cp mp ((pL)) ((pl)) ((pm))]) := hM257
      refine hRet _ _ ⟨_, _, _, rfl, hM258, ?_⟩
      -- end fX
      refine ⟨Ax13_236, cx13_236, ?_, ?_, ?_⟩
      · rw [ho, hke]; simp only [scnR, hk0, cond_true]
      · rfl
      · first | exact r242 | (exact Rd.eq r242 (by rw [ho]; simp only [scnR, hk0, cond_true]))

set_option maxHeartbeats 4000000 in
set_option maxRecDepth 100000 in
theorem f42 (V : VT) (w : World) (bp : Nat) (Ap : Option Addr) (cp mp : Nat) (pL : List (Str × List (Int × Str × Bool))) (pl pm : Int) (f : Str) (hf : f.length ≤ maxL) (u : Str) (hu : u.length ≤ maxL) (t : Int) (hS : St V w [spE bp Ap cp mp (pL) (pl) (pm)]) (h5 : pL.length ≤ 99000) :
    Calls Try.prog 42 #[.pointer (some ⟨bp, 0, none⟩), bs (f), bs (u), .int .i64 (t)] w (Ret V w [spE bp Ap cp mp (pL) (pl) (pm)] fun rv V' E' => rv = .bool (sinB pL f u t) ∧ E' = [spE bp Ap cp mp (pL) (pl) (pm)]) := by
  have mxf : f.length ≤ 140737488355328 := hf
  have mxu : u.length ≤ 140737488355328 := hu
  refine calls_envM (n := 26) Try.func42 (c := _) rfl Try.ntmps42 (by kernel_rfl) (fun R hRet => ?_)
  have hV := hS.inW
  have hM0 : Step V w [spE bp Ap cp mp (pL) (pl) (pm)] V w [spE bp Ap cp mp (pL) (pl) (pm)] := Step.refl hS
  refine wp_seq_k (fun K1 hK1 => ?_)
  refine wp_reg ?_
  refine wpF_box hM0 #[.pointer (some ⟨bp, 0, none⟩)] (h := (by kernel_rfl : opAt _ _ _ _ _ = some (.box 53 (.tmp 0), some 4))) (by kernel_rfl) (fun b2 w3 hM4 => ?_)
  obtain ⟨V5, le6, hM7, hc8⟩ := hM4.settle 0 rfl
  have hM9 : Step V w [spE bp Ap cp mp (pL) (pl) (pm)] V5 _ ([spE bp Ap cp mp (pL) (pl) (pm)]) := hM7
  refine wpF_box hM9 #[.int .i64 (t)] (h := (by kernel_rfl : opAt _ _ _ _ _ = some (.box 3 (.tmp 3), some 7))) (by kernel_rfl) (fun b10 w11 hM12 => ?_)
  obtain ⟨V13, le14, hM15, hc16⟩ := hM12.settle 0 rfl
  have hM17 : Step V w [spE bp Ap cp mp (pL) (pl) (pm)] V13 _ ([spE bp Ap cp mp (pL) (pl) (pm)]) := hM15
  refine wpF_alloc hM17 #[.bool (false)] (h := (by kernel_rfl : opAt _ _ _ _ _ = some (.alloc 4, some 8))) (by kernel_rfl) (fun b18 w19 hM20 => ?_)
  refine wpF_end _ (by kernel_rfl) (then_n (hK1 _ _ ?_))
  refine wp_seq_k (fun K21 hK21 => ?_)
  refine wp_seq_k (fun K22 hK22 => ?_)
  refine wp_reg ?_
  refine gF hM20 (.load 53 (.tmp 4)) (some 10) (by kernel_rfl) (Y_loadB #[.pointer (some ⟨bp, 0, none⟩)] (fun i v hi => le14 _ _ _ (hc8 i v hi)) (off := 0) (by kernel_rfl) (.pointer (some ⟨bp, 0, none⟩)) (by kernel_rfl)) ?_
  have hM23 := hM20.front 1 rfl
  have hM31 : Step V w [spE bp Ap cp mp (pL) (pl) (pm)] V13 _ ([spE bp Ap cp mp (pL) (pl) (pm), .blk b18 (.cells #[.bool (false)] 4)]) := hM23
  refine wpF_callE [spE bp Ap cp mp (pL) (pl) (pm)] ([.blk b18 (.cells #[.bool (false)] 4)]) hM31 (f := 81) (caps := #[]) (h := (by kernel_rfl : opAt _ _ _ _ _ = some (.call (.mk (.value (.func 81)) #[(.tmp 10)] #[53]), some 11))) (by kernel_rfl) (by kernel_rfl) (by kernel_rfl) (f81 _ _ bp Ap cp mp (pL) (pl) (pm) (St.part (E := [spE bp Ap cp mp (pL) (pl) (pm)]) (F := ([.blk b18 (.cells #[.bool (false)] 4)])) hM31.ok)) (fun v24 V25 w26 Eo27 le28 hM29 hp30 => ?_)
  obtain ⟨rfl, rfl⟩ := hp30
  have hM32 : Step V w [spE bp Ap cp mp (pL) (pl) (pm)] V25 _ ([spE bp Ap cp mp ((pL)) ((pl)) ((pm)), .blk b18 (.cells #[.bool (false)] 4)]) := hM29
  refine wpF_seg 1 (by kernel_rfl) ?_
  refine wpF_end _ (by kernel_rfl) (then_n (hK22 _ _ ?_))
  refine wp_cf (by kernel_rfl) ?_
  refine wp_skip (then_n (hK21 _ _ ?_))
  refine wp_seq_k (fun K33 hK33 => ?_)
  refine wp_seq_k (fun K34 hK34 => ?_)
  refine wp_reg ?_
  refine gF hM32 (.load 53 (.tmp 4)) (some 13) (by kernel_rfl) (Y_loadB #[.pointer (some ⟨bp, 0, none⟩)] (fun i v hi => (le14.trans le28) _ _ _ (hc8 i v hi)) (off := 0) (by kernel_rfl) (.pointer (some ⟨bp, 0, none⟩)) (by kernel_rfl)) ?_
  refine wpF_seg 2 (by kernel_rfl) ?_
  refine wpF_callP hM32 (f := 87) (caps := #[]) (h := (by kernel_rfl : opAt _ _ _ _ _ = some (.call (.mk (.value (.func 87)) #[(.tmp 13), (.tmp 14), (.tmp 15)] #[53, 9, 9]), some 16))) (by kernel_rfl) (by kernel_rfl) (by kernel_rfl) (f87 _ _ hM32.inW bp (f) (hf) (u) (hu)) (fun v41 V42 w43 le44 hM45 hp46 => ?_)
  obtain ⟨bx35, bx36, bx37, rfl, hc38, hc39, hc40⟩ := hp46
  refine wpF_end _ (by kernel_rfl) (then_n (hK34 _ _ ?_))
  refine wp_block ?_
  have hM47 := hM45.openSp 0 rfl
  have hs48 : SpI ((pL)) := (hM45.spOk 0 rfl)
  have hM49 : Step V w [spE bp Ap cp mp (pL) (pl) (pm)] V42 _ ([.blk bp (.cells #[.slice Ap (keysOf ((pL))).length cp, .map (some mp), .int .i64 ((pl)), .int .i64 ((pm))] 71), .row strK 9 Ap cp (keysOf ((pL))), mapE false (slK (prK (intK .i64) (prK strK boolK))) mp (fun k_ => lk k_ ((pL))), .blk b18 (.cells #[.bool (false)] 4)]) := hM47
  have hM50 := hM49.front 1 rfl
  have hM51 := hM50.front 1 rfl
  have hM52 : Step V w [spE bp Ap cp mp (pL) (pl) (pm)] V42 _ ([.blk bp (.cells #[.slice Ap (keysOf ((pL))).length cp, .map (some mp), .int .i64 ((pl)), .int .i64 ((pm))] 71), .row strK 9 Ap cp (keysOf ((pL))), mapE false (slK (prK (intK .i64) (prK strK boolK))) mp (fun k_ => lk k_ ((pL))), .blk b18 (.cells #[.bool (false)] 4)]) := hM51
  refine wp_base [(4, .pointer (some ⟨b2, 0, none⟩)), (7, .pointer (some ⟨b10, 0, none⟩)), (8, .pointer (some ⟨b18, 0, none⟩)), (16, .func (.func 122) #[] #[.pointer (some ⟨bx35, 0, none⟩), .pointer (some ⟨bx36, 0, none⟩), .pointer (some ⟨bx37, 0, none⟩)])] (by kernel_rfl) (fun g53 => ?_)
  refine wp_rangeFunc (X := Bool) (α := Str) (enc := bs) (xs := (btwL (keysOf ((pL))) (f) (u))) (Esp := [.blk bp (.cells #[.slice Ap (keysOf ((pL))).length cp, .map (some mp), .int .i64 ((pl)), .int .i64 ((pm))] 71), .row strK 9 Ap cp (keysOf ((pL)))]) (it122 bp Ap cp (keysOf ((pL))) mp ((pl)) ((pm)) (f) (u) (hf) (hu) bx35 bx36 bx37 (by first | omega | (rw [len_keys]; omega))) (by kernel_rfl) (by kernel_rfl) (by kernel_rfl) (fun (x_ : Bool) => [mapE false (slK (prK (intK .i64) (prK strK boolK))) mp (fun k_ => lk k_ ((pL))), .blk b18 (.cells #[.bool (x_)] 4)]) (fun (j_ : Nat) (x_ : Bool) (V_ : VT) => (x_ = false) ∧ (∀ i y, i < j_ → (btwL (keysOf ((pL))) (f) (u))[i]? = some y → sncB (lkD y pL) t = false)) (fun (c_ : Code) (x_ : Bool) (V_ : VT) => (c_ = Code.ret) ∧ (x_ = true) ∧ (sinL pL t (btwL (keysOf ((pL))) (f) (u)) = true)) false hM52 ⟨by rfl, by exact fun i y hi => absurd hi (Nat.not_lt_zero i)⟩ ⟨hc38, hc39, hc40⟩ (fun V_ l_ h_ => ⟨fun i v hi => l_ _ _ _ (h_.1 i v hi), fun i v hi => l_ _ _ _ (h_.2.1 i v hi), fun i v hi => l_ _ _ _ (h_.2.2 i v hi)⟩) (fun j_ x_ V_ V2_ h_ l_ => h_) (fun e_ => [(9, bs e_), (17, bs e_), (4, .pointer (some ⟨b2, 0, none⟩)), (7, .pointer (some ⟨b10, 0, none⟩)), (8, .pointer (some ⟨b18, 0, none⟩)), (16, .func (.func 122) #[] #[.pointer (some ⟨bx35, 0, none⟩), .pointer (some ⟨bx36, 0, none⟩), .pointer (some ⟨bx37, 0, none⟩)])]) ?_ ?_ ?_ ?_
  · intro l_ e_ w_ K_ hK_
    refine wpR_reg (by kernel_rfl) (fun h_ => by obtain ⟨_, _, h_⟩ := h_; exact h_) ?_
    refine wpF_seg 1 (by kernel_rfl) ?_
    exact wpF_end _ (by kernel_rfl) (then_n hK_)
  · rintro l_ j_ z e_ V55 w56 Ex_ hx59 le57 ⟨hi_54_0, hi_54_1⟩ hM58
    have hM60 : Step V w [spE bp Ap cp mp (pL) (pl) (pm)] V55 _ ([grp Ex_, .blk bp (.cells #[.slice Ap (keysOf ((pL))).length cp, .map (some mp), .int .i64 ((pl)), .int .i64 ((pm))] 71), .row strK 9 Ap cp (keysOf ((pL))), mapE false (slK (prK (intK .i64) (prK strK boolK))) mp (fun k_ => lk k_ ((pL))), .blk b18 (.cells #[.bool (z)] 4)]) := Step.bodyIn (Esp := [.blk bp (.cells #[.slice Ap (keysOf ((pL))).length cp, .map (some mp), .int .i64 ((pl)), .int .i64 ((pm))] 71), .row strK 9 Ap cp (keysOf ((pL)))]) (G := [mapE false (slK (prK (intK .i64) (prK strK boolK))) mp (fun k_ => lk k_ ((pL))), .blk b18 (.cells #[.bool (z)] 4)]) hM58
    have l61 : e_.length ≤ 140737488355328 := row_lens (hM60.ok.holds _ (List.mem_of_getElem? (show _ = some _ from (rfl : ([grp Ex_, .blk bp (.cells #[.slice Ap (keysOf ((pL))).length cp, .map (some mp), .int .i64 ((pl)), .int .i64 ((pm))] 71), .row strK 9 Ap cp (keysOf ((pL))), mapE false (slK (prK (intK .i64) (prK strK boolK))) mp (fun k_ => lk k_ ((pL))), .blk b18 (.cells #[.bool (z)] 4)])[2]? = _)))) e_ (btwL_sub (List.mem_of_getElem? hx59))
    replace hi_54_0 : z = false := hi_54_0
    replace hi_54_1 : ∀ i y, i < j_ → (btwL (keysOf ((pL))) (f) (u))[i]? = some y → sncB (lkD y pL) t = false := hi_54_1
    have hj_ : j_ < (btwL (keysOf ((pL))) (f) (u)).length := (List.getElem?_eq_some_iff.1 hx59).1
    have hbl_ := btwL_len (keysOf ((pL))) (f) (u)
    have hkl_ := len_keys ((pL))
    refine wpR_block ?_
    refine wpR_seq_k (fun K62 hK62 => ?_)
    refine wpR_base [(4, .pointer (some ⟨b2, 0, none⟩)), (7, .pointer (some ⟨b10, 0, none⟩)), (8, .pointer (some ⟨b18, 0, none⟩)), (9, bs (e_))] (by kernel_rfl) (fun g63 => ?_)
    refine wpR_drawN (by kernel_rfl) (fun h_ => by obtain ⟨_, _, h_⟩ := h_; exact h_) hM60 [(.blk bp (.cells #[.slice Ap (keysOf ((pL))).length cp, .map (some mp), .int .i64 ((pl)), .int .i64 ((pm))] 71), 9999)] (and_held 1 rfl no_held) [] [0, 1, 2, 3, 4, 6] [.a 5, .a 7] [.p 0, .p 1, .p 2, .p 3, .p 4, .p 6, .s, .a 5, .a 7] rfl (by kernel_rfl) (by kernel_rfl) ?_
    refine gH (.load 53 (.tmp 4)) (some 18) (by kernel_rfl) (Y_loadB #[.pointer (some ⟨bp, 0, none⟩)] (fun i v hi => (((le14.trans le28).trans le44).trans le57) _ _ _ (hc8 i v hi)) (off := 0) (by kernel_rfl) (.pointer (some ⟨bp, 0, none⟩)) (by kernel_rfl)) ?_
    refine h_seg 2 (by kernel_rfl) ?_
    refine gH (.load 69 (.tmp 20)) (some 21) (by kernel_rfl) (Y_load 0 (by kernel_rfl : (FOf _ _ _)[0]? = some (.blk bp (.cells #[.slice Ap (keysOf ((pL))).length cp, .map (some mp), .int .i64 ((pl)), .int .i64 ((pm))] 71))) (off := 1) (by kernel_rfl) (.map (some mp)) (by kernel_rfl)) ?_
    refine h_seg 1 (by kernel_rfl) ?_
    refine gH (.load 3 (.tmp 7)) (some 24) (by kernel_rfl) (Y_loadB #[.int .i64 (t)] (fun i v hi => ((le28.trans le44).trans le57) _ _ _ (hc16 i v hi)) (off := 0) (by kernel_rfl) (.int .i64 (t)) (by kernel_rfl)) ?_
    refine h_s no_fs ?_
    refine h_a (by kernel_rfl) (by kernel_rfl) (fun w64 X65 hM66 => ?_)
    refine wpF_lookup (kt := 9) (e := 78) (z := .slice none 0 0) hM66 3 rfl (e_) (h := (by kernel_rfl : opAt _ _ _ _ _ = some (.lookup 69 (.tmp 21) (.tmp 22) false, some 23))) (by kernel_rfl) (by kernel_rfl) (elemV.of_sl (Rd.nil _ _)) (by kernel_rfl) (by kernel_rfl) (fun v67 hv68 => ?_)
    obtain ⟨A70, c71, rfl, r69⟩ := elemV.sl (xs := ((lk (e_) ((pL))).getD [])) hv68
    have l72 : (((lk (e_) ((pL))).getD [])).length ≤ 140737488355328 := r69.max
    refine wpF_end _ (by kernel_rfl) (then_n (h_d [(.blk bp (.cells #[.slice Ap (keysOf ((pL))).length cp, .map (some mp), .int .i64 ((pl)), .int .i64 ((pm))] 71), 9999)] (by kernel_rfl) [grp Ex_, .blk bp (.cells #[.slice Ap (keysOf ((pL))).length cp, .map (some mp), .int .i64 ((pl)), .int .i64 ((pm))] 71), .row strK 9 Ap cp (keysOf ((pL))), mapE false (slK (prK (intK .i64) (prK strK boolK))) mp (fun k_ => lk k_ ((pL))), .blk b18 (.cells #[.bool (z)] 4)] hM66 (and_held 1 rfl no_held) (VT.le.refl _) ?_))
    refine h_a (by kernel_rfl) (by kernel_rfl) (fun w73 X74 hM75 => ?_)
    refine wpF_callP hM75 (f := 90) (caps := #[]) (h := (by kernel_rfl : opAt _ _ _ _ _ = some (.call (.mk (.value (.func 90)) #[(.tmp 23), (.tmp 24)] #[78, 3]), some 25))) (by kernel_rfl) (by kernel_rfl) (by kernel_rfl) (f90 _ _ hM75.inW A70 c71 (((lk (e_) ((pL))).getD [])) r69 (t)) (fun v76 V77 w78 le79 hM80 hp81 => ?_)
    obtain rfl := hp81
    refine wpF_end _ (by kernel_rfl) (then_n (h_d [(.blk bp (.cells #[.slice Ap (keysOf ((pL))).length cp, .map (some mp), .int .i64 ((pl)), .int .i64 ((pm))] 71), 9999)] (by kernel_rfl) [grp Ex_, .blk bp (.cells #[.slice Ap (keysOf ((pL))).length cp, .map (some mp), .int .i64 ((pl)), .int .i64 ((pm))] 71), .row strK 9 Ap cp (keysOf ((pL))), mapE false (slK (prK (intK .i64) (prK strK boolK))) mp (fun k_ => lk k_ ((pL))), .blk b18 (.cells #[.bool (z)] 4)] hM80 (and_held 1 rfl no_held) le79 ?_))
    refine h_n (fun w82 hM83 => ?_)
    refine  (then_n (hK62 _ _ ?_))
    refine wpR_if (sncB (((lk (e_) ((pL))).getD [])) (t)) (by kernel_rfl) (fun h84 => ?_) (fun h84 => ?_)
    · -- Bt
      refine wpR_seq_k (fun K85 hK85 => ?_)
      refine wpR_reg (by kernel_rfl) (fun h_ => by obtain ⟨_, _, h_⟩ := h_; exact h_) ?_
      refine wpF_store hM83 4 rfl (h := (by kernel_rfl : opAt _ _ _ _ _ = some (.store 4 (.tmp 8) (.const (.bool true)), none))) (off := 0) (by kernel_rfl) #[.bool (true)] (by kernel_rfl) (by kernel_rfl) (by kernel_rfl) (by kernel_rfl) (fun w87 hM86 => ?_)
      have hM88 : Step V w [spE bp Ap cp mp (pL) (pl) (pm)] V77 _ ([grp Ex_, .blk bp (.cells #[.slice Ap (keysOf ((pL))).length cp, .map (some mp), .int .i64 ((pl)), .int .i64 ((pm))] 71), .row strK 9 Ap cp (keysOf ((pL))), mapE false (slK (prK (intK .i64) (prK strK boolK))) mp (fun k_ => lk k_ ((pL))), .blk b18 (.cells #[.bool (true)] 4)]) := hM86
      refine wpF_end _ (by kernel_rfl) (then_n (hK85 _ _ ?_))
      refine wpR_ret (blk_r (?_))
      have hM89 := hM88.front 4 rfl
      have hM90 := hM89.front 4 rfl
      have hM91 := hM90.front 4 rfl
      have hM92 := hM91.front 4 rfl
      have hM93 := hM92.front 4 rfl
      have hM94 : Step V w [spE bp Ap cp mp (pL) (pl) (pm)] V77 _ ([grp Ex_, .blk bp (.cells #[.slice Ap (keysOf ((pL))).length cp, .map (some mp), .int .i64 ((pl)), .int .i64 ((pm))] 71), .row strK 9 Ap cp (keysOf ((pL))), mapE false (slK (prK (intK .i64) (prK strK boolK))) mp (fun k_ => lk k_ ((pL))), .blk b18 (.cells #[.bool (true)] 4)]) := hM93
      refine ⟨true, V77, le79, ?_, Step.bodyOut (Esp := [.blk bp (.cells #[.slice Ap (keysOf ((pL))).length cp, .map (some mp), .int .i64 ((pl)), .int .i64 ((pm))] 71), .row strK 9 Ap cp (keysOf ((pL)))]) (G := [mapE false (slK (prK (intK .i64) (prK strK boolK))) mp (fun k_ => lk k_ ((pL))), .blk b18 (.cells #[.bool (true)] 4)]) hM94⟩
      exact ⟨by rfl, by rfl, by exact sin_yes hx59 (by assumption)⟩
    · -- Bf
      refine wpR_skip (blk_n (?_))
      have hM95 := hM83.front 4 rfl
      have hM96 := hM95.front 4 rfl
      have hM97 := hM96.front 4 rfl
      have hM98 := hM97.front 4 rfl
      have hM99 := hM98.front 4 rfl
      have hM100 : Step V w [spE bp Ap cp mp (pL) (pl) (pm)] V77 _ ([grp Ex_, .blk bp (.cells #[.slice Ap (keysOf ((pL))).length cp, .map (some mp), .int .i64 ((pl)), .int .i64 ((pm))] 71), .row strK 9 Ap cp (keysOf ((pL))), mapE false (slK (prK (intK .i64) (prK strK boolK))) mp (fun k_ => lk k_ ((pL))), .blk b18 (.cells #[.bool (z)] 4)]) := hM99
      refine ⟨z, V77, le79, ?_, Step.bodyOut (Esp := [.blk bp (.cells #[.slice Ap (keysOf ((pL))).length cp, .map (some mp), .int .i64 ((pl)), .int .i64 ((pm))] 71), .row strK 9 Ap cp (keysOf ((pL)))]) (G := [mapE false (slK (prK (intK .i64) (prK strK boolK))) mp (fun k_ => lk k_ ((pL))), .blk b18 (.cells #[.bool (z)] 4)]) hM100⟩
      exact ⟨by assumption, by exact sin_step hx59 (by assumption) (by assumption)⟩
  · rintro r105 z V101 w102 le103 ⟨hi_105_0, hi_105_1⟩ hM104
    have hM106 : Step V w [spE bp Ap cp mp (pL) (pl) (pm)] V101 _ ([.blk bp (.cells #[.slice Ap (keysOf ((pL))).length cp, .map (some mp), .int .i64 ((pl)), .int .i64 ((pm))] 71), .row strK 9 Ap cp (keysOf ((pL))), mapE false (slK (prK (intK .i64) (prK strK boolK))) mp (fun k_ => lk k_ ((pL))), .blk b18 (.cells #[.bool (z)] 4), .blk r105 (.deferred (some []))]) := hM104
    replace hi_105_0 : z = false := hi_105_0
    replace hi_105_1 : ∀ i y, i < (btwL (keysOf ((pL))) (f) (u)).length → (btwL (keysOf ((pL))) (f) (u))[i]? = some y → sncB (lkD y pL) t = false := hi_105_1
    refine  (blk_n (then_n (hK33 _ _ ?_)))
    refine wp_seq_k (fun K107 hK107 => ?_)
    refine wp_reg ?_
    refine wpF_store hM106 3 rfl (h := (by kernel_rfl : opAt _ _ _ _ _ = some (.store 4 (.tmp 8) (.const (.bool false)), none))) (off := 0) (by kernel_rfl) #[.bool (false)] (by kernel_rfl) (by kernel_rfl) (by kernel_rfl) (by kernel_rfl) (fun w109 hM108 => ?_)
    have hM110 : Step V w [spE bp Ap cp mp (pL) (pl) (pm)] V101 _ ([.blk bp (.cells #[.slice Ap (keysOf ((pL))).length cp, .map (some mp), .int .i64 ((pl)), .int .i64 ((pm))] 71), .row strK 9 Ap cp (keysOf ((pL))), mapE false (slK (prK (intK .i64) (prK strK boolK))) mp (fun k_ => lk k_ ((pL))), .blk b18 (.cells #[.bool (false)] 4), .blk r105 (.deferred (some []))]) := hM108
    refine wpF_end _ (by kernel_rfl) (then_n (hK107 _ _ ?_))
    refine wp_ret ?_
    have hM111 := hM110.front 2 rfl
    have hM112 := hM111.front 2 rfl
    have hM113 := hM112.front 2 rfl
    have hM114 : Step V w [spE bp Ap cp mp (pL) (pl) (pm)] V101 _ ([.blk bp (.cells #[.slice Ap (keysOf ((pL))).length cp, .map (some mp), .int .i64 ((pl)), .int .i64 ((pm))] 71), .row strK 9 Ap cp (keysOf ((pL))), mapE false (slK (prK (intK .i64) (prK strK boolK))) mp (fun k_ => lk k_ ((pL))), .blk b18 (.cells #[.bool (false)] 4), .blk r105 (.deferred (some []))]) := hM113
    have hk115 : keysOf ((pL)) = keysOf ((pL)) := rfl
    have hf116 : (fun k_ => lk k_ ((pL))) = (fun k_ => lk k_ ((pL))) := rfl
    have ho117 : SpI ((pL)) := hs48
    have hM118 : Step V w [spE bp Ap cp mp (pL) (pl) (pm)] V101 _ (spE bp Ap cp mp ((pL)) ((pl)) ((pm)) :: [.blk b18 (.cells #[.bool (false)] 4), .blk r105 (.deferred (some []))]) := Step.closeSp hk115 hf116 ho117 (by exact hM114)
    have hM119 : Step V w [spE bp Ap cp mp (pL) (pl) (pm)] V101 _ ([spE bp Ap cp mp ((pL)) ((pl)) ((pm)), .blk b18 (.cells #[.bool (false)] 4), .blk r105 (.deferred (some []))]) := hM118
    refine retM hM119 2 rfl [.bool (false)] (.bool (false)) Try.results42 (by kernel_rfl) (fun w121 hM120 => ⟨(.cell (by kernel_rfl) (by kernel_rfl) hM120 1 rfl (by kernel_rfl) .nil), ?_⟩)
    have hM122 : Step V w [spE bp Ap cp mp (pL) (pl) (pm)] V101 _ ([spE bp Ap cp mp ((pL)) ((pl)) ((pm)), .blk b18 (.cells #[.bool (false)] 4)]) := hM120
    have hM123 := hM122.front 0 rfl
    have hM124 := (hM123.front 1 rfl).drop
    have hM125 : Step V w [spE bp Ap cp mp (pL) (pl) (pm)] V101 _ ([spE bp Ap cp mp ((pL)) ((pl)) ((pm))]) := hM124
    refine hRet _ _ ⟨_, _, _, rfl, hM125, ?_⟩
    -- end D
    refine ⟨?_, ?_⟩
    · exact congrArg Value.bool (sin_no (by assumption)).symm
    · rfl
  · rintro r130 c_ z V126 w127 le128 ⟨hi_130_0, hi_130_1, hi_130_2⟩ hM129
    have hM131 : Step V w [spE bp Ap cp mp (pL) (pl) (pm)] V126 _ ([.blk bp (.cells #[.slice Ap (keysOf ((pL))).length cp, .map (some mp), .int .i64 ((pl)), .int .i64 ((pm))] 71), .row strK 9 Ap cp (keysOf ((pL))), mapE false (slK (prK (intK .i64) (prK strK boolK))) mp (fun k_ => lk k_ ((pL))), .blk b18 (.cells #[.bool (z)] 4), .blk r130 (.deferred (some []))]) := hM129
    replace hi_130_0 : c_ = Code.ret := hi_130_0
    replace hi_130_1 : z = true := hi_130_1
    replace hi_130_2 : sinL pL t (btwL (keysOf ((pL))) (f) (u)) = true := hi_130_2
    obtain rfl := hi_130_0
    refine wp_ret (blk_r (then_r (?_)))
    have hM132 := hM131.front 2 rfl
    have hM133 := hM132.front 2 rfl
    have hM134 := hM133.front 2 rfl
    have hM135 : Step V w [spE bp Ap cp mp (pL) (pl) (pm)] V126 _ ([.blk bp (.cells #[.slice Ap (keysOf ((pL))).length cp, .map (some mp), .int .i64 ((pl)), .int .i64 ((pm))] 71), .row strK 9 Ap cp (keysOf ((pL))), mapE false (slK (prK (intK .i64) (prK strK boolK))) mp (fun k_ => lk k_ ((pL))), .blk b18 (.cells #[.bool (z)] 4), .blk r130 (.deferred (some []))]) := hM134
    have hk136 : keysOf ((pL)) = keysOf ((pL)) := rfl
    have hf137 : (fun k_ => lk k_ ((pL))) = (fun k_ => lk k_ ((pL))) := rfl
    have ho138 : SpI ((pL)) := hs48
    have hM139 : Step V w [spE bp Ap cp mp (pL) (pl) (pm)] V126 _ (spE bp Ap cp mp ((pL)) ((pl)) ((pm)) :: [.blk b18 (.cells #[.bool (z)] 4), .blk r130 (.deferred (some []))]) := Step.closeSp hk136 hf137 ho138 (by exact hM135)
    have hM140 : Step V w [spE bp Ap cp mp (pL) (pl) (pm)] V126 _ ([spE bp Ap cp mp ((pL)) ((pl)) ((pm)), .blk b18 (.cells #[.bool (z)] 4), .blk r130 (.deferred (some []))]) := hM139
    refine retM hM140 2 rfl [.bool (z)] (.bool (z)) Try.results42 (by kernel_rfl) (fun w142 hM141 => ⟨(.cell (by kernel_rfl) (by kernel_rfl) hM141 1 rfl (by kernel_rfl) .nil), ?_⟩)
    have hM143 : Step V w [spE bp Ap cp mp (pL) (pl) (pm)] V126 _ ([spE bp Ap cp mp ((pL)) ((pl)) ((pm)), .blk b18 (.cells #[.bool (z)] 4)]) := hM141
    have hM144 := hM143.front 0 rfl
    have hM145 := (hM144.front 1 rfl).drop
    have hM146 : Step V w [spE bp Ap cp mp (pL) (pl) (pm)] V126 _ ([spE bp Ap cp mp ((pL)) ((pl)) ((pm))]) := hM145
    refine hRet _ _ ⟨_, _, _, rfl, hM146, ?_⟩
    -- end X
    refine ⟨?_, ?_⟩
    · subst_vars; exact congrArg Value.bool (by symm; assumption)
    · rfl

end Go.Vk
