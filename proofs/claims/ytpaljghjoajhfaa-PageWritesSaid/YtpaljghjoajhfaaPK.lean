/- Contracts of the page's functions, part K: printed by wip/tools/p8.py. -/
import Derived.Test.YtpaljghjoajhfaaPJ
set_option linter.unusedVariables false
set_option linter.unusedSimpArgs false
namespace Go.Vk
open Go.Proofs
set_option maxRecDepth 100000 in
theorem f13 (V : VT) (w : World) (hV : V.inW w) (nl : Bool) (Ank : Option Addr) (cnk : Nat) (nk : List Str) (hnk : Rd strK V Ank cnk nk) (Anv : Option Addr) (cnv : Nat) (nv : List Str) (hnv : Rd strK V Anv cnv nv) (Anc : Option Addr) (cnc : Nat) (nc : List Int) (hnc : Rd (intK .i64) V Anc cnc nc) (hk : nk.length ≤ 4096) (hv : nv.length ≤ 4096) :
    Calls Try.prog 13 #[.agg #[.bool (nl), .slice Ank (nk).length cnk, .slice Anv (nv).length cnv, .slice Anc (nc).length cnc]] w (RetP V w fun rv V' => ∃ (A1 : Option Addr), ∃ (c1 : Nat), rv = .tuple #[.slice A1 (bytesM nl nk nv nc).length c1, .int .i64 (checkM nl nk nv nc)] ∧ Rd byteK V' A1 c1 (bytesM nl nk nv nc)) := by
  have mxnk : nk.length ≤ 140737488355328 := hnk.max
  have mxnv : nv.length ≤ 140737488355328 := hnv.max
  have mxnc : nc.length ≤ 140737488355328 := hnc.max
  refine calls_env (n := 78) Try.func13 (c := _) rfl Try.ntmps13 (by kernel_rfl) (fun R hRet => ?_)
  have hM0 : Step V w [] V w [] := Step.refl (St.nilE hV)
  cases nl with
  | false =>
    refine wp_seq_k (fun K1 hK1 => ?_)
    refine wp_reg ?_
    refine wpF_box hM0 #[.bool (false), .slice Ank (nk).length cnk, .slice Anv (nv).length cnv, .slice Anc (nc).length cnc] (h := (by kernel_rfl : opAt _ _ _ _ _ = some (Go.Op.box 25 (Go.Operand.tmp 0), some 1))) (by kernel_rfl) (fun b2 w3 hM4 => ?_)
    obtain ⟨V5, le6, hM7, hc8⟩ := hM4.settle 0 rfl
    have hM9 : Step V w [] V5 _ [] := hM7
    refine wpF_seg 2 (by kernel_rfl) ?_
    refine wpF_end _ (by kernel_rfl) (then_n (hK1 _ _ ?_))
    refine wp_seq_k (fun K10 hK10 => ?_)
    refine wp_seq_k (fun K11 hK11 => ?_)
    refine wp_reg ?_
    refine wpF_loadB hM9 #[.bool (false), .slice Ank (nk).length cnk, .slice Anv (nv).length cnv, .slice Anc (nc).length cnc] hc8 (h := (by kernel_rfl : opAt _ _ _ _ _ = some (Go.Op.load 25 (Go.Operand.tmp 1), some 8))) (off := 0) (by kernel_rfl) (.agg #[.bool (false), .slice Ank (nk).length cnk, .slice Anv (nv).length cnv, .slice Anc (nc).length cnc]) (by kernel_rfl) ?_
    refine wpF_callP hM9 (f := 17) (caps := #[]) (h := (by kernel_rfl : opAt _ _ _ _ _ = some (Go.Op.call (Go.Call.mk (Go.Callee.value (Go.Operand.func 17)) #[(Go.Operand.tmp 8)] #[25]), some 9))) (by kernel_rfl) (by kernel_rfl) (by kernel_rfl) (f17 _ _ hM9.inW (false) Ank cnk (nk) (hnk.up hM9.le) Anv cnv (nv) (hnv.up hM9.le) Anc cnc (nc) (hnc.up hM9.le) (by omega) (by omega)) (fun v12 V13 w14 le15 hM16 hp17 => ?_)
    obtain rfl := hp17
    refine wpF_seg 1 (by kernel_rfl) ?_
    refine wpF_end _ (by kernel_rfl) (then_n (hK11 _ _ ?_))
    refine wp_seq_k (fun K18 hK18 => ?_)
    refine wp_reg ?_
    refine wpF_seg 2 (by kernel_rfl) ?_
    refine wpF_end _ (by kernel_rfl) (then_n (hK18 _ _ ?_))
    refine wp_if (!(decide ((checkM (false) (nk) (nv) (nc)) = (0)))) (by kernel_rfl) (fun h19 => ?_) (fun h19 => ?_)
    · -- Ft
      have h20 : decide ((checkM (false) (nk) (nv) (nc)) = (0)) = false := by rw [← Bool.not_not (decide _), h19]; rfl
      have p21 : ¬ ((checkM (false) (nk) (nv) (nc)) = (0)) := of_decide_eq_false h20
      refine wp_seq_k (fun K22 hK22 => ?_)
      refine wp_reg ?_
      refine wpF_seg 3 (by kernel_rfl) ?_
      refine wpF_end _ (by kernel_rfl) (then_n (hK22 _ _ ?_))
      refine wp_ret (then_r (?_))
      refine retN [.slice none 0 0, .int .i64 (checkM (false) (nk) (nv) (nc))] (.tuple #[.slice none 0 0, .int .i64 (checkM (false) (nk) (nv) (nc))]) Try.results13 (.tmp (by kernel_rfl) (by kernel_rfl) (.tmp (by kernel_rfl) (by kernel_rfl) .nil)) (by kernel_rfl) (hRet _ _ ⟨_, _, rfl, hM16.clear, ?_⟩)
      -- end Ft
      refine ⟨none, 0, ?_, ?_⟩
      · first | (simp only [bytesM, h19, h20, cond_false]; done) | (simp only [bytesM, h19, h20, cond_false]; rfl) | (have hc0 : checkM false nk nv nc = 0 := (by assumption); simp only [bytesM, h19, h20, cond_true, hc0, decide_true, pageM]; done)
      · first | exact (Rd.nil _ _) | (exact Rd.eq (Rd.nil _ _) (by simp only [bytesM, h19, h20, cond_true, cond_false, pageM]))
    · -- Ff
      have h23 : decide ((checkM (false) (nk) (nv) (nc)) = (0)) = true := by rw [← Bool.not_not (decide _), h19]; rfl
      have p24 : ((checkM (false) (nk) (nv) (nc)) = (0)) := of_decide_eq_true h23
      have hs := check_stands (by assumption : checkM false nk nv nc = 0)
      have hz := check_size (by assumption : checkM false nk nv nc = 0)
      have hbs := body_size hs
      have hl := stands_kids hs
      have hk0 := hl.2.2 0 (by omega)
      refine wp_skip (then_n (hK10 _ _ ?_))
      refine wp_seq_k (fun K25 hK25 => ?_)
      refine wp_reg ?_
      refine wpF_seg 1 (by kernel_rfl) ?_
      refine wpF_end _ (by kernel_rfl) (then_n (hK25 _ _ ?_))
      refine wp_seq_k (fun K26 hK26 => ?_)
      refine wp_seq_k (fun K27 hK27 => ?_)
      refine wp_reg ?_
      refine wpF_seg 1 (by kernel_rfl) ?_
      refine wpF_loadB hM16 #[.bool (false), .slice Ank (nk).length cnk, .slice Anv (nv).length cnv, .slice Anc (nc).length cnc] (fun i v hi => le15 _ _ _ (hc8 i v hi)) (h := (by kernel_rfl : opAt _ _ _ _ _ = some (Go.Op.load 4 (Go.Operand.tmp 13), some 14))) (off := 0) (by kernel_rfl) (.bool (false)) (by kernel_rfl) ?_
      refine wpF_end _ (by kernel_rfl) (then_n (hK27 _ _ ?_))
      refine wp_cf (by kernel_rfl) ?_
      refine wp_baseG [(1, .pointer (some ⟨b2, 0, none⟩)), (2, .slice none 0 0), (3, .int .i64 (0))] (by kernel_rfl) (fun g0_67 hg0_67 => ?_)
      obtain ⟨G67, hGm67, hG67_0, hG67_1, hG67_2, hG67_3, hG67_4, hG67_5, hG67_6, hG67_7, hG67_8, hG67_9, hG67_10, hG67_11, hG67_12⟩ : ∃ G : Nat → Value → VT → Prop, (∀ j v V V', VT.le V V' → G j v V → G j v V') ∧ (∀ v_ V_, G 0 v_ V_ ↔ (v_ = .slice none 0 0)) ∧ (∀ v_ V_, G 1 v_ V_ ↔ (∃ A28 : Option Addr, ∃ c29 : Nat, v_ = .slice A28 ([(73 : UInt8)]).length c29 ∧ (Rd byteK V_ A28 c29 ([(73 : UInt8)])))) ∧ (∀ v_ V_, G 2 v_ V_ ↔ (∃ A36 : Option Addr, ∃ c37 : Nat, v_ = .slice A36 (([] : List UInt8) ++ [(73 : UInt8)]).length c37)) ∧ (∀ v_ V_, G 3 v_ V_ ↔ (v_ = .pointer (some ⟨b2, 1, none⟩))) ∧ (∀ v_ V_, G 4 v_ V_ ↔ (v_ = .slice Ank (nk).length cnk)) ∧ (∀ v_ V_, G 5 v_ V_ ↔ (v_ = .int .i64 ((nk.length : Int)))) ∧ (∀ v_ V_, G 6 v_ V_ ↔ (∃ Ar49_1 : Option Addr, ∃ cr49_1 : Nat, v_ = .slice Ar49_1 (putM (([] : List UInt8) ++ [(73 : UInt8)]) ((nk.length : Int)) 2 2).length cr49_1)) ∧ (∀ v_ V_, G 7 v_ V_ ↔ (v_ = .pointer (some ⟨b2, 3, none⟩))) ∧ (∀ v_ V_, G 8 v_ V_ ↔ (v_ = .slice Anc (nc).length cnc)) ∧ (∀ v_ V_, G 9 v_ V_ ↔ (∃ b51 : Nat, ∃ o52 : Nat, v_ = .pointer (some ⟨b51, o52, none⟩) ∧ (At (intK .i64) V_ b51 o52 ((nc.getD (0) 0))) ∧ (IntKind.i64.min ≤ (nc.getD (0) 0) ∧ (nc.getD (0) 0) ≤ IntKind.i64.max))) ∧ (∀ v_ V_, G 10 v_ V_ ↔ (v_ = .int .i64 ((nc.getD (0) 0)) ∧ (IntKind.i64.min ≤ (nc.getD (0) 0) ∧ (nc.getD (0) 0) ≤ IntKind.i64.max))) ∧ (∀ v_ V_, G 11 v_ V_ ↔ (∃ Ar63_1 : Option Addr, ∃ cr63_1 : Nat, v_ = .slice Ar63_1 (putM (putM (([] : List UInt8) ++ [(73 : UInt8)]) ((nk.length : Int)) 2 2) ((nc.getD (0) 0)) 4 4).length cr63_1)) ∧ (∀ v_ V_, G 12 v_ V_ ↔ (∃ A65 : Option Addr, ∃ c66 : Nat, v_ = .slice A65 (putM (putM (([] : List UInt8) ++ [(73 : UInt8)]) ((nk.length : Int)) 2 2) ((nc.getD (0) 0)) 4 4).length c66)) :=
          ⟨mG [mV (.slice none 0 0), mE fun A28 : Option Addr => mE fun c29 : Nat => mN (mV (.slice A28 ([(73 : UInt8)]).length c29)) (mR byteK A28 c29 ([(73 : UInt8)])), mE fun A36 : Option Addr => mE fun c37 : Nat => mV (.slice A36 (([] : List UInt8) ++ [(73 : UInt8)]).length c37), mV (.pointer (some ⟨b2, 1, none⟩)), mV (.slice Ank (nk).length cnk), mV (.int .i64 ((nk.length : Int))), mE fun Ar49_1 : Option Addr => mE fun cr49_1 : Nat => mV (.slice Ar49_1 (putM (([] : List UInt8) ++ [(73 : UInt8)]) ((nk.length : Int)) 2 2).length cr49_1), mV (.pointer (some ⟨b2, 3, none⟩)), mV (.slice Anc (nc).length cnc), mE fun b51 : Nat => mE fun o52 : Nat => mN (mV (.pointer (some ⟨b51, o52, none⟩))) (mN (mA (intK .i64) b51 o52 ((nc.getD (0) 0))) (mP (IntKind.i64.min ≤ (nc.getD (0) 0) ∧ (nc.getD (0) 0) ≤ IntKind.i64.max))), mN (mV (.int .i64 ((nc.getD (0) 0)))) (mP (IntKind.i64.min ≤ (nc.getD (0) 0) ∧ (nc.getD (0) 0) ≤ IntKind.i64.max)), mE fun Ar63_1 : Option Addr => mE fun cr63_1 : Nat => mV (.slice Ar63_1 (putM (putM (([] : List UInt8) ++ [(73 : UInt8)]) ((nk.length : Int)) 2 2) ((nc.getD (0) 0)) 4 4).length cr63_1), mE fun A65 : Option Addr => mE fun c66 : Nat => mV (.slice A65 (putM (putM (([] : List UInt8) ++ [(73 : UInt8)]) ((nk.length : Int)) 2 2) ((nc.getD (0) 0)) 4 4).length c66)], mG_up _, fun _ _ => Iff.rfl, fun _ _ => Iff.rfl, fun _ _ => Iff.rfl, fun _ _ => Iff.rfl, fun _ _ => Iff.rfl, fun _ _ => Iff.rfl, fun _ _ => Iff.rfl, fun _ _ => Iff.rfl, fun _ _ => Iff.rfl, fun _ _ => Iff.rfl, fun _ _ => Iff.rfl, fun _ _ => Iff.rfl, fun _ _ => Iff.rfl⟩
      refine wp_drawG (L0 := [(1, .pointer (some ⟨b2, 0, none⟩)), (2, .slice none 0 0), (3, .int .i64 (0))]) 13 (by kernel_rfl) (by kernel_rfl) (by kernel_rfl) (by kernel_rfl) (by kernel_rfl) G67 hGm67 [(5, .slice none 0 0, 12)] (pre_cons ((hg0_67 5).trans (by kernel_rfl)) pre_nil) (by kernel_rfl) [2, 6, 11, 12] (by kernel_rfl) (fun (S : Nat → Bool) (g : Nat → Value) => ((bif S 12 then [.row byteK 5 (addrOf (g 5)) (capOf (g 5)) (putM (putM (([] : List UInt8) ++ [(73 : UInt8)]) ((nk.length : Int)) 2 2) ((nc.getD (0) 0)) 4 4)] else (bif S 11 then [.row byteK 5 (addrOf (g 33)) (capOf (g 33)) (putM (putM (([] : List UInt8) ++ [(73 : UInt8)]) ((nk.length : Int)) 2 2) ((nc.getD (0) 0)) 4 4)] else (bif S 6 then [.row byteK 5 (addrOf (g 28)) (capOf (g 28)) (putM (([] : List UInt8) ++ [(73 : UInt8)]) ((nk.length : Int)) 2 2)] else (bif S 2 then [.row byteK 5 (addrOf (g 24)) (capOf (g 24)) (([] : List UInt8) ++ [(73 : UInt8)])] else [])))) : List Ent)) (fun S S' g g' h_ => (cond_e (h_ 12 (by decide)).1 (fun hb_ => by simp only [(h_ 12 (by decide)).2 hb_ 5 (by kernel_rfl)]) (cond_e (h_ 11 (by decide)).1 (fun hb_ => by simp only [(h_ 11 (by decide)).2 hb_ 33 (by kernel_rfl)]) (cond_e (h_ 6 (by decide)).1 (fun hb_ => by simp only [(h_ 6 (by decide)).2 hb_ 28 (by kernel_rfl)]) (cond_e (h_ 2 (by decide)).1 (fun hb_ => by simp only [(h_ 2 (by decide)).2 hb_ 24 (by kernel_rfl)]) rfl))))) hM16 ?_ ?_
      · -- the operations
        refine all_snoc (.inl ⟨by decide, fun S67_12 g67_12 V67_12 w67_12 cx67_12 hM67_12 => ?_⟩) ?_
        · -- op 12
          obtain ⟨A65, c66, hv11_V67_12⟩ : ∃ A65 : Option Addr, ∃ c66 : Nat, g67_12 33 = .slice A65 (putM (putM (([] : List UInt8) ++ [(73 : UInt8)]) ((nk.length : Int)) 2 2) ((nc.getD (0) 0)) 4 4).length c66 := (hG67_11 _ _).1 (cx67_12.fact 11 33 (by decide) (cx67_12.dep 11 (by kernel_rfl)) (by kernel_rfl))
          have hMa_67_12 : Step V w [] V67_12 _ [.row byteK 5 (addrOf (g67_12 33)) (capOf (g67_12 33)) (putM (putM (([] : List UInt8) ++ [(73 : UInt8)]) ((nk.length : Int)) 2 2) ((nc.getD (0) 0)) 4 4)] := hM67_12.eqE (Eq.trans (cond_f cx67_12.no) (cond_t (cx67_12.dep 11 (by kernel_rfl))))
          simp only [hv11_V67_12] at hMa_67_12
          have hMb_67_12 : Step V w [] V67_12 _ [.row byteK 5 A65 c66 (putM (putM (([] : List UInt8) ++ [(73 : UInt8)]) ((nk.length : Int)) 2 2) ((nc.getD (0) 0)) 4 4)] := hMa_67_12
          refine wpF_see 33 (.slice A65 (putM (putM (([] : List UInt8) ++ [(73 : UInt8)]) ((nk.length : Int)) 2 2) ((nc.getD (0) 0)) 4 4).length c66) (Eq.trans (by kernel_rfl) hv11_V67_12) ?_
          refine wpF_seg 1 (by kernel_rfl) ?_
          refine wpF_end _ (by kernel_rfl) (then_n ?_)
          exact one_in (some 5) (by kernel_rfl) (.slice A65 (putM (putM (([] : List UInt8) ++ [(73 : UInt8)]) ((nk.length : Int)) 2 2) ((nc.getD (0) 0)) 4 4).length c66) _ [(33, .slice A65 (putM (putM (([] : List UInt8) ++ [(73 : UInt8)]) ((nk.length : Int)) 2 2) ((nc.getD (0) 0)) 4 4).length c66)] (seen_cons (Eq.trans (by kernel_rfl) hv11_V67_12) seen_nil) (by kernel_rfl) (VT.le.refl _) (hMb_67_12.eqE (Eq.trans rfl (Eq.trans (by kernel_rfl) (Eq.symm (cond_t (upd_self _ _)))))) ((hG67_12 _ _).2 ⟨A65, c66, rfl⟩)
        refine all_snoc (.inl ⟨by decide, fun S67_11 g67_11 V67_11 w67_11 cx67_11 hM67_11 => ?_⟩) ?_
        · -- op 11
          obtain ⟨Ar49_1, cr49_1, hv6_V67_11⟩ : ∃ Ar49_1 : Option Addr, ∃ cr49_1 : Nat, g67_11 28 = .slice Ar49_1 (putM (([] : List UInt8) ++ [(73 : UInt8)]) ((nk.length : Int)) 2 2).length cr49_1 := (hG67_6 _ _).1 (cx67_11.fact 6 28 (by decide) (cx67_11.dep 6 (by kernel_rfl)) (by kernel_rfl))
          have hMa_67_11 : Step V w [] V67_11 _ [.row byteK 5 (addrOf (g67_11 28)) (capOf (g67_11 28)) (putM (([] : List UInt8) ++ [(73 : UInt8)]) ((nk.length : Int)) 2 2)] := hM67_11.eqE (Eq.trans (cond_f (cx67_11.notyet (c := 12) (fun hq_ => (cx67_11.cl 12 11 (by decide) hq_ (by kernel_rfl))))) (Eq.trans (cond_f cx67_11.no) (cond_t (cx67_11.dep 6 (by kernel_rfl)))))
          simp only [hv6_V67_11] at hMa_67_11
          have hMb_67_11 : Step V w [] V67_11 _ [.row byteK 5 Ar49_1 cr49_1 (putM (([] : List UInt8) ++ [(73 : UInt8)]) ((nk.length : Int)) 2 2)] := hMa_67_11
          obtain ⟨hv10_V67_11, l54⟩ : g67_11 32 = .int .i64 ((nc.getD (0) 0)) ∧ (IntKind.i64.min ≤ (nc.getD (0) 0) ∧ (nc.getD (0) 0) ≤ IntKind.i64.max) := (hG67_10 _ _).1 (cx67_11.fact 10 32 (by decide) (cx67_11.dep 10 (by kernel_rfl)) (by kernel_rfl))
          refine wpF_see 28 (.slice Ar49_1 (putM (([] : List UInt8) ++ [(73 : UInt8)]) ((nk.length : Int)) 2 2).length cr49_1) (Eq.trans (by kernel_rfl) hv6_V67_11) ?_
          refine wpF_see 32 (.int .i64 ((nc.getD (0) 0))) (Eq.trans (by kernel_rfl) hv10_V67_11) ?_
          have hM55 := hMb_67_11.front 0 rfl
          have hM63 : Step V w [] V67_11 _ [.row byteK 5 Ar49_1 cr49_1 (putM (([] : List UInt8) ++ [(73 : UInt8)]) ((nk.length : Int)) 2 2)] := hM55
          refine wpF_callE [.row byteK 5 Ar49_1 cr49_1 (putM (([] : List UInt8) ++ [(73 : UInt8)]) ((nk.length : Int)) 2 2)] [] hM63 (f := 31) (caps := #[]) (h := (by kernel_rfl : opAt _ _ _ _ _ = some (Go.Op.call (Go.Call.mk (Go.Callee.value (Go.Operand.func 31)) #[(Go.Operand.tmp 28), (Go.Operand.tmp 32)] #[28, 3]), some 33))) (by kernel_rfl) (by kernel_rfl) (by kernel_rfl) (f31 _ _ Ar49_1 cr49_1 (putM (([] : List UInt8) ++ [(73 : UInt8)]) ((nk.length : Int)) 2 2) ((nc.getD (0) 0)) (St.part (E := [.row byteK 5 Ar49_1 cr49_1 (putM (([] : List UInt8) ++ [(73 : UInt8)]) ((nk.length : Int)) 2 2)]) (F := []) hM63.ok) (by omega) (by omega) (by first | omega | (simp only [putM_len, List.length_append, List.length_cons, List.length_nil]; omega) | (simp; done))) (fun v56 V57 w58 Eo59 le60 hM61 hp62 => ?_)
          obtain ⟨Ar63_1, cr63_1, rfl, rfl⟩ := hp62
          have hM64 : Step V w [] V57 _ [.row byteK 5 Ar63_1 cr63_1 (putM (putM (([] : List UInt8) ++ [(73 : UInt8)]) ((nk.length : Int)) 2 2) ((nc.getD (0) 0)) 4 4)] := hM61
          refine wpF_end _ (by kernel_rfl) (then_n ?_)
          exact one_in (some 33) (by kernel_rfl) (.slice Ar63_1 (putM (putM (([] : List UInt8) ++ [(73 : UInt8)]) ((nk.length : Int)) 2 2) ((nc.getD (0) 0)) 4 4).length cr63_1) _ [(32, .int .i64 ((nc.getD (0) 0))), (28, .slice Ar49_1 (putM (([] : List UInt8) ++ [(73 : UInt8)]) ((nk.length : Int)) 2 2).length cr49_1)] (seen_cons (Eq.trans (by kernel_rfl) hv10_V67_11) (seen_cons (Eq.trans (by kernel_rfl) hv6_V67_11) seen_nil)) (by kernel_rfl) le60 (hM64.eqE (Eq.trans rfl (Eq.trans (by kernel_rfl) (Eq.symm (Eq.trans (cond_f (upd_f (by decide) (cx67_11.notyet (c := 12) (fun hq_ => (cx67_11.cl 12 11 (by decide) hq_ (by kernel_rfl)))))) (cond_t (upd_self _ _))))))) ((hG67_11 _ _).2 ⟨Ar63_1, cr63_1, rfl⟩)
        refine all_snoc (.inr ⟨by decide, fun S67_10 g67_10 V67_10 w67_10 F67_10 cx67_10 hM67_10 => ?_⟩) ?_
        · -- op 10
          obtain ⟨b51, o52, hv9_V67_10, at_b51, l54⟩ : ∃ b51 : Nat, ∃ o52 : Nat, g67_10 31 = .pointer (some ⟨b51, o52, none⟩) ∧ (At (intK .i64) V67_10 b51 o52 ((nc.getD (0) 0))) ∧ (IntKind.i64.min ≤ (nc.getD (0) 0) ∧ (nc.getD (0) 0) ≤ IntKind.i64.max) := (hG67_9 _ _).1 (cx67_10.fact 9 31 (by decide) (cx67_10.dep 9 (by kernel_rfl)) (by kernel_rfl))
          have c910181 : V67_10 b51 o52 = some (.int .i64 (nc.getD (0) 0)) := (At.int at_b51).1
          have l910182 : IntKind.i64.min ≤ (nc.getD (0) 0) ∧ (nc.getD (0) 0) ≤ IntKind.i64.max := (At.int at_b51).2
          refine wpF_see 31 (.pointer (some ⟨b51, o52, none⟩)) (Eq.trans (by kernel_rfl) hv9_V67_10) ?_
          refine wpF_loadV hM67_10 c910181 (h := (by kernel_rfl : opAt _ _ _ _ _ = some (Go.Op.load 3 (Go.Operand.tmp 31), some 32))) (by kernel_rfl) (by kernel_rfl) ?_
          refine wpF_end _ (by kernel_rfl) (then_n ?_)
          exact one_in (some 32) (by kernel_rfl) (.int .i64 ((nc.getD (0) 0))) _ [(31, .pointer (some ⟨b51, o52, none⟩))] (seen_cons (Eq.trans (by kernel_rfl) hv9_V67_10) seen_nil) (by kernel_rfl) (VT.le.refl _) hM67_10 ((hG67_10 _ _).2 ⟨rfl, l54⟩)
        refine all_snoc (.inr ⟨by decide, fun S67_9 g67_9 V67_9 w67_9 F67_9 cx67_9 hM67_9 => ?_⟩) ?_
        · -- op 9
          obtain hv8_V67_9 : g67_9 30 = .slice Anc (nc).length cnc := (hG67_8 _ _).1 (cx67_9.fact 8 30 (by decide) (cx67_9.dep 8 (by kernel_rfl)) (by kernel_rfl))
          refine wpF_see 30 (.slice Anc (nc).length cnc) (Eq.trans (by kernel_rfl) hv8_V67_9) ?_
          refine wpF_index (A := Anc) (c := cnc) (hnc.up hM67_9.le) .i64 (0) (h := (by kernel_rfl : opAt _ _ _ _ _ = some (Go.Op.indexAddr 23 (Go.Operand.tmp 30) (Go.Operand.const (Go.Value.int Go.IntKind.i64 0)), some 31))) (e := 3) (by kernel_rfl) (by kernel_rfl) (by kernel_rfl) (0) (by omega) (by omega) (fun b51 o52 at_b51 => ?_)
          have c53 : V67_9 b51 o52 = some (.int .i64 (nc.getD (0) 0)) := (At.int at_b51).1
          have l54 : IntKind.i64.min ≤ (nc.getD (0) 0) ∧ (nc.getD (0) 0) ≤ IntKind.i64.max := (At.int at_b51).2
          refine wpF_end _ (by kernel_rfl) (then_n ?_)
          exact one_in (some 31) (by kernel_rfl) (.pointer (some ⟨b51, o52, none⟩)) _ [(30, .slice Anc (nc).length cnc)] (seen_cons (Eq.trans (by kernel_rfl) hv8_V67_9) seen_nil) (by kernel_rfl) (VT.le.refl _) hM67_9 ((hG67_9 _ _).2 ⟨b51, o52, rfl, at_b51, l54⟩)
        refine all_snoc (.inr ⟨by decide, fun S67_8 g67_8 V67_8 w67_8 F67_8 cx67_8 hM67_8 => ?_⟩) ?_
        · -- op 8
          obtain hv7_V67_8 : g67_8 29 = .pointer (some ⟨b2, 3, none⟩) := (hG67_7 _ _).1 (cx67_8.fact 7 29 (by decide) (cx67_8.dep 7 (by kernel_rfl)) (by kernel_rfl))
          refine wpF_see 29 (.pointer (some ⟨b2, 3, none⟩)) (Eq.trans (by kernel_rfl) hv7_V67_8) ?_
          refine wpF_loadB hM67_8 #[.bool (false), .slice Ank (nk).length cnk, .slice Anv (nv).length cnv, .slice Anc (nc).length cnc] (fun i v hi => (le15.trans cx67_8.le) _ _ _ (hc8 i v hi)) (h := (by kernel_rfl : opAt _ _ _ _ _ = some (Go.Op.load 23 (Go.Operand.tmp 29), some 30))) (off := 3) (by kernel_rfl) (.slice Anc (nc).length cnc) (by kernel_rfl) ?_
          refine wpF_end _ (by kernel_rfl) (then_n ?_)
          exact one_in (some 30) (by kernel_rfl) (.slice Anc (nc).length cnc) _ [(29, .pointer (some ⟨b2, 3, none⟩))] (seen_cons (Eq.trans (by kernel_rfl) hv7_V67_8) seen_nil) (by kernel_rfl) (VT.le.refl _) hM67_8 ((hG67_8 _ _).2 rfl)
        refine all_snoc (.inr ⟨by decide, fun S67_7 g67_7 V67_7 w67_7 F67_7 cx67_7 hM67_7 => ?_⟩) ?_
        · -- op 7
          refine wpF_seg 1 (by kernel_rfl) ?_
          refine wpF_end _ (by kernel_rfl) (then_n ?_)
          exact one_in (some 29) (by kernel_rfl) (.pointer (some ⟨b2, 3, none⟩)) _ [] seen_nil (by kernel_rfl) (VT.le.refl _) hM67_7 ((hG67_7 _ _).2 rfl)
        refine all_snoc (.inl ⟨by decide, fun S67_6 g67_6 V67_6 w67_6 cx67_6 hM67_6 => ?_⟩) ?_
        · -- op 6
          obtain ⟨A36, c37, hv2_V67_6⟩ : ∃ A36 : Option Addr, ∃ c37 : Nat, g67_6 24 = .slice A36 (([] : List UInt8) ++ [(73 : UInt8)]).length c37 := (hG67_2 _ _).1 (cx67_6.fact 2 24 (by decide) (cx67_6.dep 2 (by kernel_rfl)) (by kernel_rfl))
          have hMa_67_6 : Step V w [] V67_6 _ [.row byteK 5 (addrOf (g67_6 24)) (capOf (g67_6 24)) (([] : List UInt8) ++ [(73 : UInt8)])] := hM67_6.eqE (Eq.trans (cond_f (cx67_6.notyet (c := 12) (fun hq_ => (cx67_6.cl 12 6 (by decide) hq_ (by kernel_rfl))))) (Eq.trans (cond_f (cx67_6.notyet (c := 11) (fun hq_ => (cx67_6.cl 11 6 (by decide) hq_ (by kernel_rfl))))) (Eq.trans (cond_f cx67_6.no) (cond_t (cx67_6.dep 2 (by kernel_rfl))))))
          simp only [hv2_V67_6] at hMa_67_6
          have hMb_67_6 : Step V w [] V67_6 _ [.row byteK 5 A36 c37 (([] : List UInt8) ++ [(73 : UInt8)])] := hMa_67_6
          obtain hv5_V67_6 : g67_6 27 = .int .i64 ((nk.length : Int)) := (hG67_5 _ _).1 (cx67_6.fact 5 27 (by decide) (cx67_6.dep 5 (by kernel_rfl)) (by kernel_rfl))
          refine wpF_see 24 (.slice A36 (([] : List UInt8) ++ [(73 : UInt8)]).length c37) (Eq.trans (by kernel_rfl) hv2_V67_6) ?_
          refine wpF_see 27 (.int .i64 ((nk.length : Int))) (Eq.trans (by kernel_rfl) hv5_V67_6) ?_
          have hM41 := hMb_67_6.front 0 rfl
          have hM49 : Step V w [] V67_6 _ [.row byteK 5 A36 c37 (([] : List UInt8) ++ [(73 : UInt8)])] := hM41
          refine wpF_callE [.row byteK 5 A36 c37 (([] : List UInt8) ++ [(73 : UInt8)])] [] hM49 (f := 30) (caps := #[]) (h := (by kernel_rfl : opAt _ _ _ _ _ = some (Go.Op.call (Go.Call.mk (Go.Callee.value (Go.Operand.func 30)) #[(Go.Operand.tmp 24), (Go.Operand.tmp 27)] #[28, 3]), some 28))) (by kernel_rfl) (by kernel_rfl) (by kernel_rfl) (f30 _ _ A36 c37 (([] : List UInt8) ++ [(73 : UInt8)]) ((nk.length : Int)) (St.part (E := [.row byteK 5 A36 c37 (([] : List UInt8) ++ [(73 : UInt8)])]) (F := []) hM49.ok) (by omega) (by omega) (by first | omega | (simp only [putM_len, List.length_append, List.length_cons, List.length_nil]; omega) | (simp; done))) (fun v42 V43 w44 Eo45 le46 hM47 hp48 => ?_)
          obtain ⟨Ar49_1, cr49_1, rfl, rfl⟩ := hp48
          have hM50 : Step V w [] V43 _ [.row byteK 5 Ar49_1 cr49_1 (putM (([] : List UInt8) ++ [(73 : UInt8)]) ((nk.length : Int)) 2 2)] := hM47
          refine wpF_end _ (by kernel_rfl) (then_n ?_)
          exact one_in (some 28) (by kernel_rfl) (.slice Ar49_1 (putM (([] : List UInt8) ++ [(73 : UInt8)]) ((nk.length : Int)) 2 2).length cr49_1) _ [(27, .int .i64 ((nk.length : Int))), (24, .slice A36 (([] : List UInt8) ++ [(73 : UInt8)]).length c37)] (seen_cons (Eq.trans (by kernel_rfl) hv5_V67_6) (seen_cons (Eq.trans (by kernel_rfl) hv2_V67_6) seen_nil)) (by kernel_rfl) le46 (hM50.eqE (Eq.trans rfl (Eq.trans (by kernel_rfl) (Eq.symm (Eq.trans (cond_f (upd_f (by decide) (cx67_6.notyet (c := 12) (fun hq_ => (cx67_6.cl 12 6 (by decide) hq_ (by kernel_rfl)))))) (Eq.trans (cond_f (upd_f (by decide) (cx67_6.notyet (c := 11) (fun hq_ => (cx67_6.cl 11 6 (by decide) hq_ (by kernel_rfl)))))) (cond_t (upd_self _ _)))))))) ((hG67_6 _ _).2 ⟨Ar49_1, cr49_1, rfl⟩)
        refine all_snoc (.inr ⟨by decide, fun S67_5 g67_5 V67_5 w67_5 F67_5 cx67_5 hM67_5 => ?_⟩) ?_
        · -- op 5
          obtain hv4_V67_5 : g67_5 26 = .slice Ank (nk).length cnk := (hG67_4 _ _).1 (cx67_5.fact 4 26 (by decide) (cx67_5.dep 4 (by kernel_rfl)) (by kernel_rfl))
          refine wpF_see 26 (.slice Ank (nk).length cnk) (Eq.trans (by kernel_rfl) hv4_V67_5) ?_
          refine wpF_seg 1 (by kernel_rfl) ?_
          refine wpF_end _ (by kernel_rfl) (then_n ?_)
          exact one_in (some 27) (by kernel_rfl) (.int .i64 ((nk.length : Int))) _ [(26, .slice Ank (nk).length cnk)] (seen_cons (Eq.trans (by kernel_rfl) hv4_V67_5) seen_nil) (by kernel_rfl) (VT.le.refl _) hM67_5 ((hG67_5 _ _).2 rfl)
        refine all_snoc (.inr ⟨by decide, fun S67_4 g67_4 V67_4 w67_4 F67_4 cx67_4 hM67_4 => ?_⟩) ?_
        · -- op 4
          obtain hv3_V67_4 : g67_4 25 = .pointer (some ⟨b2, 1, none⟩) := (hG67_3 _ _).1 (cx67_4.fact 3 25 (by decide) (cx67_4.dep 3 (by kernel_rfl)) (by kernel_rfl))
          refine wpF_see 25 (.pointer (some ⟨b2, 1, none⟩)) (Eq.trans (by kernel_rfl) hv3_V67_4) ?_
          refine wpF_loadB hM67_4 #[.bool (false), .slice Ank (nk).length cnk, .slice Anv (nv).length cnv, .slice Anc (nc).length cnc] (fun i v hi => (le15.trans cx67_4.le) _ _ _ (hc8 i v hi)) (h := (by kernel_rfl : opAt _ _ _ _ _ = some (Go.Op.load 22 (Go.Operand.tmp 25), some 26))) (off := 1) (by kernel_rfl) (.slice Ank (nk).length cnk) (by kernel_rfl) ?_
          refine wpF_end _ (by kernel_rfl) (then_n ?_)
          exact one_in (some 26) (by kernel_rfl) (.slice Ank (nk).length cnk) _ [(25, .pointer (some ⟨b2, 1, none⟩))] (seen_cons (Eq.trans (by kernel_rfl) hv3_V67_4) seen_nil) (by kernel_rfl) (VT.le.refl _) hM67_4 ((hG67_4 _ _).2 rfl)
        refine all_snoc (.inr ⟨by decide, fun S67_3 g67_3 V67_3 w67_3 F67_3 cx67_3 hM67_3 => ?_⟩) ?_
        · -- op 3
          refine wpF_seg 1 (by kernel_rfl) ?_
          refine wpF_end _ (by kernel_rfl) (then_n ?_)
          exact one_in (some 25) (by kernel_rfl) (.pointer (some ⟨b2, 1, none⟩)) _ [] seen_nil (by kernel_rfl) (VT.le.refl _) hM67_3 ((hG67_3 _ _).2 rfl)
        refine all_snoc (.inl ⟨by decide, fun S67_2 g67_2 V67_2 w67_2 cx67_2 hM67_2 => ?_⟩) ?_
        · -- op 2
          have hMa_67_2 : Step V w [] V67_2 _ [] := hM67_2.eqE (Eq.trans (cond_f (cx67_2.notyet (c := 12) (fun hq_ => (cx67_2.cl 12 2 (by decide) hq_ (by kernel_rfl))))) (Eq.trans (cond_f (cx67_2.notyet (c := 11) (fun hq_ => (cx67_2.cl 6 2 (by decide) (cx67_2.cl 11 6 (by decide) hq_ (by kernel_rfl)) (by kernel_rfl))))) (Eq.trans (cond_f (cx67_2.notyet (c := 6) (fun hq_ => (cx67_2.cl 6 2 (by decide) hq_ (by kernel_rfl))))) (Eq.trans (cond_f cx67_2.no) rfl))))
          have hMb_67_2 : Step V w [] V67_2 _ [] := hMa_67_2
          obtain hv0_V67_2 : g67_2 22 = .slice none 0 0 := (hG67_0 _ _).1 (cx67_2.fact 0 22 (by decide) (cx67_2.dep 0 (by kernel_rfl)) (by kernel_rfl))
          obtain ⟨A28, c29, hv1_V67_2, r34⟩ : ∃ A28 : Option Addr, ∃ c29 : Nat, g67_2 23 = .slice A28 ([(73 : UInt8)]).length c29 ∧ (Rd byteK V67_2 A28 c29 ([(73 : UInt8)])) := (hG67_1 _ _).1 (cx67_2.fact 1 23 (by decide) (cx67_2.dep 1 (by kernel_rfl)) (by kernel_rfl))
          refine wpF_see 22 (.slice none 0 0) (Eq.trans (by kernel_rfl) hv0_V67_2) ?_
          refine wpF_see 23 (.slice A28 ([(73 : UInt8)]).length c29) (Eq.trans (by kernel_rfl) hv1_V67_2) ?_
          have hM35 := hMb_67_2.nilrow byteK 5
          refine wpF_append (by_ := 1) hM35 0 rfl (h := (by kernel_rfl : opAt _ _ _ _ _ = some (Go.Op.call (Go.Call.mk (Go.Callee.builtin Go.Builtin.append) #[(Go.Operand.tmp 22), (Go.Operand.tmp 23)] #[28, 28]), some 24))) (by kernel_rfl) (by kernel_rfl) (by kernel_rfl) (by kernel_rfl) (by kernel_rfl) (by kernel_rfl) (by kernel_rfl) (Src.rd r34) (by first | omega | (simp only [putM_len, List.length_append, List.length_cons, List.length_nil]; omega)) (fun A36 c37 w38 hM39 => ?_)
          have hM40 : Step V w [] V67_2 _ [.row byteK 5 A36 c37 (([] : List UInt8) ++ [(73 : UInt8)])] := hM39
          refine wpF_end _ (by kernel_rfl) (then_n ?_)
          exact one_in (some 24) (by kernel_rfl) (.slice A36 (([] : List UInt8) ++ [(73 : UInt8)]).length c37) _ [(23, .slice A28 ([(73 : UInt8)]).length c29), (22, .slice none 0 0)] (seen_cons (Eq.trans (by kernel_rfl) hv1_V67_2) (seen_cons (Eq.trans (by kernel_rfl) hv0_V67_2) seen_nil)) (by kernel_rfl) (VT.le.refl _) (hM40.eqE (Eq.trans rfl (Eq.trans (by kernel_rfl) (Eq.symm (Eq.trans (cond_f (upd_f (by decide) (cx67_2.notyet (c := 12) (fun hq_ => (cx67_2.cl 12 2 (by decide) hq_ (by kernel_rfl)))))) (Eq.trans (cond_f (upd_f (by decide) (cx67_2.notyet (c := 11) (fun hq_ => (cx67_2.cl 6 2 (by decide) (cx67_2.cl 11 6 (by decide) hq_ (by kernel_rfl)) (by kernel_rfl)))))) (Eq.trans (cond_f (upd_f (by decide) (cx67_2.notyet (c := 6) (fun hq_ => (cx67_2.cl 6 2 (by decide) hq_ (by kernel_rfl)))))) (cond_t (upd_self _ _))))))))) ((hG67_2 _ _).2 ⟨A36, c37, rfl⟩)
        refine all_snoc (.inr ⟨by decide, fun S67_1 g67_1 V67_1 w67_1 F67_1 cx67_1 hM67_1 => ?_⟩) ?_
        · -- op 1
          refine wpF_litR byteK hM67_1 #[.int .u8 (73)] (h := (by kernel_rfl : opAt _ _ _ _ _ = some (Go.Op.buildSlice 28 1 #[(0, (Go.Operand.const (Go.Value.int Go.IntKind.u8 73)))], some 23))) (e := 5) (by kernel_rfl) ([(73 : UInt8)]) Reps.one_byte rfl (by simp [maxL]) (fun A28 c29 V32 w30 le33 hM31 r34 => ?_)
          refine wpF_end _ (by kernel_rfl) (then_n ?_)
          exact one_in (some 23) (by kernel_rfl) (.slice A28 ([(73 : UInt8)]).length c29) _ [] seen_nil (by kernel_rfl) le33 hM31 ((hG67_1 _ _).2 ⟨A28, c29, rfl, r34⟩)
        refine all_snoc (.inr ⟨by decide, fun S67_0 g67_0 V67_0 w67_0 F67_0 cx67_0 hM67_0 => ?_⟩) ?_
        · -- op 0
          have hp5_67_0 : g67_0 5 = .slice none 0 0 := cx67_0.pre 5 _ 12 (List.Mem.head _) (cx67_0.notyet (c := 12) (fun hq_ => (cx67_0.cl 12 0 (by decide) hq_ (by kernel_rfl))))
          refine wpF_see 5 (.slice none 0 0) (Eq.trans (by kernel_rfl) hp5_67_0) ?_
          refine wpF_seg 1 (by kernel_rfl) ?_
          refine wpF_end _ (by kernel_rfl) (then_n ?_)
          exact one_in (some 22) (by kernel_rfl) (.slice none 0 0) _ [(5, .slice none 0 0)] (seen_cons (Eq.trans (by kernel_rfl) hp5_67_0) seen_nil) (by kernel_rfl) (VT.le.refl _) hM67_0 ((hG67_0 _ _).2 rfl)
        exact all_none
      · -- behind it
        intro ge67 Ve67 we67 hMe67 hle67 hf67
        refine wpF_stop (P := Try.prog) (ops := #[]) (i := 0) _ rfl ?_
        obtain ⟨A65, c66, hv12_Ve67⟩ : ∃ A65 : Option Addr, ∃ c66 : Nat, ge67 5 = .slice A65 (putM (putM (([] : List UInt8) ++ [(73 : UInt8)]) ((nk.length : Int)) 2 2) ((nc.getD (0) 0)) 4 4).length c66 := (hG67_12 _ _).1 (hf67 12 5 (by decide) (by kernel_rfl))
        obtain hv0_Ve67 : ge67 22 = .slice none 0 0 := (hG67_0 _ _).1 (hf67 0 22 (by decide) (by kernel_rfl))
        obtain ⟨A28, c29, hv1_Ve67, r34⟩ : ∃ A28 : Option Addr, ∃ c29 : Nat, ge67 23 = .slice A28 ([(73 : UInt8)]).length c29 ∧ (Rd byteK Ve67 A28 c29 ([(73 : UInt8)])) := (hG67_1 _ _).1 (hf67 1 23 (by decide) (by kernel_rfl))
        obtain ⟨A36, c37, hv2_Ve67⟩ : ∃ A36 : Option Addr, ∃ c37 : Nat, ge67 24 = .slice A36 (([] : List UInt8) ++ [(73 : UInt8)]).length c37 := (hG67_2 _ _).1 (hf67 2 24 (by decide) (by kernel_rfl))
        obtain hv3_Ve67 : ge67 25 = .pointer (some ⟨b2, 1, none⟩) := (hG67_3 _ _).1 (hf67 3 25 (by decide) (by kernel_rfl))
        obtain hv4_Ve67 : ge67 26 = .slice Ank (nk).length cnk := (hG67_4 _ _).1 (hf67 4 26 (by decide) (by kernel_rfl))
        obtain hv5_Ve67 : ge67 27 = .int .i64 ((nk.length : Int)) := (hG67_5 _ _).1 (hf67 5 27 (by decide) (by kernel_rfl))
        obtain ⟨Ar49_1, cr49_1, hv6_Ve67⟩ : ∃ Ar49_1 : Option Addr, ∃ cr49_1 : Nat, ge67 28 = .slice Ar49_1 (putM (([] : List UInt8) ++ [(73 : UInt8)]) ((nk.length : Int)) 2 2).length cr49_1 := (hG67_6 _ _).1 (hf67 6 28 (by decide) (by kernel_rfl))
        obtain hv7_Ve67 : ge67 29 = .pointer (some ⟨b2, 3, none⟩) := (hG67_7 _ _).1 (hf67 7 29 (by decide) (by kernel_rfl))
        obtain hv8_Ve67 : ge67 30 = .slice Anc (nc).length cnc := (hG67_8 _ _).1 (hf67 8 30 (by decide) (by kernel_rfl))
        obtain ⟨b51, o52, hv9_Ve67, at_b51, l54⟩ : ∃ b51 : Nat, ∃ o52 : Nat, ge67 31 = .pointer (some ⟨b51, o52, none⟩) ∧ (At (intK .i64) Ve67 b51 o52 ((nc.getD (0) 0))) ∧ (IntKind.i64.min ≤ (nc.getD (0) 0) ∧ (nc.getD (0) 0) ≤ IntKind.i64.max) := (hG67_9 _ _).1 (hf67 9 31 (by decide) (by kernel_rfl))
        have c69 : Ve67 b51 o52 = some (.int .i64 (nc.getD (0) 0)) := (At.int at_b51).1
        have l70 : IntKind.i64.min ≤ (nc.getD (0) 0) ∧ (nc.getD (0) 0) ≤ IntKind.i64.max := (At.int at_b51).2
        obtain ⟨hv10_Ve67, l54⟩ : ge67 32 = .int .i64 ((nc.getD (0) 0)) ∧ (IntKind.i64.min ≤ (nc.getD (0) 0) ∧ (nc.getD (0) 0) ≤ IntKind.i64.max) := (hG67_10 _ _).1 (hf67 10 32 (by decide) (by kernel_rfl))
        obtain ⟨Ar63_1, cr63_1, hv11_Ve67⟩ : ∃ Ar63_1 : Option Addr, ∃ cr63_1 : Nat, ge67 33 = .slice Ar63_1 (putM (putM (([] : List UInt8) ++ [(73 : UInt8)]) ((nk.length : Int)) 2 2) ((nc.getD (0) 0)) 4 4).length cr63_1 := (hG67_11 _ _).1 (hf67 11 33 (by decide) (by kernel_rfl))
        have hM71 : Step V w [] Ve67 _ [.row byteK 5 (addrOf (ge67 5)) (capOf (ge67 5)) (putM (putM (([] : List UInt8) ++ [(73 : UInt8)]) ((nk.length : Int)) 2 2) ((nc.getD (0) 0)) 4 4)] := hMe67
        simp only [hv12_Ve67] at hM71
        have hM72 : Step V w [] Ve67 _ [.row byteK 5 A65 c66 (putM (putM (([] : List UInt8) ++ [(73 : UInt8)]) ((nk.length : Int)) 2 2) ((nc.getD (0) 0)) 4 4)] := hM71
        refine wpF_see 5 (.slice A65 (putM (putM (([] : List UInt8) ++ [(73 : UInt8)]) ((nk.length : Int)) 2 2) ((nc.getD (0) 0)) 4 4).length c66) (Eq.trans (by kernel_rfl) hv12_Ve67) ?_
        refine wpF_see 22 (.slice none 0 0) (Eq.trans (by kernel_rfl) hv0_Ve67) ?_
        refine wpF_see 23 (.slice A28 ([(73 : UInt8)]).length c29) (Eq.trans (by kernel_rfl) hv1_Ve67) ?_
        refine wpF_see 24 (.slice A36 (([] : List UInt8) ++ [(73 : UInt8)]).length c37) (Eq.trans (by kernel_rfl) hv2_Ve67) ?_
        refine wpF_see 25 (.pointer (some ⟨b2, 1, none⟩)) (Eq.trans (by kernel_rfl) hv3_Ve67) ?_
        refine wpF_see 26 (.slice Ank (nk).length cnk) (Eq.trans (by kernel_rfl) hv4_Ve67) ?_
        refine wpF_see 27 (.int .i64 ((nk.length : Int))) (Eq.trans (by kernel_rfl) hv5_Ve67) ?_
        refine wpF_see 28 (.slice Ar49_1 (putM (([] : List UInt8) ++ [(73 : UInt8)]) ((nk.length : Int)) 2 2).length cr49_1) (Eq.trans (by kernel_rfl) hv6_Ve67) ?_
        refine wpF_see 29 (.pointer (some ⟨b2, 3, none⟩)) (Eq.trans (by kernel_rfl) hv7_Ve67) ?_
        refine wpF_see 30 (.slice Anc (nc).length cnc) (Eq.trans (by kernel_rfl) hv8_Ve67) ?_
        refine wpF_see 31 (.pointer (some ⟨b51, o52, none⟩)) (Eq.trans (by kernel_rfl) hv9_Ve67) ?_
        refine wpF_see 32 (.int .i64 ((nc.getD (0) 0))) (Eq.trans (by kernel_rfl) hv10_Ve67) ?_
        refine wpF_see 33 (.slice Ar63_1 (putM (putM (([] : List UInt8) ++ [(73 : UInt8)]) ((nk.length : Int)) 2 2) ((nc.getD (0) 0)) 4 4).length cr63_1) (Eq.trans (by kernel_rfl) hv11_Ve67) ?_
        refine wpF_end _ (by kernel_rfl) (then_n (hK26 _ _ ?_))
        refine wp_seq_k (fun K74 hK74 => ?_)
        refine wp_seq_k (fun K75 hK75 => ?_)
        refine wp_reg ?_
        refine wpF_seg 1 (by kernel_rfl) ?_
        refine wpF_loadB hM72 #[.bool (false), .slice Ank (nk).length cnk, .slice Anv (nv).length cnv, .slice Anc (nc).length cnc] (fun i v hi => (le15.trans hle67) _ _ _ (hc8 i v hi)) (h := (by kernel_rfl : opAt _ _ _ _ _ = some (Go.Op.load 22 (Go.Operand.tmp 34), some 35))) (off := 1) (by kernel_rfl) (.slice Ank (nk).length cnk) (by kernel_rfl) ?_
        refine wpF_seg 2 (by kernel_rfl) ?_
        refine wpF_end _ (by kernel_rfl) (then_n (hK75 _ _ ?_))
        refine wp_block ?_
        refine wp_base [(1, .pointer (some ⟨b2, 0, none⟩)), (2, .slice none 0 0), (3, .int .i64 (0)), (5, .slice A65 (bodyM false nk nv nc (0)).length c66), (35, .slice Ank (nk).length cnk), (36, .int .i64 ((nk.length : Int))), (37, .int .i64 ((0 : Int)))] (by kernel_rfl) (fun g77 => ?_)
        refine wp_loopX (fun (x_ : Nat) a_ w_ => ∃ (g : Nat → Value) (V_ : VT), ∃ (Ar5 : Option Addr) (cr5 : Nat), a_ = env 78 [(1, .pointer (some ⟨b2, 0, none⟩)), (2, .slice none 0 0), (3, .int .i64 (0)), (5, .slice Ar5 (bodyM false nk nv nc (x_)).length cr5), (35, .slice Ank (nk).length cnk), (36, .int .i64 ((nk.length : Int))), (37, .int .i64 ((x_ : Int)))] g ∧ Step V w [] V_ w_ [.row byteK 5 Ar5 cr5 (bodyM false nk nv nc (x_))] ∧ VT.le Ve67 V_ ∧ (x_ ≤ nk.length) ∧ ((bodyM false nk nv nc (x_)).length ≤ 7 + 400 * (x_))) (fun (x_ : Nat) => nk.length - x_) (0) ⟨g77, Ve67, _, _, rfl, hM72, VT.le.refl _, by omega, by (simp only [bodyM, headM, cond_true, cond_false, putM_len, List.length_cons, List.length_nil]; omega)⟩ ?_
        rintro k a_ w79 ⟨g78, Vl76, Ar_825, cr_825, rfl, hM80, le81, hi82_0, hi82_1⟩ K82 hK82
        refine wp_seq_k (fun K83 hK83 => ?_)
        refine wp_reg ?_
        refine wpF_seg 1 (by kernel_rfl) ?_
        refine wpF_end _ (by kernel_rfl) (then_n (hK83 _ _ ?_))
        refine wp_seq_k (fun K84 hK84 => ?_)
        refine wp_if (decide (((k : Int)) < ((nk.length : Int)))) (by kernel_rfl) (fun h85 => ?_) (fun h85 => ?_)
        · -- FfLt
          have p86 : (((k : Int)) < ((nk.length : Int))) := of_decide_eq_true h85
          have hks := key_short hs (k := k) (by omega)
          have hvs := hl.2.2 (k + 1) (by omega)
          refine wp_skip (then_n (hK84 _ _ ?_))
          refine wp_seq_k (fun K87 hK87 => ?_)
          refine wp_block ?_
          refine wp_seq_k (fun K88 hK88 => ?_)
          refine wp_reg ?_
          refine wpF_seg 1 (by kernel_rfl) ?_
          refine wpF_index (A := Ank) (c := cnk) (hnk.up hM80.le) .i64 ((k : Int)) (h := (by kernel_rfl : opAt _ _ _ _ _ = some (Go.Op.indexAddr 22 (Go.Operand.tmp 35) (Go.Operand.tmp 37), some 40))) (e := 9) (by kernel_rfl) (by kernel_rfl) (by kernel_rfl) (k) rfl (by omega) (fun b89 o90 at_b89 => ?_)
          have c91 : Vl76 b89 o90 = some (bs (nk.getD (k) [])) := (At.str at_b89).1
          have l92 : (nk.getD (k) []).length ≤ 140737488355328 := (At.str at_b89).2
          refine wpF_loadV hM80 c91 (h := (by kernel_rfl : opAt _ _ _ _ _ = some (Go.Op.load 9 (Go.Operand.tmp 40), some 41))) (by kernel_rfl) (by kernel_rfl) ?_
          refine wpF_seg 2 (by kernel_rfl) ?_
          refine wpF_end _ (by kernel_rfl) (then_n (hK88 _ _ ?_))
          refine wp_seq_k (fun K93 hK93 => ?_)
          refine wp_reg ?_
          refine wpF_seg 3 (by kernel_rfl) ?_
          have hM94 := hM80.front 0 rfl
          have hM102 : Step V w [] Vl76 _ [.row byteK 5 Ar_825 cr_825 (bodyM false nk nv nc (k))] := hM94
          refine wpF_callE [.row byteK 5 Ar_825 cr_825 (bodyM false nk nv nc (k))] [] hM102 (f := 32) (caps := #[]) (h := (by kernel_rfl : opAt _ _ _ _ _ = some (Go.Op.call (Go.Call.mk (Go.Callee.value (Go.Operand.func 32)) #[(Go.Operand.tmp 42), (Go.Operand.tmp 44)] #[28, 3]), some 45))) (by kernel_rfl) (by kernel_rfl) (by kernel_rfl) (f32 _ _ Ar_825 cr_825 (bodyM false nk nv nc (k)) ((((nk.getD (k) [])).length : Int)) (St.part (E := [.row byteK 5 Ar_825 cr_825 (bodyM false nk nv nc (k))]) (F := []) hM102.ok) (by omega) (by omega) (by first | omega | (simp only [putM_len, List.length_append, List.length_cons, List.length_nil]; omega) | (simp; done))) (fun v95 V96 w97 Eo98 le99 hM100 hp101 => ?_)
          obtain ⟨Ar102_1, cr102_1, rfl, rfl⟩ := hp101
          have hM103 : Step V w [] V96 _ [.row byteK 5 Ar102_1 cr102_1 (putM (bodyM false nk nv nc (k)) ((((nk.getD (k) [])).length : Int)) 1 1)] := hM100
          refine wpF_seg 1 (by kernel_rfl) ?_
          refine wpF_append (by_ := 1) hM103 0 rfl (h := (by kernel_rfl : opAt _ _ _ _ _ = some (Go.Op.call (Go.Call.mk (Go.Callee.builtin Go.Builtin.append) #[(Go.Operand.tmp 45), (Go.Operand.tmp 46)] #[28, 9]), some 47))) (by kernel_rfl) (by kernel_rfl) (by kernel_rfl) (by kernel_rfl) (by kernel_rfl) (by kernel_rfl) (by kernel_rfl) (Src.str ((nk.getD (k) []))) (by first | omega | (simp only [putM_len, List.length_append, List.length_cons, List.length_nil]; omega)) (fun A104 c105 w106 hM107 => ?_)
          have hM108 : Step V w [] V96 _ [.row byteK 5 A104 c105 (putM (bodyM false nk nv nc (k)) ((((nk.getD (k) [])).length : Int)) 1 1 ++ (nk.getD (k) []))] := hM107
          refine wpF_seg 1 (by kernel_rfl) ?_
          refine wpF_end _ (by kernel_rfl) (then_n (hK93 _ _ ?_))
          refine wp_seq_k (fun K109 hK109 => ?_)
          refine wp_reg ?_
          refine wpF_seg 1 (by kernel_rfl) ?_
          refine wpF_loadB hM108 #[.bool (false), .slice Ank (nk).length cnk, .slice Anv (nv).length cnv, .slice Anc (nc).length cnc] (fun i v hi => (((le15.trans hle67).trans le81).trans le99) _ _ _ (hc8 i v hi)) (h := (by kernel_rfl : opAt _ _ _ _ _ = some (Go.Op.load 4 (Go.Operand.tmp 48), some 49))) (off := 0) (by kernel_rfl) (.bool (false)) (by kernel_rfl) ?_
          refine wpF_end _ (by kernel_rfl) (then_n (hK109 _ _ ?_))
          refine wp_cf (by kernel_rfl) ?_
          refine wp_reg ?_
          refine wpF_seg 2 (by kernel_rfl) ?_
          refine wpF_loadB hM108 #[.bool (false), .slice Ank (nk).length cnk, .slice Anv (nv).length cnv, .slice Anc (nc).length cnc] (fun i v hi => (((le15.trans hle67).trans le81).trans le99) _ _ _ (hc8 i v hi)) (h := (by kernel_rfl : opAt _ _ _ _ _ = some (Go.Op.load 23 (Go.Operand.tmp 65), some 66))) (off := 3) (by kernel_rfl) (.slice Anc (nc).length cnc) (by kernel_rfl) ?_
          refine wpF_seg 1 (by kernel_rfl) ?_
          refine wpF_add .i64 ((k : Int)) (1) ((k : Int) + 1) (h := (by kernel_rfl : opAt _ _ _ _ _ = some (Go.Op.binOp Go.BinOp.add 3 (Go.Operand.tmp 67) (Go.Operand.const (Go.Value.int Go.IntKind.i64 1)) 3, some 68))) (by kernel_rfl) (by kernel_rfl) (wrap64_ok _ (by omega)) ?_
          refine wpF_index (A := Anc) (c := cnc) (hnc.up hM108.le) .i64 ((k : Int) + 1) (h := (by kernel_rfl : opAt _ _ _ _ _ = some (Go.Op.indexAddr 23 (Go.Operand.tmp 66) (Go.Operand.tmp 68), some 69))) (e := 3) (by kernel_rfl) (by kernel_rfl) (by kernel_rfl) (k + 1) (by omega) (by omega) (fun b110 o111 at_b110 => ?_)
          have c112 : V96 b110 o111 = some (.int .i64 (nc.getD (k + 1) 0)) := (At.int at_b110).1
          have l113 : IntKind.i64.min ≤ (nc.getD (k + 1) 0) ∧ (nc.getD (k + 1) 0) ≤ IntKind.i64.max := (At.int at_b110).2
          refine wpF_loadV hM108 c112 (h := (by kernel_rfl : opAt _ _ _ _ _ = some (Go.Op.load 3 (Go.Operand.tmp 69), some 70))) (by kernel_rfl) (by kernel_rfl) ?_
          have hM114 := hM108.front 0 rfl
          have hM122 : Step V w [] V96 _ [.row byteK 5 A104 c105 (putM (bodyM false nk nv nc (k)) ((((nk.getD (k) [])).length : Int)) 1 1 ++ (nk.getD (k) []))] := hM114
          refine wpF_callE [.row byteK 5 A104 c105 (putM (bodyM false nk nv nc (k)) ((((nk.getD (k) [])).length : Int)) 1 1 ++ (nk.getD (k) []))] [] hM122 (f := 31) (caps := #[]) (h := (by kernel_rfl : opAt _ _ _ _ _ = some (Go.Op.call (Go.Call.mk (Go.Callee.value (Go.Operand.func 31)) #[(Go.Operand.tmp 64), (Go.Operand.tmp 70)] #[28, 3]), some 71))) (by kernel_rfl) (by kernel_rfl) (by kernel_rfl) (f31 _ _ A104 c105 (putM (bodyM false nk nv nc (k)) ((((nk.getD (k) [])).length : Int)) 1 1 ++ (nk.getD (k) [])) ((nc.getD (k + 1) 0)) (St.part (E := [.row byteK 5 A104 c105 (putM (bodyM false nk nv nc (k)) ((((nk.getD (k) [])).length : Int)) 1 1 ++ (nk.getD (k) []))]) (F := []) hM122.ok) (by omega) (by omega) (by first | omega | (simp only [putM_len, List.length_append, List.length_cons, List.length_nil]; omega) | (simp; done))) (fun v115 V116 w117 Eo118 le119 hM120 hp121 => ?_)
          obtain ⟨Ar122_1, cr122_1, rfl, rfl⟩ := hp121
          have hM123 : Step V w [] V116 _ [.row byteK 5 Ar122_1 cr122_1 (putM (putM (bodyM false nk nv nc (k)) ((((nk.getD (k) [])).length : Int)) 1 1 ++ (nk.getD (k) [])) ((nc.getD (k + 1) 0)) 4 4)] := hM120
          refine wpF_seg 1 (by kernel_rfl) ?_
          refine wpF_end _ (by kernel_rfl) (blk_n (then_n (hK87 _ _ ?_)))
          refine wp_reg ?_
          refine wpF_add .i64 ((k : Int)) (1) ((k : Int) + 1) (h := (by kernel_rfl : opAt _ _ _ _ _ = some (Go.Op.binOp Go.BinOp.add 3 (Go.Operand.tmp 37) (Go.Operand.const (Go.Value.int Go.IntKind.i64 1)) 3, some 72))) (by kernel_rfl) (by kernel_rfl) (wrap64_ok _ (by omega)) ?_
          refine wpF_seg 1 (by kernel_rfl) ?_
          refine wpF_base [(1, .pointer (some ⟨b2, 0, none⟩)), (2, .slice none 0 0), (3, .int .i64 (0)), (5, .slice Ar122_1 (bodyM false nk nv nc (k + 1)).length cr122_1), (35, .slice Ank (nk).length cnk), (36, .int .i64 ((nk.length : Int))), (37, .int .i64 ((k + 1 : Int)))] (by kernel_rfl) (fun g124 => ?_)
          refine wpF_end _ (by kernel_rfl) (then_n (hK82 _ _ (k + 1) (by omega) ?_))
          refine ⟨g124, V116, _, _, rfl, hM123, ((le81.trans le99).trans le119), ?_, ?_⟩
          · -- FfLt inv 0
            omega
          · -- FfLt inv 1
            (simp only [bodyM, cond_true, cond_false, putM_len, List.length_append]; omega)
        · -- FfLf
          have p125 : ¬ (((k : Int)) < ((nk.length : Int))) := of_decide_eq_false h85
          refine wp_exit (then_x (then_x (blk_hit (then_n (hK74 _ _ ?_)))))
          obtain rfl : k = nk.length := by omega
          refine wp_seq_k (fun K126 hK126 => ?_)
          refine wp_reg ?_
          refine wpF_seg 3 (by kernel_rfl) ?_
          refine wpF_sub .i64 (1024) (((bodyM false nk nv nc ((nk.length))).length : Int)) (((1024 - (bodyM false nk nv nc nk.length).length : Nat) : Int)) (h := (by kernel_rfl : opAt _ _ _ _ _ = some (Go.Op.binOp Go.BinOp.sub 3 (Go.Operand.const (Go.Value.int Go.IntKind.i64 1024)) (Go.Operand.tmp 75) 3, some 76))) (by kernel_rfl) (by kernel_rfl) (by rw [wrap64_ok _ (by omega)]; omega) ?_
          refine wpF_append0 (by_ := 1) (m := (1024 - (bodyM false nk nv nc nk.length).length)) (z := .int .u8 0) hM80 0 rfl (h := (by kernel_rfl : opAt _ _ _ _ _ = some (Go.Op.call (Go.Call.mk (Go.Callee.builtin Go.Builtin.append) #[(Go.Operand.tmp 73), (Go.Operand.tmp 76)] #[28, 3]), some 77))) (by kernel_rfl) (by kernel_rfl) (by kernel_rfl) rfl (by kernel_rfl) (by kernel_rfl) rfl (by kernel_rfl) (by kernel_rfl) 0 (fun _ => Reps.one_byte) (by first | omega | (simp only [putM_len, List.length_append, List.length_cons, List.length_nil]; omega)) (fun A127 c128 w129 hM130 => ?_)
          have hM131 : Step V w [] Vl76 _ [.row byteK 5 A127 c128 (bodyM false nk nv nc ((nk.length)) ++ List.replicate ((1024 - (bodyM false nk nv nc nk.length).length)) 0)] := hM130
          refine wpF_seg 2 (by kernel_rfl) ?_
          refine wpF_end _ (by kernel_rfl) (then_n (hK126 _ _ ?_))
          refine wp_ret ?_
          obtain ⟨V132, le133, hM134, r135⟩ := hM131.settleRow 0 rfl
          have hM136 : Step V w [] V132 _ [] := hM134
          refine retN [.slice A127 (bodyM false nk nv nc ((nk.length)) ++ List.replicate ((1024 - (bodyM false nk nv nc nk.length).length)) 0).length c128, .int .i64 (0)] (.tuple #[.slice A127 (bodyM false nk nv nc ((nk.length)) ++ List.replicate ((1024 - (bodyM false nk nv nc nk.length).length)) 0).length c128, .int .i64 (0)]) Try.results13 (.tmp (by kernel_rfl) (by kernel_rfl) (.tmp (by kernel_rfl) (by kernel_rfl) .nil)) (by kernel_rfl) (hRet _ _ ⟨_, _, rfl, hM136.clear, ?_⟩)
          -- end FfLf
          refine ⟨A127, c128, ?_, ?_⟩
          · first | (simp only [bytesM, h19, h23, h85, cond_false]; done) | (simp only [bytesM, h19, h23, h85, cond_false]; rfl) | (have hc0 : checkM false nk nv nc = 0 := (by assumption); simp only [bytesM, h19, h23, h85, cond_true, hc0, decide_true, pageM]; done)
          · first | exact r135 | (exact Rd.eq r135 (by simp only [bytesM, h19, h23, h85, cond_true, cond_false, pageM]))
  | true =>
    refine wp_seq_k (fun K137 hK137 => ?_)
    refine wp_reg ?_
    refine wpF_box hM0 #[.bool (true), .slice Ank (nk).length cnk, .slice Anv (nv).length cnv, .slice Anc (nc).length cnc] (h := (by kernel_rfl : opAt _ _ _ _ _ = some (Go.Op.box 25 (Go.Operand.tmp 0), some 1))) (by kernel_rfl) (fun b138 w139 hM140 => ?_)
    obtain ⟨V141, le142, hM143, hc144⟩ := hM140.settle 0 rfl
    have hM145 : Step V w [] V141 _ [] := hM143
    refine wpF_seg 2 (by kernel_rfl) ?_
    refine wpF_end _ (by kernel_rfl) (then_n (hK137 _ _ ?_))
    refine wp_seq_k (fun K146 hK146 => ?_)
    refine wp_seq_k (fun K147 hK147 => ?_)
    refine wp_reg ?_
    refine wpF_loadB hM145 #[.bool (true), .slice Ank (nk).length cnk, .slice Anv (nv).length cnv, .slice Anc (nc).length cnc] hc144 (h := (by kernel_rfl : opAt _ _ _ _ _ = some (Go.Op.load 25 (Go.Operand.tmp 1), some 8))) (off := 0) (by kernel_rfl) (.agg #[.bool (true), .slice Ank (nk).length cnk, .slice Anv (nv).length cnv, .slice Anc (nc).length cnc]) (by kernel_rfl) ?_
    refine wpF_callP hM145 (f := 17) (caps := #[]) (h := (by kernel_rfl : opAt _ _ _ _ _ = some (Go.Op.call (Go.Call.mk (Go.Callee.value (Go.Operand.func 17)) #[(Go.Operand.tmp 8)] #[25]), some 9))) (by kernel_rfl) (by kernel_rfl) (by kernel_rfl) (f17 _ _ hM145.inW (true) Ank cnk (nk) (hnk.up hM145.le) Anv cnv (nv) (hnv.up hM145.le) Anc cnc (nc) (hnc.up hM145.le) (by omega) (by omega)) (fun v148 V149 w150 le151 hM152 hp153 => ?_)
    obtain rfl := hp153
    refine wpF_seg 1 (by kernel_rfl) ?_
    refine wpF_end _ (by kernel_rfl) (then_n (hK147 _ _ ?_))
    refine wp_seq_k (fun K154 hK154 => ?_)
    refine wp_reg ?_
    refine wpF_seg 2 (by kernel_rfl) ?_
    refine wpF_end _ (by kernel_rfl) (then_n (hK154 _ _ ?_))
    refine wp_if (!(decide ((checkM (true) (nk) (nv) (nc)) = (0)))) (by kernel_rfl) (fun h155 => ?_) (fun h155 => ?_)
    · -- Tt
      have h156 : decide ((checkM (true) (nk) (nv) (nc)) = (0)) = false := by rw [← Bool.not_not (decide _), h155]; rfl
      have p157 : ¬ ((checkM (true) (nk) (nv) (nc)) = (0)) := of_decide_eq_false h156
      refine wp_seq_k (fun K158 hK158 => ?_)
      refine wp_reg ?_
      refine wpF_seg 3 (by kernel_rfl) ?_
      refine wpF_end _ (by kernel_rfl) (then_n (hK158 _ _ ?_))
      refine wp_ret (then_r (?_))
      refine retN [.slice none 0 0, .int .i64 (checkM (true) (nk) (nv) (nc))] (.tuple #[.slice none 0 0, .int .i64 (checkM (true) (nk) (nv) (nc))]) Try.results13 (.tmp (by kernel_rfl) (by kernel_rfl) (.tmp (by kernel_rfl) (by kernel_rfl) .nil)) (by kernel_rfl) (hRet _ _ ⟨_, _, rfl, hM152.clear, ?_⟩)
      -- end Tt
      refine ⟨none, 0, ?_, ?_⟩
      · first | (simp only [bytesM, h155, h156, cond_false]; done) | (simp only [bytesM, h155, h156, cond_false]; rfl) | (have hc0 : checkM true nk nv nc = 0 := (by assumption); simp only [bytesM, h155, h156, cond_true, hc0, decide_true, pageM]; done)
      · first | exact (Rd.nil _ _) | (exact Rd.eq (Rd.nil _ _) (by simp only [bytesM, h155, h156, cond_true, cond_false, pageM]))
    · -- Tf
      have h159 : decide ((checkM (true) (nk) (nv) (nc)) = (0)) = true := by rw [← Bool.not_not (decide _), h155]; rfl
      have p160 : ((checkM (true) (nk) (nv) (nc)) = (0)) := of_decide_eq_true h159
      have hs := check_stands (by assumption : checkM true nk nv nc = 0)
      have hz := check_size (by assumption : checkM true nk nv nc = 0)
      have hbs := body_size hs
      have hl := stands_leaf hs
      refine wp_skip (then_n (hK146 _ _ ?_))
      refine wp_seq_k (fun K161 hK161 => ?_)
      refine wp_reg ?_
      refine wpF_seg 1 (by kernel_rfl) ?_
      refine wpF_end _ (by kernel_rfl) (then_n (hK161 _ _ ?_))
      refine wp_seq_k (fun K162 hK162 => ?_)
      refine wp_seq_k (fun K163 hK163 => ?_)
      refine wp_reg ?_
      refine wpF_seg 1 (by kernel_rfl) ?_
      refine wpF_loadB hM152 #[.bool (true), .slice Ank (nk).length cnk, .slice Anv (nv).length cnv, .slice Anc (nc).length cnc] (fun i v hi => le151 _ _ _ (hc144 i v hi)) (h := (by kernel_rfl : opAt _ _ _ _ _ = some (Go.Op.load 4 (Go.Operand.tmp 13), some 14))) (off := 0) (by kernel_rfl) (.bool (true)) (by kernel_rfl) ?_
      refine wpF_end _ (by kernel_rfl) (then_n (hK163 _ _ ?_))
      refine wp_ct (by kernel_rfl) ?_
      refine wp_baseG [(1, .pointer (some ⟨b138, 0, none⟩)), (2, .slice none 0 0), (3, .int .i64 (0))] (by kernel_rfl) (fun g0_189 hg0_189 => ?_)
      obtain ⟨G189, hGm189, hG189_0, hG189_1, hG189_2, hG189_3, hG189_4, hG189_5, hG189_6, hG189_7⟩ : ∃ G : Nat → Value → VT → Prop, (∀ j v V V', VT.le V V' → G j v V → G j v V') ∧ (∀ v_ V_, G 0 v_ V_ ↔ (v_ = .slice none 0 0)) ∧ (∀ v_ V_, G 1 v_ V_ ↔ (∃ A164 : Option Addr, ∃ c165 : Nat, v_ = .slice A164 ([(76 : UInt8)]).length c165 ∧ (Rd byteK V_ A164 c165 ([(76 : UInt8)])))) ∧ (∀ v_ V_, G 2 v_ V_ ↔ (∃ A172 : Option Addr, ∃ c173 : Nat, v_ = .slice A172 (([] : List UInt8) ++ [(76 : UInt8)]).length c173)) ∧ (∀ v_ V_, G 3 v_ V_ ↔ (v_ = .pointer (some ⟨b138, 1, none⟩))) ∧ (∀ v_ V_, G 4 v_ V_ ↔ (v_ = .slice Ank (nk).length cnk)) ∧ (∀ v_ V_, G 5 v_ V_ ↔ (v_ = .int .i64 ((nk.length : Int)))) ∧ (∀ v_ V_, G 6 v_ V_ ↔ (∃ Ar185_1 : Option Addr, ∃ cr185_1 : Nat, v_ = .slice Ar185_1 (putM (([] : List UInt8) ++ [(76 : UInt8)]) ((nk.length : Int)) 2 2).length cr185_1)) ∧ (∀ v_ V_, G 7 v_ V_ ↔ (∃ A187 : Option Addr, ∃ c188 : Nat, v_ = .slice A187 (putM (([] : List UInt8) ++ [(76 : UInt8)]) ((nk.length : Int)) 2 2).length c188)) :=
          ⟨mG [mV (.slice none 0 0), mE fun A164 : Option Addr => mE fun c165 : Nat => mN (mV (.slice A164 ([(76 : UInt8)]).length c165)) (mR byteK A164 c165 ([(76 : UInt8)])), mE fun A172 : Option Addr => mE fun c173 : Nat => mV (.slice A172 (([] : List UInt8) ++ [(76 : UInt8)]).length c173), mV (.pointer (some ⟨b138, 1, none⟩)), mV (.slice Ank (nk).length cnk), mV (.int .i64 ((nk.length : Int))), mE fun Ar185_1 : Option Addr => mE fun cr185_1 : Nat => mV (.slice Ar185_1 (putM (([] : List UInt8) ++ [(76 : UInt8)]) ((nk.length : Int)) 2 2).length cr185_1), mE fun A187 : Option Addr => mE fun c188 : Nat => mV (.slice A187 (putM (([] : List UInt8) ++ [(76 : UInt8)]) ((nk.length : Int)) 2 2).length c188)], mG_up _, fun _ _ => Iff.rfl, fun _ _ => Iff.rfl, fun _ _ => Iff.rfl, fun _ _ => Iff.rfl, fun _ _ => Iff.rfl, fun _ _ => Iff.rfl, fun _ _ => Iff.rfl, fun _ _ => Iff.rfl⟩
      refine wp_drawG (L0 := [(1, .pointer (some ⟨b138, 0, none⟩)), (2, .slice none 0 0), (3, .int .i64 (0))]) 8 (by kernel_rfl) (by kernel_rfl) (by kernel_rfl) (by kernel_rfl) (by kernel_rfl) G189 hGm189 [(5, .slice none 0 0, 7)] (pre_cons ((hg0_189 5).trans (by kernel_rfl)) pre_nil) (by kernel_rfl) [2, 6, 7] (by kernel_rfl) (fun (S : Nat → Bool) (g : Nat → Value) => ((bif S 7 then [.row byteK 5 (addrOf (g 5)) (capOf (g 5)) (putM (([] : List UInt8) ++ [(76 : UInt8)]) ((nk.length : Int)) 2 2)] else (bif S 6 then [.row byteK 5 (addrOf (g 21)) (capOf (g 21)) (putM (([] : List UInt8) ++ [(76 : UInt8)]) ((nk.length : Int)) 2 2)] else (bif S 2 then [.row byteK 5 (addrOf (g 17)) (capOf (g 17)) (([] : List UInt8) ++ [(76 : UInt8)])] else []))) : List Ent)) (fun S S' g g' h_ => (cond_e (h_ 7 (by decide)).1 (fun hb_ => by simp only [(h_ 7 (by decide)).2 hb_ 5 (by kernel_rfl)]) (cond_e (h_ 6 (by decide)).1 (fun hb_ => by simp only [(h_ 6 (by decide)).2 hb_ 21 (by kernel_rfl)]) (cond_e (h_ 2 (by decide)).1 (fun hb_ => by simp only [(h_ 2 (by decide)).2 hb_ 17 (by kernel_rfl)]) rfl)))) hM152 ?_ ?_
      · -- the operations
        refine all_snoc (.inl ⟨by decide, fun S189_7 g189_7 V189_7 w189_7 cx189_7 hM189_7 => ?_⟩) ?_
        · -- op 7
          obtain ⟨A187, c188, hv6_V189_7⟩ : ∃ A187 : Option Addr, ∃ c188 : Nat, g189_7 21 = .slice A187 (putM (([] : List UInt8) ++ [(76 : UInt8)]) ((nk.length : Int)) 2 2).length c188 := (hG189_6 _ _).1 (cx189_7.fact 6 21 (by decide) (cx189_7.dep 6 (by kernel_rfl)) (by kernel_rfl))
          have hMa_189_7 : Step V w [] V189_7 _ [.row byteK 5 (addrOf (g189_7 21)) (capOf (g189_7 21)) (putM (([] : List UInt8) ++ [(76 : UInt8)]) ((nk.length : Int)) 2 2)] := hM189_7.eqE (Eq.trans (cond_f cx189_7.no) (cond_t (cx189_7.dep 6 (by kernel_rfl))))
          simp only [hv6_V189_7] at hMa_189_7
          have hMb_189_7 : Step V w [] V189_7 _ [.row byteK 5 A187 c188 (putM (([] : List UInt8) ++ [(76 : UInt8)]) ((nk.length : Int)) 2 2)] := hMa_189_7
          refine wpF_see 21 (.slice A187 (putM (([] : List UInt8) ++ [(76 : UInt8)]) ((nk.length : Int)) 2 2).length c188) (Eq.trans (by kernel_rfl) hv6_V189_7) ?_
          refine wpF_seg 1 (by kernel_rfl) ?_
          refine wpF_end _ (by kernel_rfl) (then_n ?_)
          exact one_in (some 5) (by kernel_rfl) (.slice A187 (putM (([] : List UInt8) ++ [(76 : UInt8)]) ((nk.length : Int)) 2 2).length c188) _ [(21, .slice A187 (putM (([] : List UInt8) ++ [(76 : UInt8)]) ((nk.length : Int)) 2 2).length c188)] (seen_cons (Eq.trans (by kernel_rfl) hv6_V189_7) seen_nil) (by kernel_rfl) (VT.le.refl _) (hMb_189_7.eqE (Eq.trans rfl (Eq.trans (by kernel_rfl) (Eq.symm (cond_t (upd_self _ _)))))) ((hG189_7 _ _).2 ⟨A187, c188, rfl⟩)
        refine all_snoc (.inl ⟨by decide, fun S189_6 g189_6 V189_6 w189_6 cx189_6 hM189_6 => ?_⟩) ?_
        · -- op 6
          obtain ⟨A172, c173, hv2_V189_6⟩ : ∃ A172 : Option Addr, ∃ c173 : Nat, g189_6 17 = .slice A172 (([] : List UInt8) ++ [(76 : UInt8)]).length c173 := (hG189_2 _ _).1 (cx189_6.fact 2 17 (by decide) (cx189_6.dep 2 (by kernel_rfl)) (by kernel_rfl))
          have hMa_189_6 : Step V w [] V189_6 _ [.row byteK 5 (addrOf (g189_6 17)) (capOf (g189_6 17)) (([] : List UInt8) ++ [(76 : UInt8)])] := hM189_6.eqE (Eq.trans (cond_f (cx189_6.notyet (c := 7) (fun hq_ => (cx189_6.cl 7 6 (by decide) hq_ (by kernel_rfl))))) (Eq.trans (cond_f cx189_6.no) (cond_t (cx189_6.dep 2 (by kernel_rfl)))))
          simp only [hv2_V189_6] at hMa_189_6
          have hMb_189_6 : Step V w [] V189_6 _ [.row byteK 5 A172 c173 (([] : List UInt8) ++ [(76 : UInt8)])] := hMa_189_6
          obtain hv5_V189_6 : g189_6 20 = .int .i64 ((nk.length : Int)) := (hG189_5 _ _).1 (cx189_6.fact 5 20 (by decide) (cx189_6.dep 5 (by kernel_rfl)) (by kernel_rfl))
          refine wpF_see 17 (.slice A172 (([] : List UInt8) ++ [(76 : UInt8)]).length c173) (Eq.trans (by kernel_rfl) hv2_V189_6) ?_
          refine wpF_see 20 (.int .i64 ((nk.length : Int))) (Eq.trans (by kernel_rfl) hv5_V189_6) ?_
          have hM177 := hMb_189_6.front 0 rfl
          have hM185 : Step V w [] V189_6 _ [.row byteK 5 A172 c173 (([] : List UInt8) ++ [(76 : UInt8)])] := hM177
          refine wpF_callE [.row byteK 5 A172 c173 (([] : List UInt8) ++ [(76 : UInt8)])] [] hM185 (f := 30) (caps := #[]) (h := (by kernel_rfl : opAt _ _ _ _ _ = some (Go.Op.call (Go.Call.mk (Go.Callee.value (Go.Operand.func 30)) #[(Go.Operand.tmp 17), (Go.Operand.tmp 20)] #[28, 3]), some 21))) (by kernel_rfl) (by kernel_rfl) (by kernel_rfl) (f30 _ _ A172 c173 (([] : List UInt8) ++ [(76 : UInt8)]) ((nk.length : Int)) (St.part (E := [.row byteK 5 A172 c173 (([] : List UInt8) ++ [(76 : UInt8)])]) (F := []) hM185.ok) (by omega) (by omega) (by first | omega | (simp only [putM_len, List.length_append, List.length_cons, List.length_nil]; omega) | (simp; done))) (fun v178 V179 w180 Eo181 le182 hM183 hp184 => ?_)
          obtain ⟨Ar185_1, cr185_1, rfl, rfl⟩ := hp184
          have hM186 : Step V w [] V179 _ [.row byteK 5 Ar185_1 cr185_1 (putM (([] : List UInt8) ++ [(76 : UInt8)]) ((nk.length : Int)) 2 2)] := hM183
          refine wpF_end _ (by kernel_rfl) (then_n ?_)
          exact one_in (some 21) (by kernel_rfl) (.slice Ar185_1 (putM (([] : List UInt8) ++ [(76 : UInt8)]) ((nk.length : Int)) 2 2).length cr185_1) _ [(20, .int .i64 ((nk.length : Int))), (17, .slice A172 (([] : List UInt8) ++ [(76 : UInt8)]).length c173)] (seen_cons (Eq.trans (by kernel_rfl) hv5_V189_6) (seen_cons (Eq.trans (by kernel_rfl) hv2_V189_6) seen_nil)) (by kernel_rfl) le182 (hM186.eqE (Eq.trans rfl (Eq.trans (by kernel_rfl) (Eq.symm (Eq.trans (cond_f (upd_f (by decide) (cx189_6.notyet (c := 7) (fun hq_ => (cx189_6.cl 7 6 (by decide) hq_ (by kernel_rfl)))))) (cond_t (upd_self _ _))))))) ((hG189_6 _ _).2 ⟨Ar185_1, cr185_1, rfl⟩)
        refine all_snoc (.inr ⟨by decide, fun S189_5 g189_5 V189_5 w189_5 F189_5 cx189_5 hM189_5 => ?_⟩) ?_
        · -- op 5
          obtain hv4_V189_5 : g189_5 19 = .slice Ank (nk).length cnk := (hG189_4 _ _).1 (cx189_5.fact 4 19 (by decide) (cx189_5.dep 4 (by kernel_rfl)) (by kernel_rfl))
          refine wpF_see 19 (.slice Ank (nk).length cnk) (Eq.trans (by kernel_rfl) hv4_V189_5) ?_
          refine wpF_seg 1 (by kernel_rfl) ?_
          refine wpF_end _ (by kernel_rfl) (then_n ?_)
          exact one_in (some 20) (by kernel_rfl) (.int .i64 ((nk.length : Int))) _ [(19, .slice Ank (nk).length cnk)] (seen_cons (Eq.trans (by kernel_rfl) hv4_V189_5) seen_nil) (by kernel_rfl) (VT.le.refl _) hM189_5 ((hG189_5 _ _).2 rfl)
        refine all_snoc (.inr ⟨by decide, fun S189_4 g189_4 V189_4 w189_4 F189_4 cx189_4 hM189_4 => ?_⟩) ?_
        · -- op 4
          obtain hv3_V189_4 : g189_4 18 = .pointer (some ⟨b138, 1, none⟩) := (hG189_3 _ _).1 (cx189_4.fact 3 18 (by decide) (cx189_4.dep 3 (by kernel_rfl)) (by kernel_rfl))
          refine wpF_see 18 (.pointer (some ⟨b138, 1, none⟩)) (Eq.trans (by kernel_rfl) hv3_V189_4) ?_
          refine wpF_loadB hM189_4 #[.bool (true), .slice Ank (nk).length cnk, .slice Anv (nv).length cnv, .slice Anc (nc).length cnc] (fun i v hi => (le151.trans cx189_4.le) _ _ _ (hc144 i v hi)) (h := (by kernel_rfl : opAt _ _ _ _ _ = some (Go.Op.load 22 (Go.Operand.tmp 18), some 19))) (off := 1) (by kernel_rfl) (.slice Ank (nk).length cnk) (by kernel_rfl) ?_
          refine wpF_end _ (by kernel_rfl) (then_n ?_)
          exact one_in (some 19) (by kernel_rfl) (.slice Ank (nk).length cnk) _ [(18, .pointer (some ⟨b138, 1, none⟩))] (seen_cons (Eq.trans (by kernel_rfl) hv3_V189_4) seen_nil) (by kernel_rfl) (VT.le.refl _) hM189_4 ((hG189_4 _ _).2 rfl)
        refine all_snoc (.inr ⟨by decide, fun S189_3 g189_3 V189_3 w189_3 F189_3 cx189_3 hM189_3 => ?_⟩) ?_
        · -- op 3
          refine wpF_seg 1 (by kernel_rfl) ?_
          refine wpF_end _ (by kernel_rfl) (then_n ?_)
          exact one_in (some 18) (by kernel_rfl) (.pointer (some ⟨b138, 1, none⟩)) _ [] seen_nil (by kernel_rfl) (VT.le.refl _) hM189_3 ((hG189_3 _ _).2 rfl)
        refine all_snoc (.inl ⟨by decide, fun S189_2 g189_2 V189_2 w189_2 cx189_2 hM189_2 => ?_⟩) ?_
        · -- op 2
          have hMa_189_2 : Step V w [] V189_2 _ [] := hM189_2.eqE (Eq.trans (cond_f (cx189_2.notyet (c := 7) (fun hq_ => (cx189_2.cl 7 2 (by decide) hq_ (by kernel_rfl))))) (Eq.trans (cond_f (cx189_2.notyet (c := 6) (fun hq_ => (cx189_2.cl 6 2 (by decide) hq_ (by kernel_rfl))))) (Eq.trans (cond_f cx189_2.no) rfl)))
          have hMb_189_2 : Step V w [] V189_2 _ [] := hMa_189_2
          obtain hv0_V189_2 : g189_2 15 = .slice none 0 0 := (hG189_0 _ _).1 (cx189_2.fact 0 15 (by decide) (cx189_2.dep 0 (by kernel_rfl)) (by kernel_rfl))
          obtain ⟨A164, c165, hv1_V189_2, r170⟩ : ∃ A164 : Option Addr, ∃ c165 : Nat, g189_2 16 = .slice A164 ([(76 : UInt8)]).length c165 ∧ (Rd byteK V189_2 A164 c165 ([(76 : UInt8)])) := (hG189_1 _ _).1 (cx189_2.fact 1 16 (by decide) (cx189_2.dep 1 (by kernel_rfl)) (by kernel_rfl))
          refine wpF_see 15 (.slice none 0 0) (Eq.trans (by kernel_rfl) hv0_V189_2) ?_
          refine wpF_see 16 (.slice A164 ([(76 : UInt8)]).length c165) (Eq.trans (by kernel_rfl) hv1_V189_2) ?_
          have hM171 := hMb_189_2.nilrow byteK 5
          refine wpF_append (by_ := 1) hM171 0 rfl (h := (by kernel_rfl : opAt _ _ _ _ _ = some (Go.Op.call (Go.Call.mk (Go.Callee.builtin Go.Builtin.append) #[(Go.Operand.tmp 15), (Go.Operand.tmp 16)] #[28, 28]), some 17))) (by kernel_rfl) (by kernel_rfl) (by kernel_rfl) (by kernel_rfl) (by kernel_rfl) (by kernel_rfl) (by kernel_rfl) (Src.rd r170) (by first | omega | (simp only [putM_len, List.length_append, List.length_cons, List.length_nil]; omega)) (fun A172 c173 w174 hM175 => ?_)
          have hM176 : Step V w [] V189_2 _ [.row byteK 5 A172 c173 (([] : List UInt8) ++ [(76 : UInt8)])] := hM175
          refine wpF_end _ (by kernel_rfl) (then_n ?_)
          exact one_in (some 17) (by kernel_rfl) (.slice A172 (([] : List UInt8) ++ [(76 : UInt8)]).length c173) _ [(16, .slice A164 ([(76 : UInt8)]).length c165), (15, .slice none 0 0)] (seen_cons (Eq.trans (by kernel_rfl) hv1_V189_2) (seen_cons (Eq.trans (by kernel_rfl) hv0_V189_2) seen_nil)) (by kernel_rfl) (VT.le.refl _) (hM176.eqE (Eq.trans rfl (Eq.trans (by kernel_rfl) (Eq.symm (Eq.trans (cond_f (upd_f (by decide) (cx189_2.notyet (c := 7) (fun hq_ => (cx189_2.cl 7 2 (by decide) hq_ (by kernel_rfl)))))) (Eq.trans (cond_f (upd_f (by decide) (cx189_2.notyet (c := 6) (fun hq_ => (cx189_2.cl 6 2 (by decide) hq_ (by kernel_rfl)))))) (cond_t (upd_self _ _)))))))) ((hG189_2 _ _).2 ⟨A172, c173, rfl⟩)
        refine all_snoc (.inr ⟨by decide, fun S189_1 g189_1 V189_1 w189_1 F189_1 cx189_1 hM189_1 => ?_⟩) ?_
        · -- op 1
          refine wpF_litR byteK hM189_1 #[.int .u8 (76)] (h := (by kernel_rfl : opAt _ _ _ _ _ = some (Go.Op.buildSlice 28 1 #[(0, (Go.Operand.const (Go.Value.int Go.IntKind.u8 76)))], some 16))) (e := 5) (by kernel_rfl) ([(76 : UInt8)]) Reps.one_byte rfl (by simp [maxL]) (fun A164 c165 V168 w166 le169 hM167 r170 => ?_)
          refine wpF_end _ (by kernel_rfl) (then_n ?_)
          exact one_in (some 16) (by kernel_rfl) (.slice A164 ([(76 : UInt8)]).length c165) _ [] seen_nil (by kernel_rfl) le169 hM167 ((hG189_1 _ _).2 ⟨A164, c165, rfl, r170⟩)
        refine all_snoc (.inr ⟨by decide, fun S189_0 g189_0 V189_0 w189_0 F189_0 cx189_0 hM189_0 => ?_⟩) ?_
        · -- op 0
          have hp5_189_0 : g189_0 5 = .slice none 0 0 := cx189_0.pre 5 _ 7 (List.Mem.head _) (cx189_0.notyet (c := 7) (fun hq_ => (cx189_0.cl 7 0 (by decide) hq_ (by kernel_rfl))))
          refine wpF_see 5 (.slice none 0 0) (Eq.trans (by kernel_rfl) hp5_189_0) ?_
          refine wpF_seg 1 (by kernel_rfl) ?_
          refine wpF_end _ (by kernel_rfl) (then_n ?_)
          exact one_in (some 15) (by kernel_rfl) (.slice none 0 0) _ [(5, .slice none 0 0)] (seen_cons (Eq.trans (by kernel_rfl) hp5_189_0) seen_nil) (by kernel_rfl) (VT.le.refl _) hM189_0 ((hG189_0 _ _).2 rfl)
        exact all_none
      · -- behind it
        intro ge189 Ve189 we189 hMe189 hle189 hf189
        refine wpF_stop (P := Try.prog) (ops := #[]) (i := 0) _ rfl ?_
        obtain ⟨A187, c188, hv7_Ve189⟩ : ∃ A187 : Option Addr, ∃ c188 : Nat, ge189 5 = .slice A187 (putM (([] : List UInt8) ++ [(76 : UInt8)]) ((nk.length : Int)) 2 2).length c188 := (hG189_7 _ _).1 (hf189 7 5 (by decide) (by kernel_rfl))
        obtain hv0_Ve189 : ge189 15 = .slice none 0 0 := (hG189_0 _ _).1 (hf189 0 15 (by decide) (by kernel_rfl))
        obtain ⟨A164, c165, hv1_Ve189, r170⟩ : ∃ A164 : Option Addr, ∃ c165 : Nat, ge189 16 = .slice A164 ([(76 : UInt8)]).length c165 ∧ (Rd byteK Ve189 A164 c165 ([(76 : UInt8)])) := (hG189_1 _ _).1 (hf189 1 16 (by decide) (by kernel_rfl))
        obtain ⟨A172, c173, hv2_Ve189⟩ : ∃ A172 : Option Addr, ∃ c173 : Nat, ge189 17 = .slice A172 (([] : List UInt8) ++ [(76 : UInt8)]).length c173 := (hG189_2 _ _).1 (hf189 2 17 (by decide) (by kernel_rfl))
        obtain hv3_Ve189 : ge189 18 = .pointer (some ⟨b138, 1, none⟩) := (hG189_3 _ _).1 (hf189 3 18 (by decide) (by kernel_rfl))
        obtain hv4_Ve189 : ge189 19 = .slice Ank (nk).length cnk := (hG189_4 _ _).1 (hf189 4 19 (by decide) (by kernel_rfl))
        obtain hv5_Ve189 : ge189 20 = .int .i64 ((nk.length : Int)) := (hG189_5 _ _).1 (hf189 5 20 (by decide) (by kernel_rfl))
        obtain ⟨Ar185_1, cr185_1, hv6_Ve189⟩ : ∃ Ar185_1 : Option Addr, ∃ cr185_1 : Nat, ge189 21 = .slice Ar185_1 (putM (([] : List UInt8) ++ [(76 : UInt8)]) ((nk.length : Int)) 2 2).length cr185_1 := (hG189_6 _ _).1 (hf189 6 21 (by decide) (by kernel_rfl))
        have hM191 : Step V w [] Ve189 _ [.row byteK 5 (addrOf (ge189 5)) (capOf (ge189 5)) (putM (([] : List UInt8) ++ [(76 : UInt8)]) ((nk.length : Int)) 2 2)] := hMe189
        simp only [hv7_Ve189] at hM191
        have hM192 : Step V w [] Ve189 _ [.row byteK 5 A187 c188 (putM (([] : List UInt8) ++ [(76 : UInt8)]) ((nk.length : Int)) 2 2)] := hM191
        refine wpF_see 5 (.slice A187 (putM (([] : List UInt8) ++ [(76 : UInt8)]) ((nk.length : Int)) 2 2).length c188) (Eq.trans (by kernel_rfl) hv7_Ve189) ?_
        refine wpF_see 15 (.slice none 0 0) (Eq.trans (by kernel_rfl) hv0_Ve189) ?_
        refine wpF_see 16 (.slice A164 ([(76 : UInt8)]).length c165) (Eq.trans (by kernel_rfl) hv1_Ve189) ?_
        refine wpF_see 17 (.slice A172 (([] : List UInt8) ++ [(76 : UInt8)]).length c173) (Eq.trans (by kernel_rfl) hv2_Ve189) ?_
        refine wpF_see 18 (.pointer (some ⟨b138, 1, none⟩)) (Eq.trans (by kernel_rfl) hv3_Ve189) ?_
        refine wpF_see 19 (.slice Ank (nk).length cnk) (Eq.trans (by kernel_rfl) hv4_Ve189) ?_
        refine wpF_see 20 (.int .i64 ((nk.length : Int))) (Eq.trans (by kernel_rfl) hv5_Ve189) ?_
        refine wpF_see 21 (.slice Ar185_1 (putM (([] : List UInt8) ++ [(76 : UInt8)]) ((nk.length : Int)) 2 2).length cr185_1) (Eq.trans (by kernel_rfl) hv6_Ve189) ?_
        refine wpF_end _ (by kernel_rfl) (then_n (hK162 _ _ ?_))
        refine wp_seq_k (fun K194 hK194 => ?_)
        refine wp_seq_k (fun K195 hK195 => ?_)
        refine wp_reg ?_
        refine wpF_seg 1 (by kernel_rfl) ?_
        refine wpF_loadB hM192 #[.bool (true), .slice Ank (nk).length cnk, .slice Anv (nv).length cnv, .slice Anc (nc).length cnc] (fun i v hi => (le151.trans hle189) _ _ _ (hc144 i v hi)) (h := (by kernel_rfl : opAt _ _ _ _ _ = some (Go.Op.load 22 (Go.Operand.tmp 34), some 35))) (off := 1) (by kernel_rfl) (.slice Ank (nk).length cnk) (by kernel_rfl) ?_
        refine wpF_seg 2 (by kernel_rfl) ?_
        refine wpF_end _ (by kernel_rfl) (then_n (hK195 _ _ ?_))
        refine wp_block ?_
        refine wp_base [(1, .pointer (some ⟨b138, 0, none⟩)), (2, .slice none 0 0), (3, .int .i64 (0)), (5, .slice A187 (bodyM true nk nv nc (0)).length c188), (35, .slice Ank (nk).length cnk), (36, .int .i64 ((nk.length : Int))), (37, .int .i64 ((0 : Int)))] (by kernel_rfl) (fun g197 => ?_)
        refine wp_loopX (fun (x_ : Nat) a_ w_ => ∃ (g : Nat → Value) (V_ : VT), ∃ (Ar5 : Option Addr) (cr5 : Nat), a_ = env 78 [(1, .pointer (some ⟨b138, 0, none⟩)), (2, .slice none 0 0), (3, .int .i64 (0)), (5, .slice Ar5 (bodyM true nk nv nc (x_)).length cr5), (35, .slice Ank (nk).length cnk), (36, .int .i64 ((nk.length : Int))), (37, .int .i64 ((x_ : Int)))] g ∧ Step V w [] V_ w_ [.row byteK 5 Ar5 cr5 (bodyM true nk nv nc (x_))] ∧ VT.le Ve189 V_ ∧ (x_ ≤ nk.length) ∧ ((bodyM true nk nv nc (x_)).length ≤ 7 + 400 * (x_))) (fun (x_ : Nat) => nk.length - x_) (0) ⟨g197, Ve189, _, _, rfl, hM192, VT.le.refl _, by omega, by (simp only [bodyM, headM, cond_true, cond_false, putM_len, List.length_cons, List.length_nil]; omega)⟩ ?_
        rintro k a_ w199 ⟨g198, Vl196, Ar_2025, cr_2025, rfl, hM200, le201, hi202_0, hi202_1⟩ K202 hK202
        refine wp_seq_k (fun K203 hK203 => ?_)
        refine wp_reg ?_
        refine wpF_seg 1 (by kernel_rfl) ?_
        refine wpF_end _ (by kernel_rfl) (then_n (hK203 _ _ ?_))
        refine wp_seq_k (fun K204 hK204 => ?_)
        refine wp_if (decide (((k : Int)) < ((nk.length : Int)))) (by kernel_rfl) (fun h205 => ?_) (fun h205 => ?_)
        · -- TfLt
          have p206 : (((k : Int)) < ((nk.length : Int))) := of_decide_eq_true h205
          have hks := key_short hs (k := k) (by omega)
          have hvs := hl.2.2 k (by omega)
          refine wp_skip (then_n (hK204 _ _ ?_))
          refine wp_seq_k (fun K207 hK207 => ?_)
          refine wp_block ?_
          refine wp_seq_k (fun K208 hK208 => ?_)
          refine wp_reg ?_
          refine wpF_seg 1 (by kernel_rfl) ?_
          refine wpF_index (A := Ank) (c := cnk) (hnk.up hM200.le) .i64 ((k : Int)) (h := (by kernel_rfl : opAt _ _ _ _ _ = some (Go.Op.indexAddr 22 (Go.Operand.tmp 35) (Go.Operand.tmp 37), some 40))) (e := 9) (by kernel_rfl) (by kernel_rfl) (by kernel_rfl) (k) rfl (by omega) (fun b209 o210 at_b209 => ?_)
          have c211 : Vl196 b209 o210 = some (bs (nk.getD (k) [])) := (At.str at_b209).1
          have l212 : (nk.getD (k) []).length ≤ 140737488355328 := (At.str at_b209).2
          refine wpF_loadV hM200 c211 (h := (by kernel_rfl : opAt _ _ _ _ _ = some (Go.Op.load 9 (Go.Operand.tmp 40), some 41))) (by kernel_rfl) (by kernel_rfl) ?_
          refine wpF_seg 2 (by kernel_rfl) ?_
          refine wpF_end _ (by kernel_rfl) (then_n (hK208 _ _ ?_))
          refine wp_seq_k (fun K213 hK213 => ?_)
          refine wp_reg ?_
          refine wpF_seg 3 (by kernel_rfl) ?_
          have hM214 := hM200.front 0 rfl
          have hM222 : Step V w [] Vl196 _ [.row byteK 5 Ar_2025 cr_2025 (bodyM true nk nv nc (k))] := hM214
          refine wpF_callE [.row byteK 5 Ar_2025 cr_2025 (bodyM true nk nv nc (k))] [] hM222 (f := 32) (caps := #[]) (h := (by kernel_rfl : opAt _ _ _ _ _ = some (Go.Op.call (Go.Call.mk (Go.Callee.value (Go.Operand.func 32)) #[(Go.Operand.tmp 42), (Go.Operand.tmp 44)] #[28, 3]), some 45))) (by kernel_rfl) (by kernel_rfl) (by kernel_rfl) (f32 _ _ Ar_2025 cr_2025 (bodyM true nk nv nc (k)) ((((nk.getD (k) [])).length : Int)) (St.part (E := [.row byteK 5 Ar_2025 cr_2025 (bodyM true nk nv nc (k))]) (F := []) hM222.ok) (by omega) (by omega) (by first | omega | (simp only [putM_len, List.length_append, List.length_cons, List.length_nil]; omega) | (simp; done))) (fun v215 V216 w217 Eo218 le219 hM220 hp221 => ?_)
          obtain ⟨Ar222_1, cr222_1, rfl, rfl⟩ := hp221
          have hM223 : Step V w [] V216 _ [.row byteK 5 Ar222_1 cr222_1 (putM (bodyM true nk nv nc (k)) ((((nk.getD (k) [])).length : Int)) 1 1)] := hM220
          refine wpF_seg 1 (by kernel_rfl) ?_
          refine wpF_append (by_ := 1) hM223 0 rfl (h := (by kernel_rfl : opAt _ _ _ _ _ = some (Go.Op.call (Go.Call.mk (Go.Callee.builtin Go.Builtin.append) #[(Go.Operand.tmp 45), (Go.Operand.tmp 46)] #[28, 9]), some 47))) (by kernel_rfl) (by kernel_rfl) (by kernel_rfl) (by kernel_rfl) (by kernel_rfl) (by kernel_rfl) (by kernel_rfl) (Src.str ((nk.getD (k) []))) (by first | omega | (simp only [putM_len, List.length_append, List.length_cons, List.length_nil]; omega)) (fun A224 c225 w226 hM227 => ?_)
          have hM228 : Step V w [] V216 _ [.row byteK 5 A224 c225 (putM (bodyM true nk nv nc (k)) ((((nk.getD (k) [])).length : Int)) 1 1 ++ (nk.getD (k) []))] := hM227
          refine wpF_seg 1 (by kernel_rfl) ?_
          refine wpF_end _ (by kernel_rfl) (then_n (hK213 _ _ ?_))
          refine wp_seq_k (fun K229 hK229 => ?_)
          refine wp_reg ?_
          refine wpF_seg 1 (by kernel_rfl) ?_
          refine wpF_loadB hM228 #[.bool (true), .slice Ank (nk).length cnk, .slice Anv (nv).length cnv, .slice Anc (nc).length cnc] (fun i v hi => (((le151.trans hle189).trans le201).trans le219) _ _ _ (hc144 i v hi)) (h := (by kernel_rfl : opAt _ _ _ _ _ = some (Go.Op.load 4 (Go.Operand.tmp 48), some 49))) (off := 0) (by kernel_rfl) (.bool (true)) (by kernel_rfl) ?_
          refine wpF_end _ (by kernel_rfl) (then_n (hK229 _ _ ?_))
          refine wp_ct (by kernel_rfl) ?_
          refine wp_baseG [(1, .pointer (some ⟨b138, 0, none⟩)), (2, .slice none 0 0), (3, .int .i64 (0)), (6, .int .i64 ((k : Int))), (7, bs ((nk.getD (k) []))), (35, .slice Ank (nk).length cnk), (36, .int .i64 ((nk.length : Int))), (37, .int .i64 ((k : Int))), (38, .bool (decide (((k : Int)) < ((nk.length : Int))))), (39, .int .i64 ((k : Int))), (40, .pointer (some ⟨b209, o210, none⟩)), (41, bs ((nk.getD (k) []))), (42, .slice Ar_2025 (bodyM true nk nv nc (k)).length cr_2025), (43, bs ((nk.getD (k) []))), (44, .int .i64 ((((nk.getD (k) [])).length : Int))), (45, .slice Ar222_1 (putM (bodyM true nk nv nc (k)) ((((nk.getD (k) [])).length : Int)) 1 1).length cr222_1), (46, bs ((nk.getD (k) []))), (47, .slice A224 (putM (bodyM true nk nv nc (k)) ((((nk.getD (k) [])).length : Int)) 1 1 ++ (nk.getD (k) [])).length c225), (48, .pointer (some ⟨b138, 0, none⟩)), (49, .bool (true))] (by kernel_rfl) (fun g0_255 hg0_255 => ?_)
          obtain ⟨G255, hGm255, hG255_0, hG255_1, hG255_2, hG255_3, hG255_4, hG255_5, hG255_6, hG255_7, hG255_8, hG255_9, hG255_10, hG255_11, hG255_12, hG255_13, hG255_14⟩ : ∃ G : Nat → Value → VT → Prop, (∀ j v V V', VT.le V V' → G j v V → G j v V') ∧ (∀ v_ V_, G 0 v_ V_ ↔ (v_ = .slice A224 (putM (bodyM true nk nv nc (k)) ((((nk.getD (k) [])).length : Int)) 1 1 ++ (nk.getD (k) [])).length c225)) ∧ (∀ v_ V_, G 1 v_ V_ ↔ (v_ = .pointer (some ⟨b138, 2, none⟩))) ∧ (∀ v_ V_, G 2 v_ V_ ↔ (v_ = .slice Anv (nv).length cnv)) ∧ (∀ v_ V_, G 3 v_ V_ ↔ (v_ = .int .i64 ((k : Int)))) ∧ (∀ v_ V_, G 4 v_ V_ ↔ (∃ b230 : Nat, ∃ o231 : Nat, v_ = .pointer (some ⟨b230, o231, none⟩) ∧ (At strK V_ b230 o231 ((nv.getD (k) []))) ∧ ((nv.getD (k) []).length ≤ 140737488355328))) ∧ (∀ v_ V_, G 5 v_ V_ ↔ (v_ = bs ((nv.getD (k) [])) ∧ ((nv.getD (k) []).length ≤ 140737488355328))) ∧ (∀ v_ V_, G 6 v_ V_ ↔ (v_ = .int .i64 ((((nv.getD (k) [])).length : Int)) ∧ ((nv.getD (k) []).length ≤ 140737488355328))) ∧ (∀ v_ V_, G 7 v_ V_ ↔ (∃ Ar242_1 : Option Addr, ∃ cr242_1 : Nat, v_ = .slice Ar242_1 (putM (putM (bodyM true nk nv nc (k)) ((((nk.getD (k) [])).length : Int)) 1 1 ++ (nk.getD (k) [])) ((((nv.getD (k) [])).length : Int)) 2 2).length cr242_1)) ∧ (∀ v_ V_, G 8 v_ V_ ↔ (v_ = .pointer (some ⟨b138, 2, none⟩))) ∧ (∀ v_ V_, G 9 v_ V_ ↔ (v_ = .slice Anv (nv).length cnv)) ∧ (∀ v_ V_, G 10 v_ V_ ↔ (v_ = .int .i64 ((k : Int)))) ∧ (∀ v_ V_, G 11 v_ V_ ↔ (∃ b244 : Nat, ∃ o245 : Nat, v_ = .pointer (some ⟨b244, o245, none⟩) ∧ (At strK V_ b244 o245 ((nv.getD (k) []))) ∧ ((nv.getD (k) []).length ≤ 140737488355328))) ∧ (∀ v_ V_, G 12 v_ V_ ↔ (v_ = bs ((nv.getD (k) [])) ∧ ((nv.getD (k) []).length ≤ 140737488355328))) ∧ (∀ v_ V_, G 13 v_ V_ ↔ (∃ A248 : Option Addr, ∃ c249 : Nat, v_ = .slice A248 (putM (putM (bodyM true nk nv nc (k)) ((((nk.getD (k) [])).length : Int)) 1 1 ++ (nk.getD (k) [])) ((((nv.getD (k) [])).length : Int)) 2 2 ++ (nv.getD (k) [])).length c249)) ∧ (∀ v_ V_, G 14 v_ V_ ↔ (∃ A253 : Option Addr, ∃ c254 : Nat, v_ = .slice A253 (putM (putM (bodyM true nk nv nc (k)) ((((nk.getD (k) [])).length : Int)) 1 1 ++ (nk.getD (k) [])) ((((nv.getD (k) [])).length : Int)) 2 2 ++ (nv.getD (k) [])).length c254)) :=
              ⟨mG [mV (.slice A224 (putM (bodyM true nk nv nc (k)) ((((nk.getD (k) [])).length : Int)) 1 1 ++ (nk.getD (k) [])).length c225), mV (.pointer (some ⟨b138, 2, none⟩)), mV (.slice Anv (nv).length cnv), mV (.int .i64 ((k : Int))), mE fun b230 : Nat => mE fun o231 : Nat => mN (mV (.pointer (some ⟨b230, o231, none⟩))) (mN (mA strK b230 o231 ((nv.getD (k) []))) (mP ((nv.getD (k) []).length ≤ 140737488355328))), mN (mV (bs ((nv.getD (k) [])))) (mP ((nv.getD (k) []).length ≤ 140737488355328)), mN (mV (.int .i64 ((((nv.getD (k) [])).length : Int)))) (mP ((nv.getD (k) []).length ≤ 140737488355328)), mE fun Ar242_1 : Option Addr => mE fun cr242_1 : Nat => mV (.slice Ar242_1 (putM (putM (bodyM true nk nv nc (k)) ((((nk.getD (k) [])).length : Int)) 1 1 ++ (nk.getD (k) [])) ((((nv.getD (k) [])).length : Int)) 2 2).length cr242_1), mV (.pointer (some ⟨b138, 2, none⟩)), mV (.slice Anv (nv).length cnv), mV (.int .i64 ((k : Int))), mE fun b244 : Nat => mE fun o245 : Nat => mN (mV (.pointer (some ⟨b244, o245, none⟩))) (mN (mA strK b244 o245 ((nv.getD (k) []))) (mP ((nv.getD (k) []).length ≤ 140737488355328))), mN (mV (bs ((nv.getD (k) [])))) (mP ((nv.getD (k) []).length ≤ 140737488355328)), mE fun A248 : Option Addr => mE fun c249 : Nat => mV (.slice A248 (putM (putM (bodyM true nk nv nc (k)) ((((nk.getD (k) [])).length : Int)) 1 1 ++ (nk.getD (k) [])) ((((nv.getD (k) [])).length : Int)) 2 2 ++ (nv.getD (k) [])).length c249), mE fun A253 : Option Addr => mE fun c254 : Nat => mV (.slice A253 (putM (putM (bodyM true nk nv nc (k)) ((((nk.getD (k) [])).length : Int)) 1 1 ++ (nk.getD (k) [])) ((((nv.getD (k) [])).length : Int)) 2 2 ++ (nv.getD (k) [])).length c254)], mG_up _, fun _ _ => Iff.rfl, fun _ _ => Iff.rfl, fun _ _ => Iff.rfl, fun _ _ => Iff.rfl, fun _ _ => Iff.rfl, fun _ _ => Iff.rfl, fun _ _ => Iff.rfl, fun _ _ => Iff.rfl, fun _ _ => Iff.rfl, fun _ _ => Iff.rfl, fun _ _ => Iff.rfl, fun _ _ => Iff.rfl, fun _ _ => Iff.rfl, fun _ _ => Iff.rfl, fun _ _ => Iff.rfl⟩
          refine wp_drawG (L0 := [(1, .pointer (some ⟨b138, 0, none⟩)), (2, .slice none 0 0), (3, .int .i64 (0)), (6, .int .i64 ((k : Int))), (7, bs ((nk.getD (k) []))), (35, .slice Ank (nk).length cnk), (36, .int .i64 ((nk.length : Int))), (37, .int .i64 ((k : Int))), (38, .bool (decide (((k : Int)) < ((nk.length : Int))))), (39, .int .i64 ((k : Int))), (40, .pointer (some ⟨b209, o210, none⟩)), (41, bs ((nk.getD (k) []))), (42, .slice Ar_2025 (bodyM true nk nv nc (k)).length cr_2025), (43, bs ((nk.getD (k) []))), (44, .int .i64 ((((nk.getD (k) [])).length : Int))), (45, .slice Ar222_1 (putM (bodyM true nk nv nc (k)) ((((nk.getD (k) [])).length : Int)) 1 1).length cr222_1), (46, bs ((nk.getD (k) []))), (47, .slice A224 (putM (bodyM true nk nv nc (k)) ((((nk.getD (k) [])).length : Int)) 1 1 ++ (nk.getD (k) [])).length c225), (48, .pointer (some ⟨b138, 0, none⟩)), (49, .bool (true))]) 15 (by kernel_rfl) (by kernel_rfl) (by kernel_rfl) (by kernel_rfl) (by kernel_rfl) G255 hGm255 [(5, .slice A224 (putM (bodyM true nk nv nc (k)) ((((nk.getD (k) [])).length : Int)) 1 1 ++ (nk.getD (k) [])).length c225, 14)] (pre_cons ((hg0_255 5).trans (by kernel_rfl)) pre_nil) (by kernel_rfl) [7, 13, 14] (by kernel_rfl) (fun (S : Nat → Bool) (g : Nat → Value) => ((bif S 14 then [.row byteK 5 (addrOf (g 5)) (capOf (g 5)) (putM (putM (bodyM true nk nv nc (k)) ((((nk.getD (k) [])).length : Int)) 1 1 ++ (nk.getD (k) [])) ((((nv.getD (k) [])).length : Int)) 2 2 ++ (nv.getD (k) []))] else (bif S 13 then [.row byteK 5 (addrOf (g 63)) (capOf (g 63)) (putM (putM (bodyM true nk nv nc (k)) ((((nk.getD (k) [])).length : Int)) 1 1 ++ (nk.getD (k) [])) ((((nv.getD (k) [])).length : Int)) 2 2 ++ (nv.getD (k) []))] else (bif S 7 then [.row byteK 5 (addrOf (g 57)) (capOf (g 57)) (putM (putM (bodyM true nk nv nc (k)) ((((nk.getD (k) [])).length : Int)) 1 1 ++ (nk.getD (k) [])) ((((nv.getD (k) [])).length : Int)) 2 2)] else [.row byteK 5 A224 c225 (putM (bodyM true nk nv nc (k)) ((((nk.getD (k) [])).length : Int)) 1 1 ++ (nk.getD (k) []))]))) : List Ent)) (fun S S' g g' h_ => (cond_e (h_ 14 (by decide)).1 (fun hb_ => by simp only [(h_ 14 (by decide)).2 hb_ 5 (by kernel_rfl)]) (cond_e (h_ 13 (by decide)).1 (fun hb_ => by simp only [(h_ 13 (by decide)).2 hb_ 63 (by kernel_rfl)]) (cond_e (h_ 7 (by decide)).1 (fun hb_ => by simp only [(h_ 7 (by decide)).2 hb_ 57 (by kernel_rfl)]) rfl)))) hM228 ?_ ?_
          · -- the operations
            refine all_snoc (.inl ⟨by decide, fun S255_14 g255_14 V255_14 w255_14 cx255_14 hM255_14 => ?_⟩) ?_
            · -- op 14
              obtain ⟨A253, c254, hv13_V255_14⟩ : ∃ A253 : Option Addr, ∃ c254 : Nat, g255_14 63 = .slice A253 (putM (putM (bodyM true nk nv nc (k)) ((((nk.getD (k) [])).length : Int)) 1 1 ++ (nk.getD (k) [])) ((((nv.getD (k) [])).length : Int)) 2 2 ++ (nv.getD (k) [])).length c254 := (hG255_13 _ _).1 (cx255_14.fact 13 63 (by decide) (cx255_14.dep 13 (by kernel_rfl)) (by kernel_rfl))
              have hMa_255_14 : Step V w [] V255_14 _ [.row byteK 5 (addrOf (g255_14 63)) (capOf (g255_14 63)) (putM (putM (bodyM true nk nv nc (k)) ((((nk.getD (k) [])).length : Int)) 1 1 ++ (nk.getD (k) [])) ((((nv.getD (k) [])).length : Int)) 2 2 ++ (nv.getD (k) []))] := hM255_14.eqE (Eq.trans (cond_f cx255_14.no) (cond_t (cx255_14.dep 13 (by kernel_rfl))))
              simp only [hv13_V255_14] at hMa_255_14
              have hMb_255_14 : Step V w [] V255_14 _ [.row byteK 5 A253 c254 (putM (putM (bodyM true nk nv nc (k)) ((((nk.getD (k) [])).length : Int)) 1 1 ++ (nk.getD (k) [])) ((((nv.getD (k) [])).length : Int)) 2 2 ++ (nv.getD (k) []))] := hMa_255_14
              refine wpF_see 63 (.slice A253 (putM (putM (bodyM true nk nv nc (k)) ((((nk.getD (k) [])).length : Int)) 1 1 ++ (nk.getD (k) [])) ((((nv.getD (k) [])).length : Int)) 2 2 ++ (nv.getD (k) [])).length c254) (Eq.trans (by kernel_rfl) hv13_V255_14) ?_
              refine wpF_seg 1 (by kernel_rfl) ?_
              refine wpF_end _ (by kernel_rfl) (then_n ?_)
              exact one_in (some 5) (by kernel_rfl) (.slice A253 (putM (putM (bodyM true nk nv nc (k)) ((((nk.getD (k) [])).length : Int)) 1 1 ++ (nk.getD (k) [])) ((((nv.getD (k) [])).length : Int)) 2 2 ++ (nv.getD (k) [])).length c254) _ [(63, .slice A253 (putM (putM (bodyM true nk nv nc (k)) ((((nk.getD (k) [])).length : Int)) 1 1 ++ (nk.getD (k) [])) ((((nv.getD (k) [])).length : Int)) 2 2 ++ (nv.getD (k) [])).length c254)] (seen_cons (Eq.trans (by kernel_rfl) hv13_V255_14) seen_nil) (by kernel_rfl) (VT.le.refl _) (hMb_255_14.eqE (Eq.trans rfl (Eq.trans (by kernel_rfl) (Eq.symm (cond_t (upd_self _ _)))))) ((hG255_14 _ _).2 ⟨A253, c254, rfl⟩)
            refine all_snoc (.inl ⟨by decide, fun S255_13 g255_13 V255_13 w255_13 cx255_13 hM255_13 => ?_⟩) ?_
            · -- op 13
              obtain ⟨Ar242_1, cr242_1, hv7_V255_13⟩ : ∃ Ar242_1 : Option Addr, ∃ cr242_1 : Nat, g255_13 57 = .slice Ar242_1 (putM (putM (bodyM true nk nv nc (k)) ((((nk.getD (k) [])).length : Int)) 1 1 ++ (nk.getD (k) [])) ((((nv.getD (k) [])).length : Int)) 2 2).length cr242_1 := (hG255_7 _ _).1 (cx255_13.fact 7 57 (by decide) (cx255_13.dep 7 (by kernel_rfl)) (by kernel_rfl))
              have hMa_255_13 : Step V w [] V255_13 _ [.row byteK 5 (addrOf (g255_13 57)) (capOf (g255_13 57)) (putM (putM (bodyM true nk nv nc (k)) ((((nk.getD (k) [])).length : Int)) 1 1 ++ (nk.getD (k) [])) ((((nv.getD (k) [])).length : Int)) 2 2)] := hM255_13.eqE (Eq.trans (cond_f (cx255_13.notyet (c := 14) (fun hq_ => (cx255_13.cl 14 13 (by decide) hq_ (by kernel_rfl))))) (Eq.trans (cond_f cx255_13.no) (cond_t (cx255_13.dep 7 (by kernel_rfl)))))
              simp only [hv7_V255_13] at hMa_255_13
              have hMb_255_13 : Step V w [] V255_13 _ [.row byteK 5 Ar242_1 cr242_1 (putM (putM (bodyM true nk nv nc (k)) ((((nk.getD (k) [])).length : Int)) 1 1 ++ (nk.getD (k) [])) ((((nv.getD (k) [])).length : Int)) 2 2)] := hMa_255_13
              obtain ⟨hv12_V255_13, l247⟩ : g255_13 62 = bs ((nv.getD (k) [])) ∧ ((nv.getD (k) []).length ≤ 140737488355328) := (hG255_12 _ _).1 (cx255_13.fact 12 62 (by decide) (cx255_13.dep 12 (by kernel_rfl)) (by kernel_rfl))
              refine wpF_see 57 (.slice Ar242_1 (putM (putM (bodyM true nk nv nc (k)) ((((nk.getD (k) [])).length : Int)) 1 1 ++ (nk.getD (k) [])) ((((nv.getD (k) [])).length : Int)) 2 2).length cr242_1) (Eq.trans (by kernel_rfl) hv7_V255_13) ?_
              refine wpF_see 62 (bs ((nv.getD (k) []))) (Eq.trans (by kernel_rfl) hv12_V255_13) ?_
              refine wpF_append (by_ := 1) hMb_255_13 0 rfl (h := (by kernel_rfl : opAt _ _ _ _ _ = some (Go.Op.call (Go.Call.mk (Go.Callee.builtin Go.Builtin.append) #[(Go.Operand.tmp 57), (Go.Operand.tmp 62)] #[28, 9]), some 63))) (by kernel_rfl) (by kernel_rfl) (by kernel_rfl) (by kernel_rfl) (by kernel_rfl) (by kernel_rfl) (by kernel_rfl) (Src.str ((nv.getD (k) []))) (by first | omega | (simp only [putM_len, List.length_append, List.length_cons, List.length_nil]; omega)) (fun A248 c249 w250 hM251 => ?_)
              have hM252 : Step V w [] V255_13 _ [.row byteK 5 A248 c249 (putM (putM (bodyM true nk nv nc (k)) ((((nk.getD (k) [])).length : Int)) 1 1 ++ (nk.getD (k) [])) ((((nv.getD (k) [])).length : Int)) 2 2 ++ (nv.getD (k) []))] := hM251
              refine wpF_end _ (by kernel_rfl) (then_n ?_)
              exact one_in (some 63) (by kernel_rfl) (.slice A248 (putM (putM (bodyM true nk nv nc (k)) ((((nk.getD (k) [])).length : Int)) 1 1 ++ (nk.getD (k) [])) ((((nv.getD (k) [])).length : Int)) 2 2 ++ (nv.getD (k) [])).length c249) _ [(62, bs ((nv.getD (k) []))), (57, .slice Ar242_1 (putM (putM (bodyM true nk nv nc (k)) ((((nk.getD (k) [])).length : Int)) 1 1 ++ (nk.getD (k) [])) ((((nv.getD (k) [])).length : Int)) 2 2).length cr242_1)] (seen_cons (Eq.trans (by kernel_rfl) hv12_V255_13) (seen_cons (Eq.trans (by kernel_rfl) hv7_V255_13) seen_nil)) (by kernel_rfl) (VT.le.refl _) (hM252.eqE (Eq.trans rfl (Eq.trans (by kernel_rfl) (Eq.symm (Eq.trans (cond_f (upd_f (by decide) (cx255_13.notyet (c := 14) (fun hq_ => (cx255_13.cl 14 13 (by decide) hq_ (by kernel_rfl)))))) (cond_t (upd_self _ _))))))) ((hG255_13 _ _).2 ⟨A248, c249, rfl⟩)
            refine all_snoc (.inr ⟨by decide, fun S255_12 g255_12 V255_12 w255_12 F255_12 cx255_12 hM255_12 => ?_⟩) ?_
            · -- op 12
              obtain ⟨b244, o245, hv11_V255_12, at_b244, l247⟩ : ∃ b244 : Nat, ∃ o245 : Nat, g255_12 61 = .pointer (some ⟨b244, o245, none⟩) ∧ (At strK V255_12 b244 o245 ((nv.getD (k) []))) ∧ ((nv.getD (k) []).length ≤ 140737488355328) := (hG255_11 _ _).1 (cx255_12.fact 11 61 (by decide) (cx255_12.dep 11 (by kernel_rfl)) (by kernel_rfl))
              have c912221 : V255_12 b244 o245 = some (bs (nv.getD (k) [])) := (At.str at_b244).1
              have l912222 : (nv.getD (k) []).length ≤ 140737488355328 := (At.str at_b244).2
              refine wpF_see 61 (.pointer (some ⟨b244, o245, none⟩)) (Eq.trans (by kernel_rfl) hv11_V255_12) ?_
              refine wpF_loadV hM255_12 c912221 (h := (by kernel_rfl : opAt _ _ _ _ _ = some (Go.Op.load 9 (Go.Operand.tmp 61), some 62))) (by kernel_rfl) (by kernel_rfl) ?_
              refine wpF_end _ (by kernel_rfl) (then_n ?_)
              exact one_in (some 62) (by kernel_rfl) (bs ((nv.getD (k) []))) _ [(61, .pointer (some ⟨b244, o245, none⟩))] (seen_cons (Eq.trans (by kernel_rfl) hv11_V255_12) seen_nil) (by kernel_rfl) (VT.le.refl _) hM255_12 ((hG255_12 _ _).2 ⟨rfl, l247⟩)
            refine all_snoc (.inr ⟨by decide, fun S255_11 g255_11 V255_11 w255_11 F255_11 cx255_11 hM255_11 => ?_⟩) ?_
            · -- op 11
              obtain hv9_V255_11 : g255_11 59 = .slice Anv (nv).length cnv := (hG255_9 _ _).1 (cx255_11.fact 9 59 (by decide) (cx255_11.dep 9 (by kernel_rfl)) (by kernel_rfl))
              obtain hv10_V255_11 : g255_11 60 = .int .i64 ((k : Int)) := (hG255_10 _ _).1 (cx255_11.fact 10 60 (by decide) (cx255_11.dep 10 (by kernel_rfl)) (by kernel_rfl))
              refine wpF_see 59 (.slice Anv (nv).length cnv) (Eq.trans (by kernel_rfl) hv9_V255_11) ?_
              refine wpF_see 60 (.int .i64 ((k : Int))) (Eq.trans (by kernel_rfl) hv10_V255_11) ?_
              refine wpF_index (A := Anv) (c := cnv) (hnv.up hM255_11.le) .i64 ((k : Int)) (h := (by kernel_rfl : opAt _ _ _ _ _ = some (Go.Op.indexAddr 22 (Go.Operand.tmp 59) (Go.Operand.tmp 60), some 61))) (e := 9) (by kernel_rfl) (by kernel_rfl) (by kernel_rfl) (k) rfl (by omega) (fun b244 o245 at_b244 => ?_)
              have c246 : V255_11 b244 o245 = some (bs (nv.getD (k) [])) := (At.str at_b244).1
              have l247 : (nv.getD (k) []).length ≤ 140737488355328 := (At.str at_b244).2
              refine wpF_end _ (by kernel_rfl) (then_n ?_)
              exact one_in (some 61) (by kernel_rfl) (.pointer (some ⟨b244, o245, none⟩)) _ [(60, .int .i64 ((k : Int))), (59, .slice Anv (nv).length cnv)] (seen_cons (Eq.trans (by kernel_rfl) hv10_V255_11) (seen_cons (Eq.trans (by kernel_rfl) hv9_V255_11) seen_nil)) (by kernel_rfl) (VT.le.refl _) hM255_11 ((hG255_11 _ _).2 ⟨b244, o245, rfl, at_b244, l247⟩)
            refine all_snoc (.inr ⟨by decide, fun S255_10 g255_10 V255_10 w255_10 F255_10 cx255_10 hM255_10 => ?_⟩) ?_
            · -- op 10
              refine wpF_seg 1 (by kernel_rfl) ?_
              refine wpF_end _ (by kernel_rfl) (then_n ?_)
              exact one_in (some 60) (by kernel_rfl) (.int .i64 ((k : Int))) _ [] seen_nil (by kernel_rfl) (VT.le.refl _) hM255_10 ((hG255_10 _ _).2 rfl)
            refine all_snoc (.inr ⟨by decide, fun S255_9 g255_9 V255_9 w255_9 F255_9 cx255_9 hM255_9 => ?_⟩) ?_
            · -- op 9
              obtain hv8_V255_9 : g255_9 58 = .pointer (some ⟨b138, 2, none⟩) := (hG255_8 _ _).1 (cx255_9.fact 8 58 (by decide) (cx255_9.dep 8 (by kernel_rfl)) (by kernel_rfl))
              refine wpF_see 58 (.pointer (some ⟨b138, 2, none⟩)) (Eq.trans (by kernel_rfl) hv8_V255_9) ?_
              refine wpF_loadB hM255_9 #[.bool (true), .slice Ank (nk).length cnk, .slice Anv (nv).length cnv, .slice Anc (nc).length cnc] (fun i v hi => ((((le151.trans hle189).trans le201).trans le219).trans cx255_9.le) _ _ _ (hc144 i v hi)) (h := (by kernel_rfl : opAt _ _ _ _ _ = some (Go.Op.load 22 (Go.Operand.tmp 58), some 59))) (off := 2) (by kernel_rfl) (.slice Anv (nv).length cnv) (by kernel_rfl) ?_
              refine wpF_end _ (by kernel_rfl) (then_n ?_)
              exact one_in (some 59) (by kernel_rfl) (.slice Anv (nv).length cnv) _ [(58, .pointer (some ⟨b138, 2, none⟩))] (seen_cons (Eq.trans (by kernel_rfl) hv8_V255_9) seen_nil) (by kernel_rfl) (VT.le.refl _) hM255_9 ((hG255_9 _ _).2 rfl)
            refine all_snoc (.inr ⟨by decide, fun S255_8 g255_8 V255_8 w255_8 F255_8 cx255_8 hM255_8 => ?_⟩) ?_
            · -- op 8
              refine wpF_seg 1 (by kernel_rfl) ?_
              refine wpF_end _ (by kernel_rfl) (then_n ?_)
              exact one_in (some 58) (by kernel_rfl) (.pointer (some ⟨b138, 2, none⟩)) _ [] seen_nil (by kernel_rfl) (VT.le.refl _) hM255_8 ((hG255_8 _ _).2 rfl)
            refine all_snoc (.inl ⟨by decide, fun S255_7 g255_7 V255_7 w255_7 cx255_7 hM255_7 => ?_⟩) ?_
            · -- op 7
              have hMa_255_7 : Step V w [] V255_7 _ [.row byteK 5 A224 c225 (putM (bodyM true nk nv nc (k)) ((((nk.getD (k) [])).length : Int)) 1 1 ++ (nk.getD (k) []))] := hM255_7.eqE (Eq.trans (cond_f (cx255_7.notyet (c := 14) (fun hq_ => (cx255_7.cl 14 7 (by decide) hq_ (by kernel_rfl))))) (Eq.trans (cond_f (cx255_7.notyet (c := 13) (fun hq_ => (cx255_7.cl 13 7 (by decide) hq_ (by kernel_rfl))))) (Eq.trans (cond_f cx255_7.no) rfl)))
              have hMb_255_7 : Step V w [] V255_7 _ [.row byteK 5 A224 c225 (putM (bodyM true nk nv nc (k)) ((((nk.getD (k) [])).length : Int)) 1 1 ++ (nk.getD (k) []))] := hMa_255_7
              obtain hv0_V255_7 : g255_7 50 = .slice A224 (putM (bodyM true nk nv nc (k)) ((((nk.getD (k) [])).length : Int)) 1 1 ++ (nk.getD (k) [])).length c225 := (hG255_0 _ _).1 (cx255_7.fact 0 50 (by decide) (cx255_7.dep 0 (by kernel_rfl)) (by kernel_rfl))
              obtain ⟨hv6_V255_7, l233⟩ : g255_7 56 = .int .i64 ((((nv.getD (k) [])).length : Int)) ∧ ((nv.getD (k) []).length ≤ 140737488355328) := (hG255_6 _ _).1 (cx255_7.fact 6 56 (by decide) (cx255_7.dep 6 (by kernel_rfl)) (by kernel_rfl))
              refine wpF_see 50 (.slice A224 (putM (bodyM true nk nv nc (k)) ((((nk.getD (k) [])).length : Int)) 1 1 ++ (nk.getD (k) [])).length c225) (Eq.trans (by kernel_rfl) hv0_V255_7) ?_
              refine wpF_see 56 (.int .i64 ((((nv.getD (k) [])).length : Int))) (Eq.trans (by kernel_rfl) hv6_V255_7) ?_
              have hM234 := hMb_255_7.front 0 rfl
              have hM242 : Step V w [] V255_7 _ [.row byteK 5 A224 c225 (putM (bodyM true nk nv nc (k)) ((((nk.getD (k) [])).length : Int)) 1 1 ++ (nk.getD (k) []))] := hM234
              refine wpF_callE [.row byteK 5 A224 c225 (putM (bodyM true nk nv nc (k)) ((((nk.getD (k) [])).length : Int)) 1 1 ++ (nk.getD (k) []))] [] hM242 (f := 30) (caps := #[]) (h := (by kernel_rfl : opAt _ _ _ _ _ = some (Go.Op.call (Go.Call.mk (Go.Callee.value (Go.Operand.func 30)) #[(Go.Operand.tmp 50), (Go.Operand.tmp 56)] #[28, 3]), some 57))) (by kernel_rfl) (by kernel_rfl) (by kernel_rfl) (f30 _ _ A224 c225 (putM (bodyM true nk nv nc (k)) ((((nk.getD (k) [])).length : Int)) 1 1 ++ (nk.getD (k) [])) ((((nv.getD (k) [])).length : Int)) (St.part (E := [.row byteK 5 A224 c225 (putM (bodyM true nk nv nc (k)) ((((nk.getD (k) [])).length : Int)) 1 1 ++ (nk.getD (k) []))]) (F := []) hM242.ok) (by omega) (by omega) (by first | omega | (simp only [putM_len, List.length_append, List.length_cons, List.length_nil]; omega) | (simp; done))) (fun v235 V236 w237 Eo238 le239 hM240 hp241 => ?_)
              obtain ⟨Ar242_1, cr242_1, rfl, rfl⟩ := hp241
              have hM243 : Step V w [] V236 _ [.row byteK 5 Ar242_1 cr242_1 (putM (putM (bodyM true nk nv nc (k)) ((((nk.getD (k) [])).length : Int)) 1 1 ++ (nk.getD (k) [])) ((((nv.getD (k) [])).length : Int)) 2 2)] := hM240
              refine wpF_end _ (by kernel_rfl) (then_n ?_)
              exact one_in (some 57) (by kernel_rfl) (.slice Ar242_1 (putM (putM (bodyM true nk nv nc (k)) ((((nk.getD (k) [])).length : Int)) 1 1 ++ (nk.getD (k) [])) ((((nv.getD (k) [])).length : Int)) 2 2).length cr242_1) _ [(56, .int .i64 ((((nv.getD (k) [])).length : Int))), (50, .slice A224 (putM (bodyM true nk nv nc (k)) ((((nk.getD (k) [])).length : Int)) 1 1 ++ (nk.getD (k) [])).length c225)] (seen_cons (Eq.trans (by kernel_rfl) hv6_V255_7) (seen_cons (Eq.trans (by kernel_rfl) hv0_V255_7) seen_nil)) (by kernel_rfl) le239 (hM243.eqE (Eq.trans rfl (Eq.trans (by kernel_rfl) (Eq.symm (Eq.trans (cond_f (upd_f (by decide) (cx255_7.notyet (c := 14) (fun hq_ => (cx255_7.cl 14 7 (by decide) hq_ (by kernel_rfl)))))) (Eq.trans (cond_f (upd_f (by decide) (cx255_7.notyet (c := 13) (fun hq_ => (cx255_7.cl 13 7 (by decide) hq_ (by kernel_rfl)))))) (cond_t (upd_self _ _)))))))) ((hG255_7 _ _).2 ⟨Ar242_1, cr242_1, rfl⟩)
            refine all_snoc (.inr ⟨by decide, fun S255_6 g255_6 V255_6 w255_6 F255_6 cx255_6 hM255_6 => ?_⟩) ?_
            · -- op 6
              obtain ⟨hv5_V255_6, l233⟩ : g255_6 55 = bs ((nv.getD (k) [])) ∧ ((nv.getD (k) []).length ≤ 140737488355328) := (hG255_5 _ _).1 (cx255_6.fact 5 55 (by decide) (cx255_6.dep 5 (by kernel_rfl)) (by kernel_rfl))
              refine wpF_see 55 (bs ((nv.getD (k) []))) (Eq.trans (by kernel_rfl) hv5_V255_6) ?_
              refine wpF_seg 1 (by kernel_rfl) ?_
              refine wpF_end _ (by kernel_rfl) (then_n ?_)
              exact one_in (some 56) (by kernel_rfl) (.int .i64 ((((nv.getD (k) [])).length : Int))) _ [(55, bs ((nv.getD (k) [])))] (seen_cons (Eq.trans (by kernel_rfl) hv5_V255_6) seen_nil) (by kernel_rfl) (VT.le.refl _) hM255_6 ((hG255_6 _ _).2 ⟨rfl, l233⟩)
            refine all_snoc (.inr ⟨by decide, fun S255_5 g255_5 V255_5 w255_5 F255_5 cx255_5 hM255_5 => ?_⟩) ?_
            · -- op 5
              obtain ⟨b230, o231, hv4_V255_5, at_b230, l233⟩ : ∃ b230 : Nat, ∃ o231 : Nat, g255_5 54 = .pointer (some ⟨b230, o231, none⟩) ∧ (At strK V255_5 b230 o231 ((nv.getD (k) []))) ∧ ((nv.getD (k) []).length ≤ 140737488355328) := (hG255_4 _ _).1 (cx255_5.fact 4 54 (by decide) (cx255_5.dep 4 (by kernel_rfl)) (by kernel_rfl))
              have c905081 : V255_5 b230 o231 = some (bs (nv.getD (k) [])) := (At.str at_b230).1
              have l905082 : (nv.getD (k) []).length ≤ 140737488355328 := (At.str at_b230).2
              refine wpF_see 54 (.pointer (some ⟨b230, o231, none⟩)) (Eq.trans (by kernel_rfl) hv4_V255_5) ?_
              refine wpF_loadV hM255_5 c905081 (h := (by kernel_rfl : opAt _ _ _ _ _ = some (Go.Op.load 9 (Go.Operand.tmp 54), some 55))) (by kernel_rfl) (by kernel_rfl) ?_
              refine wpF_end _ (by kernel_rfl) (then_n ?_)
              exact one_in (some 55) (by kernel_rfl) (bs ((nv.getD (k) []))) _ [(54, .pointer (some ⟨b230, o231, none⟩))] (seen_cons (Eq.trans (by kernel_rfl) hv4_V255_5) seen_nil) (by kernel_rfl) (VT.le.refl _) hM255_5 ((hG255_5 _ _).2 ⟨rfl, l233⟩)
            refine all_snoc (.inr ⟨by decide, fun S255_4 g255_4 V255_4 w255_4 F255_4 cx255_4 hM255_4 => ?_⟩) ?_
            · -- op 4
              obtain hv2_V255_4 : g255_4 52 = .slice Anv (nv).length cnv := (hG255_2 _ _).1 (cx255_4.fact 2 52 (by decide) (cx255_4.dep 2 (by kernel_rfl)) (by kernel_rfl))
              obtain hv3_V255_4 : g255_4 53 = .int .i64 ((k : Int)) := (hG255_3 _ _).1 (cx255_4.fact 3 53 (by decide) (cx255_4.dep 3 (by kernel_rfl)) (by kernel_rfl))
              refine wpF_see 52 (.slice Anv (nv).length cnv) (Eq.trans (by kernel_rfl) hv2_V255_4) ?_
              refine wpF_see 53 (.int .i64 ((k : Int))) (Eq.trans (by kernel_rfl) hv3_V255_4) ?_
              refine wpF_index (A := Anv) (c := cnv) (hnv.up hM255_4.le) .i64 ((k : Int)) (h := (by kernel_rfl : opAt _ _ _ _ _ = some (Go.Op.indexAddr 22 (Go.Operand.tmp 52) (Go.Operand.tmp 53), some 54))) (e := 9) (by kernel_rfl) (by kernel_rfl) (by kernel_rfl) (k) rfl (by omega) (fun b230 o231 at_b230 => ?_)
              have c232 : V255_4 b230 o231 = some (bs (nv.getD (k) [])) := (At.str at_b230).1
              have l233 : (nv.getD (k) []).length ≤ 140737488355328 := (At.str at_b230).2
              refine wpF_end _ (by kernel_rfl) (then_n ?_)
              exact one_in (some 54) (by kernel_rfl) (.pointer (some ⟨b230, o231, none⟩)) _ [(53, .int .i64 ((k : Int))), (52, .slice Anv (nv).length cnv)] (seen_cons (Eq.trans (by kernel_rfl) hv3_V255_4) (seen_cons (Eq.trans (by kernel_rfl) hv2_V255_4) seen_nil)) (by kernel_rfl) (VT.le.refl _) hM255_4 ((hG255_4 _ _).2 ⟨b230, o231, rfl, at_b230, l233⟩)
            refine all_snoc (.inr ⟨by decide, fun S255_3 g255_3 V255_3 w255_3 F255_3 cx255_3 hM255_3 => ?_⟩) ?_
            · -- op 3
              refine wpF_seg 1 (by kernel_rfl) ?_
              refine wpF_end _ (by kernel_rfl) (then_n ?_)
              exact one_in (some 53) (by kernel_rfl) (.int .i64 ((k : Int))) _ [] seen_nil (by kernel_rfl) (VT.le.refl _) hM255_3 ((hG255_3 _ _).2 rfl)
            refine all_snoc (.inr ⟨by decide, fun S255_2 g255_2 V255_2 w255_2 F255_2 cx255_2 hM255_2 => ?_⟩) ?_
            · -- op 2
              obtain hv1_V255_2 : g255_2 51 = .pointer (some ⟨b138, 2, none⟩) := (hG255_1 _ _).1 (cx255_2.fact 1 51 (by decide) (cx255_2.dep 1 (by kernel_rfl)) (by kernel_rfl))
              refine wpF_see 51 (.pointer (some ⟨b138, 2, none⟩)) (Eq.trans (by kernel_rfl) hv1_V255_2) ?_
              refine wpF_loadB hM255_2 #[.bool (true), .slice Ank (nk).length cnk, .slice Anv (nv).length cnv, .slice Anc (nc).length cnc] (fun i v hi => ((((le151.trans hle189).trans le201).trans le219).trans cx255_2.le) _ _ _ (hc144 i v hi)) (h := (by kernel_rfl : opAt _ _ _ _ _ = some (Go.Op.load 22 (Go.Operand.tmp 51), some 52))) (off := 2) (by kernel_rfl) (.slice Anv (nv).length cnv) (by kernel_rfl) ?_
              refine wpF_end _ (by kernel_rfl) (then_n ?_)
              exact one_in (some 52) (by kernel_rfl) (.slice Anv (nv).length cnv) _ [(51, .pointer (some ⟨b138, 2, none⟩))] (seen_cons (Eq.trans (by kernel_rfl) hv1_V255_2) seen_nil) (by kernel_rfl) (VT.le.refl _) hM255_2 ((hG255_2 _ _).2 rfl)
            refine all_snoc (.inr ⟨by decide, fun S255_1 g255_1 V255_1 w255_1 F255_1 cx255_1 hM255_1 => ?_⟩) ?_
            · -- op 1
              refine wpF_seg 1 (by kernel_rfl) ?_
              refine wpF_end _ (by kernel_rfl) (then_n ?_)
              exact one_in (some 51) (by kernel_rfl) (.pointer (some ⟨b138, 2, none⟩)) _ [] seen_nil (by kernel_rfl) (VT.le.refl _) hM255_1 ((hG255_1 _ _).2 rfl)
            refine all_snoc (.inr ⟨by decide, fun S255_0 g255_0 V255_0 w255_0 F255_0 cx255_0 hM255_0 => ?_⟩) ?_
            · -- op 0
              have hp5_255_0 : g255_0 5 = .slice A224 (putM (bodyM true nk nv nc (k)) ((((nk.getD (k) [])).length : Int)) 1 1 ++ (nk.getD (k) [])).length c225 := cx255_0.pre 5 _ 14 (List.Mem.head _) (cx255_0.notyet (c := 14) (fun hq_ => (cx255_0.cl 14 0 (by decide) hq_ (by kernel_rfl))))
              refine wpF_see 5 (.slice A224 (putM (bodyM true nk nv nc (k)) ((((nk.getD (k) [])).length : Int)) 1 1 ++ (nk.getD (k) [])).length c225) (Eq.trans (by kernel_rfl) hp5_255_0) ?_
              refine wpF_seg 1 (by kernel_rfl) ?_
              refine wpF_end _ (by kernel_rfl) (then_n ?_)
              exact one_in (some 50) (by kernel_rfl) (.slice A224 (putM (bodyM true nk nv nc (k)) ((((nk.getD (k) [])).length : Int)) 1 1 ++ (nk.getD (k) [])).length c225) _ [(5, .slice A224 (putM (bodyM true nk nv nc (k)) ((((nk.getD (k) [])).length : Int)) 1 1 ++ (nk.getD (k) [])).length c225)] (seen_cons (Eq.trans (by kernel_rfl) hp5_255_0) seen_nil) (by kernel_rfl) (VT.le.refl _) hM255_0 ((hG255_0 _ _).2 rfl)
            exact all_none
          · -- behind it
            intro ge255 Ve255 we255 hMe255 hle255 hf255
            refine wpF_stop (P := Try.prog) (ops := #[]) (i := 0) _ rfl ?_
            obtain ⟨A253, c254, hv14_Ve255⟩ : ∃ A253 : Option Addr, ∃ c254 : Nat, ge255 5 = .slice A253 (putM (putM (bodyM true nk nv nc (k)) ((((nk.getD (k) [])).length : Int)) 1 1 ++ (nk.getD (k) [])) ((((nv.getD (k) [])).length : Int)) 2 2 ++ (nv.getD (k) [])).length c254 := (hG255_14 _ _).1 (hf255 14 5 (by decide) (by kernel_rfl))
            obtain hv0_Ve255 : ge255 50 = .slice A224 (putM (bodyM true nk nv nc (k)) ((((nk.getD (k) [])).length : Int)) 1 1 ++ (nk.getD (k) [])).length c225 := (hG255_0 _ _).1 (hf255 0 50 (by decide) (by kernel_rfl))
            obtain hv1_Ve255 : ge255 51 = .pointer (some ⟨b138, 2, none⟩) := (hG255_1 _ _).1 (hf255 1 51 (by decide) (by kernel_rfl))
            obtain hv2_Ve255 : ge255 52 = .slice Anv (nv).length cnv := (hG255_2 _ _).1 (hf255 2 52 (by decide) (by kernel_rfl))
            obtain hv3_Ve255 : ge255 53 = .int .i64 ((k : Int)) := (hG255_3 _ _).1 (hf255 3 53 (by decide) (by kernel_rfl))
            obtain ⟨b230, o231, hv4_Ve255, at_b230, l233⟩ : ∃ b230 : Nat, ∃ o231 : Nat, ge255 54 = .pointer (some ⟨b230, o231, none⟩) ∧ (At strK Ve255 b230 o231 ((nv.getD (k) []))) ∧ ((nv.getD (k) []).length ≤ 140737488355328) := (hG255_4 _ _).1 (hf255 4 54 (by decide) (by kernel_rfl))
            have c257 : Ve255 b230 o231 = some (bs (nv.getD (k) [])) := (At.str at_b230).1
            have l258 : (nv.getD (k) []).length ≤ 140737488355328 := (At.str at_b230).2
            obtain ⟨hv5_Ve255, l233⟩ : ge255 55 = bs ((nv.getD (k) [])) ∧ ((nv.getD (k) []).length ≤ 140737488355328) := (hG255_5 _ _).1 (hf255 5 55 (by decide) (by kernel_rfl))
            obtain ⟨hv6_Ve255, l233⟩ : ge255 56 = .int .i64 ((((nv.getD (k) [])).length : Int)) ∧ ((nv.getD (k) []).length ≤ 140737488355328) := (hG255_6 _ _).1 (hf255 6 56 (by decide) (by kernel_rfl))
            obtain ⟨Ar242_1, cr242_1, hv7_Ve255⟩ : ∃ Ar242_1 : Option Addr, ∃ cr242_1 : Nat, ge255 57 = .slice Ar242_1 (putM (putM (bodyM true nk nv nc (k)) ((((nk.getD (k) [])).length : Int)) 1 1 ++ (nk.getD (k) [])) ((((nv.getD (k) [])).length : Int)) 2 2).length cr242_1 := (hG255_7 _ _).1 (hf255 7 57 (by decide) (by kernel_rfl))
            obtain hv8_Ve255 : ge255 58 = .pointer (some ⟨b138, 2, none⟩) := (hG255_8 _ _).1 (hf255 8 58 (by decide) (by kernel_rfl))
            obtain hv9_Ve255 : ge255 59 = .slice Anv (nv).length cnv := (hG255_9 _ _).1 (hf255 9 59 (by decide) (by kernel_rfl))
            obtain hv10_Ve255 : ge255 60 = .int .i64 ((k : Int)) := (hG255_10 _ _).1 (hf255 10 60 (by decide) (by kernel_rfl))
            obtain ⟨b244, o245, hv11_Ve255, at_b244, l247⟩ : ∃ b244 : Nat, ∃ o245 : Nat, ge255 61 = .pointer (some ⟨b244, o245, none⟩) ∧ (At strK Ve255 b244 o245 ((nv.getD (k) []))) ∧ ((nv.getD (k) []).length ≤ 140737488355328) := (hG255_11 _ _).1 (hf255 11 61 (by decide) (by kernel_rfl))
            have c259 : Ve255 b244 o245 = some (bs (nv.getD (k) [])) := (At.str at_b244).1
            have l260 : (nv.getD (k) []).length ≤ 140737488355328 := (At.str at_b244).2
            obtain ⟨hv12_Ve255, l247⟩ : ge255 62 = bs ((nv.getD (k) [])) ∧ ((nv.getD (k) []).length ≤ 140737488355328) := (hG255_12 _ _).1 (hf255 12 62 (by decide) (by kernel_rfl))
            obtain ⟨A248, c249, hv13_Ve255⟩ : ∃ A248 : Option Addr, ∃ c249 : Nat, ge255 63 = .slice A248 (putM (putM (bodyM true nk nv nc (k)) ((((nk.getD (k) [])).length : Int)) 1 1 ++ (nk.getD (k) [])) ((((nv.getD (k) [])).length : Int)) 2 2 ++ (nv.getD (k) [])).length c249 := (hG255_13 _ _).1 (hf255 13 63 (by decide) (by kernel_rfl))
            have hM261 : Step V w [] Ve255 _ [.row byteK 5 (addrOf (ge255 5)) (capOf (ge255 5)) (putM (putM (bodyM true nk nv nc (k)) ((((nk.getD (k) [])).length : Int)) 1 1 ++ (nk.getD (k) [])) ((((nv.getD (k) [])).length : Int)) 2 2 ++ (nv.getD (k) []))] := hMe255
            simp only [hv14_Ve255] at hM261
            have hM262 : Step V w [] Ve255 _ [.row byteK 5 A253 c254 (putM (putM (bodyM true nk nv nc (k)) ((((nk.getD (k) [])).length : Int)) 1 1 ++ (nk.getD (k) [])) ((((nv.getD (k) [])).length : Int)) 2 2 ++ (nv.getD (k) []))] := hM261
            refine wpF_see 5 (.slice A253 (putM (putM (bodyM true nk nv nc (k)) ((((nk.getD (k) [])).length : Int)) 1 1 ++ (nk.getD (k) [])) ((((nv.getD (k) [])).length : Int)) 2 2 ++ (nv.getD (k) [])).length c254) (Eq.trans (by kernel_rfl) hv14_Ve255) ?_
            refine wpF_see 50 (.slice A224 (putM (bodyM true nk nv nc (k)) ((((nk.getD (k) [])).length : Int)) 1 1 ++ (nk.getD (k) [])).length c225) (Eq.trans (by kernel_rfl) hv0_Ve255) ?_
            refine wpF_see 51 (.pointer (some ⟨b138, 2, none⟩)) (Eq.trans (by kernel_rfl) hv1_Ve255) ?_
            refine wpF_see 52 (.slice Anv (nv).length cnv) (Eq.trans (by kernel_rfl) hv2_Ve255) ?_
            refine wpF_see 53 (.int .i64 ((k : Int))) (Eq.trans (by kernel_rfl) hv3_Ve255) ?_
            refine wpF_see 54 (.pointer (some ⟨b230, o231, none⟩)) (Eq.trans (by kernel_rfl) hv4_Ve255) ?_
            refine wpF_see 55 (bs ((nv.getD (k) []))) (Eq.trans (by kernel_rfl) hv5_Ve255) ?_
            refine wpF_see 56 (.int .i64 ((((nv.getD (k) [])).length : Int))) (Eq.trans (by kernel_rfl) hv6_Ve255) ?_
            refine wpF_see 57 (.slice Ar242_1 (putM (putM (bodyM true nk nv nc (k)) ((((nk.getD (k) [])).length : Int)) 1 1 ++ (nk.getD (k) [])) ((((nv.getD (k) [])).length : Int)) 2 2).length cr242_1) (Eq.trans (by kernel_rfl) hv7_Ve255) ?_
            refine wpF_see 58 (.pointer (some ⟨b138, 2, none⟩)) (Eq.trans (by kernel_rfl) hv8_Ve255) ?_
            refine wpF_see 59 (.slice Anv (nv).length cnv) (Eq.trans (by kernel_rfl) hv9_Ve255) ?_
            refine wpF_see 60 (.int .i64 ((k : Int))) (Eq.trans (by kernel_rfl) hv10_Ve255) ?_
            refine wpF_see 61 (.pointer (some ⟨b244, o245, none⟩)) (Eq.trans (by kernel_rfl) hv11_Ve255) ?_
            refine wpF_see 62 (bs ((nv.getD (k) []))) (Eq.trans (by kernel_rfl) hv12_Ve255) ?_
            refine wpF_see 63 (.slice A248 (putM (putM (bodyM true nk nv nc (k)) ((((nk.getD (k) [])).length : Int)) 1 1 ++ (nk.getD (k) [])) ((((nv.getD (k) [])).length : Int)) 2 2 ++ (nv.getD (k) [])).length c249) (Eq.trans (by kernel_rfl) hv13_Ve255) ?_
            refine wpF_end _ (by kernel_rfl) (blk_n (then_n (hK207 _ _ ?_)))
            refine wp_reg ?_
            refine wpF_add .i64 ((k : Int)) (1) ((k : Int) + 1) (h := (by kernel_rfl : opAt _ _ _ _ _ = some (Go.Op.binOp Go.BinOp.add 3 (Go.Operand.tmp 37) (Go.Operand.const (Go.Value.int Go.IntKind.i64 1)) 3, some 72))) (by kernel_rfl) (by kernel_rfl) (wrap64_ok _ (by omega)) ?_
            refine wpF_seg 1 (by kernel_rfl) ?_
            refine wpF_base [(1, .pointer (some ⟨b138, 0, none⟩)), (2, .slice none 0 0), (3, .int .i64 (0)), (5, .slice A253 (bodyM true nk nv nc (k + 1)).length c254), (35, .slice Ank (nk).length cnk), (36, .int .i64 ((nk.length : Int))), (37, .int .i64 ((k + 1 : Int)))] (by kernel_rfl) (fun g264 => ?_)
            refine wpF_end _ (by kernel_rfl) (then_n (hK202 _ _ (k + 1) (by omega) ?_))
            refine ⟨g264, Ve255, _, _, rfl, hM262, ((le201.trans le219).trans hle255), ?_, ?_⟩
            · -- TfLt inv 0
              omega
            · -- TfLt inv 1
              (simp only [bodyM, cond_true, cond_false, putM_len, List.length_append]; omega)
        · -- TfLf
          have p265 : ¬ (((k : Int)) < ((nk.length : Int))) := of_decide_eq_false h205
          refine wp_exit (then_x (then_x (blk_hit (then_n (hK194 _ _ ?_)))))
          obtain rfl : k = nk.length := by omega
          refine wp_seq_k (fun K266 hK266 => ?_)
          refine wp_reg ?_
          refine wpF_seg 3 (by kernel_rfl) ?_
          refine wpF_sub .i64 (1024) (((bodyM true nk nv nc ((nk.length))).length : Int)) (((1024 - (bodyM true nk nv nc nk.length).length : Nat) : Int)) (h := (by kernel_rfl : opAt _ _ _ _ _ = some (Go.Op.binOp Go.BinOp.sub 3 (Go.Operand.const (Go.Value.int Go.IntKind.i64 1024)) (Go.Operand.tmp 75) 3, some 76))) (by kernel_rfl) (by kernel_rfl) (by rw [wrap64_ok _ (by omega)]; omega) ?_
          refine wpF_append0 (by_ := 1) (m := (1024 - (bodyM true nk nv nc nk.length).length)) (z := .int .u8 0) hM200 0 rfl (h := (by kernel_rfl : opAt _ _ _ _ _ = some (Go.Op.call (Go.Call.mk (Go.Callee.builtin Go.Builtin.append) #[(Go.Operand.tmp 73), (Go.Operand.tmp 76)] #[28, 3]), some 77))) (by kernel_rfl) (by kernel_rfl) (by kernel_rfl) rfl (by kernel_rfl) (by kernel_rfl) rfl (by kernel_rfl) (by kernel_rfl) 0 (fun _ => Reps.one_byte) (by first | omega | (simp only [putM_len, List.length_append, List.length_cons, List.length_nil]; omega)) (fun A267 c268 w269 hM270 => ?_)
          have hM271 : Step V w [] Vl196 _ [.row byteK 5 A267 c268 (bodyM true nk nv nc ((nk.length)) ++ List.replicate ((1024 - (bodyM true nk nv nc nk.length).length)) 0)] := hM270
          refine wpF_seg 2 (by kernel_rfl) ?_
          refine wpF_end _ (by kernel_rfl) (then_n (hK266 _ _ ?_))
          refine wp_ret ?_
          obtain ⟨V272, le273, hM274, r275⟩ := hM271.settleRow 0 rfl
          have hM276 : Step V w [] V272 _ [] := hM274
          refine retN [.slice A267 (bodyM true nk nv nc ((nk.length)) ++ List.replicate ((1024 - (bodyM true nk nv nc nk.length).length)) 0).length c268, .int .i64 (0)] (.tuple #[.slice A267 (bodyM true nk nv nc ((nk.length)) ++ List.replicate ((1024 - (bodyM true nk nv nc nk.length).length)) 0).length c268, .int .i64 (0)]) Try.results13 (.tmp (by kernel_rfl) (by kernel_rfl) (.tmp (by kernel_rfl) (by kernel_rfl) .nil)) (by kernel_rfl) (hRet _ _ ⟨_, _, rfl, hM276.clear, ?_⟩)
          -- end TfLf
          refine ⟨A267, c268, ?_, ?_⟩
          · first | (simp only [bytesM, h155, h159, h205, cond_false]; done) | (simp only [bytesM, h155, h159, h205, cond_false]; rfl) | (have hc0 : checkM true nk nv nc = 0 := (by assumption); simp only [bytesM, h155, h159, h205, cond_true, hc0, decide_true, pageM]; done)
          · first | exact r275 | (exact Rd.eq r275 (by simp only [bytesM, h155, h159, h205, cond_true, cond_false, pageM]))

end Go.Vk
