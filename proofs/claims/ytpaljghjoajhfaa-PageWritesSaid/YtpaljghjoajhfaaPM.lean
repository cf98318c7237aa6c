/- Contracts of the page's functions, part M: printed by wip/tools/p8.py. -/
import Derived.Test.YtpaljghjoajhfaaPL
set_option linter.unusedVariables false
set_option linter.unusedSimpArgs false
namespace Go.Vk
open Go.Proofs
set_option maxRecDepth 100000 in
theorem f14 (V : VT) (w : World) (hV : V.inW w) (nl : Bool) (Ank : Option Addr) (cnk : Nat) (nk : List Str) (hnk : Rd strK V Ank cnk nk) (Anv : Option Addr) (cnv : Nat) (nv : List Str) (hnv : Rd strK V Anv cnv nv) (Anc : Option Addr) (cnc : Nat) (nc : List Int) (hnc : Rd (intK .i64) V Anc cnc nc) (hk : nk.length ≤ 4096) (hv : nv.length ≤ 4096) :
    Calls Try.prog 14 #[.agg #[.bool (nl), .slice Ank (nk).length cnk, .slice Anv (nv).length cnv, .slice Anc (nc).length cnc]] w (RetP V w fun rv V' => rv = .tuple #[bs (bytesM nl nk nv nc), .int .i64 (checkM nl nk nv nc)] ∧ (bytesM nl nk nv nc).length ≤ maxL) := by
  have mxnk : nk.length ≤ 140737488355328 := hnk.max
  have mxnv : nv.length ≤ 140737488355328 := hnv.max
  have mxnc : nc.length ≤ 140737488355328 := hnc.max
  refine calls_env (n := 12) Try.func14 (c := _) rfl Try.ntmps14 (by kernel_rfl) (fun R hRet => ?_)
  have hM0 : Step V w [] V w [] := Step.refl (St.nilE hV)
  refine wp_seq_k (fun K1 hK1 => ?_)
  refine wp_reg ?_
  refine wpF_box hM0 #[.bool (nl), .slice Ank (nk).length cnk, .slice Anv (nv).length cnv, .slice Anc (nc).length cnc] (h := (by kernel_rfl : opAt _ _ _ _ _ = some (Go.Op.box 25 (Go.Operand.tmp 0), some 1))) (by kernel_rfl) (fun b2 w3 hM4 => ?_)
  refine wpF_seg 2 (by kernel_rfl) ?_
  refine wpF_end _ (by kernel_rfl) (then_n (hK1 _ _ ?_))
  refine wp_seq_k (fun K5 hK5 => ?_)
  refine wp_seq_k (fun K6 hK6 => ?_)
  refine wp_reg ?_
  refine wpF_load hM4 0 rfl (h := (by kernel_rfl : opAt _ _ _ _ _ = some (Go.Op.load 25 (Go.Operand.tmp 1), some 5))) (off := 0) (by kernel_rfl) (.agg #[.bool (nl), .slice Ank (nk).length cnk, .slice Anv (nv).length cnv, .slice Anc (nc).length cnc]) (by kernel_rfl) ?_
  refine wpF_callP hM4 (f := 18) (caps := #[]) (h := (by kernel_rfl : opAt _ _ _ _ _ = some (Go.Op.call (Go.Call.mk (Go.Callee.value (Go.Operand.func 18)) #[(Go.Operand.tmp 5)] #[25]), some 6))) (by kernel_rfl) (by kernel_rfl) (by kernel_rfl) (f18 _ _ hM4.inW (nl) Ank cnk (nk) hnk Anv cnv (nv) hnv Anc cnc (nc) hnc (by omega) (by omega)) (fun v7 V8 w9 le10 hM11 hp12 => ?_)
  obtain rfl := hp12
  refine wpF_seg 1 (by kernel_rfl) ?_
  refine wpF_end _ (by kernel_rfl) (then_n (hK6 _ _ ?_))
  refine wp_seq_k (fun K13 hK13 => ?_)
  refine wp_reg ?_
  refine wpF_seg 2 (by kernel_rfl) ?_
  refine wpF_end _ (by kernel_rfl) (then_n (hK13 _ _ ?_))
  refine wp_if (!(decide ((checkM (nl) (nk) (nv) (nc)) = (0)))) (by kernel_rfl) (fun h14 => ?_) (fun h14 => ?_)
  · -- t
    have h15 : decide ((checkM (nl) (nk) (nv) (nc)) = (0)) = false := by rw [← Bool.not_not (decide _), h14]; rfl
    have p16 : ¬ ((checkM (nl) (nk) (nv) (nc)) = (0)) := of_decide_eq_false h15
    refine wp_seq_k (fun K17 hK17 => ?_)
    refine wp_reg ?_
    refine wpF_seg 3 (by kernel_rfl) ?_
    refine wpF_end _ (by kernel_rfl) (then_n (hK17 _ _ ?_))
    refine wp_ret (then_r (?_))
    refine retN [bs ([]), .int .i64 (checkM (nl) (nk) (nv) (nc))] (.tuple #[bs ([]), .int .i64 (checkM (nl) (nk) (nv) (nc))]) Try.results14 (.tmp (by kernel_rfl) (by kernel_rfl) (.tmp (by kernel_rfl) (by kernel_rfl) .nil)) (by kernel_rfl) (hRet _ _ ⟨_, _, rfl, hM11.clear, ?_⟩)
    -- end t
    refine ⟨?_, ?_⟩
    · first | (simp only [bytesM, h14, h15, cond_false]; done) | (have hc0 : checkM nl nk nv nc = 0 := (by assumption); simp only [bytesM, h14, h15, cond_true, hc0, decide_true]; done)
    · first | (simp only [bytesM, h14, h15, cond_false]; decide) | (simp only [bytesM, h14, h15, cond_true, maxL]; omega)
  · -- f
    have h18 : decide ((checkM (nl) (nk) (nv) (nc)) = (0)) = true := by rw [← Bool.not_not (decide _), h14]; rfl
    have p19 : ((checkM (nl) (nk) (nv) (nc)) = (0)) := of_decide_eq_true h18
    refine wp_skip (then_n (hK5 _ _ ?_))
    refine wp_seq_k (fun K20 hK20 => ?_)
    refine wp_reg ?_
    refine wpF_load hM11 0 rfl (h := (by kernel_rfl : opAt _ _ _ _ _ = some (Go.Op.load 25 (Go.Operand.tmp 1), some 10))) (off := 0) (by kernel_rfl) (.agg #[.bool (nl), .slice Ank (nk).length cnk, .slice Anv (nv).length cnv, .slice Anc (nc).length cnc]) (by kernel_rfl) ?_
    refine wpF_callP hM11 (f := 33) (caps := #[]) (h := (by kernel_rfl : opAt _ _ _ _ _ = some (Go.Op.call (Go.Call.mk (Go.Callee.value (Go.Operand.func 33)) #[(Go.Operand.tmp 10)] #[25]), some 11))) (by kernel_rfl) (by kernel_rfl) (by kernel_rfl) (f33 _ _ hM11.inW (nl) Ank cnk (nk) (hnk.up hM11.le) Anv cnv (nv) (hnv.up hM11.le) Anc cnc (nc) (hnc.up hM11.le) (by exact check_stands (by assumption)) (by exact check_size (by assumption)) (by omega)) (fun v21 V22 w23 le24 hM25 hp26 => ?_)
    obtain ⟨rfl, x27⟩ := hp26
    have x27 : (pageM (nl) (nk) (nv) (nc)).length = 1024 := x27
    refine wpF_seg 2 (by kernel_rfl) ?_
    refine wpF_end _ (by kernel_rfl) (then_n (hK20 _ _ ?_))
    refine wp_ret ?_
    refine retN [bs (pageM (nl) (nk) (nv) (nc)), .int .i64 (0)] (.tuple #[bs (pageM (nl) (nk) (nv) (nc)), .int .i64 (0)]) Try.results14 (.tmp (by kernel_rfl) (by kernel_rfl) (.tmp (by kernel_rfl) (by kernel_rfl) .nil)) (by kernel_rfl) (hRet _ _ ⟨_, _, rfl, hM25.clear, ?_⟩)
    -- end f
    refine ⟨?_, ?_⟩
    · first | (simp only [bytesM, h14, h18, cond_false]; done) | (have hc0 : checkM nl nk nv nc = 0 := (by assumption); simp only [bytesM, h14, h18, cond_true, hc0, decide_true]; done)
    · first | (simp only [bytesM, h14, h18, cond_false]; decide) | (simp only [bytesM, h14, h18, cond_true, maxL]; omega)

end Go.Vk
