/- Contracts of the second seat's functions, part Sn: printed by wip/tools/sp.py. -/
import Derived.Test.YtnibbocbefnnnaaRIt
import Derived.Test.YtnibbocbefnnnaaRPlainSp
import Derived.Test.YtnibbocbefnnnaaRSg
import Derived.Test.YtnibbocbefnnnaaRSh
import Derived.Test.YtnibbocbefnnnaaRSi
import Derived.Test.YtnibbocbefnnnaaRSk
import Derived.Test.YtnibbocbefnnnaaRSm
import Derived.Test.YtnibbocbefnnnaaRSp
set_option linter.unusedVariables false
set_option linter.unusedSimpArgs false
namespace Go.Vk
open Go.Proofs
variable {D : List Deferred}
set_option maxHeartbeats 4000000 in
set_option maxRecDepth 100000 in
theorem f8 (V : VT) (w : World) (hV : V.inW w) (y : Str) (hy : y.length ≤ maxL) (t : Int) (Al : Option Addr) (cl : Nat) (l : List ((Str × Str × Bool))) (hl : Rd (prK strK (prK strK boolK)) V Al cl l) (made : Bool) :
    Calls Try.prog 8 #[bs (y), .int .i64 (t), .slice Al (l).length cl, .bool (made)] w (RetP V w fun rv V' => rv = .bool (true)) := by
  have mxy : y.length ≤ 140737488355328 := hy
  have mxl : l.length ≤ 140737488355328 := hl.max
  refine calls_env (n := 92) Try.func8 (c := _) rfl Try.ntmps8 (by kernel_rfl) (fun R hRet => ?_)
  have hM0 : Step V w [] V w [] := Step.refl (St.nilE hV)
  cases made with
  | false =>
    refine wp_seq_k (fun K1 hK1 => ?_)
    refine wp_reg ?_
    refine wpF_seg 1 (by kernel_rfl) ?_
    refine wpF_end _ (by kernel_rfl) (then_n (hK1 _ _ ?_))
    refine wp_seq_k (fun K2 hK2 => ?_)
    refine wp_reg ?_
    refine wpF_seg 1 (by kernel_rfl) ?_
    refine wpF_end _ (by kernel_rfl) (then_n (hK2 _ _ ?_))
    refine wp_seq_k (fun K3 hK3 => ?_)
    refine wp_seq_k (fun K4 hK4 => ?_)
    refine wp_reg ?_
    refine wpF_seg 1 (by kernel_rfl) ?_
    refine wpF_end _ (by kernel_rfl) (then_n (hK4 _ _ ?_))
    refine wp_cf (by kernel_rfl) ?_
    refine wp_skip (then_n (hK3 _ _ ?_))
    refine wp_seq_k (fun K5 hK5 => ?_)
    refine wp_reg ?_
    refine wpF_seg 3 (by kernel_rfl) ?_
    refine wpF_callP hM0 (f := 40) (caps := #[]) (h := (by kernel_rfl : opAt _ _ _ _ _ = some (.call (.mk (.value (.func 40)) #[(.tmp 18), (.tmp 19), (.tmp 20)] #[53, 9, 3]), some 21))) (by kernel_rfl) (by kernel_rfl) (by kernel_rfl) (f40n _ _ hM0.inW (y) (hy) (t)) (fun v6 V7 w8 le9 hM10 hp11 => ?_)
    obtain rfl := hp11
    refine wpF_seg 5 (by kernel_rfl) ?_
    refine wpF_end _ (by kernel_rfl) (then_n (hK5 _ _ ?_))
    refine wp_seq_k (fun K12 hK12 => ?_)
    refine wp_reg ?_
    refine wpF_seg 5 (by kernel_rfl) ?_
    refine wpF_callP hM10 (f := 37) (caps := #[]) (h := (by kernel_rfl : opAt _ _ _ _ _ = some (.call (.mk (.value (.func 37)) #[(.tmp 25), (.tmp 26), (.tmp 27), (.tmp 28), (.tmp 29)] #[53, 9, 9, 3, 3]), some 30))) (by kernel_rfl) (by kernel_rfl) (by kernel_rfl) (f37n _ _ hM10.inW (y) (hy) (y) (hy) (t) (t)) (fun v13 V14 w15 le16 hM17 hp18 => ?_)
    obtain ⟨Ar18_1, cr18_1, rfl, r19⟩ := hp18
    have l20 : (([] : List (Str × Str))).length ≤ 140737488355328 := r19.max
    refine wpF_seg 5 (by kernel_rfl) ?_
    refine wpF_end _ (by kernel_rfl) (then_n (hK12 _ _ ?_))
    refine wp_seq_k (fun K21 hK21 => ?_)
    refine wp_reg ?_
    refine wpF_seg 3 (by kernel_rfl) ?_
    have h22 : (decide (([] : Str) = ([]))) = true := by decide
    have p23 : (([] : Str) = ([])) := of_decide_eq_true h22
    refine wpF_slot 35 (.bool (decide (([] : Str) = ([])))) (.bool true) (by kernel_rfl) (by kernel_rfl) (by rw [h22]) ?_
    refine wpF_seg 9 (by kernel_rfl) ?_
    have h24 : (decide ((((([] : List (Str × Str))).length : Int)) = (0))) = true := by decide
    have p25 : ((((([] : List (Str × Str))).length : Int)) = (0)) := of_decide_eq_true h24
    refine wpF_slot 44 (.bool (decide ((((([] : List (Str × Str))).length : Int)) = (0)))) (.bool true) (by kernel_rfl) (by kernel_rfl) (by rw [h24]) ?_
    refine wpF_seg 7 (by kernel_rfl) ?_
    refine wpF_callP hM17 (f := 35) (caps := #[]) (h := (by kernel_rfl : opAt _ _ _ _ _ = some (.call (.mk (.value (.func 35)) #[(.tmp 49), (.tmp 50), (.tmp 51)] #[53, 3, 45]), some 52))) (by kernel_rfl) (by kernel_rfl) (by kernel_rfl) (f35n _ _ hM17.inW (t) Al cl (l) (hl.up hM17.le)) (fun v26 V27 w28 le29 hM30 hp31 => ?_)
    obtain rfl := hp31
    refine wpF_seg 5 (by kernel_rfl) ?_
    refine wpF_callP hM30 (f := 41) (caps := #[]) (h := (by kernel_rfl : opAt _ _ _ _ _ = some (.call (.mk (.value (.func 41)) #[(.tmp 56), (.tmp 57)] #[53, 3]), some 58))) (by kernel_rfl) (by kernel_rfl) (by kernel_rfl) (f41n _ _ hM30.inW (t)) (fun v32 V33 w34 le35 hM36 hp37 => ?_)
    obtain rfl := hp37
    refine wpF_seg 6 (by kernel_rfl) ?_
    refine wpF_callP hM36 (f := 42) (caps := #[]) (h := (by kernel_rfl : opAt _ _ _ _ _ = some (.call (.mk (.value (.func 42)) #[(.tmp 62), (.tmp 63), (.const (.string (ByteArray.mk #[]))), (.tmp 64)] #[53, 9, 9, 3]), some 65))) (by kernel_rfl) (by kernel_rfl) (by kernel_rfl) (f42n _ _ hM36.inW (y) (hy) ([]) (by first | decide | (simp only [maxL, List.length_append, List.length_cons, List.length_nil]; omega)) (t)) (fun v38 V39 w40 le41 hM42 hp43 => ?_)
    obtain rfl := hp43
    refine wpF_seg 4 (by kernel_rfl) ?_
    refine wpF_callP hM42 (f := 39) (caps := #[]) (h := (by kernel_rfl : opAt _ _ _ _ _ = some (.call (.mk (.value (.func 39)) #[(.tmp 69)] #[53]), some 70))) (by kernel_rfl) (by kernel_rfl) (by kernel_rfl) (f39n _ _ hM42.inW ) (fun v44 V45 w46 le47 hM48 hp49 => ?_)
    obtain rfl := hp49
    refine wpF_seg 4 (by kernel_rfl) ?_
    refine wpF_callP hM48 (f := 43) (caps := #[]) (h := (by kernel_rfl : opAt _ _ _ _ _ = some (.call (.mk (.value (.func 43)) #[(.tmp 74)] #[53]), some 75))) (by kernel_rfl) (by kernel_rfl) (by kernel_rfl) (f43n _ _ hM48.inW ) (fun v50 V51 w52 le53 hM54 hp55 => ?_)
    obtain rfl := hp55
    refine wpF_seg 4 (by kernel_rfl) ?_
    refine wpF_callP hM54 (f := 44) (caps := #[]) (h := (by kernel_rfl : opAt _ _ _ _ _ = some (.call (.mk (.value (.func 44)) #[(.tmp 79)] #[53]), some 80))) (by kernel_rfl) (by kernel_rfl) (by kernel_rfl) (f44n _ _ hM54.inW ) (fun v56 V57 w58 le59 hM60 hp61 => ?_)
    obtain ⟨Ar61_1, cr61_1, rfl, r62⟩ := hp61
    have l63 : (([] : List Item)).length ≤ 140737488355328 := r62.max
    refine wpF_seg 4 (by kernel_rfl) ?_
    have h64 : (decide ((((([] : List Item)).length : Int)) = (0))) = true := by decide
    have p65 : ((((([] : List Item)).length : Int)) = (0)) := of_decide_eq_true h64
    refine wpF_slot 84 (.bool (decide ((((([] : List Item)).length : Int)) = (0)))) (.bool true) (by kernel_rfl) (by kernel_rfl) (by rw [h64]) ?_
    refine wpF_seg 1 (by kernel_rfl) ?_
    refine wpF_callP hM60 (f := 45) (caps := #[]) (h := (by kernel_rfl : opAt _ _ _ _ _ = some (.call (.mk (.value (.func 45)) #[(.tmp 85)] #[53]), some 86))) (by kernel_rfl) (by kernel_rfl) (by kernel_rfl) (f45n _ _ hM60.inW ) (fun v66 V67 w68 le69 hM70 hp71 => ?_)
    obtain rfl := hp71
    refine gF hM70 (.binOp .eql 53 (.tmp 86) (.const (.pointer none)) 53) (some 87) (by kernel_rfl) (Y_eql (.pointer none) (.pointer none) (true) (by kernel_rfl) (by kernel_rfl) (by kernel_rfl)) ?_
    refine wpF_seg 2 (by kernel_rfl) ?_
    refine wpF_callP hM70 (f := 34) (caps := #[]) (h := (by kernel_rfl : opAt _ _ _ _ _ = some (.call (.mk (.value (.func 34)) #[] #[]), some 90))) (by kernel_rfl) (by kernel_rfl) (by kernel_rfl) (f34 _ _ hM70.inW ) (fun v72 V73 w74 le75 hM76 hp77 => ?_)
    obtain rfl := hp77
    refine wpF_seg 2 (by kernel_rfl) ?_
    refine wpF_end _ (by kernel_rfl) (then_n (hK21 _ _ ?_))
    refine wp_ret ?_
    refine retN [.bool (true)] (.bool (true)) Try.results8 (.tmp (by kernel_rfl) (by kernel_rfl) .nil) (by kernel_rfl) (hRet _ _ ⟨_, _, rfl, hM76.clear, ?_⟩)
    -- end F
    rfl
  | true =>
    refine wp_seq_k (fun K78 hK78 => ?_)
    refine wp_reg ?_
    refine wpF_seg 1 (by kernel_rfl) ?_
    refine wpF_end _ (by kernel_rfl) (then_n (hK78 _ _ ?_))
    refine wp_seq_k (fun K79 hK79 => ?_)
    refine wp_reg ?_
    refine wpF_seg 1 (by kernel_rfl) ?_
    refine wpF_end _ (by kernel_rfl) (then_n (hK79 _ _ ?_))
    refine wp_seq_k (fun K80 hK80 => ?_)
    refine wp_seq_k (fun K81 hK81 => ?_)
    refine wp_reg ?_
    refine wpF_seg 1 (by kernel_rfl) ?_
    refine wpF_end _ (by kernel_rfl) (then_n (hK81 _ _ ?_))
    refine wp_ct (by kernel_rfl) ?_
    refine wp_reg ?_
    refine wpF_seg 1 (by kernel_rfl) ?_
    refine wpF_box hM0 #[.slice none 0 0, .map none, .int .i64 (0), .int .i64 (0)] (h := (by kernel_rfl : opAt _ _ _ _ _ = some (.box 71 (.tmp 15), some 16))) (by kernel_rfl) (fun b82 w83 hM84 => ?_)
    refine wpF_seg 1 (by kernel_rfl) ?_
    refine wpF_end _ (by kernel_rfl) (then_n (hK80 _ _ ?_))
    refine wp_seq_k (fun K85 hK85 => ?_)
    refine wp_reg ?_
    refine wpF_seg 3 (by kernel_rfl) ?_
    have hM86 := hM84.front 0 rfl
    have hM94 : Step V w [] V _ ([.blk b82 (.cells #[.slice none 0 0, .map none, .int .i64 (0), .int .i64 (0)] 71)]) := hM86
    refine wpF_callE [.blk b82 (.cells #[.slice none 0 0, .map none, .int .i64 (0), .int .i64 (0)] 71)] ([]) hM94 (f := 40) (caps := #[]) (h := (by kernel_rfl : opAt _ _ _ _ _ = some (.call (.mk (.value (.func 40)) #[(.tmp 18), (.tmp 19), (.tmp 20)] #[53, 9, 3]), some 21))) (by kernel_rfl) (by kernel_rfl) (by kernel_rfl) (f40z _ _ b82 (y) (hy) (t) (St.part (E := [.blk b82 (.cells #[.slice none 0 0, .map none, .int .i64 (0), .int .i64 (0)] 71)]) (F := ([])) hM94.ok)) (fun v87 V88 w89 Eo90 le91 hM92 hp93 => ?_)
    obtain ⟨rfl, rfl⟩ := hp93
    have hM95 : Step V w [] V88 _ ([.blk b82 (.cells #[.slice none 0 0, .map none, .int .i64 (0), .int .i64 (0)] 71)]) := hM92
    refine wpF_seg 5 (by kernel_rfl) ?_
    refine wpF_end _ (by kernel_rfl) (then_n (hK85 _ _ ?_))
    refine wp_seq_k (fun K96 hK96 => ?_)
    refine wp_reg ?_
    refine wpF_seg 5 (by kernel_rfl) ?_
    have hM97 := hM95.front 0 rfl
    have hM105 : Step V w [] V88 _ ([.blk b82 (.cells #[.slice none 0 0, .map none, .int .i64 (0), .int .i64 (0)] 71)]) := hM97
    refine wpF_callE [.blk b82 (.cells #[.slice none 0 0, .map none, .int .i64 (0), .int .i64 (0)] 71)] ([]) hM105 (f := 37) (caps := #[]) (h := (by kernel_rfl : opAt _ _ _ _ _ = some (.call (.mk (.value (.func 37)) #[(.tmp 25), (.tmp 26), (.tmp 27), (.tmp 28), (.tmp 29)] #[53, 9, 9, 3, 3]), some 30))) (by kernel_rfl) (by kernel_rfl) (by kernel_rfl) (f37z _ _ b82 (y) (hy) (y) (hy) (t) (t) (St.part (E := [.blk b82 (.cells #[.slice none 0 0, .map none, .int .i64 (0), .int .i64 (0)] 71)]) (F := ([])) hM105.ok)) (fun v98 V99 w100 Eo101 le102 hM103 hp104 => ?_)
    obtain ⟨Ar105_1, cr105_1, rfl, rfl, r106⟩ := hp104
    have hM107 : Step V w [] V99 _ ([.blk b82 (.cells #[.slice none 0 0, .map none, .int .i64 (0), .int .i64 (0)] 71)]) := hM103
    have l108 : (([] : List (Str × Str))).length ≤ 140737488355328 := r106.max
    refine wpF_seg 5 (by kernel_rfl) ?_
    refine wpF_end _ (by kernel_rfl) (then_n (hK96 _ _ ?_))
    refine wp_seq_k (fun K109 hK109 => ?_)
    refine wp_reg ?_
    refine wpF_seg 3 (by kernel_rfl) ?_
    have h110 : (decide (([] : Str) = ([]))) = true := by decide
    have p111 : (([] : Str) = ([])) := of_decide_eq_true h110
    refine wpF_slot 35 (.bool (decide (([] : Str) = ([])))) (.bool true) (by kernel_rfl) (by kernel_rfl) (by rw [h110]) ?_
    refine wpF_seg 9 (by kernel_rfl) ?_
    have h112 : (decide ((((([] : List (Str × Str))).length : Int)) = (0))) = true := by decide
    have p113 : ((((([] : List (Str × Str))).length : Int)) = (0)) := of_decide_eq_true h112
    refine wpF_slot 44 (.bool (decide ((((([] : List (Str × Str))).length : Int)) = (0)))) (.bool true) (by kernel_rfl) (by kernel_rfl) (by rw [h112]) ?_
    refine wpF_seg 7 (by kernel_rfl) ?_
    have hM114 := hM107.front 0 rfl
    have hM122 : Step V w [] V99 _ ([.blk b82 (.cells #[.slice none 0 0, .map none, .int .i64 (0), .int .i64 (0)] 71)]) := hM114
    refine wpF_callE [.blk b82 (.cells #[.slice none 0 0, .map none, .int .i64 (0), .int .i64 (0)] 71)] ([]) hM122 (f := 35) (caps := #[]) (h := (by kernel_rfl : opAt _ _ _ _ _ = some (.call (.mk (.value (.func 35)) #[(.tmp 49), (.tmp 50), (.tmp 51)] #[53, 3, 45]), some 52))) (by kernel_rfl) (by kernel_rfl) (by kernel_rfl) (f35z _ _ b82 (t) Al cl (l) (hl.up hM107.le) (St.part (E := [.blk b82 (.cells #[.slice none 0 0, .map none, .int .i64 (0), .int .i64 (0)] 71)]) (F := ([])) hM122.ok)) (fun v115 V116 w117 Eo118 le119 hM120 hp121 => ?_)
    obtain ⟨rfl, rfl⟩ := hp121
    have hM123 : Step V w [] V116 _ ([.blk b82 (.cells #[.slice none 0 0, .map none, .int .i64 (0), .int .i64 (0)] 71)]) := hM120
    refine wpF_seg 5 (by kernel_rfl) ?_
    have hM124 := hM123.front 0 rfl
    have hM132 : Step V w [] V116 _ ([.blk b82 (.cells #[.slice none 0 0, .map none, .int .i64 (0), .int .i64 (0)] 71)]) := hM124
    refine wpF_callE [.blk b82 (.cells #[.slice none 0 0, .map none, .int .i64 (0), .int .i64 (0)] 71)] ([]) hM132 (f := 41) (caps := #[]) (h := (by kernel_rfl : opAt _ _ _ _ _ = some (.call (.mk (.value (.func 41)) #[(.tmp 56), (.tmp 57)] #[53, 3]), some 58))) (by kernel_rfl) (by kernel_rfl) (by kernel_rfl) (f41z _ _ b82 (t) (St.part (E := [.blk b82 (.cells #[.slice none 0 0, .map none, .int .i64 (0), .int .i64 (0)] 71)]) (F := ([])) hM132.ok)) (fun v125 V126 w127 Eo128 le129 hM130 hp131 => ?_)
    obtain ⟨rfl, rfl⟩ := hp131
    have hM133 : Step V w [] V126 _ ([.blk b82 (.cells #[.slice none 0 0, .map none, .int .i64 (0), .int .i64 (0)] 71)]) := hM130
    refine wpF_seg 6 (by kernel_rfl) ?_
    have hM134 := hM133.front 0 rfl
    have hM142 : Step V w [] V126 _ ([.blk b82 (.cells #[.slice none 0 0, .map none, .int .i64 (0), .int .i64 (0)] 71)]) := hM134
    refine wpF_callE [.blk b82 (.cells #[.slice none 0 0, .map none, .int .i64 (0), .int .i64 (0)] 71)] ([]) hM142 (f := 42) (caps := #[]) (h := (by kernel_rfl : opAt _ _ _ _ _ = some (.call (.mk (.value (.func 42)) #[(.tmp 62), (.tmp 63), (.const (.string (ByteArray.mk #[]))), (.tmp 64)] #[53, 9, 9, 3]), some 65))) (by kernel_rfl) (by kernel_rfl) (by kernel_rfl) (f42z _ _ b82 (y) (hy) ([]) (by first | decide | (simp only [maxL, List.length_append, List.length_cons, List.length_nil]; omega)) (t) (St.part (E := [.blk b82 (.cells #[.slice none 0 0, .map none, .int .i64 (0), .int .i64 (0)] 71)]) (F := ([])) hM142.ok)) (fun v135 V136 w137 Eo138 le139 hM140 hp141 => ?_)
    obtain ⟨rfl, rfl⟩ := hp141
    have hM143 : Step V w [] V136 _ ([.blk b82 (.cells #[.slice none 0 0, .map none, .int .i64 (0), .int .i64 (0)] 71)]) := hM140
    refine wpF_seg 4 (by kernel_rfl) ?_
    have hM144 := hM143.front 0 rfl
    have hM152 : Step V w [] V136 _ ([.blk b82 (.cells #[.slice none 0 0, .map none, .int .i64 (0), .int .i64 (0)] 71)]) := hM144
    refine wpF_callE [.blk b82 (.cells #[.slice none 0 0, .map none, .int .i64 (0), .int .i64 (0)] 71)] ([]) hM152 (f := 39) (caps := #[]) (h := (by kernel_rfl : opAt _ _ _ _ _ = some (.call (.mk (.value (.func 39)) #[(.tmp 69)] #[53]), some 70))) (by kernel_rfl) (by kernel_rfl) (by kernel_rfl) (f39z _ _ b82 (St.part (E := [.blk b82 (.cells #[.slice none 0 0, .map none, .int .i64 (0), .int .i64 (0)] 71)]) (F := ([])) hM152.ok)) (fun v145 V146 w147 Eo148 le149 hM150 hp151 => ?_)
    obtain ⟨rfl, rfl⟩ := hp151
    have hM153 : Step V w [] V146 _ ([.blk b82 (.cells #[.slice none 0 0, .map none, .int .i64 (0), .int .i64 (0)] 71)]) := hM150
    refine wpF_seg 4 (by kernel_rfl) ?_
    have hM154 := hM153.front 0 rfl
    have hM162 : Step V w [] V146 _ ([.blk b82 (.cells #[.slice none 0 0, .map none, .int .i64 (0), .int .i64 (0)] 71)]) := hM154
    refine wpF_callE [.blk b82 (.cells #[.slice none 0 0, .map none, .int .i64 (0), .int .i64 (0)] 71)] ([]) hM162 (f := 43) (caps := #[]) (h := (by kernel_rfl : opAt _ _ _ _ _ = some (.call (.mk (.value (.func 43)) #[(.tmp 74)] #[53]), some 75))) (by kernel_rfl) (by kernel_rfl) (by kernel_rfl) (f43z _ _ b82 (St.part (E := [.blk b82 (.cells #[.slice none 0 0, .map none, .int .i64 (0), .int .i64 (0)] 71)]) (F := ([])) hM162.ok)) (fun v155 V156 w157 Eo158 le159 hM160 hp161 => ?_)
    obtain ⟨rfl, rfl⟩ := hp161
    have hM163 : Step V w [] V156 _ ([.blk b82 (.cells #[.slice none 0 0, .map none, .int .i64 (0), .int .i64 (0)] 71)]) := hM160
    refine wpF_seg 4 (by kernel_rfl) ?_
    have hM164 := hM163.front 0 rfl
    have hM172 : Step V w [] V156 _ ([.blk b82 (.cells #[.slice none 0 0, .map none, .int .i64 (0), .int .i64 (0)] 71)]) := hM164
    refine wpF_callE [.blk b82 (.cells #[.slice none 0 0, .map none, .int .i64 (0), .int .i64 (0)] 71)] ([]) hM172 (f := 44) (caps := #[]) (h := (by kernel_rfl : opAt _ _ _ _ _ = some (.call (.mk (.value (.func 44)) #[(.tmp 79)] #[53]), some 80))) (by kernel_rfl) (by kernel_rfl) (by kernel_rfl) (f44z _ _ b82 (St.part (E := [.blk b82 (.cells #[.slice none 0 0, .map none, .int .i64 (0), .int .i64 (0)] 71)]) (F := ([])) hM172.ok)) (fun v165 V166 w167 Eo168 le169 hM170 hp171 => ?_)
    obtain ⟨Ar172_1, cr172_1, rfl, rfl, r173⟩ := hp171
    have hM174 : Step V w [] V166 _ ([.blk b82 (.cells #[.slice none 0 0, .map none, .int .i64 (0), .int .i64 (0)] 71)]) := hM170
    have l175 : (([] : List Item)).length ≤ 140737488355328 := r173.max
    refine wpF_seg 4 (by kernel_rfl) ?_
    have h176 : (decide ((((([] : List Item)).length : Int)) = (0))) = true := by decide
    have p177 : ((((([] : List Item)).length : Int)) = (0)) := of_decide_eq_true h176
    refine wpF_slot 84 (.bool (decide ((((([] : List Item)).length : Int)) = (0)))) (.bool true) (by kernel_rfl) (by kernel_rfl) (by rw [h176]) ?_
    refine wpF_seg 1 (by kernel_rfl) ?_
    have hM178 := hM174.front 0 rfl
    have hM186 : Step V w [] V166 _ ([.blk b82 (.cells #[.slice none 0 0, .map none, .int .i64 (0), .int .i64 (0)] 71)]) := hM178
    refine wpF_callE [.blk b82 (.cells #[.slice none 0 0, .map none, .int .i64 (0), .int .i64 (0)] 71)] ([]) hM186 (f := 45) (caps := #[]) (h := (by kernel_rfl : opAt _ _ _ _ _ = some (.call (.mk (.value (.func 45)) #[(.tmp 85)] #[53]), some 86))) (by kernel_rfl) (by kernel_rfl) (by kernel_rfl) (f45z _ _ b82 (St.part (E := [.blk b82 (.cells #[.slice none 0 0, .map none, .int .i64 (0), .int .i64 (0)] 71)]) (F := ([])) hM186.ok)) (fun v179 V180 w181 Eo182 le183 hM184 hp185 => ?_)
    obtain ⟨rfl, rfl⟩ := hp185
    have hM187 : Step V w [] V180 _ ([.blk b82 (.cells #[.slice none 0 0, .map none, .int .i64 (0), .int .i64 (0)] 71)]) := hM184
    refine gF hM187 (.binOp .eql 53 (.tmp 86) (.const (.pointer none)) 53) (some 87) (by kernel_rfl) (Y_eql (.pointer none) (.pointer none) (true) (by kernel_rfl) (by kernel_rfl) (by kernel_rfl)) ?_
    refine wpF_seg 2 (by kernel_rfl) ?_
    refine wpF_callP hM187 (f := 34) (caps := #[]) (h := (by kernel_rfl : opAt _ _ _ _ _ = some (.call (.mk (.value (.func 34)) #[] #[]), some 90))) (by kernel_rfl) (by kernel_rfl) (by kernel_rfl) (f34 _ _ hM187.inW ) (fun v188 V189 w190 le191 hM192 hp193 => ?_)
    obtain rfl := hp193
    refine wpF_seg 2 (by kernel_rfl) ?_
    refine wpF_end _ (by kernel_rfl) (then_n (hK109 _ _ ?_))
    refine wp_ret ?_
    refine retN [.bool (true)] (.bool (true)) Try.results8 (.tmp (by kernel_rfl) (by kernel_rfl) .nil) (by kernel_rfl) (hRet _ _ ⟨_, _, rfl, hM192.clear, ?_⟩)
    -- end T
    rfl

end Go.Vk
