/- What the references of scale and the law ScaleIs compute, by the executor: printed by a program (wip/sx/Gen2.lean). -/
import Derived.Test.YtmnglkcodbecbaaGreatR
namespace Go.Proofs.YtmnglkcodbecbaaGreat
open Go Go.Sx
set_option maxRecDepth 1000000
set_option maxHeartbeats 100000000
/-- outrigger/outriggerref03.Round -/
def f160 (a0_0 : Int) (a0_1 : Int) : Int × Bool := bif !(f187 a0_0 a0_1 0 2147483648).snd.snd then ((288230376151711744, true)) else (((f196 (f197 (f187 a0_0 a0_1 0 2147483648).fst (f187 a0_0 a0_1 0 2147483648).snd.fst).fst (f197 (f187 a0_0 a0_1 0 2147483648).fst (f187 a0_0 a0_1 0 2147483648).snd.fst).snd).fst, !(f196 (f197 (f187 a0_0 a0_1 0 2147483648).fst (f187 a0_0 a0_1 0 2147483648).snd.fst).fst (f197 (f187 a0_0 a0_1 0 2147483648).fst (f187 a0_0 a0_1 0 2147483648).snd.fst).snd).snd || !f186 a0_0 a0_1))
def g160 (p : Int × Bool) : SV := .tuple [.int .i64 (.sym p.1), .bool (.sym p.2)]
def S160 : Summ
  | [.v (.agg [.int .i64 a0_0, .int .i64 a0_1])] => some (g160 (f160 a0_0.val a0_1.val))
  | _ => none
theorem S160_ok : SummFn Go.Proofs.Tryz.prog 160 S160 := by
  have ev : ∀ (a0_0 : Int) (a0_1 : Int), (symCall ⟨Go.Proofs.Tryz.prog, [(187, S187), (196, S196), (197, S197), (186, S186)], 3, 215, false, [], [], []⟩ 30 160 [.agg [.int .i64 (.sym a0_0), .int .i64 (.sym a0_1)]] []).out = (bif !(f187 a0_0 a0_1 0 2147483648).snd.snd then ((g160 (288230376151711744, true)).toV) else ((g160 ((f196 (f197 (f187 a0_0 a0_1 0 2147483648).fst (f187 a0_0 a0_1 0 2147483648).snd.fst).fst (f197 (f187 a0_0 a0_1 0 2147483648).fst (f187 a0_0 a0_1 0 2147483648).snd.fst).snd).fst, !(f196 (f197 (f187 a0_0 a0_1 0 2147483648).fst (f187 a0_0 a0_1 0 2147483648).snd.fst).fst (f197 (f187 a0_0 a0_1 0 2147483648).fst (f187 a0_0 a0_1 0 2147483648).snd.fst).snd).snd || !f186 a0_0 a0_1)).toV)) := by
    intro a0_0 a0_1
    kernel_rfl
  intro fs r h w vs hv
  unfold S160 at h
  split at h
  · rename_i a0_0 a0_1
    cases h
    exact sx_calls (envOk' (S := [(187, S187), (196, S196), (197, S197), (186, S186)]) ⟨S187_ok, S196_ok, S197_ok, S186_ok, trivial⟩) 30 160 [.agg [.int .i64 (.sym a0_0.val), .int .i64 (.sym a0_1.val)]] vs (symifyL_rel _ _ (SArels_v (xs := [.agg [.int .i64 a0_0, .int .i64 a0_1]]) hv)) (by kernel_rfl) rfl ((ev a0_0.val a0_1.val).trans (cond_out g160 rfl rfl)) w
  · cases h
/-- outrigger/outriggerref03.Times -/
def f100 (a0 : Int) (a1 : Int) : Int × Bool := ((f160 (f161 a0 a1).fst (f161 a0 a1).snd).fst, (f160 (f161 a0 a1).fst (f161 a0 a1).snd).snd || f162 a0 || f162 a1)
def g100 (p : Int × Bool) : SV := .tuple [.int .i64 (.sym p.1), .bool (.sym p.2)]
def S100 : Summ
  | [.v (.int .i64 a0), .v (.int .i64 a1)] => some (g100 (f100 a0.val a1.val))
  | _ => none
theorem S100_ok : SummFn Go.Proofs.Tryz.prog 100 S100 := by
  have ev : ∀ (a0 : Int) (a1 : Int), (symCall ⟨Go.Proofs.Tryz.prog, [(160, S160), (161, S161), (162, S162)], 3, 215, false, [], [], []⟩ 30 100 [.int .i64 (.sym a0), .int .i64 (.sym a1)] []).out = ((g100 ((f160 (f161 a0 a1).fst (f161 a0 a1).snd).fst, (f160 (f161 a0 a1).fst (f161 a0 a1).snd).snd || f162 a0 || f162 a1)).toV) := by
    intro a0 a1
    kernel_rfl
  intro fs r h w vs hv
  unfold S100 at h
  split at h
  · rename_i a0 a1
    cases h
    exact sx_calls (envOk' (S := [(160, S160), (161, S161), (162, S162)]) ⟨S160_ok, S161_ok, S162_ok, trivial⟩) 30 100 [.int .i64 (.sym a0.val), .int .i64 (.sym a1.val)] vs (symifyL_rel _ _ (SArels_v (xs := [.int .i64 a0, .int .i64 a1]) hv)) (by kernel_rfl) rfl ((ev a0.val a1.val).trans rfl) w
  · cases h
/-- outrigger/outriggerref03.Over -/
def f109 (a0 : Int) (a1 : Int) : Int × Bool := bif f88 a1 == 0 && decide (f88 a0 > 0) then ((288230376151711744, true)) else (bif f88 a1 == 0 && decide (f88 a0 < 0) then ((-288230376151711744, true)) else (bif f88 a1 == 0 then ((0, true)) else (bif decide (f88 a0 < 0) == decide (f88 a1 < 0) && decide (IntKind.i64.wrap (2 * (f166 (f132 (f88 a0)) (f132 (f88 a1))).snd) ≥ f132 (f88 a1)) then (bif !decide (f88 a0 < 0) == decide (f88 a1 < 0) then (bif decide (IntKind.i64.wrap (2 * (f166 (f132 (f88 a0)) (f132 (f88 a1))).snd) > f132 (f88 a1)) then (((f146 (IntKind.i64.wrap (0 - IntKind.i64.wrap (IntKind.i64.wrap ((f166 (f132 (f88 a0)) (f132 (f88 a1))).fst + 1) + 1)))).fst, (f146 (IntKind.i64.wrap (0 - IntKind.i64.wrap (IntKind.i64.wrap ((f166 (f132 (f88 a0)) (f132 (f88 a1))).fst + 1) + 1)))).snd || f162 a0 || f162 a1)) else (((f146 (IntKind.i64.wrap (0 - IntKind.i64.wrap ((f166 (f132 (f88 a0)) (f132 (f88 a1))).fst + 1)))).fst, (f146 (IntKind.i64.wrap (0 - IntKind.i64.wrap ((f166 (f132 (f88 a0)) (f132 (f88 a1))).fst + 1)))).snd || f162 a0 || f162 a1))) else (((f146 (IntKind.i64.wrap ((f166 (f132 (f88 a0)) (f132 (f88 a1))).fst + 1))).fst, (f146 (IntKind.i64.wrap ((f166 (f132 (f88 a0)) (f132 (f88 a1))).fst + 1))).snd || f162 a0 || f162 a1))) else (bif !decide (f88 a0 < 0) == decide (f88 a1 < 0) then (bif decide (IntKind.i64.wrap (2 * (f166 (f132 (f88 a0)) (f132 (f88 a1))).snd) > f132 (f88 a1)) then (((f146 (IntKind.i64.wrap (0 - IntKind.i64.wrap ((f166 (f132 (f88 a0)) (f132 (f88 a1))).fst + 1)))).fst, (f146 (IntKind.i64.wrap (0 - IntKind.i64.wrap ((f166 (f132 (f88 a0)) (f132 (f88 a1))).fst + 1)))).snd || f162 a0 || f162 a1)) else (((f146 (IntKind.i64.wrap (0 - (f166 (f132 (f88 a0)) (f132 (f88 a1))).fst))).fst, (f146 (IntKind.i64.wrap (0 - (f166 (f132 (f88 a0)) (f132 (f88 a1))).fst))).snd || f162 a0 || f162 a1))) else (((f146 (f166 (f132 (f88 a0)) (f132 (f88 a1))).fst).fst, (f146 (f166 (f132 (f88 a0)) (f132 (f88 a1))).fst).snd || f162 a0 || f162 a1))))))
def g109 (p : Int × Bool) : SV := .tuple [.int .i64 (.sym p.1), .bool (.sym p.2)]
def S109 : Summ
  | [.v (.int .i64 a0), .v (.int .i64 a1)] => some (g109 (f109 a0.val a1.val))
  | _ => none
theorem S109_ok : SummFn Go.Proofs.Tryz.prog 109 S109 := by
  have ev : ∀ (a0 : Int) (a1 : Int), (symCall ⟨Go.Proofs.Tryz.prog, [(162, S162), (88, S88), (166, S166), (132, S132), (146, S146)], 3, 215, false, [], [], []⟩ 30 109 [.int .i64 (.sym a0), .int .i64 (.sym a1)] []).out = (bif f88 a1 == 0 && decide (f88 a0 > 0) then ((g109 (288230376151711744, true)).toV) else (bif f88 a1 == 0 && decide (f88 a0 < 0) then ((g109 (-288230376151711744, true)).toV) else (bif f88 a1 == 0 then ((g109 (0, true)).toV) else (bif decide (f88 a0 < 0) == decide (f88 a1 < 0) && decide (IntKind.i64.wrap (2 * (f166 (f132 (f88 a0)) (f132 (f88 a1))).snd) ≥ f132 (f88 a1)) then (bif !decide (f88 a0 < 0) == decide (f88 a1 < 0) then (bif decide (IntKind.i64.wrap (2 * (f166 (f132 (f88 a0)) (f132 (f88 a1))).snd) > f132 (f88 a1)) then ((g109 ((f146 (IntKind.i64.wrap (0 - IntKind.i64.wrap (IntKind.i64.wrap ((f166 (f132 (f88 a0)) (f132 (f88 a1))).fst + 1) + 1)))).fst, (f146 (IntKind.i64.wrap (0 - IntKind.i64.wrap (IntKind.i64.wrap ((f166 (f132 (f88 a0)) (f132 (f88 a1))).fst + 1) + 1)))).snd || f162 a0 || f162 a1)).toV) else ((g109 ((f146 (IntKind.i64.wrap (0 - IntKind.i64.wrap ((f166 (f132 (f88 a0)) (f132 (f88 a1))).fst + 1)))).fst, (f146 (IntKind.i64.wrap (0 - IntKind.i64.wrap ((f166 (f132 (f88 a0)) (f132 (f88 a1))).fst + 1)))).snd || f162 a0 || f162 a1)).toV)) else ((g109 ((f146 (IntKind.i64.wrap ((f166 (f132 (f88 a0)) (f132 (f88 a1))).fst + 1))).fst, (f146 (IntKind.i64.wrap ((f166 (f132 (f88 a0)) (f132 (f88 a1))).fst + 1))).snd || f162 a0 || f162 a1)).toV)) else (bif !decide (f88 a0 < 0) == decide (f88 a1 < 0) then (bif decide (IntKind.i64.wrap (2 * (f166 (f132 (f88 a0)) (f132 (f88 a1))).snd) > f132 (f88 a1)) then ((g109 ((f146 (IntKind.i64.wrap (0 - IntKind.i64.wrap ((f166 (f132 (f88 a0)) (f132 (f88 a1))).fst + 1)))).fst, (f146 (IntKind.i64.wrap (0 - IntKind.i64.wrap ((f166 (f132 (f88 a0)) (f132 (f88 a1))).fst + 1)))).snd || f162 a0 || f162 a1)).toV) else ((g109 ((f146 (IntKind.i64.wrap (0 - (f166 (f132 (f88 a0)) (f132 (f88 a1))).fst))).fst, (f146 (IntKind.i64.wrap (0 - (f166 (f132 (f88 a0)) (f132 (f88 a1))).fst))).snd || f162 a0 || f162 a1)).toV)) else ((g109 ((f146 (f166 (f132 (f88 a0)) (f132 (f88 a1))).fst).fst, (f146 (f166 (f132 (f88 a0)) (f132 (f88 a1))).fst).snd || f162 a0 || f162 a1)).toV)))))) := by
    intro a0 a1
    kernel_rfl
  intro fs r h w vs hv
  unfold S109 at h
  split at h
  · rename_i a0 a1
    cases h
    exact sx_calls (envOk' (S := [(162, S162), (88, S88), (166, S166), (132, S132), (146, S146)]) ⟨S162_ok, S88_ok, S166_ok, S132_ok, S146_ok, trivial⟩) 30 109 [.int .i64 (.sym a0.val), .int .i64 (.sym a1.val)] vs (symifyL_rel _ _ (SArels_v (xs := [.int .i64 a0, .int .i64 a1]) hv)) (by kernel_rfl) rfl ((ev a0.val a1.val).trans (cond_out g109 rfl (cond_out g109 rfl (cond_out g109 rfl (cond_out g109 (cond_out g109 (cond_out g109 rfl rfl) rfl) (cond_out g109 (cond_out g109 rfl rfl) rfl)))))) w
  · cases h
end Go.Proofs.YtmnglkcodbecbaaGreat
