/- What the references of scale and the law ScaleIs compute, by the executor: printed by a program (wip/sx/Gen2.lean). -/
import Derived.Test.YtejlbofmlaclpaaR
namespace Go.Proofs.Ytejlbofmlaclpaa
open Go Go.Sx
set_option maxRecDepth 1000000
set_option maxHeartbeats 100000000
/-- outrigger/outriggerref03.Round -/
def f17 (a0_0 : Int) (a0_1 : Int) : Int × Bool := bif !(f52 a0_0 a0_1 0 2147483648).snd.snd then ((288230376151711744, true)) else (((f53 (f54 (f52 a0_0 a0_1 0 2147483648).fst (f52 a0_0 a0_1 0 2147483648).snd.fst).fst (f54 (f52 a0_0 a0_1 0 2147483648).fst (f52 a0_0 a0_1 0 2147483648).snd.fst).snd).fst, !(f53 (f54 (f52 a0_0 a0_1 0 2147483648).fst (f52 a0_0 a0_1 0 2147483648).snd.fst).fst (f54 (f52 a0_0 a0_1 0 2147483648).fst (f52 a0_0 a0_1 0 2147483648).snd.fst).snd).snd || !f55 a0_0 a0_1))
def g17 (p : Int × Bool) : SV := .tuple [.int .i64 (.sym p.1), .bool (.sym p.2)]
def S17 : Summ
  | [.v (.agg [.int .i64 a0_0, .int .i64 a0_1])] => some (g17 (f17 a0_0.val a0_1.val))
  | _ => none
theorem S17_ok : SummFn Go.Proofs.Try.prog 17 S17 := by
  have ev : ∀ (a0_0 : Int) (a0_1 : Int), (symCall ⟨Go.Proofs.Try.prog, [(52, S52), (53, S53), (54, S54), (55, S55)], 3, 110, false, [], [], []⟩ 30 17 [.agg [.int .i64 (.sym a0_0), .int .i64 (.sym a0_1)]] []).out = (bif !(f52 a0_0 a0_1 0 2147483648).snd.snd then ((g17 (288230376151711744, true)).toV) else ((g17 ((f53 (f54 (f52 a0_0 a0_1 0 2147483648).fst (f52 a0_0 a0_1 0 2147483648).snd.fst).fst (f54 (f52 a0_0 a0_1 0 2147483648).fst (f52 a0_0 a0_1 0 2147483648).snd.fst).snd).fst, !(f53 (f54 (f52 a0_0 a0_1 0 2147483648).fst (f52 a0_0 a0_1 0 2147483648).snd.fst).fst (f54 (f52 a0_0 a0_1 0 2147483648).fst (f52 a0_0 a0_1 0 2147483648).snd.fst).snd).snd || !f55 a0_0 a0_1)).toV)) := by
    intro a0_0 a0_1
    kernel_rfl
  intro fs r h w vs hv
  unfold S17 at h
  split at h
  · rename_i a0_0 a0_1
    cases h
    exact sx_calls (envOk' (S := [(52, S52), (53, S53), (54, S54), (55, S55)]) ⟨S52_ok, S53_ok, S54_ok, S55_ok, trivial⟩) 30 17 [.agg [.int .i64 (.sym a0_0.val), .int .i64 (.sym a0_1.val)]] vs (symifyL_rel _ _ (SArels_v (xs := [.agg [.int .i64 a0_0, .int .i64 a0_1]]) hv)) (by kernel_rfl) rfl ((ev a0_0.val a0_1.val).trans (cond_out g17 rfl rfl)) w
  · cases h
/-- outrigger/outriggerref03.Times -/
def f19 (a0 : Int) (a1 : Int) : Int × Bool := ((f17 (f57 a0 a1).fst (f57 a0 a1).snd).fst, (f17 (f57 a0 a1).fst (f57 a0 a1).snd).snd || f58 a0 || f58 a1)
def g19 (p : Int × Bool) : SV := .tuple [.int .i64 (.sym p.1), .bool (.sym p.2)]
def S19 : Summ
  | [.v (.int .i64 a0), .v (.int .i64 a1)] => some (g19 (f19 a0.val a1.val))
  | _ => none
theorem S19_ok : SummFn Go.Proofs.Try.prog 19 S19 := by
  have ev : ∀ (a0 : Int) (a1 : Int), (symCall ⟨Go.Proofs.Try.prog, [(17, S17), (57, S57), (58, S58)], 3, 110, false, [], [], []⟩ 30 19 [.int .i64 (.sym a0), .int .i64 (.sym a1)] []).out = ((g19 ((f17 (f57 a0 a1).fst (f57 a0 a1).snd).fst, (f17 (f57 a0 a1).fst (f57 a0 a1).snd).snd || f58 a0 || f58 a1)).toV) := by
    intro a0 a1
    kernel_rfl
  intro fs r h w vs hv
  unfold S19 at h
  split at h
  · rename_i a0 a1
    cases h
    exact sx_calls (envOk' (S := [(17, S17), (57, S57), (58, S58)]) ⟨S17_ok, S57_ok, S58_ok, trivial⟩) 30 19 [.int .i64 (.sym a0.val), .int .i64 (.sym a1.val)] vs (symifyL_rel _ _ (SArels_v (xs := [.int .i64 a0, .int .i64 a1]) hv)) (by kernel_rfl) rfl ((ev a0.val a1.val).trans rfl) w
  · cases h
/-- outrigger/outriggerref03.Over -/
def f21 (a0 : Int) (a1 : Int) : Int × Bool := bif f60 a1 == 0 && decide (f60 a0 > 0) then ((288230376151711744, true)) else (bif f60 a1 == 0 && decide (f60 a0 < 0) then ((-288230376151711744, true)) else (bif f60 a1 == 0 then ((0, true)) else (bif decide (f60 a0 < 0) == decide (f60 a1 < 0) && decide (IntKind.i64.wrap (2 * (f61 (f62 (f60 a0)) (f62 (f60 a1))).snd) ≥ f62 (f60 a1)) then (bif !decide (f60 a0 < 0) == decide (f60 a1 < 0) then (bif decide (IntKind.i64.wrap (2 * (f61 (f62 (f60 a0)) (f62 (f60 a1))).snd) > f62 (f60 a1)) then (((f63 (IntKind.i64.wrap (0 - IntKind.i64.wrap (IntKind.i64.wrap ((f61 (f62 (f60 a0)) (f62 (f60 a1))).fst + 1) + 1)))).fst, (f63 (IntKind.i64.wrap (0 - IntKind.i64.wrap (IntKind.i64.wrap ((f61 (f62 (f60 a0)) (f62 (f60 a1))).fst + 1) + 1)))).snd || f58 a0 || f58 a1)) else (((f63 (IntKind.i64.wrap (0 - IntKind.i64.wrap ((f61 (f62 (f60 a0)) (f62 (f60 a1))).fst + 1)))).fst, (f63 (IntKind.i64.wrap (0 - IntKind.i64.wrap ((f61 (f62 (f60 a0)) (f62 (f60 a1))).fst + 1)))).snd || f58 a0 || f58 a1))) else (((f63 (IntKind.i64.wrap ((f61 (f62 (f60 a0)) (f62 (f60 a1))).fst + 1))).fst, (f63 (IntKind.i64.wrap ((f61 (f62 (f60 a0)) (f62 (f60 a1))).fst + 1))).snd || f58 a0 || f58 a1))) else (bif !decide (f60 a0 < 0) == decide (f60 a1 < 0) then (bif decide (IntKind.i64.wrap (2 * (f61 (f62 (f60 a0)) (f62 (f60 a1))).snd) > f62 (f60 a1)) then (((f63 (IntKind.i64.wrap (0 - IntKind.i64.wrap ((f61 (f62 (f60 a0)) (f62 (f60 a1))).fst + 1)))).fst, (f63 (IntKind.i64.wrap (0 - IntKind.i64.wrap ((f61 (f62 (f60 a0)) (f62 (f60 a1))).fst + 1)))).snd || f58 a0 || f58 a1)) else (((f63 (IntKind.i64.wrap (0 - (f61 (f62 (f60 a0)) (f62 (f60 a1))).fst))).fst, (f63 (IntKind.i64.wrap (0 - (f61 (f62 (f60 a0)) (f62 (f60 a1))).fst))).snd || f58 a0 || f58 a1))) else (((f63 (f61 (f62 (f60 a0)) (f62 (f60 a1))).fst).fst, (f63 (f61 (f62 (f60 a0)) (f62 (f60 a1))).fst).snd || f58 a0 || f58 a1))))))
def g21 (p : Int × Bool) : SV := .tuple [.int .i64 (.sym p.1), .bool (.sym p.2)]
def S21 : Summ
  | [.v (.int .i64 a0), .v (.int .i64 a1)] => some (g21 (f21 a0.val a1.val))
  | _ => none
theorem S21_ok : SummFn Go.Proofs.Try.prog 21 S21 := by
  have ev : ∀ (a0 : Int) (a1 : Int), (symCall ⟨Go.Proofs.Try.prog, [(58, S58), (60, S60), (61, S61), (62, S62), (63, S63)], 3, 110, false, [], [], []⟩ 30 21 [.int .i64 (.sym a0), .int .i64 (.sym a1)] []).out = (bif f60 a1 == 0 && decide (f60 a0 > 0) then ((g21 (288230376151711744, true)).toV) else (bif f60 a1 == 0 && decide (f60 a0 < 0) then ((g21 (-288230376151711744, true)).toV) else (bif f60 a1 == 0 then ((g21 (0, true)).toV) else (bif decide (f60 a0 < 0) == decide (f60 a1 < 0) && decide (IntKind.i64.wrap (2 * (f61 (f62 (f60 a0)) (f62 (f60 a1))).snd) ≥ f62 (f60 a1)) then (bif !decide (f60 a0 < 0) == decide (f60 a1 < 0) then (bif decide (IntKind.i64.wrap (2 * (f61 (f62 (f60 a0)) (f62 (f60 a1))).snd) > f62 (f60 a1)) then ((g21 ((f63 (IntKind.i64.wrap (0 - IntKind.i64.wrap (IntKind.i64.wrap ((f61 (f62 (f60 a0)) (f62 (f60 a1))).fst + 1) + 1)))).fst, (f63 (IntKind.i64.wrap (0 - IntKind.i64.wrap (IntKind.i64.wrap ((f61 (f62 (f60 a0)) (f62 (f60 a1))).fst + 1) + 1)))).snd || f58 a0 || f58 a1)).toV) else ((g21 ((f63 (IntKind.i64.wrap (0 - IntKind.i64.wrap ((f61 (f62 (f60 a0)) (f62 (f60 a1))).fst + 1)))).fst, (f63 (IntKind.i64.wrap (0 - IntKind.i64.wrap ((f61 (f62 (f60 a0)) (f62 (f60 a1))).fst + 1)))).snd || f58 a0 || f58 a1)).toV)) else ((g21 ((f63 (IntKind.i64.wrap ((f61 (f62 (f60 a0)) (f62 (f60 a1))).fst + 1))).fst, (f63 (IntKind.i64.wrap ((f61 (f62 (f60 a0)) (f62 (f60 a1))).fst + 1))).snd || f58 a0 || f58 a1)).toV)) else (bif !decide (f60 a0 < 0) == decide (f60 a1 < 0) then (bif decide (IntKind.i64.wrap (2 * (f61 (f62 (f60 a0)) (f62 (f60 a1))).snd) > f62 (f60 a1)) then ((g21 ((f63 (IntKind.i64.wrap (0 - IntKind.i64.wrap ((f61 (f62 (f60 a0)) (f62 (f60 a1))).fst + 1)))).fst, (f63 (IntKind.i64.wrap (0 - IntKind.i64.wrap ((f61 (f62 (f60 a0)) (f62 (f60 a1))).fst + 1)))).snd || f58 a0 || f58 a1)).toV) else ((g21 ((f63 (IntKind.i64.wrap (0 - (f61 (f62 (f60 a0)) (f62 (f60 a1))).fst))).fst, (f63 (IntKind.i64.wrap (0 - (f61 (f62 (f60 a0)) (f62 (f60 a1))).fst))).snd || f58 a0 || f58 a1)).toV)) else ((g21 ((f63 (f61 (f62 (f60 a0)) (f62 (f60 a1))).fst).fst, (f63 (f61 (f62 (f60 a0)) (f62 (f60 a1))).fst).snd || f58 a0 || f58 a1)).toV)))))) := by
    intro a0 a1
    kernel_rfl
  intro fs r h w vs hv
  unfold S21 at h
  split at h
  · rename_i a0 a1
    cases h
    exact sx_calls (envOk' (S := [(58, S58), (60, S60), (61, S61), (62, S62), (63, S63)]) ⟨S58_ok, S60_ok, S61_ok, S62_ok, S63_ok, trivial⟩) 30 21 [.int .i64 (.sym a0.val), .int .i64 (.sym a1.val)] vs (symifyL_rel _ _ (SArels_v (xs := [.int .i64 a0, .int .i64 a1]) hv)) (by kernel_rfl) rfl ((ev a0.val a1.val).trans (cond_out g21 rfl (cond_out g21 rfl (cond_out g21 rfl (cond_out g21 (cond_out g21 (cond_out g21 rfl rfl) rfl) (cond_out g21 (cond_out g21 rfl rfl) rfl)))))) w
  · cases h
end Go.Proofs.Ytejlbofmlaclpaa
