/- What the references of scale and the law ScaleIs compute, by the executor: printed by a program (wip/sx/Gen2.lean). -/
import Derived.Test.YtgbbaegfcmlmiaaR
namespace Go.Proofs.Ytgbbaegfcmlmiaa
open Go Go.Sx
set_option maxRecDepth 1000000
set_option maxHeartbeats 100000000
/-- outrigger/outriggerref03.Round -/
def f58 (a0_0 : Int) (a0_1 : Int) : Int × Bool := bif !(f74 a0_0 a0_1 0 2147483648).snd.snd then ((288230376151711744, true)) else (((f78 (f79 (f74 a0_0 a0_1 0 2147483648).fst (f74 a0_0 a0_1 0 2147483648).snd.fst).fst (f79 (f74 a0_0 a0_1 0 2147483648).fst (f74 a0_0 a0_1 0 2147483648).snd.fst).snd).fst, !(f78 (f79 (f74 a0_0 a0_1 0 2147483648).fst (f74 a0_0 a0_1 0 2147483648).snd.fst).fst (f79 (f74 a0_0 a0_1 0 2147483648).fst (f74 a0_0 a0_1 0 2147483648).snd.fst).snd).snd || !f73 a0_0 a0_1))
def g58 (p : Int × Bool) : SV := .tuple [.int .i64 (.sym p.1), .bool (.sym p.2)]
def S58 : Summ
  | [.v (.agg [.int .i64 a0_0, .int .i64 a0_1])] => some (g58 (f58 a0_0.val a0_1.val))
  | _ => none
theorem S58_ok : SummFn Go.Proofs.Try.prog 58 S58 := by
  have ev : ∀ (a0_0 : Int) (a0_1 : Int), (symCall ⟨Go.Proofs.Try.prog, [(74, S74), (78, S78), (79, S79), (73, S73)], 3, 88, false, [], []⟩ 30 58 [.agg [.int .i64 (.sym a0_0), .int .i64 (.sym a0_1)]] []).out = (bif !(f74 a0_0 a0_1 0 2147483648).snd.snd then ((g58 (288230376151711744, true)).toV) else ((g58 ((f78 (f79 (f74 a0_0 a0_1 0 2147483648).fst (f74 a0_0 a0_1 0 2147483648).snd.fst).fst (f79 (f74 a0_0 a0_1 0 2147483648).fst (f74 a0_0 a0_1 0 2147483648).snd.fst).snd).fst, !(f78 (f79 (f74 a0_0 a0_1 0 2147483648).fst (f74 a0_0 a0_1 0 2147483648).snd.fst).fst (f79 (f74 a0_0 a0_1 0 2147483648).fst (f74 a0_0 a0_1 0 2147483648).snd.fst).snd).snd || !f73 a0_0 a0_1)).toV)) := by
    intro a0_0 a0_1
    kernel_rfl
  intro fs r h w vs hv
  unfold S58 at h
  split at h
  · rename_i a0_0 a0_1
    cases h
    exact sx_calls (envOk' (S := [(74, S74), (78, S78), (79, S79), (73, S73)]) ⟨S74_ok, S78_ok, S79_ok, S73_ok, trivial⟩) 30 58 [.agg [.int .i64 (.sym a0_0.val), .int .i64 (.sym a0_1.val)]] vs (symifyL_rel _ _ (SArels_v (xs := [.agg [.int .i64 a0_0, .int .i64 a0_1]]) hv)) (by kernel_rfl) rfl ((ev a0_0.val a0_1.val).trans (cond_out g58 rfl rfl)) w
  · cases h
/-- outrigger/outriggerref03.Times -/
def f36 (a0 : Int) (a1 : Int) : Int × Bool := ((f58 (f57 a0 a1).fst (f57 a0 a1).snd).fst, (f58 (f57 a0 a1).fst (f57 a0 a1).snd).snd || f59 a0 || f59 a1)
def g36 (p : Int × Bool) : SV := .tuple [.int .i64 (.sym p.1), .bool (.sym p.2)]
def S36 : Summ
  | [.v (.int .i64 a0), .v (.int .i64 a1)] => some (g36 (f36 a0.val a1.val))
  | _ => none
theorem S36_ok : SummFn Go.Proofs.Try.prog 36 S36 := by
  have ev : ∀ (a0 : Int) (a1 : Int), (symCall ⟨Go.Proofs.Try.prog, [(58, S58), (57, S57), (59, S59)], 3, 88, false, [], []⟩ 30 36 [.int .i64 (.sym a0), .int .i64 (.sym a1)] []).out = ((g36 ((f58 (f57 a0 a1).fst (f57 a0 a1).snd).fst, (f58 (f57 a0 a1).fst (f57 a0 a1).snd).snd || f59 a0 || f59 a1)).toV) := by
    intro a0 a1
    kernel_rfl
  intro fs r h w vs hv
  unfold S36 at h
  split at h
  · rename_i a0 a1
    cases h
    exact sx_calls (envOk' (S := [(58, S58), (57, S57), (59, S59)]) ⟨S58_ok, S57_ok, S59_ok, trivial⟩) 30 36 [.int .i64 (.sym a0.val), .int .i64 (.sym a1.val)] vs (symifyL_rel _ _ (SArels_v (xs := [.int .i64 a0, .int .i64 a1]) hv)) (by kernel_rfl) rfl ((ev a0.val a1.val).trans rfl) w
  · cases h
/-- outrigger/outriggerref03.Over -/
def f60 (a0 : Int) (a1 : Int) : Int × Bool := bif f42 a1 == 0 && decide (f42 a0 > 0) then ((288230376151711744, true)) else (bif f42 a1 == 0 && decide (f42 a0 < 0) then ((-288230376151711744, true)) else (bif f42 a1 == 0 then ((0, true)) else (bif decide (f42 a0 < 0) == decide (f42 a1 < 0) && decide (IntKind.i64.wrap (2 * (f80 (f37 (f42 a0)) (f37 (f42 a1))).snd) ≥ f37 (f42 a1)) then (bif !decide (f42 a0 < 0) == decide (f42 a1 < 0) then (bif decide (IntKind.i64.wrap (2 * (f80 (f37 (f42 a0)) (f37 (f42 a1))).snd) > f37 (f42 a1)) then (((f52 (IntKind.i64.wrap (0 - IntKind.i64.wrap (IntKind.i64.wrap ((f80 (f37 (f42 a0)) (f37 (f42 a1))).fst + 1) + 1)))).fst, (f52 (IntKind.i64.wrap (0 - IntKind.i64.wrap (IntKind.i64.wrap ((f80 (f37 (f42 a0)) (f37 (f42 a1))).fst + 1) + 1)))).snd || f59 a0 || f59 a1)) else (((f52 (IntKind.i64.wrap (0 - IntKind.i64.wrap ((f80 (f37 (f42 a0)) (f37 (f42 a1))).fst + 1)))).fst, (f52 (IntKind.i64.wrap (0 - IntKind.i64.wrap ((f80 (f37 (f42 a0)) (f37 (f42 a1))).fst + 1)))).snd || f59 a0 || f59 a1))) else (((f52 (IntKind.i64.wrap ((f80 (f37 (f42 a0)) (f37 (f42 a1))).fst + 1))).fst, (f52 (IntKind.i64.wrap ((f80 (f37 (f42 a0)) (f37 (f42 a1))).fst + 1))).snd || f59 a0 || f59 a1))) else (bif !decide (f42 a0 < 0) == decide (f42 a1 < 0) then (bif decide (IntKind.i64.wrap (2 * (f80 (f37 (f42 a0)) (f37 (f42 a1))).snd) > f37 (f42 a1)) then (((f52 (IntKind.i64.wrap (0 - IntKind.i64.wrap ((f80 (f37 (f42 a0)) (f37 (f42 a1))).fst + 1)))).fst, (f52 (IntKind.i64.wrap (0 - IntKind.i64.wrap ((f80 (f37 (f42 a0)) (f37 (f42 a1))).fst + 1)))).snd || f59 a0 || f59 a1)) else (((f52 (IntKind.i64.wrap (0 - (f80 (f37 (f42 a0)) (f37 (f42 a1))).fst))).fst, (f52 (IntKind.i64.wrap (0 - (f80 (f37 (f42 a0)) (f37 (f42 a1))).fst))).snd || f59 a0 || f59 a1))) else (((f52 (f80 (f37 (f42 a0)) (f37 (f42 a1))).fst).fst, (f52 (f80 (f37 (f42 a0)) (f37 (f42 a1))).fst).snd || f59 a0 || f59 a1))))))
def g60 (p : Int × Bool) : SV := .tuple [.int .i64 (.sym p.1), .bool (.sym p.2)]
def S60 : Summ
  | [.v (.int .i64 a0), .v (.int .i64 a1)] => some (g60 (f60 a0.val a1.val))
  | _ => none
theorem S60_ok : SummFn Go.Proofs.Try.prog 60 S60 := by
  have ev : ∀ (a0 : Int) (a1 : Int), (symCall ⟨Go.Proofs.Try.prog, [(59, S59), (42, S42), (80, S80), (37, S37), (52, S52)], 3, 88, false, [], []⟩ 30 60 [.int .i64 (.sym a0), .int .i64 (.sym a1)] []).out = (bif f42 a1 == 0 && decide (f42 a0 > 0) then ((g60 (288230376151711744, true)).toV) else (bif f42 a1 == 0 && decide (f42 a0 < 0) then ((g60 (-288230376151711744, true)).toV) else (bif f42 a1 == 0 then ((g60 (0, true)).toV) else (bif decide (f42 a0 < 0) == decide (f42 a1 < 0) && decide (IntKind.i64.wrap (2 * (f80 (f37 (f42 a0)) (f37 (f42 a1))).snd) ≥ f37 (f42 a1)) then (bif !decide (f42 a0 < 0) == decide (f42 a1 < 0) then (bif decide (IntKind.i64.wrap (2 * (f80 (f37 (f42 a0)) (f37 (f42 a1))).snd) > f37 (f42 a1)) then ((g60 ((f52 (IntKind.i64.wrap (0 - IntKind.i64.wrap (IntKind.i64.wrap ((f80 (f37 (f42 a0)) (f37 (f42 a1))).fst + 1) + 1)))).fst, (f52 (IntKind.i64.wrap (0 - IntKind.i64.wrap (IntKind.i64.wrap ((f80 (f37 (f42 a0)) (f37 (f42 a1))).fst + 1) + 1)))).snd || f59 a0 || f59 a1)).toV) else ((g60 ((f52 (IntKind.i64.wrap (0 - IntKind.i64.wrap ((f80 (f37 (f42 a0)) (f37 (f42 a1))).fst + 1)))).fst, (f52 (IntKind.i64.wrap (0 - IntKind.i64.wrap ((f80 (f37 (f42 a0)) (f37 (f42 a1))).fst + 1)))).snd || f59 a0 || f59 a1)).toV)) else ((g60 ((f52 (IntKind.i64.wrap ((f80 (f37 (f42 a0)) (f37 (f42 a1))).fst + 1))).fst, (f52 (IntKind.i64.wrap ((f80 (f37 (f42 a0)) (f37 (f42 a1))).fst + 1))).snd || f59 a0 || f59 a1)).toV)) else (bif !decide (f42 a0 < 0) == decide (f42 a1 < 0) then (bif decide (IntKind.i64.wrap (2 * (f80 (f37 (f42 a0)) (f37 (f42 a1))).snd) > f37 (f42 a1)) then ((g60 ((f52 (IntKind.i64.wrap (0 - IntKind.i64.wrap ((f80 (f37 (f42 a0)) (f37 (f42 a1))).fst + 1)))).fst, (f52 (IntKind.i64.wrap (0 - IntKind.i64.wrap ((f80 (f37 (f42 a0)) (f37 (f42 a1))).fst + 1)))).snd || f59 a0 || f59 a1)).toV) else ((g60 ((f52 (IntKind.i64.wrap (0 - (f80 (f37 (f42 a0)) (f37 (f42 a1))).fst))).fst, (f52 (IntKind.i64.wrap (0 - (f80 (f37 (f42 a0)) (f37 (f42 a1))).fst))).snd || f59 a0 || f59 a1)).toV)) else ((g60 ((f52 (f80 (f37 (f42 a0)) (f37 (f42 a1))).fst).fst, (f52 (f80 (f37 (f42 a0)) (f37 (f42 a1))).fst).snd || f59 a0 || f59 a1)).toV)))))) := by
    intro a0 a1
    kernel_rfl
  intro fs r h w vs hv
  unfold S60 at h
  split at h
  · rename_i a0 a1
    cases h
    exact sx_calls (envOk' (S := [(59, S59), (42, S42), (80, S80), (37, S37), (52, S52)]) ⟨S59_ok, S42_ok, S80_ok, S37_ok, S52_ok, trivial⟩) 30 60 [.int .i64 (.sym a0.val), .int .i64 (.sym a1.val)] vs (symifyL_rel _ _ (SArels_v (xs := [.int .i64 a0, .int .i64 a1]) hv)) (by kernel_rfl) rfl ((ev a0.val a1.val).trans (cond_out g60 rfl (cond_out g60 rfl (cond_out g60 rfl (cond_out g60 (cond_out g60 (cond_out g60 rfl rfl) rfl) (cond_out g60 (cond_out g60 rfl rfl) rfl)))))) w
  · cases h
def g3 (p : Bool) : SV := .bool (.sym p)
end Go.Proofs.Ytgbbaegfcmlmiaa
