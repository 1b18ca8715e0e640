/- What the references of scale and the law ScaleIs compute, by the executor: printed by a program (wip/sx/Gen2.lean). -/
import Derived.Test.YtoagcpfklkmolaaR
namespace Go.Proofs.Ytoagcpfklkmolaa
open Go Go.Sx
set_option maxRecDepth 1000000
set_option maxHeartbeats 100000000
/-- outrigger/outriggerref03.Round -/
def f78 (a0_0 : Int) (a0_1 : Int) : Int × Bool := bif !(f109 a0_0 a0_1 0 2147483648).snd.snd then ((288230376151711744, true)) else (((f110 (f111 (f109 a0_0 a0_1 0 2147483648).fst (f109 a0_0 a0_1 0 2147483648).snd.fst).fst (f111 (f109 a0_0 a0_1 0 2147483648).fst (f109 a0_0 a0_1 0 2147483648).snd.fst).snd).fst, !(f110 (f111 (f109 a0_0 a0_1 0 2147483648).fst (f109 a0_0 a0_1 0 2147483648).snd.fst).fst (f111 (f109 a0_0 a0_1 0 2147483648).fst (f109 a0_0 a0_1 0 2147483648).snd.fst).snd).snd || !f112 a0_0 a0_1))
def g78 (p : Int × Bool) : SV := .tuple [.int .i64 (.sym p.1), .bool (.sym p.2)]
def S78 : Summ
  | [.v (.agg [.int .i64 a0_0, .int .i64 a0_1])] => some (g78 (f78 a0_0.val a0_1.val))
  | _ => none
theorem S78_ok : SummFn Go.Proofs.Try.prog 78 S78 := by
  have ev : ∀ (a0_0 : Int) (a0_1 : Int), (symCall ⟨Go.Proofs.Try.prog, [(109, S109), (110, S110), (111, S111), (112, S112)], 3, 130, false, [], [], []⟩ 30 78 [.agg [.int .i64 (.sym a0_0), .int .i64 (.sym a0_1)]] []).out = (bif !(f109 a0_0 a0_1 0 2147483648).snd.snd then ((g78 (288230376151711744, true)).toV) else ((g78 ((f110 (f111 (f109 a0_0 a0_1 0 2147483648).fst (f109 a0_0 a0_1 0 2147483648).snd.fst).fst (f111 (f109 a0_0 a0_1 0 2147483648).fst (f109 a0_0 a0_1 0 2147483648).snd.fst).snd).fst, !(f110 (f111 (f109 a0_0 a0_1 0 2147483648).fst (f109 a0_0 a0_1 0 2147483648).snd.fst).fst (f111 (f109 a0_0 a0_1 0 2147483648).fst (f109 a0_0 a0_1 0 2147483648).snd.fst).snd).snd || !f112 a0_0 a0_1)).toV)) := by
    intro a0_0 a0_1
    kernel_rfl
  intro fs r h w vs hv
  unfold S78 at h
  split at h
  · rename_i a0_0 a0_1
    cases h
    exact sx_calls (envOk' (S := [(109, S109), (110, S110), (111, S111), (112, S112)]) ⟨S109_ok, S110_ok, S111_ok, S112_ok, trivial⟩) 30 78 [.agg [.int .i64 (.sym a0_0.val), .int .i64 (.sym a0_1.val)]] vs (symifyL_rel _ _ (SArels_v (xs := [.agg [.int .i64 a0_0, .int .i64 a0_1]]) hv)) (by kernel_rfl) rfl ((ev a0_0.val a0_1.val).trans (cond_out g78 rfl rfl)) w
  · cases h
/-- outrigger/outriggerref03.Times -/
def f54 (a0 : Int) (a1 : Int) : Int × Bool := ((f78 (f90 a0 a1).fst (f90 a0 a1).snd).fst, (f78 (f90 a0 a1).fst (f90 a0 a1).snd).snd || f88 a0 || f88 a1)
def g54 (p : Int × Bool) : SV := .tuple [.int .i64 (.sym p.1), .bool (.sym p.2)]
def S54 : Summ
  | [.v (.int .i64 a0), .v (.int .i64 a1)] => some (g54 (f54 a0.val a1.val))
  | _ => none
theorem S54_ok : SummFn Go.Proofs.Try.prog 54 S54 := by
  have ev : ∀ (a0 : Int) (a1 : Int), (symCall ⟨Go.Proofs.Try.prog, [(78, S78), (90, S90), (88, S88)], 3, 130, false, [], [], []⟩ 30 54 [.int .i64 (.sym a0), .int .i64 (.sym a1)] []).out = ((g54 ((f78 (f90 a0 a1).fst (f90 a0 a1).snd).fst, (f78 (f90 a0 a1).fst (f90 a0 a1).snd).snd || f88 a0 || f88 a1)).toV) := by
    intro a0 a1
    kernel_rfl
  intro fs r h w vs hv
  unfold S54 at h
  split at h
  · rename_i a0 a1
    cases h
    exact sx_calls (envOk' (S := [(78, S78), (90, S90), (88, S88)]) ⟨S78_ok, S90_ok, S88_ok, trivial⟩) 30 54 [.int .i64 (.sym a0.val), .int .i64 (.sym a1.val)] vs (symifyL_rel _ _ (SArels_v (xs := [.int .i64 a0, .int .i64 a1]) hv)) (by kernel_rfl) rfl ((ev a0.val a1.val).trans rfl) w
  · cases h
/-- outrigger/outriggerref03.Over -/
def f52 (a0 : Int) (a1 : Int) : Int × Bool := bif f56 a1 == 0 && decide (f56 a0 > 0) then ((288230376151711744, true)) else (bif f56 a1 == 0 && decide (f56 a0 < 0) then ((-288230376151711744, true)) else (bif f56 a1 == 0 then ((0, true)) else (bif decide (f56 a0 < 0) == decide (f56 a1 < 0) && decide (IntKind.i64.wrap (2 * (f86 (f87 (f56 a0)) (f87 (f56 a1))).snd) ≥ f87 (f56 a1)) then (bif !decide (f56 a0 < 0) == decide (f56 a1 < 0) then (bif decide (IntKind.i64.wrap (2 * (f86 (f87 (f56 a0)) (f87 (f56 a1))).snd) > f87 (f56 a1)) then (((f76 (IntKind.i64.wrap (0 - IntKind.i64.wrap (IntKind.i64.wrap ((f86 (f87 (f56 a0)) (f87 (f56 a1))).fst + 1) + 1)))).fst, (f76 (IntKind.i64.wrap (0 - IntKind.i64.wrap (IntKind.i64.wrap ((f86 (f87 (f56 a0)) (f87 (f56 a1))).fst + 1) + 1)))).snd || f88 a0 || f88 a1)) else (((f76 (IntKind.i64.wrap (0 - IntKind.i64.wrap ((f86 (f87 (f56 a0)) (f87 (f56 a1))).fst + 1)))).fst, (f76 (IntKind.i64.wrap (0 - IntKind.i64.wrap ((f86 (f87 (f56 a0)) (f87 (f56 a1))).fst + 1)))).snd || f88 a0 || f88 a1))) else (((f76 (IntKind.i64.wrap ((f86 (f87 (f56 a0)) (f87 (f56 a1))).fst + 1))).fst, (f76 (IntKind.i64.wrap ((f86 (f87 (f56 a0)) (f87 (f56 a1))).fst + 1))).snd || f88 a0 || f88 a1))) else (bif !decide (f56 a0 < 0) == decide (f56 a1 < 0) then (bif decide (IntKind.i64.wrap (2 * (f86 (f87 (f56 a0)) (f87 (f56 a1))).snd) > f87 (f56 a1)) then (((f76 (IntKind.i64.wrap (0 - IntKind.i64.wrap ((f86 (f87 (f56 a0)) (f87 (f56 a1))).fst + 1)))).fst, (f76 (IntKind.i64.wrap (0 - IntKind.i64.wrap ((f86 (f87 (f56 a0)) (f87 (f56 a1))).fst + 1)))).snd || f88 a0 || f88 a1)) else (((f76 (IntKind.i64.wrap (0 - (f86 (f87 (f56 a0)) (f87 (f56 a1))).fst))).fst, (f76 (IntKind.i64.wrap (0 - (f86 (f87 (f56 a0)) (f87 (f56 a1))).fst))).snd || f88 a0 || f88 a1))) else (((f76 (f86 (f87 (f56 a0)) (f87 (f56 a1))).fst).fst, (f76 (f86 (f87 (f56 a0)) (f87 (f56 a1))).fst).snd || f88 a0 || f88 a1))))))
def g52 (p : Int × Bool) : SV := .tuple [.int .i64 (.sym p.1), .bool (.sym p.2)]
def S52 : Summ
  | [.v (.int .i64 a0), .v (.int .i64 a1)] => some (g52 (f52 a0.val a1.val))
  | _ => none
theorem S52_ok : SummFn Go.Proofs.Try.prog 52 S52 := by
  have ev : ∀ (a0 : Int) (a1 : Int), (symCall ⟨Go.Proofs.Try.prog, [(88, S88), (56, S56), (86, S86), (87, S87), (76, S76)], 3, 130, false, [], [], []⟩ 30 52 [.int .i64 (.sym a0), .int .i64 (.sym a1)] []).out = (bif f56 a1 == 0 && decide (f56 a0 > 0) then ((g52 (288230376151711744, true)).toV) else (bif f56 a1 == 0 && decide (f56 a0 < 0) then ((g52 (-288230376151711744, true)).toV) else (bif f56 a1 == 0 then ((g52 (0, true)).toV) else (bif decide (f56 a0 < 0) == decide (f56 a1 < 0) && decide (IntKind.i64.wrap (2 * (f86 (f87 (f56 a0)) (f87 (f56 a1))).snd) ≥ f87 (f56 a1)) then (bif !decide (f56 a0 < 0) == decide (f56 a1 < 0) then (bif decide (IntKind.i64.wrap (2 * (f86 (f87 (f56 a0)) (f87 (f56 a1))).snd) > f87 (f56 a1)) then ((g52 ((f76 (IntKind.i64.wrap (0 - IntKind.i64.wrap (IntKind.i64.wrap ((f86 (f87 (f56 a0)) (f87 (f56 a1))).fst + 1) + 1)))).fst, (f76 (IntKind.i64.wrap (0 - IntKind.i64.wrap (IntKind.i64.wrap ((f86 (f87 (f56 a0)) (f87 (f56 a1))).fst + 1) + 1)))).snd || f88 a0 || f88 a1)).toV) else ((g52 ((f76 (IntKind.i64.wrap (0 - IntKind.i64.wrap ((f86 (f87 (f56 a0)) (f87 (f56 a1))).fst + 1)))).fst, (f76 (IntKind.i64.wrap (0 - IntKind.i64.wrap ((f86 (f87 (f56 a0)) (f87 (f56 a1))).fst + 1)))).snd || f88 a0 || f88 a1)).toV)) else ((g52 ((f76 (IntKind.i64.wrap ((f86 (f87 (f56 a0)) (f87 (f56 a1))).fst + 1))).fst, (f76 (IntKind.i64.wrap ((f86 (f87 (f56 a0)) (f87 (f56 a1))).fst + 1))).snd || f88 a0 || f88 a1)).toV)) else (bif !decide (f56 a0 < 0) == decide (f56 a1 < 0) then (bif decide (IntKind.i64.wrap (2 * (f86 (f87 (f56 a0)) (f87 (f56 a1))).snd) > f87 (f56 a1)) then ((g52 ((f76 (IntKind.i64.wrap (0 - IntKind.i64.wrap ((f86 (f87 (f56 a0)) (f87 (f56 a1))).fst + 1)))).fst, (f76 (IntKind.i64.wrap (0 - IntKind.i64.wrap ((f86 (f87 (f56 a0)) (f87 (f56 a1))).fst + 1)))).snd || f88 a0 || f88 a1)).toV) else ((g52 ((f76 (IntKind.i64.wrap (0 - (f86 (f87 (f56 a0)) (f87 (f56 a1))).fst))).fst, (f76 (IntKind.i64.wrap (0 - (f86 (f87 (f56 a0)) (f87 (f56 a1))).fst))).snd || f88 a0 || f88 a1)).toV)) else ((g52 ((f76 (f86 (f87 (f56 a0)) (f87 (f56 a1))).fst).fst, (f76 (f86 (f87 (f56 a0)) (f87 (f56 a1))).fst).snd || f88 a0 || f88 a1)).toV)))))) := by
    intro a0 a1
    kernel_rfl
  intro fs r h w vs hv
  unfold S52 at h
  split at h
  · rename_i a0 a1
    cases h
    exact sx_calls (envOk' (S := [(88, S88), (56, S56), (86, S86), (87, S87), (76, S76)]) ⟨S88_ok, S56_ok, S86_ok, S87_ok, S76_ok, trivial⟩) 30 52 [.int .i64 (.sym a0.val), .int .i64 (.sym a1.val)] vs (symifyL_rel _ _ (SArels_v (xs := [.int .i64 a0, .int .i64 a1]) hv)) (by kernel_rfl) rfl ((ev a0.val a1.val).trans (cond_out g52 rfl (cond_out g52 rfl (cond_out g52 rfl (cond_out g52 (cond_out g52 (cond_out g52 rfl rfl) rfl) (cond_out g52 (cond_out g52 rfl rfl) rfl)))))) w
  · cases h
end Go.Proofs.Ytoagcpfklkmolaa
