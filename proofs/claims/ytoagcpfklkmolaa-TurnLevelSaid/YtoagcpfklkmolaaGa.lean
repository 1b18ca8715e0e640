/- What each function computes, by the executor: printed by a program (wip/sx/Gen2.lean). -/
import Derived.Test.YtoagcpfklkmolaaS
namespace Go.Proofs.Ytoagcpfklkmolaa
open Go Go.Sx
set_option maxRecDepth 1000000
set_option maxHeartbeats 100000000
/-- outrigger/wide.Sane -/
def f104 (a0_0 : Int) (a0_1 : Int) : Bool := decide (a0_1 ≥ 0) && decide (a0_1 ≤ 4611686018427387903) && decide (a0_0 ≥ -2305843009213693952) && decide (a0_0 < 2305843009213693952)
def g104 (p : Bool) : SV := .bool (.sym p)
def S104 : Summ
  | [.v (.agg [.int .i64 a0_0, .int .i64 a0_1])] => some (g104 (f104 a0_0.val a0_1.val))
  | _ => none
theorem S104_ok : SummFn Go.Proofs.Try.prog 104 S104 := by
  have ev : ∀ (a0_0 : Int) (a0_1 : Int), (symCall ⟨Go.Proofs.Try.prog, [], 3, 130, false, [], [], []⟩ 30 104 [.agg [.int .i64 (.sym a0_0), .int .i64 (.sym a0_1)]] []).out = ((g104 (decide (a0_1 ≥ 0) && decide (a0_1 ≤ 4611686018427387903) && decide (a0_0 ≥ -2305843009213693952) && decide (a0_0 < 2305843009213693952))).toV) := by
    intro a0_0 a0_1
    kernel_rfl
  intro fs r h w vs hv
  unfold S104 at h
  split at h
  · rename_i a0_0 a0_1
    cases h
    exact sx_calls (envOk' (S := []) trivial) 30 104 [.agg [.int .i64 (.sym a0_0.val), .int .i64 (.sym a0_1.val)]] vs (symifyL_rel _ _ (SArels_v (xs := [.agg [.int .i64 a0_0, .int .i64 a0_1]]) hv)) (by kernel_rfl) rfl ((ev a0_0.val a0_1.val).trans rfl) w
  · cases h
/-- outrigger/wide.known -/
def f122 (a0_0 : Int) (a0_1 : Int) : Int × Int := bif f104 a0_0 a0_1 then ((a0_0, a0_1)) else ((0, 0))
def g122 (p : Int × Int) : SV := .agg [.int .i64 (.sym p.1), .int .i64 (.sym p.2)]
def S122 : Summ
  | [.v (.agg [.int .i64 a0_0, .int .i64 a0_1])] => some (g122 (f122 a0_0.val a0_1.val))
  | _ => none
theorem S122_ok : SummFn Go.Proofs.Try.prog 122 S122 := by
  have ev : ∀ (a0_0 : Int) (a0_1 : Int), (symCall ⟨Go.Proofs.Try.prog, [(104, S104)], 3, 130, false, [], [], []⟩ 30 122 [.agg [.int .i64 (.sym a0_0), .int .i64 (.sym a0_1)]] []).out = (bif f104 a0_0 a0_1 then ((g122 (a0_0, a0_1)).toV) else ((g122 (0, 0)).toV)) := by
    intro a0_0 a0_1
    kernel_rfl
  intro fs r h w vs hv
  unfold S122 at h
  split at h
  · rename_i a0_0 a0_1
    cases h
    exact sx_calls (envOk' (S := [(104, S104)]) ⟨S104_ok, trivial⟩) 30 122 [.agg [.int .i64 (.sym a0_0.val), .int .i64 (.sym a0_1.val)]] vs (symifyL_rel _ _ (SArels_v (xs := [.agg [.int .i64 a0_0, .int .i64 a0_1]]) hv)) (by kernel_rfl) rfl ((ev a0_0.val a0_1.val).trans (cond_out g122 rfl rfl)) w
  · cases h
/-- outrigger/wide.Add -/
def f100 (a0_0 : Int) (a0_1 : Int) (a1_0 : Int) (a1_1 : Int) : Int × Int × Bool := bif !((f122 (IntKind.i64.wrap (IntKind.i64.wrap ((f122 a0_0 a0_1).fst + (f122 a1_0 a1_1).fst) + IntKind.i64.wrap ((IntKind.u64.wrap (IntKind.u64.wrap (f122 a0_0 a0_1).snd + IntKind.u64.wrap (f122 a1_0 a1_1).snd)).fdiv (2 ^ 62)))) (IntKind.i64.wrap (bitsv BinOp.and IntKind.u64 (IntKind.u64.wrap (IntKind.u64.wrap (f122 a0_0 a0_1).snd + IntKind.u64.wrap (f122 a1_0 a1_1).snd)) 4611686018427387903))).fst == IntKind.i64.wrap (IntKind.i64.wrap ((f122 a0_0 a0_1).fst + (f122 a1_0 a1_1).fst) + IntKind.i64.wrap ((IntKind.u64.wrap (IntKind.u64.wrap (f122 a0_0 a0_1).snd + IntKind.u64.wrap (f122 a1_0 a1_1).snd)).fdiv (2 ^ 62))) && (f122 (IntKind.i64.wrap (IntKind.i64.wrap ((f122 a0_0 a0_1).fst + (f122 a1_0 a1_1).fst) + IntKind.i64.wrap ((IntKind.u64.wrap (IntKind.u64.wrap (f122 a0_0 a0_1).snd + IntKind.u64.wrap (f122 a1_0 a1_1).snd)).fdiv (2 ^ 62)))) (IntKind.i64.wrap (bitsv BinOp.and IntKind.u64 (IntKind.u64.wrap (IntKind.u64.wrap (f122 a0_0 a0_1).snd + IntKind.u64.wrap (f122 a1_0 a1_1).snd)) 4611686018427387903))).snd == IntKind.i64.wrap (bitsv BinOp.and IntKind.u64 (IntKind.u64.wrap (IntKind.u64.wrap (f122 a0_0 a0_1).snd + IntKind.u64.wrap (f122 a1_0 a1_1).snd)) 4611686018427387903)) then ((0, 0, false)) else ((IntKind.i64.wrap (IntKind.i64.wrap ((f122 a0_0 a0_1).fst + (f122 a1_0 a1_1).fst) + IntKind.i64.wrap ((IntKind.u64.wrap (IntKind.u64.wrap (f122 a0_0 a0_1).snd + IntKind.u64.wrap (f122 a1_0 a1_1).snd)).fdiv (2 ^ 62))), IntKind.i64.wrap (bitsv BinOp.and IntKind.u64 (IntKind.u64.wrap (IntKind.u64.wrap (f122 a0_0 a0_1).snd + IntKind.u64.wrap (f122 a1_0 a1_1).snd)) 4611686018427387903), true))
def g100 (p : Int × Int × Bool) : SV := .tuple [.agg [.int .i64 (.sym p.1), .int .i64 (.sym p.2.1)], .bool (.sym p.2.2)]
def S100 : Summ
  | [.v (.agg [.int .i64 a0_0, .int .i64 a0_1]), .v (.agg [.int .i64 a1_0, .int .i64 a1_1])] => some (g100 (f100 a0_0.val a0_1.val a1_0.val a1_1.val))
  | _ => none
theorem S100_ok : SummFn Go.Proofs.Try.prog 100 S100 := by
  have ev : ∀ (a0_0 : Int) (a0_1 : Int) (a1_0 : Int) (a1_1 : Int), (symCall ⟨Go.Proofs.Try.prog, [(104, S104), (122, S122)], 3, 130, false, [], [], []⟩ 30 100 [.agg [.int .i64 (.sym a0_0), .int .i64 (.sym a0_1)], .agg [.int .i64 (.sym a1_0), .int .i64 (.sym a1_1)]] []).out = (bif !((f122 (IntKind.i64.wrap (IntKind.i64.wrap ((f122 a0_0 a0_1).fst + (f122 a1_0 a1_1).fst) + IntKind.i64.wrap ((IntKind.u64.wrap (IntKind.u64.wrap (f122 a0_0 a0_1).snd + IntKind.u64.wrap (f122 a1_0 a1_1).snd)).fdiv (2 ^ 62)))) (IntKind.i64.wrap (bitsv BinOp.and IntKind.u64 (IntKind.u64.wrap (IntKind.u64.wrap (f122 a0_0 a0_1).snd + IntKind.u64.wrap (f122 a1_0 a1_1).snd)) 4611686018427387903))).fst == IntKind.i64.wrap (IntKind.i64.wrap ((f122 a0_0 a0_1).fst + (f122 a1_0 a1_1).fst) + IntKind.i64.wrap ((IntKind.u64.wrap (IntKind.u64.wrap (f122 a0_0 a0_1).snd + IntKind.u64.wrap (f122 a1_0 a1_1).snd)).fdiv (2 ^ 62))) && (f122 (IntKind.i64.wrap (IntKind.i64.wrap ((f122 a0_0 a0_1).fst + (f122 a1_0 a1_1).fst) + IntKind.i64.wrap ((IntKind.u64.wrap (IntKind.u64.wrap (f122 a0_0 a0_1).snd + IntKind.u64.wrap (f122 a1_0 a1_1).snd)).fdiv (2 ^ 62)))) (IntKind.i64.wrap (bitsv BinOp.and IntKind.u64 (IntKind.u64.wrap (IntKind.u64.wrap (f122 a0_0 a0_1).snd + IntKind.u64.wrap (f122 a1_0 a1_1).snd)) 4611686018427387903))).snd == IntKind.i64.wrap (bitsv BinOp.and IntKind.u64 (IntKind.u64.wrap (IntKind.u64.wrap (f122 a0_0 a0_1).snd + IntKind.u64.wrap (f122 a1_0 a1_1).snd)) 4611686018427387903)) then ((g100 (0, 0, false)).toV) else ((g100 (IntKind.i64.wrap (IntKind.i64.wrap ((f122 a0_0 a0_1).fst + (f122 a1_0 a1_1).fst) + IntKind.i64.wrap ((IntKind.u64.wrap (IntKind.u64.wrap (f122 a0_0 a0_1).snd + IntKind.u64.wrap (f122 a1_0 a1_1).snd)).fdiv (2 ^ 62))), IntKind.i64.wrap (bitsv BinOp.and IntKind.u64 (IntKind.u64.wrap (IntKind.u64.wrap (f122 a0_0 a0_1).snd + IntKind.u64.wrap (f122 a1_0 a1_1).snd)) 4611686018427387903), true)).toV)) := by
    intro a0_0 a0_1 a1_0 a1_1
    kernel_rfl
  intro fs r h w vs hv
  unfold S100 at h
  split at h
  · rename_i a0_0 a0_1 a1_0 a1_1
    cases h
    exact sx_calls (envOk' (S := [(104, S104), (122, S122)]) ⟨S104_ok, S122_ok, trivial⟩) 30 100 [.agg [.int .i64 (.sym a0_0.val), .int .i64 (.sym a0_1.val)], .agg [.int .i64 (.sym a1_0.val), .int .i64 (.sym a1_1.val)]] vs (symifyL_rel _ _ (SArels_v (xs := [.agg [.int .i64 a0_0, .int .i64 a0_1], .agg [.int .i64 a1_0, .int .i64 a1_1]]) hv)) (by kernel_rfl) rfl ((ev a0_0.val a0_1.val a1_0.val a1_1.val).trans (cond_out g100 rfl rfl)) w
  · cases h
/-- outrigger/wide.Of -/
def f101 (a0 : Int) : Int × Int := (a0.fdiv (2 ^ 62), bitsv BinOp.and IntKind.i64 a0 4611686018427387903)
def g101 (p : Int × Int) : SV := .agg [.int .i64 (.sym p.1), .int .i64 (.sym p.2)]
def S101 : Summ
  | [.v (.int .i64 a0)] => some (g101 (f101 a0.val))
  | _ => none
theorem S101_ok : SummFn Go.Proofs.Try.prog 101 S101 := by
  have ev : ∀ (a0 : Int), (symCall ⟨Go.Proofs.Try.prog, [], 3, 130, false, [], [], []⟩ 30 101 [.int .i64 (.sym a0)] []).out = ((g101 (a0.fdiv (2 ^ 62), bitsv BinOp.and IntKind.i64 a0 4611686018427387903)).toV) := by
    intro a0
    kernel_rfl
  intro fs r h w vs hv
  unfold S101 at h
  split at h
  · rename_i a0
    cases h
    exact sx_calls (envOk' (S := []) trivial) 30 101 [.int .i64 (.sym a0.val)] vs (symifyL_rel _ _ (SArels_v (xs := [.int .i64 a0]) hv)) (by kernel_rfl) rfl ((ev a0.val).trans rfl) w
  · cases h
/-- outrigger/fix.within[int] -/
def f57 (a0 : Int) (a1 : Int) (a2 : Int) : Int := mxI a1 (mnI a0 a2)
def g57 (p : Int) : SV := .int .i64 (.sym p)
def S57 : Summ
  | [.v (.int .i64 a0), .v (.int .i64 a1), .v (.int .i64 a2)] => some (g57 (f57 a0.val a1.val a2.val))
  | _ => none
theorem S57_ok : SummFn Go.Proofs.Try.prog 57 S57 := by
  have ev : ∀ (a0 : Int) (a1 : Int) (a2 : Int), (symCall ⟨Go.Proofs.Try.prog, [], 3, 130, false, [], [], []⟩ 30 57 [.int .i64 (.sym a0), .int .i64 (.sym a1), .int .i64 (.sym a2)] []).out = ((g57 (mxI a1 (mnI a0 a2))).toV) := by
    intro a0 a1 a2
    kernel_rfl
  intro fs r h w vs hv
  unfold S57 at h
  split at h
  · rename_i a0 a1 a2
    cases h
    exact sx_calls (envOk' (S := []) trivial) 30 57 [.int .i64 (.sym a0.val), .int .i64 (.sym a1.val), .int .i64 (.sym a2.val)] vs (symifyL_rel _ _ (SArels_v (xs := [.int .i64 a0, .int .i64 a1, .int .i64 a2]) hv)) (by kernel_rfl) rfl ((ev a0.val a1.val a2.val).trans rfl) w
  · cases h
/-- outrigger/fix.Clamp -/
def f29 (a0 : Int) : Int × Bool := (f57 a0 (-288230376151711744) 288230376151711744, f57 a0 (-288230376151711744) 288230376151711744 != a0)
def g29 (p : Int × Bool) : SV := .tuple [.int .i64 (.sym p.1), .bool (.sym p.2)]
def S29 : Summ
  | [.v (.int .i64 a0)] => some (g29 (f29 a0.val))
  | _ => none
theorem S29_ok : SummFn Go.Proofs.Try.prog 29 S29 := by
  have ev : ∀ (a0 : Int), (symCall ⟨Go.Proofs.Try.prog, [(57, S57)], 3, 130, false, [], [], []⟩ 30 29 [.int .i64 (.sym a0)] []).out = ((g29 (f57 a0 (-288230376151711744) 288230376151711744, f57 a0 (-288230376151711744) 288230376151711744 != a0)).toV) := by
    intro a0
    kernel_rfl
  intro fs r h w vs hv
  unfold S29 at h
  split at h
  · rename_i a0
    cases h
    exact sx_calls (envOk' (S := [(57, S57)]) ⟨S57_ok, trivial⟩) 30 29 [.int .i64 (.sym a0.val)] vs (symifyL_rel _ _ (SArels_v (xs := [.int .i64 a0]) hv)) (by kernel_rfl) rfl ((ev a0.val).trans rfl) w
  · cases h
end Go.Proofs.Ytoagcpfklkmolaa
