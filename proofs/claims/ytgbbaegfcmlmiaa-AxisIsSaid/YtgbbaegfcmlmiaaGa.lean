/- What each function computes, by the executor: printed by a program (wip/sx/Gen2.lean). -/
import Derived.Test.YtgbbaegfcmlmiaaS
namespace Go.Proofs.Ytgbbaegfcmlmiaa
open Go Go.Sx
set_option maxRecDepth 1000000
set_option maxHeartbeats 100000000
/-- outrigger/wide.Sane -/
def f62 (a0_0 : Int) (a0_1 : Int) : Bool := decide (a0_1 ≥ 0) && decide (a0_1 ≤ 4611686018427387903) && decide (a0_0 ≥ -2305843009213693952) && decide (a0_0 < 2305843009213693952)
def g62 (p : Bool) : SV := .bool (.sym p)
def S62 : Summ
  | [.v (.agg [.int .i64 a0_0, .int .i64 a0_1])] => some (g62 (f62 a0_0.val a0_1.val))
  | _ => none
theorem S62_ok : SummFn Go.Proofs.Try.prog 62 S62 := by
  have ev : ∀ (a0_0 : Int) (a0_1 : Int), (symCall ⟨Go.Proofs.Try.prog, [], 3, 88, false, [], []⟩ 30 62 [.agg [.int .i64 (.sym a0_0), .int .i64 (.sym a0_1)]] []).out = ((g62 (decide (a0_1 ≥ 0) && decide (a0_1 ≤ 4611686018427387903) && decide (a0_0 ≥ -2305843009213693952) && decide (a0_0 < 2305843009213693952))).toV) := by
    intro a0_0 a0_1
    kernel_rfl
  intro fs r h w vs hv
  unfold S62 at h
  split at h
  · rename_i a0_0 a0_1
    cases h
    exact sx_calls (envOk' (S := []) trivial) 30 62 [.agg [.int .i64 (.sym a0_0.val), .int .i64 (.sym a0_1.val)]] vs (symifyL_rel _ _ (SArels_v (xs := [.agg [.int .i64 a0_0, .int .i64 a0_1]]) hv)) (by kernel_rfl) rfl ((ev a0_0.val a0_1.val).trans rfl) w
  · cases h
/-- outrigger/wide.known -/
def f81 (a0_0 : Int) (a0_1 : Int) : Int × Int := bif f62 a0_0 a0_1 then ((a0_0, a0_1)) else ((0, 0))
def g81 (p : Int × Int) : SV := .agg [.int .i64 (.sym p.1), .int .i64 (.sym p.2)]
def S81 : Summ
  | [.v (.agg [.int .i64 a0_0, .int .i64 a0_1])] => some (g81 (f81 a0_0.val a0_1.val))
  | _ => none
theorem S81_ok : SummFn Go.Proofs.Try.prog 81 S81 := by
  have ev : ∀ (a0_0 : Int) (a0_1 : Int), (symCall ⟨Go.Proofs.Try.prog, [(62, S62)], 3, 88, false, [], []⟩ 30 81 [.agg [.int .i64 (.sym a0_0), .int .i64 (.sym a0_1)]] []).out = (bif f62 a0_0 a0_1 then ((g81 (a0_0, a0_1)).toV) else ((g81 (0, 0)).toV)) := by
    intro a0_0 a0_1
    kernel_rfl
  intro fs r h w vs hv
  unfold S81 at h
  split at h
  · rename_i a0_0 a0_1
    cases h
    exact sx_calls (envOk' (S := [(62, S62)]) ⟨S62_ok, trivial⟩) 30 81 [.agg [.int .i64 (.sym a0_0.val), .int .i64 (.sym a0_1.val)]] vs (symifyL_rel _ _ (SArels_v (xs := [.agg [.int .i64 a0_0, .int .i64 a0_1]]) hv)) (by kernel_rfl) rfl ((ev a0_0.val a0_1.val).trans (cond_out g81 rfl rfl)) w
  · cases h
/-- outrigger/wide.Add -/
def f64 (a0_0 : Int) (a0_1 : Int) (a1_0 : Int) (a1_1 : Int) : Int × Int × Bool := bif !((f81 (IntKind.i64.wrap (IntKind.i64.wrap ((f81 a0_0 a0_1).fst + (f81 a1_0 a1_1).fst) + IntKind.i64.wrap ((IntKind.u64.wrap (IntKind.u64.wrap (f81 a0_0 a0_1).snd + IntKind.u64.wrap (f81 a1_0 a1_1).snd)).fdiv (2 ^ 62)))) (IntKind.i64.wrap (bitsv BinOp.and IntKind.u64 (IntKind.u64.wrap (IntKind.u64.wrap (f81 a0_0 a0_1).snd + IntKind.u64.wrap (f81 a1_0 a1_1).snd)) 4611686018427387903))).fst == IntKind.i64.wrap (IntKind.i64.wrap ((f81 a0_0 a0_1).fst + (f81 a1_0 a1_1).fst) + IntKind.i64.wrap ((IntKind.u64.wrap (IntKind.u64.wrap (f81 a0_0 a0_1).snd + IntKind.u64.wrap (f81 a1_0 a1_1).snd)).fdiv (2 ^ 62))) && (f81 (IntKind.i64.wrap (IntKind.i64.wrap ((f81 a0_0 a0_1).fst + (f81 a1_0 a1_1).fst) + IntKind.i64.wrap ((IntKind.u64.wrap (IntKind.u64.wrap (f81 a0_0 a0_1).snd + IntKind.u64.wrap (f81 a1_0 a1_1).snd)).fdiv (2 ^ 62)))) (IntKind.i64.wrap (bitsv BinOp.and IntKind.u64 (IntKind.u64.wrap (IntKind.u64.wrap (f81 a0_0 a0_1).snd + IntKind.u64.wrap (f81 a1_0 a1_1).snd)) 4611686018427387903))).snd == IntKind.i64.wrap (bitsv BinOp.and IntKind.u64 (IntKind.u64.wrap (IntKind.u64.wrap (f81 a0_0 a0_1).snd + IntKind.u64.wrap (f81 a1_0 a1_1).snd)) 4611686018427387903)) then ((0, 0, false)) else ((IntKind.i64.wrap (IntKind.i64.wrap ((f81 a0_0 a0_1).fst + (f81 a1_0 a1_1).fst) + IntKind.i64.wrap ((IntKind.u64.wrap (IntKind.u64.wrap (f81 a0_0 a0_1).snd + IntKind.u64.wrap (f81 a1_0 a1_1).snd)).fdiv (2 ^ 62))), IntKind.i64.wrap (bitsv BinOp.and IntKind.u64 (IntKind.u64.wrap (IntKind.u64.wrap (f81 a0_0 a0_1).snd + IntKind.u64.wrap (f81 a1_0 a1_1).snd)) 4611686018427387903), true))
def g64 (p : Int × Int × Bool) : SV := .tuple [.agg [.int .i64 (.sym p.1), .int .i64 (.sym p.2.1)], .bool (.sym p.2.2)]
def S64 : Summ
  | [.v (.agg [.int .i64 a0_0, .int .i64 a0_1]), .v (.agg [.int .i64 a1_0, .int .i64 a1_1])] => some (g64 (f64 a0_0.val a0_1.val a1_0.val a1_1.val))
  | _ => none
theorem S64_ok : SummFn Go.Proofs.Try.prog 64 S64 := by
  have ev : ∀ (a0_0 : Int) (a0_1 : Int) (a1_0 : Int) (a1_1 : Int), (symCall ⟨Go.Proofs.Try.prog, [(62, S62), (81, S81)], 3, 88, false, [], []⟩ 30 64 [.agg [.int .i64 (.sym a0_0), .int .i64 (.sym a0_1)], .agg [.int .i64 (.sym a1_0), .int .i64 (.sym a1_1)]] []).out = (bif !((f81 (IntKind.i64.wrap (IntKind.i64.wrap ((f81 a0_0 a0_1).fst + (f81 a1_0 a1_1).fst) + IntKind.i64.wrap ((IntKind.u64.wrap (IntKind.u64.wrap (f81 a0_0 a0_1).snd + IntKind.u64.wrap (f81 a1_0 a1_1).snd)).fdiv (2 ^ 62)))) (IntKind.i64.wrap (bitsv BinOp.and IntKind.u64 (IntKind.u64.wrap (IntKind.u64.wrap (f81 a0_0 a0_1).snd + IntKind.u64.wrap (f81 a1_0 a1_1).snd)) 4611686018427387903))).fst == IntKind.i64.wrap (IntKind.i64.wrap ((f81 a0_0 a0_1).fst + (f81 a1_0 a1_1).fst) + IntKind.i64.wrap ((IntKind.u64.wrap (IntKind.u64.wrap (f81 a0_0 a0_1).snd + IntKind.u64.wrap (f81 a1_0 a1_1).snd)).fdiv (2 ^ 62))) && (f81 (IntKind.i64.wrap (IntKind.i64.wrap ((f81 a0_0 a0_1).fst + (f81 a1_0 a1_1).fst) + IntKind.i64.wrap ((IntKind.u64.wrap (IntKind.u64.wrap (f81 a0_0 a0_1).snd + IntKind.u64.wrap (f81 a1_0 a1_1).snd)).fdiv (2 ^ 62)))) (IntKind.i64.wrap (bitsv BinOp.and IntKind.u64 (IntKind.u64.wrap (IntKind.u64.wrap (f81 a0_0 a0_1).snd + IntKind.u64.wrap (f81 a1_0 a1_1).snd)) 4611686018427387903))).snd == IntKind.i64.wrap (bitsv BinOp.and IntKind.u64 (IntKind.u64.wrap (IntKind.u64.wrap (f81 a0_0 a0_1).snd + IntKind.u64.wrap (f81 a1_0 a1_1).snd)) 4611686018427387903)) then ((g64 (0, 0, false)).toV) else ((g64 (IntKind.i64.wrap (IntKind.i64.wrap ((f81 a0_0 a0_1).fst + (f81 a1_0 a1_1).fst) + IntKind.i64.wrap ((IntKind.u64.wrap (IntKind.u64.wrap (f81 a0_0 a0_1).snd + IntKind.u64.wrap (f81 a1_0 a1_1).snd)).fdiv (2 ^ 62))), IntKind.i64.wrap (bitsv BinOp.and IntKind.u64 (IntKind.u64.wrap (IntKind.u64.wrap (f81 a0_0 a0_1).snd + IntKind.u64.wrap (f81 a1_0 a1_1).snd)) 4611686018427387903), true)).toV)) := by
    intro a0_0 a0_1 a1_0 a1_1
    kernel_rfl
  intro fs r h w vs hv
  unfold S64 at h
  split at h
  · rename_i a0_0 a0_1 a1_0 a1_1
    cases h
    exact sx_calls (envOk' (S := [(62, S62), (81, S81)]) ⟨S62_ok, S81_ok, trivial⟩) 30 64 [.agg [.int .i64 (.sym a0_0.val), .int .i64 (.sym a0_1.val)], .agg [.int .i64 (.sym a1_0.val), .int .i64 (.sym a1_1.val)]] vs (symifyL_rel _ _ (SArels_v (xs := [.agg [.int .i64 a0_0, .int .i64 a0_1], .agg [.int .i64 a1_0, .int .i64 a1_1]]) hv)) (by kernel_rfl) rfl ((ev a0_0.val a0_1.val a1_0.val a1_1.val).trans (cond_out g64 rfl rfl)) w
  · cases h
/-- outrigger/wide.Of -/
def f65 (a0 : Int) : Int × Int := (a0.fdiv (2 ^ 62), bitsv BinOp.and IntKind.i64 a0 4611686018427387903)
def g65 (p : Int × Int) : SV := .agg [.int .i64 (.sym p.1), .int .i64 (.sym p.2)]
def S65 : Summ
  | [.v (.int .i64 a0)] => some (g65 (f65 a0.val))
  | _ => none
theorem S65_ok : SummFn Go.Proofs.Try.prog 65 S65 := by
  have ev : ∀ (a0 : Int), (symCall ⟨Go.Proofs.Try.prog, [], 3, 88, false, [], []⟩ 30 65 [.int .i64 (.sym a0)] []).out = ((g65 (a0.fdiv (2 ^ 62), bitsv BinOp.and IntKind.i64 a0 4611686018427387903)).toV) := by
    intro a0
    kernel_rfl
  intro fs r h w vs hv
  unfold S65 at h
  split at h
  · rename_i a0
    cases h
    exact sx_calls (envOk' (S := []) trivial) 30 65 [.int .i64 (.sym a0.val)] vs (symifyL_rel _ _ (SArels_v (xs := [.int .i64 a0]) hv)) (by kernel_rfl) rfl ((ev a0.val).trans rfl) w
  · cases h
/-- outrigger/fix.within[int] -/
def f61 (a0 : Int) (a1 : Int) (a2 : Int) : Int := mxI a1 (mnI a0 a2)
def g61 (p : Int) : SV := .int .i64 (.sym p)
def S61 : Summ
  | [.v (.int .i64 a0), .v (.int .i64 a1), .v (.int .i64 a2)] => some (g61 (f61 a0.val a1.val a2.val))
  | _ => none
theorem S61_ok : SummFn Go.Proofs.Try.prog 61 S61 := by
  have ev : ∀ (a0 : Int) (a1 : Int) (a2 : Int), (symCall ⟨Go.Proofs.Try.prog, [], 3, 88, false, [], []⟩ 30 61 [.int .i64 (.sym a0), .int .i64 (.sym a1), .int .i64 (.sym a2)] []).out = ((g61 (mxI a1 (mnI a0 a2))).toV) := by
    intro a0 a1 a2
    kernel_rfl
  intro fs r h w vs hv
  unfold S61 at h
  split at h
  · rename_i a0 a1 a2
    cases h
    exact sx_calls (envOk' (S := []) trivial) 30 61 [.int .i64 (.sym a0.val), .int .i64 (.sym a1.val), .int .i64 (.sym a2.val)] vs (symifyL_rel _ _ (SArels_v (xs := [.int .i64 a0, .int .i64 a1, .int .i64 a2]) hv)) (by kernel_rfl) rfl ((ev a0.val a1.val a2.val).trans rfl) w
  · cases h
/-- outrigger/fix.Clamp -/
def f41 (a0 : Int) : Int × Bool := (f61 a0 (-288230376151711744) 288230376151711744, f61 a0 (-288230376151711744) 288230376151711744 != a0)
def g41 (p : Int × Bool) : SV := .tuple [.int .i64 (.sym p.1), .bool (.sym p.2)]
def S41 : Summ
  | [.v (.int .i64 a0)] => some (g41 (f41 a0.val))
  | _ => none
theorem S41_ok : SummFn Go.Proofs.Try.prog 41 S41 := by
  have ev : ∀ (a0 : Int), (symCall ⟨Go.Proofs.Try.prog, [(61, S61)], 3, 88, false, [], []⟩ 30 41 [.int .i64 (.sym a0)] []).out = ((g41 (f61 a0 (-288230376151711744) 288230376151711744, f61 a0 (-288230376151711744) 288230376151711744 != a0)).toV) := by
    intro a0
    kernel_rfl
  intro fs r h w vs hv
  unfold S41 at h
  split at h
  · rename_i a0
    cases h
    exact sx_calls (envOk' (S := [(61, S61)]) ⟨S61_ok, trivial⟩) 30 41 [.int .i64 (.sym a0.val)] vs (symifyL_rel _ _ (SArels_v (xs := [.int .i64 a0]) hv)) (by kernel_rfl) rfl ((ev a0.val).trans rfl) w
  · cases h
end Go.Proofs.Ytgbbaegfcmlmiaa
