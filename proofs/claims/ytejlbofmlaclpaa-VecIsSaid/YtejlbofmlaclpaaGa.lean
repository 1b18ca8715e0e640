/- What each function computes, by the executor: printed by a program (wip/sx/Gen2.lean). -/
import Derived.Test.YtejlbofmlaclpaaS
namespace Go.Proofs.Ytejlbofmlaclpaa
open Go Go.Sx
set_option maxRecDepth 1000000
set_option maxHeartbeats 100000000
/-- outrigger/wide.Sane -/
def f51 (a0_0 : Int) (a0_1 : Int) : Bool := decide (a0_1 ≥ 0) && decide (a0_1 ≤ 4611686018427387903) && decide (a0_0 ≥ -2305843009213693952) && decide (a0_0 < 2305843009213693952)
def g51 (p : Bool) : SV := .bool (.sym p)
def S51 : Summ
  | [.v (.agg [.int .i64 a0_0, .int .i64 a0_1])] => some (g51 (f51 a0_0.val a0_1.val))
  | _ => none
theorem S51_ok : SummFn Go.Proofs.Try.prog 51 S51 := by
  have ev : ∀ (a0_0 : Int) (a0_1 : Int), (symCall ⟨Go.Proofs.Try.prog, [], 3, 110, false, [], [], []⟩ 30 51 [.agg [.int .i64 (.sym a0_0), .int .i64 (.sym a0_1)]] []).out = ((g51 (decide (a0_1 ≥ 0) && decide (a0_1 ≤ 4611686018427387903) && decide (a0_0 ≥ -2305843009213693952) && decide (a0_0 < 2305843009213693952))).toV) := by
    intro a0_0 a0_1
    kernel_rfl
  intro fs r h w vs hv
  unfold S51 at h
  split at h
  · rename_i a0_0 a0_1
    cases h
    exact sx_calls (envOk' (S := []) trivial) 30 51 [.agg [.int .i64 (.sym a0_0.val), .int .i64 (.sym a0_1.val)]] vs (symifyL_rel _ _ (SArels_v (xs := [.agg [.int .i64 a0_0, .int .i64 a0_1]]) hv)) (by kernel_rfl) rfl ((ev a0_0.val a0_1.val).trans rfl) w
  · cases h
/-- outrigger/wide.known -/
def f71 (a0_0 : Int) (a0_1 : Int) : Int × Int := bif f51 a0_0 a0_1 then ((a0_0, a0_1)) else ((0, 0))
def g71 (p : Int × Int) : SV := .agg [.int .i64 (.sym p.1), .int .i64 (.sym p.2)]
def S71 : Summ
  | [.v (.agg [.int .i64 a0_0, .int .i64 a0_1])] => some (g71 (f71 a0_0.val a0_1.val))
  | _ => none
theorem S71_ok : SummFn Go.Proofs.Try.prog 71 S71 := by
  have ev : ∀ (a0_0 : Int) (a0_1 : Int), (symCall ⟨Go.Proofs.Try.prog, [(51, S51)], 3, 110, false, [], [], []⟩ 30 71 [.agg [.int .i64 (.sym a0_0), .int .i64 (.sym a0_1)]] []).out = (bif f51 a0_0 a0_1 then ((g71 (a0_0, a0_1)).toV) else ((g71 (0, 0)).toV)) := by
    intro a0_0 a0_1
    kernel_rfl
  intro fs r h w vs hv
  unfold S71 at h
  split at h
  · rename_i a0_0 a0_1
    cases h
    exact sx_calls (envOk' (S := [(51, S51)]) ⟨S51_ok, trivial⟩) 30 71 [.agg [.int .i64 (.sym a0_0.val), .int .i64 (.sym a0_1.val)]] vs (symifyL_rel _ _ (SArels_v (xs := [.agg [.int .i64 a0_0, .int .i64 a0_1]]) hv)) (by kernel_rfl) rfl ((ev a0_0.val a0_1.val).trans (cond_out g71 rfl rfl)) w
  · cases h
/-- outrigger/wide.Add -/
def f30 (a0_0 : Int) (a0_1 : Int) (a1_0 : Int) (a1_1 : Int) : Int × Int × Bool := bif !((f71 (IntKind.i64.wrap (IntKind.i64.wrap ((f71 a0_0 a0_1).fst + (f71 a1_0 a1_1).fst) + IntKind.i64.wrap ((IntKind.u64.wrap (IntKind.u64.wrap (f71 a0_0 a0_1).snd + IntKind.u64.wrap (f71 a1_0 a1_1).snd)).fdiv (2 ^ 62)))) (IntKind.i64.wrap (bitsv BinOp.and IntKind.u64 (IntKind.u64.wrap (IntKind.u64.wrap (f71 a0_0 a0_1).snd + IntKind.u64.wrap (f71 a1_0 a1_1).snd)) 4611686018427387903))).fst == IntKind.i64.wrap (IntKind.i64.wrap ((f71 a0_0 a0_1).fst + (f71 a1_0 a1_1).fst) + IntKind.i64.wrap ((IntKind.u64.wrap (IntKind.u64.wrap (f71 a0_0 a0_1).snd + IntKind.u64.wrap (f71 a1_0 a1_1).snd)).fdiv (2 ^ 62))) && (f71 (IntKind.i64.wrap (IntKind.i64.wrap ((f71 a0_0 a0_1).fst + (f71 a1_0 a1_1).fst) + IntKind.i64.wrap ((IntKind.u64.wrap (IntKind.u64.wrap (f71 a0_0 a0_1).snd + IntKind.u64.wrap (f71 a1_0 a1_1).snd)).fdiv (2 ^ 62)))) (IntKind.i64.wrap (bitsv BinOp.and IntKind.u64 (IntKind.u64.wrap (IntKind.u64.wrap (f71 a0_0 a0_1).snd + IntKind.u64.wrap (f71 a1_0 a1_1).snd)) 4611686018427387903))).snd == IntKind.i64.wrap (bitsv BinOp.and IntKind.u64 (IntKind.u64.wrap (IntKind.u64.wrap (f71 a0_0 a0_1).snd + IntKind.u64.wrap (f71 a1_0 a1_1).snd)) 4611686018427387903)) then ((0, 0, false)) else ((IntKind.i64.wrap (IntKind.i64.wrap ((f71 a0_0 a0_1).fst + (f71 a1_0 a1_1).fst) + IntKind.i64.wrap ((IntKind.u64.wrap (IntKind.u64.wrap (f71 a0_0 a0_1).snd + IntKind.u64.wrap (f71 a1_0 a1_1).snd)).fdiv (2 ^ 62))), IntKind.i64.wrap (bitsv BinOp.and IntKind.u64 (IntKind.u64.wrap (IntKind.u64.wrap (f71 a0_0 a0_1).snd + IntKind.u64.wrap (f71 a1_0 a1_1).snd)) 4611686018427387903), true))
def g30 (p : Int × Int × Bool) : SV := .tuple [.agg [.int .i64 (.sym p.1), .int .i64 (.sym p.2.1)], .bool (.sym p.2.2)]
def S30 : Summ
  | [.v (.agg [.int .i64 a0_0, .int .i64 a0_1]), .v (.agg [.int .i64 a1_0, .int .i64 a1_1])] => some (g30 (f30 a0_0.val a0_1.val a1_0.val a1_1.val))
  | _ => none
theorem S30_ok : SummFn Go.Proofs.Try.prog 30 S30 := by
  have ev : ∀ (a0_0 : Int) (a0_1 : Int) (a1_0 : Int) (a1_1 : Int), (symCall ⟨Go.Proofs.Try.prog, [(51, S51), (71, S71)], 3, 110, false, [], [], []⟩ 30 30 [.agg [.int .i64 (.sym a0_0), .int .i64 (.sym a0_1)], .agg [.int .i64 (.sym a1_0), .int .i64 (.sym a1_1)]] []).out = (bif !((f71 (IntKind.i64.wrap (IntKind.i64.wrap ((f71 a0_0 a0_1).fst + (f71 a1_0 a1_1).fst) + IntKind.i64.wrap ((IntKind.u64.wrap (IntKind.u64.wrap (f71 a0_0 a0_1).snd + IntKind.u64.wrap (f71 a1_0 a1_1).snd)).fdiv (2 ^ 62)))) (IntKind.i64.wrap (bitsv BinOp.and IntKind.u64 (IntKind.u64.wrap (IntKind.u64.wrap (f71 a0_0 a0_1).snd + IntKind.u64.wrap (f71 a1_0 a1_1).snd)) 4611686018427387903))).fst == IntKind.i64.wrap (IntKind.i64.wrap ((f71 a0_0 a0_1).fst + (f71 a1_0 a1_1).fst) + IntKind.i64.wrap ((IntKind.u64.wrap (IntKind.u64.wrap (f71 a0_0 a0_1).snd + IntKind.u64.wrap (f71 a1_0 a1_1).snd)).fdiv (2 ^ 62))) && (f71 (IntKind.i64.wrap (IntKind.i64.wrap ((f71 a0_0 a0_1).fst + (f71 a1_0 a1_1).fst) + IntKind.i64.wrap ((IntKind.u64.wrap (IntKind.u64.wrap (f71 a0_0 a0_1).snd + IntKind.u64.wrap (f71 a1_0 a1_1).snd)).fdiv (2 ^ 62)))) (IntKind.i64.wrap (bitsv BinOp.and IntKind.u64 (IntKind.u64.wrap (IntKind.u64.wrap (f71 a0_0 a0_1).snd + IntKind.u64.wrap (f71 a1_0 a1_1).snd)) 4611686018427387903))).snd == IntKind.i64.wrap (bitsv BinOp.and IntKind.u64 (IntKind.u64.wrap (IntKind.u64.wrap (f71 a0_0 a0_1).snd + IntKind.u64.wrap (f71 a1_0 a1_1).snd)) 4611686018427387903)) then ((g30 (0, 0, false)).toV) else ((g30 (IntKind.i64.wrap (IntKind.i64.wrap ((f71 a0_0 a0_1).fst + (f71 a1_0 a1_1).fst) + IntKind.i64.wrap ((IntKind.u64.wrap (IntKind.u64.wrap (f71 a0_0 a0_1).snd + IntKind.u64.wrap (f71 a1_0 a1_1).snd)).fdiv (2 ^ 62))), IntKind.i64.wrap (bitsv BinOp.and IntKind.u64 (IntKind.u64.wrap (IntKind.u64.wrap (f71 a0_0 a0_1).snd + IntKind.u64.wrap (f71 a1_0 a1_1).snd)) 4611686018427387903), true)).toV)) := by
    intro a0_0 a0_1 a1_0 a1_1
    kernel_rfl
  intro fs r h w vs hv
  unfold S30 at h
  split at h
  · rename_i a0_0 a0_1 a1_0 a1_1
    cases h
    exact sx_calls (envOk' (S := [(51, S51), (71, S71)]) ⟨S51_ok, S71_ok, trivial⟩) 30 30 [.agg [.int .i64 (.sym a0_0.val), .int .i64 (.sym a0_1.val)], .agg [.int .i64 (.sym a1_0.val), .int .i64 (.sym a1_1.val)]] vs (symifyL_rel _ _ (SArels_v (xs := [.agg [.int .i64 a0_0, .int .i64 a0_1], .agg [.int .i64 a1_0, .int .i64 a1_1]]) hv)) (by kernel_rfl) rfl ((ev a0_0.val a0_1.val a1_0.val a1_1.val).trans (cond_out g30 rfl rfl)) w
  · cases h
/-- outrigger/wide.Of -/
def f31 (a0 : Int) : Int × Int := (a0.fdiv (2 ^ 62), bitsv BinOp.and IntKind.i64 a0 4611686018427387903)
def g31 (p : Int × Int) : SV := .agg [.int .i64 (.sym p.1), .int .i64 (.sym p.2)]
def S31 : Summ
  | [.v (.int .i64 a0)] => some (g31 (f31 a0.val))
  | _ => none
theorem S31_ok : SummFn Go.Proofs.Try.prog 31 S31 := by
  have ev : ∀ (a0 : Int), (symCall ⟨Go.Proofs.Try.prog, [], 3, 110, false, [], [], []⟩ 30 31 [.int .i64 (.sym a0)] []).out = ((g31 (a0.fdiv (2 ^ 62), bitsv BinOp.and IntKind.i64 a0 4611686018427387903)).toV) := by
    intro a0
    kernel_rfl
  intro fs r h w vs hv
  unfold S31 at h
  split at h
  · rename_i a0
    cases h
    exact sx_calls (envOk' (S := []) trivial) 30 31 [.int .i64 (.sym a0.val)] vs (symifyL_rel _ _ (SArels_v (xs := [.int .i64 a0]) hv)) (by kernel_rfl) rfl ((ev a0.val).trans rfl) w
  · cases h
/-- outrigger/fix.within[int] -/
def f68 (a0 : Int) (a1 : Int) (a2 : Int) : Int := mxI a1 (mnI a0 a2)
def g68 (p : Int) : SV := .int .i64 (.sym p)
def S68 : Summ
  | [.v (.int .i64 a0), .v (.int .i64 a1), .v (.int .i64 a2)] => some (g68 (f68 a0.val a1.val a2.val))
  | _ => none
theorem S68_ok : SummFn Go.Proofs.Try.prog 68 S68 := by
  have ev : ∀ (a0 : Int) (a1 : Int) (a2 : Int), (symCall ⟨Go.Proofs.Try.prog, [], 3, 110, false, [], [], []⟩ 30 68 [.int .i64 (.sym a0), .int .i64 (.sym a1), .int .i64 (.sym a2)] []).out = ((g68 (mxI a1 (mnI a0 a2))).toV) := by
    intro a0 a1 a2
    kernel_rfl
  intro fs r h w vs hv
  unfold S68 at h
  split at h
  · rename_i a0 a1 a2
    cases h
    exact sx_calls (envOk' (S := []) trivial) 30 68 [.int .i64 (.sym a0.val), .int .i64 (.sym a1.val), .int .i64 (.sym a2.val)] vs (symifyL_rel _ _ (SArels_v (xs := [.int .i64 a0, .int .i64 a1, .int .i64 a2]) hv)) (by kernel_rfl) rfl ((ev a0.val a1.val a2.val).trans rfl) w
  · cases h
/-- outrigger/fix.Clamp -/
def f25 (a0 : Int) : Int × Bool := (f68 a0 (-288230376151711744) 288230376151711744, f68 a0 (-288230376151711744) 288230376151711744 != a0)
def g25 (p : Int × Bool) : SV := .tuple [.int .i64 (.sym p.1), .bool (.sym p.2)]
def S25 : Summ
  | [.v (.int .i64 a0)] => some (g25 (f25 a0.val))
  | _ => none
theorem S25_ok : SummFn Go.Proofs.Try.prog 25 S25 := by
  have ev : ∀ (a0 : Int), (symCall ⟨Go.Proofs.Try.prog, [(68, S68)], 3, 110, false, [], [], []⟩ 30 25 [.int .i64 (.sym a0)] []).out = ((g25 (f68 a0 (-288230376151711744) 288230376151711744, f68 a0 (-288230376151711744) 288230376151711744 != a0)).toV) := by
    intro a0
    kernel_rfl
  intro fs r h w vs hv
  unfold S25 at h
  split at h
  · rename_i a0
    cases h
    exact sx_calls (envOk' (S := [(68, S68)]) ⟨S68_ok, trivial⟩) 30 25 [.int .i64 (.sym a0.val)] vs (symifyL_rel _ _ (SArels_v (xs := [.int .i64 a0]) hv)) (by kernel_rfl) rfl ((ev a0.val).trans rfl) w
  · cases h
end Go.Proofs.Ytejlbofmlaclpaa
