/- What each function computes, by the executor: printed by a program (wip/sx/Gen2.lean). -/
import Derived.Test.YtmnglkcodbecbaaGreatS
namespace Go.Proofs.YtmnglkcodbecbaaGreat
open Go Go.Sx
set_option maxRecDepth 1000000
set_option maxHeartbeats 100000000
/-- outrigger/wide.Sane -/
def f176 (a0_0 : Int) (a0_1 : Int) : Bool := decide (a0_1 ≥ 0) && decide (a0_1 ≤ 4611686018427387903) && decide (a0_0 ≥ -2305843009213693952) && decide (a0_0 < 2305843009213693952)
def g176 (p : Bool) : SV := .bool (.sym p)
def S176 : Summ
  | [.v (.agg [.int .i64 a0_0, .int .i64 a0_1])] => some (g176 (f176 a0_0.val a0_1.val))
  | _ => none
theorem S176_ok : SummFn Go.Proofs.Tryz.prog 176 S176 := by
  have ev : ∀ (a0_0 : Int) (a0_1 : Int), (symCall ⟨Go.Proofs.Tryz.prog, [], 3, 215, false, [], [], []⟩ 30 176 [.agg [.int .i64 (.sym a0_0), .int .i64 (.sym a0_1)]] []).out = ((g176 (decide (a0_1 ≥ 0) && decide (a0_1 ≤ 4611686018427387903) && decide (a0_0 ≥ -2305843009213693952) && decide (a0_0 < 2305843009213693952))).toV) := by
    intro a0_0 a0_1
    kernel_rfl
  intro fs r h w vs hv
  unfold S176 at h
  split at h
  · rename_i a0_0 a0_1
    cases h
    exact sx_calls (envOk' (S := []) trivial) 30 176 [.agg [.int .i64 (.sym a0_0.val), .int .i64 (.sym a0_1.val)]] vs (symifyL_rel _ _ (SArels_v (xs := [.agg [.int .i64 a0_0, .int .i64 a0_1]]) hv)) (by kernel_rfl) rfl ((ev a0_0.val a0_1.val).trans rfl) w
  · cases h
/-- outrigger/wide.known -/
def f203 (a0_0 : Int) (a0_1 : Int) : Int × Int := bif f176 a0_0 a0_1 then ((a0_0, a0_1)) else ((0, 0))
def g203 (p : Int × Int) : SV := .agg [.int .i64 (.sym p.1), .int .i64 (.sym p.2)]
def S203 : Summ
  | [.v (.agg [.int .i64 a0_0, .int .i64 a0_1])] => some (g203 (f203 a0_0.val a0_1.val))
  | _ => none
theorem S203_ok : SummFn Go.Proofs.Tryz.prog 203 S203 := by
  have ev : ∀ (a0_0 : Int) (a0_1 : Int), (symCall ⟨Go.Proofs.Tryz.prog, [(176, S176)], 3, 215, false, [], [], []⟩ 30 203 [.agg [.int .i64 (.sym a0_0), .int .i64 (.sym a0_1)]] []).out = (bif f176 a0_0 a0_1 then ((g203 (a0_0, a0_1)).toV) else ((g203 (0, 0)).toV)) := by
    intro a0_0 a0_1
    kernel_rfl
  intro fs r h w vs hv
  unfold S203 at h
  split at h
  · rename_i a0_0 a0_1
    cases h
    exact sx_calls (envOk' (S := [(176, S176)]) ⟨S176_ok, trivial⟩) 30 203 [.agg [.int .i64 (.sym a0_0.val), .int .i64 (.sym a0_1.val)]] vs (symifyL_rel _ _ (SArels_v (xs := [.agg [.int .i64 a0_0, .int .i64 a0_1]]) hv)) (by kernel_rfl) rfl ((ev a0_0.val a0_1.val).trans (cond_out g203 rfl rfl)) w
  · cases h
/-- outrigger/wide.Add -/
def f178 (a0_0 : Int) (a0_1 : Int) (a1_0 : Int) (a1_1 : Int) : Int × Int × Bool := bif !((f203 (IntKind.i64.wrap (IntKind.i64.wrap ((f203 a0_0 a0_1).fst + (f203 a1_0 a1_1).fst) + IntKind.i64.wrap ((IntKind.u64.wrap (IntKind.u64.wrap (f203 a0_0 a0_1).snd + IntKind.u64.wrap (f203 a1_0 a1_1).snd)).fdiv (2 ^ 62)))) (IntKind.i64.wrap (bitsv BinOp.and IntKind.u64 (IntKind.u64.wrap (IntKind.u64.wrap (f203 a0_0 a0_1).snd + IntKind.u64.wrap (f203 a1_0 a1_1).snd)) 4611686018427387903))).fst == IntKind.i64.wrap (IntKind.i64.wrap ((f203 a0_0 a0_1).fst + (f203 a1_0 a1_1).fst) + IntKind.i64.wrap ((IntKind.u64.wrap (IntKind.u64.wrap (f203 a0_0 a0_1).snd + IntKind.u64.wrap (f203 a1_0 a1_1).snd)).fdiv (2 ^ 62))) && (f203 (IntKind.i64.wrap (IntKind.i64.wrap ((f203 a0_0 a0_1).fst + (f203 a1_0 a1_1).fst) + IntKind.i64.wrap ((IntKind.u64.wrap (IntKind.u64.wrap (f203 a0_0 a0_1).snd + IntKind.u64.wrap (f203 a1_0 a1_1).snd)).fdiv (2 ^ 62)))) (IntKind.i64.wrap (bitsv BinOp.and IntKind.u64 (IntKind.u64.wrap (IntKind.u64.wrap (f203 a0_0 a0_1).snd + IntKind.u64.wrap (f203 a1_0 a1_1).snd)) 4611686018427387903))).snd == IntKind.i64.wrap (bitsv BinOp.and IntKind.u64 (IntKind.u64.wrap (IntKind.u64.wrap (f203 a0_0 a0_1).snd + IntKind.u64.wrap (f203 a1_0 a1_1).snd)) 4611686018427387903)) then ((0, 0, false)) else ((IntKind.i64.wrap (IntKind.i64.wrap ((f203 a0_0 a0_1).fst + (f203 a1_0 a1_1).fst) + IntKind.i64.wrap ((IntKind.u64.wrap (IntKind.u64.wrap (f203 a0_0 a0_1).snd + IntKind.u64.wrap (f203 a1_0 a1_1).snd)).fdiv (2 ^ 62))), IntKind.i64.wrap (bitsv BinOp.and IntKind.u64 (IntKind.u64.wrap (IntKind.u64.wrap (f203 a0_0 a0_1).snd + IntKind.u64.wrap (f203 a1_0 a1_1).snd)) 4611686018427387903), true))
def g178 (p : Int × Int × Bool) : SV := .tuple [.agg [.int .i64 (.sym p.1), .int .i64 (.sym p.2.1)], .bool (.sym p.2.2)]
def S178 : Summ
  | [.v (.agg [.int .i64 a0_0, .int .i64 a0_1]), .v (.agg [.int .i64 a1_0, .int .i64 a1_1])] => some (g178 (f178 a0_0.val a0_1.val a1_0.val a1_1.val))
  | _ => none
theorem S178_ok : SummFn Go.Proofs.Tryz.prog 178 S178 := by
  have ev : ∀ (a0_0 : Int) (a0_1 : Int) (a1_0 : Int) (a1_1 : Int), (symCall ⟨Go.Proofs.Tryz.prog, [(176, S176), (203, S203)], 3, 215, false, [], [], []⟩ 30 178 [.agg [.int .i64 (.sym a0_0), .int .i64 (.sym a0_1)], .agg [.int .i64 (.sym a1_0), .int .i64 (.sym a1_1)]] []).out = (bif !((f203 (IntKind.i64.wrap (IntKind.i64.wrap ((f203 a0_0 a0_1).fst + (f203 a1_0 a1_1).fst) + IntKind.i64.wrap ((IntKind.u64.wrap (IntKind.u64.wrap (f203 a0_0 a0_1).snd + IntKind.u64.wrap (f203 a1_0 a1_1).snd)).fdiv (2 ^ 62)))) (IntKind.i64.wrap (bitsv BinOp.and IntKind.u64 (IntKind.u64.wrap (IntKind.u64.wrap (f203 a0_0 a0_1).snd + IntKind.u64.wrap (f203 a1_0 a1_1).snd)) 4611686018427387903))).fst == IntKind.i64.wrap (IntKind.i64.wrap ((f203 a0_0 a0_1).fst + (f203 a1_0 a1_1).fst) + IntKind.i64.wrap ((IntKind.u64.wrap (IntKind.u64.wrap (f203 a0_0 a0_1).snd + IntKind.u64.wrap (f203 a1_0 a1_1).snd)).fdiv (2 ^ 62))) && (f203 (IntKind.i64.wrap (IntKind.i64.wrap ((f203 a0_0 a0_1).fst + (f203 a1_0 a1_1).fst) + IntKind.i64.wrap ((IntKind.u64.wrap (IntKind.u64.wrap (f203 a0_0 a0_1).snd + IntKind.u64.wrap (f203 a1_0 a1_1).snd)).fdiv (2 ^ 62)))) (IntKind.i64.wrap (bitsv BinOp.and IntKind.u64 (IntKind.u64.wrap (IntKind.u64.wrap (f203 a0_0 a0_1).snd + IntKind.u64.wrap (f203 a1_0 a1_1).snd)) 4611686018427387903))).snd == IntKind.i64.wrap (bitsv BinOp.and IntKind.u64 (IntKind.u64.wrap (IntKind.u64.wrap (f203 a0_0 a0_1).snd + IntKind.u64.wrap (f203 a1_0 a1_1).snd)) 4611686018427387903)) then ((g178 (0, 0, false)).toV) else ((g178 (IntKind.i64.wrap (IntKind.i64.wrap ((f203 a0_0 a0_1).fst + (f203 a1_0 a1_1).fst) + IntKind.i64.wrap ((IntKind.u64.wrap (IntKind.u64.wrap (f203 a0_0 a0_1).snd + IntKind.u64.wrap (f203 a1_0 a1_1).snd)).fdiv (2 ^ 62))), IntKind.i64.wrap (bitsv BinOp.and IntKind.u64 (IntKind.u64.wrap (IntKind.u64.wrap (f203 a0_0 a0_1).snd + IntKind.u64.wrap (f203 a1_0 a1_1).snd)) 4611686018427387903), true)).toV)) := by
    intro a0_0 a0_1 a1_0 a1_1
    kernel_rfl
  intro fs r h w vs hv
  unfold S178 at h
  split at h
  · rename_i a0_0 a0_1 a1_0 a1_1
    cases h
    exact sx_calls (envOk' (S := [(176, S176), (203, S203)]) ⟨S176_ok, S203_ok, trivial⟩) 30 178 [.agg [.int .i64 (.sym a0_0.val), .int .i64 (.sym a0_1.val)], .agg [.int .i64 (.sym a1_0.val), .int .i64 (.sym a1_1.val)]] vs (symifyL_rel _ _ (SArels_v (xs := [.agg [.int .i64 a0_0, .int .i64 a0_1], .agg [.int .i64 a1_0, .int .i64 a1_1]]) hv)) (by kernel_rfl) rfl ((ev a0_0.val a0_1.val a1_0.val a1_1.val).trans (cond_out g178 rfl rfl)) w
  · cases h
/-- outrigger/wide.Of -/
def f179 (a0 : Int) : Int × Int := (a0.fdiv (2 ^ 62), bitsv BinOp.and IntKind.i64 a0 4611686018427387903)
def g179 (p : Int × Int) : SV := .agg [.int .i64 (.sym p.1), .int .i64 (.sym p.2)]
def S179 : Summ
  | [.v (.int .i64 a0)] => some (g179 (f179 a0.val))
  | _ => none
theorem S179_ok : SummFn Go.Proofs.Tryz.prog 179 S179 := by
  have ev : ∀ (a0 : Int), (symCall ⟨Go.Proofs.Tryz.prog, [], 3, 215, false, [], [], []⟩ 30 179 [.int .i64 (.sym a0)] []).out = ((g179 (a0.fdiv (2 ^ 62), bitsv BinOp.and IntKind.i64 a0 4611686018427387903)).toV) := by
    intro a0
    kernel_rfl
  intro fs r h w vs hv
  unfold S179 at h
  split at h
  · rename_i a0
    cases h
    exact sx_calls (envOk' (S := []) trivial) 30 179 [.int .i64 (.sym a0.val)] vs (symifyL_rel _ _ (SArels_v (xs := [.int .i64 a0]) hv)) (by kernel_rfl) rfl ((ev a0.val).trans rfl) w
  · cases h
/-- outrigger/fix.within[int] -/
def f142 (a0 : Int) (a1 : Int) (a2 : Int) : Int := mxI a1 (mnI a0 a2)
def g142 (p : Int) : SV := .int .i64 (.sym p)
def S142 : Summ
  | [.v (.int .i64 a0), .v (.int .i64 a1), .v (.int .i64 a2)] => some (g142 (f142 a0.val a1.val a2.val))
  | _ => none
theorem S142_ok : SummFn Go.Proofs.Tryz.prog 142 S142 := by
  have ev : ∀ (a0 : Int) (a1 : Int) (a2 : Int), (symCall ⟨Go.Proofs.Tryz.prog, [], 3, 215, false, [], [], []⟩ 30 142 [.int .i64 (.sym a0), .int .i64 (.sym a1), .int .i64 (.sym a2)] []).out = ((g142 (mxI a1 (mnI a0 a2))).toV) := by
    intro a0 a1 a2
    kernel_rfl
  intro fs r h w vs hv
  unfold S142 at h
  split at h
  · rename_i a0 a1 a2
    cases h
    exact sx_calls (envOk' (S := []) trivial) 30 142 [.int .i64 (.sym a0.val), .int .i64 (.sym a1.val), .int .i64 (.sym a2.val)] vs (symifyL_rel _ _ (SArels_v (xs := [.int .i64 a0, .int .i64 a1, .int .i64 a2]) hv)) (by kernel_rfl) rfl ((ev a0.val a1.val a2.val).trans rfl) w
  · cases h
/-- outrigger/fix.Clamp -/
def f82 (a0 : Int) : Int × Bool := (f142 a0 (-288230376151711744) 288230376151711744, f142 a0 (-288230376151711744) 288230376151711744 != a0)
def g82 (p : Int × Bool) : SV := .tuple [.int .i64 (.sym p.1), .bool (.sym p.2)]
def S82 : Summ
  | [.v (.int .i64 a0)] => some (g82 (f82 a0.val))
  | _ => none
theorem S82_ok : SummFn Go.Proofs.Tryz.prog 82 S82 := by
  have ev : ∀ (a0 : Int), (symCall ⟨Go.Proofs.Tryz.prog, [(142, S142)], 3, 215, false, [], [], []⟩ 30 82 [.int .i64 (.sym a0)] []).out = ((g82 (f142 a0 (-288230376151711744) 288230376151711744, f142 a0 (-288230376151711744) 288230376151711744 != a0)).toV) := by
    intro a0
    kernel_rfl
  intro fs r h w vs hv
  unfold S82 at h
  split at h
  · rename_i a0
    cases h
    exact sx_calls (envOk' (S := [(142, S142)]) ⟨S142_ok, trivial⟩) 30 82 [.int .i64 (.sym a0.val)] vs (symifyL_rel _ _ (SArels_v (xs := [.int .i64 a0]) hv)) (by kernel_rfl) rfl ((ev a0.val).trans rfl) w
  · cases h
end Go.Proofs.YtmnglkcodbecbaaGreat
