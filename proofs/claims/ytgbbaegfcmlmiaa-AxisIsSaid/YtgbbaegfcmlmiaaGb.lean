/- What each function computes, by the executor: printed by a program (wip/sx/Gen2.lean). -/
import Derived.Test.YtgbbaegfcmlmiaaM
namespace Go.Proofs.Ytgbbaegfcmlmiaa
open Go Go.Sx
set_option maxRecDepth 1000000
set_option maxHeartbeats 100000000
/-- outrigger/wide.Int -/
def f68 (a0_0 : Int) (a0_1 : Int) : Int × Bool := bif (f81 a0_0 a0_1).fst == 0 || (f81 a0_0 a0_1).fst == -1 then (((f41 (IntKind.i64.wrap (IntKind.i64.wrap ((f81 a0_0 a0_1).fst * 2 ^ 62) + (f81 a0_0 a0_1).snd))).fst, !(f41 (IntKind.i64.wrap (IntKind.i64.wrap ((f81 a0_0 a0_1).fst * 2 ^ 62) + (f81 a0_0 a0_1).snd))).snd)) else (bif decide ((f81 a0_0 a0_1).fst < 0) then ((-288230376151711744, false)) else ((288230376151711744, false)))
def g68 (p : Int × Bool) : SV := .tuple [.int .i64 (.sym p.1), .bool (.sym p.2)]
def S68 : Summ
  | [.v (.agg [.int .i64 a0_0, .int .i64 a0_1])] => some (g68 (f68 a0_0.val a0_1.val))
  | _ => none
theorem S68_ok : SummFn Go.Proofs.Try.prog 68 S68 := by
  have ev : ∀ (a0_0 : Int) (a0_1 : Int), (symCall ⟨Go.Proofs.Try.prog, [(41, S41), (62, S62), (61, S61), (81, S81)], 3, 88, false, [], []⟩ 30 68 [.agg [.int .i64 (.sym a0_0), .int .i64 (.sym a0_1)]] []).out = (bif (f81 a0_0 a0_1).fst == 0 || (f81 a0_0 a0_1).fst == -1 then ((g68 ((f41 (IntKind.i64.wrap (IntKind.i64.wrap ((f81 a0_0 a0_1).fst * 2 ^ 62) + (f81 a0_0 a0_1).snd))).fst, !(f41 (IntKind.i64.wrap (IntKind.i64.wrap ((f81 a0_0 a0_1).fst * 2 ^ 62) + (f81 a0_0 a0_1).snd))).snd)).toV) else (bif decide ((f81 a0_0 a0_1).fst < 0) then ((g68 (-288230376151711744, false)).toV) else ((g68 (288230376151711744, false)).toV))) := by
    intro a0_0 a0_1
    kernel_rfl
  intro fs r h w vs hv
  unfold S68 at h
  split at h
  · rename_i a0_0 a0_1
    cases h
    exact sx_calls (envOk' (S := [(41, S41), (62, S62), (61, S61), (81, S81)]) ⟨S41_ok, S62_ok, S61_ok, S81_ok, trivial⟩) 30 68 [.agg [.int .i64 (.sym a0_0.val), .int .i64 (.sym a0_1.val)]] vs (symifyL_rel _ _ (SArels_v (xs := [.agg [.int .i64 a0_0, .int .i64 a0_1]]) hv)) (by kernel_rfl) rfl ((ev a0_0.val a0_1.val).trans (cond_out g68 rfl (cond_out g68 rfl rfl))) w
  · cases h
/-- outrigger/scale.Round -/
def f49 (a0_0 : Int) (a0_1 : Int) : Int × Bool := bif !(f64 a0_0 a0_1 (f65 2147483648).fst (f65 2147483648).snd).snd.snd then ((288230376151711744, true)) else (((f68 ((f81 (f64 a0_0 a0_1 (f65 2147483648).fst (f65 2147483648).snd).fst (f64 a0_0 a0_1 (f65 2147483648).fst (f65 2147483648).snd).snd.fst).fst.fdiv (2 ^ 32)) (bitsv BinOp.and IntKind.i64 (bitsv BinOp.or IntKind.i64 (IntKind.i64.wrap ((f81 (f64 a0_0 a0_1 (f65 2147483648).fst (f65 2147483648).snd).fst (f64 a0_0 a0_1 (f65 2147483648).fst (f65 2147483648).snd).snd.fst).fst * 2 ^ 30)) ((f81 (f64 a0_0 a0_1 (f65 2147483648).fst (f65 2147483648).snd).fst (f64 a0_0 a0_1 (f65 2147483648).fst (f65 2147483648).snd).snd.fst).snd.fdiv (2 ^ 32))) 4611686018427387903)).fst, !(f68 ((f81 (f64 a0_0 a0_1 (f65 2147483648).fst (f65 2147483648).snd).fst (f64 a0_0 a0_1 (f65 2147483648).fst (f65 2147483648).snd).snd.fst).fst.fdiv (2 ^ 32)) (bitsv BinOp.and IntKind.i64 (bitsv BinOp.or IntKind.i64 (IntKind.i64.wrap ((f81 (f64 a0_0 a0_1 (f65 2147483648).fst (f65 2147483648).snd).fst (f64 a0_0 a0_1 (f65 2147483648).fst (f65 2147483648).snd).snd.fst).fst * 2 ^ 30)) ((f81 (f64 a0_0 a0_1 (f65 2147483648).fst (f65 2147483648).snd).fst (f64 a0_0 a0_1 (f65 2147483648).fst (f65 2147483648).snd).snd.fst).snd.fdiv (2 ^ 32))) 4611686018427387903)).snd || !f62 a0_0 a0_1))
def g49 (p : Int × Bool) : SV := .tuple [.int .i64 (.sym p.1), .bool (.sym p.2)]
def S49 : Summ
  | [.v (.agg [.int .i64 a0_0, .int .i64 a0_1])] => some (g49 (f49 a0_0.val a0_1.val))
  | _ => none
theorem S49_ok : SummFn Go.Proofs.Try.prog 49 S49 := by
  have ev : ∀ (a0_0 : Int) (a0_1 : Int), (symCall ⟨Go.Proofs.Try.prog, [(41, S41), (64, S64), (65, S65), (68, S68), (62, S62), (61, S61), (81, S81)], 3, 88, false, [], []⟩ 30 49 [.agg [.int .i64 (.sym a0_0), .int .i64 (.sym a0_1)]] []).out = (bif !(f64 a0_0 a0_1 (f65 2147483648).fst (f65 2147483648).snd).snd.snd then ((g49 (288230376151711744, true)).toV) else ((g49 ((f68 ((f81 (f64 a0_0 a0_1 (f65 2147483648).fst (f65 2147483648).snd).fst (f64 a0_0 a0_1 (f65 2147483648).fst (f65 2147483648).snd).snd.fst).fst.fdiv (2 ^ 32)) (bitsv BinOp.and IntKind.i64 (bitsv BinOp.or IntKind.i64 (IntKind.i64.wrap ((f81 (f64 a0_0 a0_1 (f65 2147483648).fst (f65 2147483648).snd).fst (f64 a0_0 a0_1 (f65 2147483648).fst (f65 2147483648).snd).snd.fst).fst * 2 ^ 30)) ((f81 (f64 a0_0 a0_1 (f65 2147483648).fst (f65 2147483648).snd).fst (f64 a0_0 a0_1 (f65 2147483648).fst (f65 2147483648).snd).snd.fst).snd.fdiv (2 ^ 32))) 4611686018427387903)).fst, !(f68 ((f81 (f64 a0_0 a0_1 (f65 2147483648).fst (f65 2147483648).snd).fst (f64 a0_0 a0_1 (f65 2147483648).fst (f65 2147483648).snd).snd.fst).fst.fdiv (2 ^ 32)) (bitsv BinOp.and IntKind.i64 (bitsv BinOp.or IntKind.i64 (IntKind.i64.wrap ((f81 (f64 a0_0 a0_1 (f65 2147483648).fst (f65 2147483648).snd).fst (f64 a0_0 a0_1 (f65 2147483648).fst (f65 2147483648).snd).snd.fst).fst * 2 ^ 30)) ((f81 (f64 a0_0 a0_1 (f65 2147483648).fst (f65 2147483648).snd).fst (f64 a0_0 a0_1 (f65 2147483648).fst (f65 2147483648).snd).snd.fst).snd.fdiv (2 ^ 32))) 4611686018427387903)).snd || !f62 a0_0 a0_1)).toV)) := by
    intro a0_0 a0_1
    kernel_rfl
  intro fs r h w vs hv
  unfold S49 at h
  split at h
  · rename_i a0_0 a0_1
    cases h
    exact sx_calls (envOk' (S := [(41, S41), (64, S64), (65, S65), (68, S68), (62, S62), (61, S61), (81, S81)]) ⟨S41_ok, S64_ok, S65_ok, S68_ok, S62_ok, S61_ok, S81_ok, trivial⟩) 30 49 [.agg [.int .i64 (.sym a0_0.val), .int .i64 (.sym a0_1.val)]] vs (symifyL_rel _ _ (SArels_v (xs := [.agg [.int .i64 a0_0, .int .i64 a0_1]]) hv)) (by kernel_rfl) rfl ((ev a0_0.val a0_1.val).trans (cond_out g49 rfl rfl)) w
  · cases h
/-- outrigger/fix.known -/
def f43 (a0 : Int) : Int := f61 a0 (-288230376151711744) 288230376151711744
def g43 (p : Int) : SV := .int .i64 (.sym p)
def S43 : Summ
  | [.v (.int .i64 a0)] => some (g43 (f43 a0.val))
  | _ => none
theorem S43_ok : SummFn Go.Proofs.Try.prog 43 S43 := by
  have ev : ∀ (a0 : Int), (symCall ⟨Go.Proofs.Try.prog, [(61, S61)], 3, 88, false, [], []⟩ 30 43 [.int .i64 (.sym a0)] []).out = ((g43 (f61 a0 (-288230376151711744) 288230376151711744)).toV) := by
    intro a0
    kernel_rfl
  intro fs r h w vs hv
  unfold S43 at h
  split at h
  · rename_i a0
    cases h
    exact sx_calls (envOk' (S := [(61, S61)]) ⟨S61_ok, trivial⟩) 30 43 [.int .i64 (.sym a0.val)] vs (symifyL_rel _ _ (SArels_v (xs := [.int .i64 a0]) hv)) (by kernel_rfl) rfl ((ev a0.val).trans rfl) w
  · cases h
/-- outrigger/fix.Abs -/
def f19 (a0 : Int) : Int := mxI (f43 a0) (IntKind.i64.wrap (0 - f43 a0))
def g19 (p : Int) : SV := .int .i64 (.sym p)
def S19 : Summ
  | [.v (.int .i64 a0)] => some (g19 (f19 a0.val))
  | _ => none
theorem S19_ok : SummFn Go.Proofs.Try.prog 19 S19 := by
  have ev : ∀ (a0 : Int), (symCall ⟨Go.Proofs.Try.prog, [(43, S43), (61, S61)], 3, 88, false, [], []⟩ 30 19 [.int .i64 (.sym a0)] []).out = ((g19 (mxI (f43 a0) (IntKind.i64.wrap (0 - f43 a0)))).toV) := by
    intro a0
    kernel_rfl
  intro fs r h w vs hv
  unfold S19 at h
  split at h
  · rename_i a0
    cases h
    exact sx_calls (envOk' (S := [(43, S43), (61, S61)]) ⟨S43_ok, S61_ok, trivial⟩) 30 19 [.int .i64 (.sym a0.val)] vs (symifyL_rel _ _ (SArels_v (xs := [.int .i64 a0]) hv)) (by kernel_rfl) rfl ((ev a0.val).trans rfl) w
  · cases h
/-- math/bits.Mul64 -/
def f66 (a0 : Int) (a1 : Int) : Int × Int := (IntKind.u64.wrap (IntKind.u64.wrap (IntKind.u64.wrap (a0.fdiv (2 ^ 32) * a1.fdiv (2 ^ 32)) + (IntKind.u64.wrap (IntKind.u64.wrap (a0.fdiv (2 ^ 32) * bitsv BinOp.and IntKind.u64 a1 4294967295) + (IntKind.u64.wrap (bitsv BinOp.and IntKind.u64 a0 4294967295 * bitsv BinOp.and IntKind.u64 a1 4294967295)).fdiv (2 ^ 32))).fdiv (2 ^ 32)) + (IntKind.u64.wrap (bitsv BinOp.and IntKind.u64 (IntKind.u64.wrap (IntKind.u64.wrap (a0.fdiv (2 ^ 32) * bitsv BinOp.and IntKind.u64 a1 4294967295) + (IntKind.u64.wrap (bitsv BinOp.and IntKind.u64 a0 4294967295 * bitsv BinOp.and IntKind.u64 a1 4294967295)).fdiv (2 ^ 32))) 4294967295 + IntKind.u64.wrap (bitsv BinOp.and IntKind.u64 a0 4294967295 * a1.fdiv (2 ^ 32)))).fdiv (2 ^ 32)), IntKind.u64.wrap (a0 * a1))
def g66 (p : Int × Int) : SV := .tuple [.int .u64 (.sym p.1), .int .u64 (.sym p.2)]
def S66 : Summ
  | [.v (.int .u64 a0), .v (.int .u64 a1)] => some (g66 (f66 a0.val a1.val))
  | _ => none
theorem S66_ok : SummFn Go.Proofs.Try.prog 66 S66 := by
  have ev : ∀ (a0 : Int) (a1 : Int), (symCall ⟨Go.Proofs.Try.prog, [], 3, 88, false, [], []⟩ 30 66 [.int .u64 (.sym a0), .int .u64 (.sym a1)] []).out = ((g66 (IntKind.u64.wrap (IntKind.u64.wrap (IntKind.u64.wrap (a0.fdiv (2 ^ 32) * a1.fdiv (2 ^ 32)) + (IntKind.u64.wrap (IntKind.u64.wrap (a0.fdiv (2 ^ 32) * bitsv BinOp.and IntKind.u64 a1 4294967295) + (IntKind.u64.wrap (bitsv BinOp.and IntKind.u64 a0 4294967295 * bitsv BinOp.and IntKind.u64 a1 4294967295)).fdiv (2 ^ 32))).fdiv (2 ^ 32)) + (IntKind.u64.wrap (bitsv BinOp.and IntKind.u64 (IntKind.u64.wrap (IntKind.u64.wrap (a0.fdiv (2 ^ 32) * bitsv BinOp.and IntKind.u64 a1 4294967295) + (IntKind.u64.wrap (bitsv BinOp.and IntKind.u64 a0 4294967295 * bitsv BinOp.and IntKind.u64 a1 4294967295)).fdiv (2 ^ 32))) 4294967295 + IntKind.u64.wrap (bitsv BinOp.and IntKind.u64 a0 4294967295 * a1.fdiv (2 ^ 32)))).fdiv (2 ^ 32)), IntKind.u64.wrap (a0 * a1))).toV) := by
    intro a0 a1
    kernel_rfl
  intro fs r h w vs hv
  unfold S66 at h
  split at h
  · rename_i a0 a1
    cases h
    exact sx_calls (envOk' (S := []) trivial) 30 66 [.int .u64 (.sym a0.val), .int .u64 (.sym a1.val)] vs (symifyL_rel _ _ (SArels_v (xs := [.int .u64 a0, .int .u64 a1]) hv)) (by kernel_rfl) rfl ((ev a0.val a1.val).trans rfl) w
  · cases h
/-- outrigger/wide.neg -/
def f67 (a0_0 : Int) (a0_1 : Int) : Int × Int := bif a0_1 == 0 then ((IntKind.i64.wrap (0 - a0_0), 0)) else ((bitsv BinOp.xor IntKind.i64 (-1) a0_0, IntKind.i64.wrap (4611686018427387904 - a0_1)))
def g67 (p : Int × Int) : SV := .agg [.int .i64 (.sym p.1), .int .i64 (.sym p.2)]
def S67 : Summ
  | [.v (.agg [.int .i64 a0_0, .int .i64 a0_1])] => some (g67 (f67 a0_0.val a0_1.val))
  | _ => none
theorem S67_ok : SummFn Go.Proofs.Try.prog 67 S67 := by
  have ev : ∀ (a0_0 : Int) (a0_1 : Int), (symCall ⟨Go.Proofs.Try.prog, [], 3, 88, false, [], []⟩ 30 67 [.agg [.int .i64 (.sym a0_0), .int .i64 (.sym a0_1)]] []).out = (bif a0_1 == 0 then ((g67 (IntKind.i64.wrap (0 - a0_0), 0)).toV) else ((g67 (bitsv BinOp.xor IntKind.i64 (-1) a0_0, IntKind.i64.wrap (4611686018427387904 - a0_1))).toV)) := by
    intro a0_0 a0_1
    kernel_rfl
  intro fs r h w vs hv
  unfold S67 at h
  split at h
  · rename_i a0_0 a0_1
    cases h
    exact sx_calls (envOk' (S := []) trivial) 30 67 [.agg [.int .i64 (.sym a0_0.val), .int .i64 (.sym a0_1.val)]] vs (symifyL_rel _ _ (SArels_v (xs := [.agg [.int .i64 a0_0, .int .i64 a0_1]]) hv)) (by kernel_rfl) rfl ((ev a0_0.val a0_1.val).trans (cond_out g67 rfl rfl)) w
  · cases h
/-- outrigger/wide.Mul -/
def f48 (a0 : Int) (a1 : Int) : Int × Int := bif !decide (a0 < 0) == decide (a1 < 0) then (((f67 (IntKind.i64.wrap (bitsv BinOp.or IntKind.u64 (IntKind.u64.wrap ((f66 (IntKind.u64.wrap (f19 a0)) (IntKind.u64.wrap (f19 a1))).fst * 2 ^ 2)) ((f66 (IntKind.u64.wrap (f19 a0)) (IntKind.u64.wrap (f19 a1))).snd.fdiv (2 ^ 62)))) (IntKind.i64.wrap (bitsv BinOp.and IntKind.u64 (f66 (IntKind.u64.wrap (f19 a0)) (IntKind.u64.wrap (f19 a1))).snd 4611686018427387903))).fst, (f67 (IntKind.i64.wrap (bitsv BinOp.or IntKind.u64 (IntKind.u64.wrap ((f66 (IntKind.u64.wrap (f19 a0)) (IntKind.u64.wrap (f19 a1))).fst * 2 ^ 2)) ((f66 (IntKind.u64.wrap (f19 a0)) (IntKind.u64.wrap (f19 a1))).snd.fdiv (2 ^ 62)))) (IntKind.i64.wrap (bitsv BinOp.and IntKind.u64 (f66 (IntKind.u64.wrap (f19 a0)) (IntKind.u64.wrap (f19 a1))).snd 4611686018427387903))).snd)) else ((IntKind.i64.wrap (bitsv BinOp.or IntKind.u64 (IntKind.u64.wrap ((f66 (IntKind.u64.wrap (f19 a0)) (IntKind.u64.wrap (f19 a1))).fst * 2 ^ 2)) ((f66 (IntKind.u64.wrap (f19 a0)) (IntKind.u64.wrap (f19 a1))).snd.fdiv (2 ^ 62))), IntKind.i64.wrap (bitsv BinOp.and IntKind.u64 (f66 (IntKind.u64.wrap (f19 a0)) (IntKind.u64.wrap (f19 a1))).snd 4611686018427387903)))
def g48 (p : Int × Int) : SV := .agg [.int .i64 (.sym p.1), .int .i64 (.sym p.2)]
def S48 : Summ
  | [.v (.int .i64 a0), .v (.int .i64 a1)] => some (g48 (f48 a0.val a1.val))
  | _ => none
theorem S48_ok : SummFn Go.Proofs.Try.prog 48 S48 := by
  have ev : ∀ (a0 : Int) (a1 : Int), (symCall ⟨Go.Proofs.Try.prog, [(19, S19), (43, S43), (61, S61), (66, S66), (67, S67)], 3, 88, false, [], []⟩ 30 48 [.int .i64 (.sym a0), .int .i64 (.sym a1)] []).out = (bif !decide (a0 < 0) == decide (a1 < 0) then ((g48 ((f67 (IntKind.i64.wrap (bitsv BinOp.or IntKind.u64 (IntKind.u64.wrap ((f66 (IntKind.u64.wrap (f19 a0)) (IntKind.u64.wrap (f19 a1))).fst * 2 ^ 2)) ((f66 (IntKind.u64.wrap (f19 a0)) (IntKind.u64.wrap (f19 a1))).snd.fdiv (2 ^ 62)))) (IntKind.i64.wrap (bitsv BinOp.and IntKind.u64 (f66 (IntKind.u64.wrap (f19 a0)) (IntKind.u64.wrap (f19 a1))).snd 4611686018427387903))).fst, (f67 (IntKind.i64.wrap (bitsv BinOp.or IntKind.u64 (IntKind.u64.wrap ((f66 (IntKind.u64.wrap (f19 a0)) (IntKind.u64.wrap (f19 a1))).fst * 2 ^ 2)) ((f66 (IntKind.u64.wrap (f19 a0)) (IntKind.u64.wrap (f19 a1))).snd.fdiv (2 ^ 62)))) (IntKind.i64.wrap (bitsv BinOp.and IntKind.u64 (f66 (IntKind.u64.wrap (f19 a0)) (IntKind.u64.wrap (f19 a1))).snd 4611686018427387903))).snd)).toV) else ((g48 (IntKind.i64.wrap (bitsv BinOp.or IntKind.u64 (IntKind.u64.wrap ((f66 (IntKind.u64.wrap (f19 a0)) (IntKind.u64.wrap (f19 a1))).fst * 2 ^ 2)) ((f66 (IntKind.u64.wrap (f19 a0)) (IntKind.u64.wrap (f19 a1))).snd.fdiv (2 ^ 62))), IntKind.i64.wrap (bitsv BinOp.and IntKind.u64 (f66 (IntKind.u64.wrap (f19 a0)) (IntKind.u64.wrap (f19 a1))).snd 4611686018427387903))).toV)) := by
    intro a0 a1
    kernel_rfl
  intro fs r h w vs hv
  unfold S48 at h
  split at h
  · rename_i a0 a1
    cases h
    exact sx_calls (envOk' (S := [(19, S19), (43, S43), (61, S61), (66, S66), (67, S67)]) ⟨S19_ok, S43_ok, S61_ok, S66_ok, S67_ok, trivial⟩) 30 48 [.int .i64 (.sym a0.val), .int .i64 (.sym a1.val)] vs (symifyL_rel _ _ (SArels_v (xs := [.int .i64 a0, .int .i64 a1]) hv)) (by kernel_rfl) rfl ((ev a0.val a1.val).trans (cond_out g48 rfl rfl)) w
  · cases h
/-- outrigger/scale.Times -/
def f27 (a0 : Int) (a1 : Int) : Int × Bool := bif (f49 (f48 a0 a1).fst (f48 a0 a1).snd).snd then (((f49 (f48 a0 a1).fst (f48 a0 a1).snd).fst, true)) else (((f49 (f48 a0 a1).fst (f48 a0 a1).snd).fst, f50 [a0, a1]))
def g27 (p : Int × Bool) : SV := .tuple [.int .i64 (.sym p.1), .bool (.sym p.2)]
def S27 : Summ
  | [.v (.int .i64 a0), .v (.int .i64 a1)] => some (g27 (f27 a0.val a1.val))
  | _ => none
theorem S27_ok : SummFn Go.Proofs.Try.prog 27 S27 := by
  have ev : ∀ (a0 : Int) (a1 : Int), (symCall ⟨Go.Proofs.Try.prog, [(49, S49), (19, S19), (41, S41), (48, S48), (64, S64), (65, S65), (68, S68), (62, S62), (50, S50), (43, S43), (61, S61), (66, S66), (67, S67), (81, S81)], 3, 88, false, [], []⟩ 30 27 [.int .i64 (.sym a0), .int .i64 (.sym a1)] []).out = (bif (f49 (f48 a0 a1).fst (f48 a0 a1).snd).snd then ((g27 ((f49 (f48 a0 a1).fst (f48 a0 a1).snd).fst, true)).toV) else ((g27 ((f49 (f48 a0 a1).fst (f48 a0 a1).snd).fst, f50 [a0, a1])).toV)) := by
    intro a0 a1
    kernel_rfl
  intro fs r h w vs hv
  unfold S27 at h
  split at h
  · rename_i a0 a1
    cases h
    exact sx_calls (envOk' (S := [(49, S49), (19, S19), (41, S41), (48, S48), (64, S64), (65, S65), (68, S68), (62, S62), (50, S50), (43, S43), (61, S61), (66, S66), (67, S67), (81, S81)]) ⟨S49_ok, S19_ok, S41_ok, S48_ok, S64_ok, S65_ok, S68_ok, S62_ok, S50_ok, S43_ok, S61_ok, S66_ok, S67_ok, S81_ok, trivial⟩) 30 27 [.int .i64 (.sym a0.val), .int .i64 (.sym a1.val)] vs (symifyL_rel _ _ (SArels_v (xs := [.int .i64 a0, .int .i64 a1]) hv)) (by kernel_rfl) rfl ((ev a0.val a1.val).trans (cond_out g27 rfl rfl)) w
  · cases h
/-- outrigger/scale.Over -/
def f51 (a0 : Int) (a1 : Int) : Int × Bool := bif !decide (a0 < 0) == decide (a1 < 0) then (bif IntKind.u64.wrap (f19 a0) == 0 then ((0, f50 [a0, a1] || IntKind.u64.wrap (f19 a1) == 0)) else (bif IntKind.u64.wrap (f19 a1) == 0 && decide (a0 < 0) then ((-288230376151711744, true)) else (bif IntKind.u64.wrap (f19 a1) == 0 then ((288230376151711744, true)) else (bif (f70 (IntKind.u64.wrap (f19 a0)) (IntKind.u64.wrap (f19 a1))).snd.snd then ((-288230376151711744, true)) else (bif decide (IntKind.u64.wrap (2 * (f70 (IntKind.u64.wrap (f19 a0)) (IntKind.u64.wrap (f19 a1))).snd.fst) > IntKind.u64.wrap (f19 a1)) || IntKind.u64.wrap (2 * (f70 (IntKind.u64.wrap (f19 a0)) (IntKind.u64.wrap (f19 a1))).snd.fst) == IntKind.u64.wrap (f19 a1) && !!decide (a0 < 0) == decide (a1 < 0) then (bif !decide (a0 < 0) == decide (a1 < 0) then (((f41 (IntKind.i64.wrap (0 - IntKind.i64.wrap (IntKind.u64.wrap ((f70 (IntKind.u64.wrap (f19 a0)) (IntKind.u64.wrap (f19 a1))).fst + 1))))).fst, f50 [a0, a1] || (f41 (IntKind.i64.wrap (0 - IntKind.i64.wrap (IntKind.u64.wrap ((f70 (IntKind.u64.wrap (f19 a0)) (IntKind.u64.wrap (f19 a1))).fst + 1))))).snd)) else (((f41 (IntKind.i64.wrap (IntKind.u64.wrap ((f70 (IntKind.u64.wrap (f19 a0)) (IntKind.u64.wrap (f19 a1))).fst + 1)))).fst, f50 [a0, a1] || (f41 (IntKind.i64.wrap (IntKind.u64.wrap ((f70 (IntKind.u64.wrap (f19 a0)) (IntKind.u64.wrap (f19 a1))).fst + 1)))).snd))) else (bif !decide (a0 < 0) == decide (a1 < 0) then (((f41 (IntKind.i64.wrap (0 - IntKind.i64.wrap (f70 (IntKind.u64.wrap (f19 a0)) (IntKind.u64.wrap (f19 a1))).fst))).fst, f50 [a0, a1] || (f41 (IntKind.i64.wrap (0 - IntKind.i64.wrap (f70 (IntKind.u64.wrap (f19 a0)) (IntKind.u64.wrap (f19 a1))).fst))).snd)) else (((f41 (IntKind.i64.wrap (f70 (IntKind.u64.wrap (f19 a0)) (IntKind.u64.wrap (f19 a1))).fst)).fst, f50 [a0, a1] || (f41 (IntKind.i64.wrap (f70 (IntKind.u64.wrap (f19 a0)) (IntKind.u64.wrap (f19 a1))).fst)).snd)))))))) else (bif IntKind.u64.wrap (f19 a0) == 0 then ((0, f50 [a0, a1] || IntKind.u64.wrap (f19 a1) == 0)) else (bif IntKind.u64.wrap (f19 a1) == 0 && decide (a0 < 0) then ((-288230376151711744, true)) else (bif IntKind.u64.wrap (f19 a1) == 0 then ((288230376151711744, true)) else (bif (f70 (IntKind.u64.wrap (f19 a0)) (IntKind.u64.wrap (f19 a1))).snd.snd then ((288230376151711744, true)) else (bif decide (IntKind.u64.wrap (2 * (f70 (IntKind.u64.wrap (f19 a0)) (IntKind.u64.wrap (f19 a1))).snd.fst) > IntKind.u64.wrap (f19 a1)) || IntKind.u64.wrap (2 * (f70 (IntKind.u64.wrap (f19 a0)) (IntKind.u64.wrap (f19 a1))).snd.fst) == IntKind.u64.wrap (f19 a1) && !!decide (a0 < 0) == decide (a1 < 0) then (bif !decide (a0 < 0) == decide (a1 < 0) then (((f41 (IntKind.i64.wrap (0 - IntKind.i64.wrap (IntKind.u64.wrap ((f70 (IntKind.u64.wrap (f19 a0)) (IntKind.u64.wrap (f19 a1))).fst + 1))))).fst, f50 [a0, a1] || (f41 (IntKind.i64.wrap (0 - IntKind.i64.wrap (IntKind.u64.wrap ((f70 (IntKind.u64.wrap (f19 a0)) (IntKind.u64.wrap (f19 a1))).fst + 1))))).snd)) else (((f41 (IntKind.i64.wrap (IntKind.u64.wrap ((f70 (IntKind.u64.wrap (f19 a0)) (IntKind.u64.wrap (f19 a1))).fst + 1)))).fst, f50 [a0, a1] || (f41 (IntKind.i64.wrap (IntKind.u64.wrap ((f70 (IntKind.u64.wrap (f19 a0)) (IntKind.u64.wrap (f19 a1))).fst + 1)))).snd))) else (bif !decide (a0 < 0) == decide (a1 < 0) then (((f41 (IntKind.i64.wrap (0 - IntKind.i64.wrap (f70 (IntKind.u64.wrap (f19 a0)) (IntKind.u64.wrap (f19 a1))).fst))).fst, f50 [a0, a1] || (f41 (IntKind.i64.wrap (0 - IntKind.i64.wrap (f70 (IntKind.u64.wrap (f19 a0)) (IntKind.u64.wrap (f19 a1))).fst))).snd)) else (((f41 (IntKind.i64.wrap (f70 (IntKind.u64.wrap (f19 a0)) (IntKind.u64.wrap (f19 a1))).fst)).fst, f50 [a0, a1] || (f41 (IntKind.i64.wrap (f70 (IntKind.u64.wrap (f19 a0)) (IntKind.u64.wrap (f19 a1))).fst)).snd))))))))
def g51 (p : Int × Bool) : SV := .tuple [.int .i64 (.sym p.1), .bool (.sym p.2)]
def S51 : Summ
  | [.v (.int .i64 a0), .v (.int .i64 a1)] => some (g51 (f51 a0.val a1.val))
  | _ => none
theorem S51_ok : SummFn Go.Proofs.Try.prog 51 S51 := by
  have ev : ∀ (a0 : Int) (a1 : Int), (symCall ⟨Go.Proofs.Try.prog, [(19, S19), (41, S41), (50, S50), (70, S70), (43, S43), (61, S61)], 3, 88, false, [], []⟩ 30 51 [.int .i64 (.sym a0), .int .i64 (.sym a1)] []).out = (bif !decide (a0 < 0) == decide (a1 < 0) then (bif IntKind.u64.wrap (f19 a0) == 0 then ((g51 (0, f50 [a0, a1] || IntKind.u64.wrap (f19 a1) == 0)).toV) else (bif IntKind.u64.wrap (f19 a1) == 0 && decide (a0 < 0) then ((g51 (-288230376151711744, true)).toV) else (bif IntKind.u64.wrap (f19 a1) == 0 then ((g51 (288230376151711744, true)).toV) else (bif (f70 (IntKind.u64.wrap (f19 a0)) (IntKind.u64.wrap (f19 a1))).snd.snd then ((g51 (-288230376151711744, true)).toV) else (bif decide (IntKind.u64.wrap (2 * (f70 (IntKind.u64.wrap (f19 a0)) (IntKind.u64.wrap (f19 a1))).snd.fst) > IntKind.u64.wrap (f19 a1)) || IntKind.u64.wrap (2 * (f70 (IntKind.u64.wrap (f19 a0)) (IntKind.u64.wrap (f19 a1))).snd.fst) == IntKind.u64.wrap (f19 a1) && !!decide (a0 < 0) == decide (a1 < 0) then (bif !decide (a0 < 0) == decide (a1 < 0) then ((g51 ((f41 (IntKind.i64.wrap (0 - IntKind.i64.wrap (IntKind.u64.wrap ((f70 (IntKind.u64.wrap (f19 a0)) (IntKind.u64.wrap (f19 a1))).fst + 1))))).fst, f50 [a0, a1] || (f41 (IntKind.i64.wrap (0 - IntKind.i64.wrap (IntKind.u64.wrap ((f70 (IntKind.u64.wrap (f19 a0)) (IntKind.u64.wrap (f19 a1))).fst + 1))))).snd)).toV) else ((g51 ((f41 (IntKind.i64.wrap (IntKind.u64.wrap ((f70 (IntKind.u64.wrap (f19 a0)) (IntKind.u64.wrap (f19 a1))).fst + 1)))).fst, f50 [a0, a1] || (f41 (IntKind.i64.wrap (IntKind.u64.wrap ((f70 (IntKind.u64.wrap (f19 a0)) (IntKind.u64.wrap (f19 a1))).fst + 1)))).snd)).toV)) else (bif !decide (a0 < 0) == decide (a1 < 0) then ((g51 ((f41 (IntKind.i64.wrap (0 - IntKind.i64.wrap (f70 (IntKind.u64.wrap (f19 a0)) (IntKind.u64.wrap (f19 a1))).fst))).fst, f50 [a0, a1] || (f41 (IntKind.i64.wrap (0 - IntKind.i64.wrap (f70 (IntKind.u64.wrap (f19 a0)) (IntKind.u64.wrap (f19 a1))).fst))).snd)).toV) else ((g51 ((f41 (IntKind.i64.wrap (f70 (IntKind.u64.wrap (f19 a0)) (IntKind.u64.wrap (f19 a1))).fst)).fst, f50 [a0, a1] || (f41 (IntKind.i64.wrap (f70 (IntKind.u64.wrap (f19 a0)) (IntKind.u64.wrap (f19 a1))).fst)).snd)).toV))))))) else (bif IntKind.u64.wrap (f19 a0) == 0 then ((g51 (0, f50 [a0, a1] || IntKind.u64.wrap (f19 a1) == 0)).toV) else (bif IntKind.u64.wrap (f19 a1) == 0 && decide (a0 < 0) then ((g51 (-288230376151711744, true)).toV) else (bif IntKind.u64.wrap (f19 a1) == 0 then ((g51 (288230376151711744, true)).toV) else (bif (f70 (IntKind.u64.wrap (f19 a0)) (IntKind.u64.wrap (f19 a1))).snd.snd then ((g51 (288230376151711744, true)).toV) else (bif decide (IntKind.u64.wrap (2 * (f70 (IntKind.u64.wrap (f19 a0)) (IntKind.u64.wrap (f19 a1))).snd.fst) > IntKind.u64.wrap (f19 a1)) || IntKind.u64.wrap (2 * (f70 (IntKind.u64.wrap (f19 a0)) (IntKind.u64.wrap (f19 a1))).snd.fst) == IntKind.u64.wrap (f19 a1) && !!decide (a0 < 0) == decide (a1 < 0) then (bif !decide (a0 < 0) == decide (a1 < 0) then ((g51 ((f41 (IntKind.i64.wrap (0 - IntKind.i64.wrap (IntKind.u64.wrap ((f70 (IntKind.u64.wrap (f19 a0)) (IntKind.u64.wrap (f19 a1))).fst + 1))))).fst, f50 [a0, a1] || (f41 (IntKind.i64.wrap (0 - IntKind.i64.wrap (IntKind.u64.wrap ((f70 (IntKind.u64.wrap (f19 a0)) (IntKind.u64.wrap (f19 a1))).fst + 1))))).snd)).toV) else ((g51 ((f41 (IntKind.i64.wrap (IntKind.u64.wrap ((f70 (IntKind.u64.wrap (f19 a0)) (IntKind.u64.wrap (f19 a1))).fst + 1)))).fst, f50 [a0, a1] || (f41 (IntKind.i64.wrap (IntKind.u64.wrap ((f70 (IntKind.u64.wrap (f19 a0)) (IntKind.u64.wrap (f19 a1))).fst + 1)))).snd)).toV)) else (bif !decide (a0 < 0) == decide (a1 < 0) then ((g51 ((f41 (IntKind.i64.wrap (0 - IntKind.i64.wrap (f70 (IntKind.u64.wrap (f19 a0)) (IntKind.u64.wrap (f19 a1))).fst))).fst, f50 [a0, a1] || (f41 (IntKind.i64.wrap (0 - IntKind.i64.wrap (f70 (IntKind.u64.wrap (f19 a0)) (IntKind.u64.wrap (f19 a1))).fst))).snd)).toV) else ((g51 ((f41 (IntKind.i64.wrap (f70 (IntKind.u64.wrap (f19 a0)) (IntKind.u64.wrap (f19 a1))).fst)).fst, f50 [a0, a1] || (f41 (IntKind.i64.wrap (f70 (IntKind.u64.wrap (f19 a0)) (IntKind.u64.wrap (f19 a1))).fst)).snd)).toV)))))))) := by
    intro a0 a1
    kernel_rfl
  intro fs r h w vs hv
  unfold S51 at h
  split at h
  · rename_i a0 a1
    cases h
    exact sx_calls (envOk' (S := [(19, S19), (41, S41), (50, S50), (70, S70), (43, S43), (61, S61)]) ⟨S19_ok, S41_ok, S50_ok, S70_ok, S43_ok, S61_ok, trivial⟩) 30 51 [.int .i64 (.sym a0.val), .int .i64 (.sym a1.val)] vs (symifyL_rel _ _ (SArels_v (xs := [.int .i64 a0, .int .i64 a1]) hv)) (by kernel_rfl) rfl ((ev a0.val a1.val).trans (cond_out g51 (cond_out g51 rfl (cond_out g51 rfl (cond_out g51 rfl (cond_out g51 rfl (cond_out g51 (cond_out g51 rfl rfl) (cond_out g51 rfl rfl)))))) (cond_out g51 rfl (cond_out g51 rfl (cond_out g51 rfl (cond_out g51 rfl (cond_out g51 (cond_out g51 rfl rfl) (cond_out g51 rfl rfl)))))))) w
  · cases h
/-- outrigger/fix.Add -/
def f46 (a0 : Int) (a1 : Int) : Int × Bool := ((f41 (IntKind.i64.wrap (f43 a0 + f43 a1))).fst, (f41 (IntKind.i64.wrap (f43 a0 + f43 a1))).snd || f43 a0 != a0 || f43 a1 != a1)
def g46 (p : Int × Bool) : SV := .tuple [.int .i64 (.sym p.1), .bool (.sym p.2)]
def S46 : Summ
  | [.v (.int .i64 a0), .v (.int .i64 a1)] => some (g46 (f46 a0.val a1.val))
  | _ => none
theorem S46_ok : SummFn Go.Proofs.Try.prog 46 S46 := by
  have ev : ∀ (a0 : Int) (a1 : Int), (symCall ⟨Go.Proofs.Try.prog, [(41, S41), (43, S43), (61, S61)], 3, 88, false, [], []⟩ 30 46 [.int .i64 (.sym a0), .int .i64 (.sym a1)] []).out = ((g46 ((f41 (IntKind.i64.wrap (f43 a0 + f43 a1))).fst, (f41 (IntKind.i64.wrap (f43 a0 + f43 a1))).snd || f43 a0 != a0 || f43 a1 != a1)).toV) := by
    intro a0 a1
    kernel_rfl
  intro fs r h w vs hv
  unfold S46 at h
  split at h
  · rename_i a0 a1
    cases h
    exact sx_calls (envOk' (S := [(41, S41), (43, S43), (61, S61)]) ⟨S41_ok, S43_ok, S61_ok, trivial⟩) 30 46 [.int .i64 (.sym a0.val), .int .i64 (.sym a1.val)] vs (symifyL_rel _ _ (SArels_v (xs := [.int .i64 a0, .int .i64 a1]) hv)) (by kernel_rfl) rfl ((ev a0.val a1.val).trans rfl) w
  · cases h
/-- outrigger/fix.Sub -/
def f45 (a0 : Int) (a1 : Int) : Int × Bool := ((f41 (IntKind.i64.wrap (f43 a0 - f43 a1))).fst, (f41 (IntKind.i64.wrap (f43 a0 - f43 a1))).snd || f43 a0 != a0 || f43 a1 != a1)
def g45 (p : Int × Bool) : SV := .tuple [.int .i64 (.sym p.1), .bool (.sym p.2)]
def S45 : Summ
  | [.v (.int .i64 a0), .v (.int .i64 a1)] => some (g45 (f45 a0.val a1.val))
  | _ => none
theorem S45_ok : SummFn Go.Proofs.Try.prog 45 S45 := by
  have ev : ∀ (a0 : Int) (a1 : Int), (symCall ⟨Go.Proofs.Try.prog, [(41, S41), (43, S43), (61, S61)], 3, 88, false, [], []⟩ 30 45 [.int .i64 (.sym a0), .int .i64 (.sym a1)] []).out = ((g45 ((f41 (IntKind.i64.wrap (f43 a0 - f43 a1))).fst, (f41 (IntKind.i64.wrap (f43 a0 - f43 a1))).snd || f43 a0 != a0 || f43 a1 != a1)).toV) := by
    intro a0 a1
    kernel_rfl
  intro fs r h w vs hv
  unfold S45 at h
  split at h
  · rename_i a0 a1
    cases h
    exact sx_calls (envOk' (S := [(41, S41), (43, S43), (61, S61)]) ⟨S41_ok, S43_ok, S61_ok, trivial⟩) 30 45 [.int .i64 (.sym a0.val), .int .i64 (.sym a1.val)] vs (symifyL_rel _ _ (SArels_v (xs := [.int .i64 a0, .int .i64 a1]) hv)) (by kernel_rfl) rfl ((ev a0.val a1.val).trans rfl) w
  · cases h
/-- outrigger/outriggerref02.Sane -/
def f73 (a0_0 : Int) (a0_1 : Int) : Bool := decide (a0_1 ≥ 0) && decide (a0_1 < 4611686018427387904) && decide (a0_0 ≥ -2305843009213693952) && decide (a0_0 < 2305843009213693952)
def g73 (p : Bool) : SV := .bool (.sym p)
def S73 : Summ
  | [.v (.agg [.int .i64 a0_0, .int .i64 a0_1])] => some (g73 (f73 a0_0.val a0_1.val))
  | _ => none
theorem S73_ok : SummFn Go.Proofs.Try.prog 73 S73 := by
  have ev : ∀ (a0_0 : Int) (a0_1 : Int), (symCall ⟨Go.Proofs.Try.prog, [], 3, 88, false, [], []⟩ 30 73 [.agg [.int .i64 (.sym a0_0), .int .i64 (.sym a0_1)]] []).out = ((g73 (decide (a0_1 ≥ 0) && decide (a0_1 < 4611686018427387904) && decide (a0_0 ≥ -2305843009213693952) && decide (a0_0 < 2305843009213693952))).toV) := by
    intro a0_0 a0_1
    kernel_rfl
  intro fs r h w vs hv
  unfold S73 at h
  split at h
  · rename_i a0_0 a0_1
    cases h
    exact sx_calls (envOk' (S := []) trivial) 30 73 [.agg [.int .i64 (.sym a0_0.val), .int .i64 (.sym a0_1.val)]] vs (symifyL_rel _ _ (SArels_v (xs := [.agg [.int .i64 a0_0, .int .i64 a0_1]]) hv)) (by kernel_rfl) rfl ((ev a0_0.val a0_1.val).trans rfl) w
  · cases h
/-- outrigger/outriggerref02.As -/
def f71 (a0_0 : Int) (a0_1 : Int) : Int × Int := bif !f73 a0_0 a0_1 then ((0, 0)) else ((a0_0, a0_1))
def g71 (p : Int × Int) : SV := .agg [.int .i64 (.sym p.1), .int .i64 (.sym p.2)]
def S71 : Summ
  | [.v (.agg [.int .i64 a0_0, .int .i64 a0_1])] => some (g71 (f71 a0_0.val a0_1.val))
  | _ => none
theorem S71_ok : SummFn Go.Proofs.Try.prog 71 S71 := by
  have ev : ∀ (a0_0 : Int) (a0_1 : Int), (symCall ⟨Go.Proofs.Try.prog, [(73, S73)], 3, 88, false, [], []⟩ 30 71 [.agg [.int .i64 (.sym a0_0), .int .i64 (.sym a0_1)]] []).out = (bif !f73 a0_0 a0_1 then ((g71 (0, 0)).toV) else ((g71 (a0_0, a0_1)).toV)) := by
    intro a0_0 a0_1
    kernel_rfl
  intro fs r h w vs hv
  unfold S71 at h
  split at h
  · rename_i a0_0 a0_1
    cases h
    exact sx_calls (envOk' (S := [(73, S73)]) ⟨S73_ok, trivial⟩) 30 71 [.agg [.int .i64 (.sym a0_0.val), .int .i64 (.sym a0_1.val)]] vs (symifyL_rel _ _ (SArels_v (xs := [.agg [.int .i64 a0_0, .int .i64 a0_1]]) hv)) (by kernel_rfl) rfl ((ev a0_0.val a0_1.val).trans (cond_out g71 rfl rfl)) w
  · cases h
/-- outrigger/outriggerref02.Add -/
def f74 (a0_0 : Int) (a0_1 : Int) (a1_0 : Int) (a1_1 : Int) : Int × Int × Bool := bif decide (IntKind.i64.wrap ((f71 a0_0 a0_1).snd + (f71 a1_0 a1_1).snd) < 0) || decide (IntKind.i64.wrap ((f71 a0_0 a0_1).snd + (f71 a1_0 a1_1).snd) ≥ 4611686018427387904) then (bif !f73 (IntKind.i64.wrap (IntKind.i64.wrap ((f71 a0_0 a0_1).fst + (f71 a1_0 a1_1).fst) + 1)) (IntKind.i64.wrap (IntKind.i64.wrap ((f71 a0_0 a0_1).snd + (f71 a1_0 a1_1).snd) - 4611686018427387904)) then ((0, 0, false)) else ((IntKind.i64.wrap (IntKind.i64.wrap ((f71 a0_0 a0_1).fst + (f71 a1_0 a1_1).fst) + 1), IntKind.i64.wrap (IntKind.i64.wrap ((f71 a0_0 a0_1).snd + (f71 a1_0 a1_1).snd) - 4611686018427387904), true))) else (bif !f73 (IntKind.i64.wrap ((f71 a0_0 a0_1).fst + (f71 a1_0 a1_1).fst)) (IntKind.i64.wrap ((f71 a0_0 a0_1).snd + (f71 a1_0 a1_1).snd)) then ((0, 0, false)) else ((IntKind.i64.wrap ((f71 a0_0 a0_1).fst + (f71 a1_0 a1_1).fst), IntKind.i64.wrap ((f71 a0_0 a0_1).snd + (f71 a1_0 a1_1).snd), true)))
def g74 (p : Int × Int × Bool) : SV := .tuple [.agg [.int .i64 (.sym p.1), .int .i64 (.sym p.2.1)], .bool (.sym p.2.2)]
def S74 : Summ
  | [.v (.agg [.int .i64 a0_0, .int .i64 a0_1]), .v (.agg [.int .i64 a1_0, .int .i64 a1_1])] => some (g74 (f74 a0_0.val a0_1.val a1_0.val a1_1.val))
  | _ => none
theorem S74_ok : SummFn Go.Proofs.Try.prog 74 S74 := by
  have ev : ∀ (a0_0 : Int) (a0_1 : Int) (a1_0 : Int) (a1_1 : Int), (symCall ⟨Go.Proofs.Try.prog, [(73, S73), (71, S71)], 3, 88, false, [], []⟩ 30 74 [.agg [.int .i64 (.sym a0_0), .int .i64 (.sym a0_1)], .agg [.int .i64 (.sym a1_0), .int .i64 (.sym a1_1)]] []).out = (bif decide (IntKind.i64.wrap ((f71 a0_0 a0_1).snd + (f71 a1_0 a1_1).snd) < 0) || decide (IntKind.i64.wrap ((f71 a0_0 a0_1).snd + (f71 a1_0 a1_1).snd) ≥ 4611686018427387904) then (bif !f73 (IntKind.i64.wrap (IntKind.i64.wrap ((f71 a0_0 a0_1).fst + (f71 a1_0 a1_1).fst) + 1)) (IntKind.i64.wrap (IntKind.i64.wrap ((f71 a0_0 a0_1).snd + (f71 a1_0 a1_1).snd) - 4611686018427387904)) then ((g74 (0, 0, false)).toV) else ((g74 (IntKind.i64.wrap (IntKind.i64.wrap ((f71 a0_0 a0_1).fst + (f71 a1_0 a1_1).fst) + 1), IntKind.i64.wrap (IntKind.i64.wrap ((f71 a0_0 a0_1).snd + (f71 a1_0 a1_1).snd) - 4611686018427387904), true)).toV)) else (bif !f73 (IntKind.i64.wrap ((f71 a0_0 a0_1).fst + (f71 a1_0 a1_1).fst)) (IntKind.i64.wrap ((f71 a0_0 a0_1).snd + (f71 a1_0 a1_1).snd)) then ((g74 (0, 0, false)).toV) else ((g74 (IntKind.i64.wrap ((f71 a0_0 a0_1).fst + (f71 a1_0 a1_1).fst), IntKind.i64.wrap ((f71 a0_0 a0_1).snd + (f71 a1_0 a1_1).snd), true)).toV))) := by
    intro a0_0 a0_1 a1_0 a1_1
    kernel_rfl
  intro fs r h w vs hv
  unfold S74 at h
  split at h
  · rename_i a0_0 a0_1 a1_0 a1_1
    cases h
    exact sx_calls (envOk' (S := [(73, S73), (71, S71)]) ⟨S73_ok, S71_ok, trivial⟩) 30 74 [.agg [.int .i64 (.sym a0_0.val), .int .i64 (.sym a0_1.val)], .agg [.int .i64 (.sym a1_0.val), .int .i64 (.sym a1_1.val)]] vs (symifyL_rel _ _ (SArels_v (xs := [.agg [.int .i64 a0_0, .int .i64 a0_1], .agg [.int .i64 a1_0, .int .i64 a1_1]]) hv)) (by kernel_rfl) rfl ((ev a0_0.val a0_1.val a1_0.val a1_1.val).trans (cond_out g74 (cond_out g74 rfl rfl) (cond_out g74 rfl rfl))) w
  · cases h
/-- outrigger/outriggerref02.Int -/
def f78 (a0_0 : Int) (a0_1 : Int) : Int × Bool := bif (f71 a0_0 a0_1).fst == 0 && decide ((f71 a0_0 a0_1).snd ≤ 288230376151711744) then (((f71 a0_0 a0_1).snd, true)) else (bif (f71 a0_0 a0_1).fst == -1 && decide ((f71 a0_0 a0_1).snd ≥ 4323455642275676160) then ((IntKind.i64.wrap ((f71 a0_0 a0_1).snd - 4611686018427387904), true)) else (bif decide ((f71 a0_0 a0_1).fst < 0) then ((-288230376151711744, false)) else ((288230376151711744, false))))
def g78 (p : Int × Bool) : SV := .tuple [.int .i64 (.sym p.1), .bool (.sym p.2)]
def S78 : Summ
  | [.v (.agg [.int .i64 a0_0, .int .i64 a0_1])] => some (g78 (f78 a0_0.val a0_1.val))
  | _ => none
theorem S78_ok : SummFn Go.Proofs.Try.prog 78 S78 := by
  have ev : ∀ (a0_0 : Int) (a0_1 : Int), (symCall ⟨Go.Proofs.Try.prog, [(73, S73), (71, S71)], 3, 88, false, [], []⟩ 30 78 [.agg [.int .i64 (.sym a0_0), .int .i64 (.sym a0_1)]] []).out = (bif (f71 a0_0 a0_1).fst == 0 && decide ((f71 a0_0 a0_1).snd ≤ 288230376151711744) then ((g78 ((f71 a0_0 a0_1).snd, true)).toV) else (bif (f71 a0_0 a0_1).fst == -1 && decide ((f71 a0_0 a0_1).snd ≥ 4323455642275676160) then ((g78 (IntKind.i64.wrap ((f71 a0_0 a0_1).snd - 4611686018427387904), true)).toV) else (bif decide ((f71 a0_0 a0_1).fst < 0) then ((g78 (-288230376151711744, false)).toV) else ((g78 (288230376151711744, false)).toV)))) := by
    intro a0_0 a0_1
    kernel_rfl
  intro fs r h w vs hv
  unfold S78 at h
  split at h
  · rename_i a0_0 a0_1
    cases h
    exact sx_calls (envOk' (S := [(73, S73), (71, S71)]) ⟨S73_ok, S71_ok, trivial⟩) 30 78 [.agg [.int .i64 (.sym a0_0.val), .int .i64 (.sym a0_1.val)]] vs (symifyL_rel _ _ (SArels_v (xs := [.agg [.int .i64 a0_0, .int .i64 a0_1]]) hv)) (by kernel_rfl) rfl ((ev a0_0.val a0_1.val).trans (cond_out g78 rfl (cond_out g78 rfl (cond_out g78 rfl rfl)))) w
  · cases h
/-- outrigger/outriggerref01.Clamp -/
def f52 (a0 : Int) : Int × Bool := bif decide (a0 > 288230376151711744) then ((288230376151711744, true)) else (bif decide (a0 < -288230376151711744) then ((-288230376151711744, true)) else ((a0, false)))
def g52 (p : Int × Bool) : SV := .tuple [.int .i64 (.sym p.1), .bool (.sym p.2)]
def S52 : Summ
  | [.v (.int .i64 a0)] => some (g52 (f52 a0.val))
  | _ => none
theorem S52_ok : SummFn Go.Proofs.Try.prog 52 S52 := by
  have ev : ∀ (a0 : Int), (symCall ⟨Go.Proofs.Try.prog, [], 3, 88, false, [], []⟩ 30 52 [.int .i64 (.sym a0)] []).out = (bif decide (a0 > 288230376151711744) then ((g52 (288230376151711744, true)).toV) else (bif decide (a0 < -288230376151711744) then ((g52 (-288230376151711744, true)).toV) else ((g52 (a0, false)).toV))) := by
    intro a0
    kernel_rfl
  intro fs r h w vs hv
  unfold S52 at h
  split at h
  · rename_i a0
    cases h
    exact sx_calls (envOk' (S := []) trivial) 30 52 [.int .i64 (.sym a0.val)] vs (symifyL_rel _ _ (SArels_v (xs := [.int .i64 a0]) hv)) (by kernel_rfl) rfl ((ev a0.val).trans (cond_out g52 rfl (cond_out g52 rfl rfl))) w
  · cases h
/-- outrigger/outriggerref01.As -/
def f42 (a0 : Int) : Int := (f52 a0).fst
def g42 (p : Int) : SV := .int .i64 (.sym p)
def S42 : Summ
  | [.v (.int .i64 a0)] => some (g42 (f42 a0.val))
  | _ => none
theorem S42_ok : SummFn Go.Proofs.Try.prog 42 S42 := by
  have ev : ∀ (a0 : Int), (symCall ⟨Go.Proofs.Try.prog, [(52, S52)], 3, 88, false, [], []⟩ 30 42 [.int .i64 (.sym a0)] []).out = ((g42 ((f52 a0).fst)).toV) := by
    intro a0
    kernel_rfl
  intro fs r h w vs hv
  unfold S42 at h
  split at h
  · rename_i a0
    cases h
    exact sx_calls (envOk' (S := [(52, S52)]) ⟨S52_ok, trivial⟩) 30 42 [.int .i64 (.sym a0.val)] vs (symifyL_rel _ _ (SArels_v (xs := [.int .i64 a0]) hv)) (by kernel_rfl) rfl ((ev a0.val).trans rfl) w
  · cases h
/-- outrigger/outriggerref01.Abs -/
def f37 (a0 : Int) : Int := mxI (f42 a0) (IntKind.i64.wrap (0 - f42 a0))
def g37 (p : Int) : SV := .int .i64 (.sym p)
def S37 : Summ
  | [.v (.int .i64 a0)] => some (g37 (f37 a0.val))
  | _ => none
theorem S37_ok : SummFn Go.Proofs.Try.prog 37 S37 := by
  have ev : ∀ (a0 : Int), (symCall ⟨Go.Proofs.Try.prog, [(42, S42), (52, S52)], 3, 88, false, [], []⟩ 30 37 [.int .i64 (.sym a0)] []).out = ((g37 (mxI (f42 a0) (IntKind.i64.wrap (0 - f42 a0)))).toV) := by
    intro a0
    kernel_rfl
  intro fs r h w vs hv
  unfold S37 at h
  split at h
  · rename_i a0
    cases h
    exact sx_calls (envOk' (S := [(42, S42), (52, S52)]) ⟨S42_ok, S52_ok, trivial⟩) 30 37 [.int .i64 (.sym a0.val)] vs (symifyL_rel _ _ (SArels_v (xs := [.int .i64 a0]) hv)) (by kernel_rfl) rfl ((ev a0.val).trans rfl) w
  · cases h
/-- outrigger/outriggerref02.turn -/
def f77 (a0_0 : Int) (a0_1 : Int) : Int × Int := bif a0_1 == 0 then ((IntKind.i64.wrap (0 - a0_0), 0)) else ((IntKind.i64.wrap (IntKind.i64.wrap (0 - a0_0) - 1), IntKind.i64.wrap (4611686018427387904 - a0_1)))
def g77 (p : Int × Int) : SV := .agg [.int .i64 (.sym p.1), .int .i64 (.sym p.2)]
def S77 : Summ
  | [.v (.agg [.int .i64 a0_0, .int .i64 a0_1])] => some (g77 (f77 a0_0.val a0_1.val))
  | _ => none
theorem S77_ok : SummFn Go.Proofs.Try.prog 77 S77 := by
  have ev : ∀ (a0_0 : Int) (a0_1 : Int), (symCall ⟨Go.Proofs.Try.prog, [], 3, 88, false, [], []⟩ 30 77 [.agg [.int .i64 (.sym a0_0), .int .i64 (.sym a0_1)]] []).out = (bif a0_1 == 0 then ((g77 (IntKind.i64.wrap (0 - a0_0), 0)).toV) else ((g77 (IntKind.i64.wrap (IntKind.i64.wrap (0 - a0_0) - 1), IntKind.i64.wrap (4611686018427387904 - a0_1))).toV)) := by
    intro a0_0 a0_1
    kernel_rfl
  intro fs r h w vs hv
  unfold S77 at h
  split at h
  · rename_i a0_0 a0_1
    cases h
    exact sx_calls (envOk' (S := []) trivial) 30 77 [.agg [.int .i64 (.sym a0_0.val), .int .i64 (.sym a0_1.val)]] vs (symifyL_rel _ _ (SArels_v (xs := [.agg [.int .i64 a0_0, .int .i64 a0_1]]) hv)) (by kernel_rfl) rfl ((ev a0_0.val a0_1.val).trans (cond_out g77 rfl rfl)) w
  · cases h
/-- outrigger/outriggerref02.Mul -/
def f57 (a0 : Int) (a1 : Int) : Int × Int := bif decide (IntKind.i64.wrap (IntKind.i64.wrap ((f37 a0).tmod 2147483648 * (f37 a1).tmod 2147483648) + IntKind.i64.wrap ((IntKind.i64.wrap (IntKind.i64.wrap (IntKind.i64.wrap ((f37 a0).tdiv 2147483648) * (f37 a1).tmod 2147483648) + IntKind.i64.wrap ((f37 a0).tmod 2147483648 * IntKind.i64.wrap ((f37 a1).tdiv 2147483648)))).tmod 2147483648 * 2147483648)) ≥ 4611686018427387904) then (bif !decide (a0 < 0) == decide (a1 < 0) then (((f77 (IntKind.i64.wrap (IntKind.i64.wrap (IntKind.i64.wrap (IntKind.i64.wrap ((f37 a0).tdiv 2147483648) * IntKind.i64.wrap ((f37 a1).tdiv 2147483648)) + IntKind.i64.wrap ((IntKind.i64.wrap (IntKind.i64.wrap (IntKind.i64.wrap ((f37 a0).tdiv 2147483648) * (f37 a1).tmod 2147483648) + IntKind.i64.wrap ((f37 a0).tmod 2147483648 * IntKind.i64.wrap ((f37 a1).tdiv 2147483648)))).tdiv 2147483648)) + 1)) (IntKind.i64.wrap (IntKind.i64.wrap (IntKind.i64.wrap ((f37 a0).tmod 2147483648 * (f37 a1).tmod 2147483648) + IntKind.i64.wrap ((IntKind.i64.wrap (IntKind.i64.wrap (IntKind.i64.wrap ((f37 a0).tdiv 2147483648) * (f37 a1).tmod 2147483648) + IntKind.i64.wrap ((f37 a0).tmod 2147483648 * IntKind.i64.wrap ((f37 a1).tdiv 2147483648)))).tmod 2147483648 * 2147483648)) - 4611686018427387904))).fst, (f77 (IntKind.i64.wrap (IntKind.i64.wrap (IntKind.i64.wrap (IntKind.i64.wrap ((f37 a0).tdiv 2147483648) * IntKind.i64.wrap ((f37 a1).tdiv 2147483648)) + IntKind.i64.wrap ((IntKind.i64.wrap (IntKind.i64.wrap (IntKind.i64.wrap ((f37 a0).tdiv 2147483648) * (f37 a1).tmod 2147483648) + IntKind.i64.wrap ((f37 a0).tmod 2147483648 * IntKind.i64.wrap ((f37 a1).tdiv 2147483648)))).tdiv 2147483648)) + 1)) (IntKind.i64.wrap (IntKind.i64.wrap (IntKind.i64.wrap ((f37 a0).tmod 2147483648 * (f37 a1).tmod 2147483648) + IntKind.i64.wrap ((IntKind.i64.wrap (IntKind.i64.wrap (IntKind.i64.wrap ((f37 a0).tdiv 2147483648) * (f37 a1).tmod 2147483648) + IntKind.i64.wrap ((f37 a0).tmod 2147483648 * IntKind.i64.wrap ((f37 a1).tdiv 2147483648)))).tmod 2147483648 * 2147483648)) - 4611686018427387904))).snd)) else ((IntKind.i64.wrap (IntKind.i64.wrap (IntKind.i64.wrap (IntKind.i64.wrap ((f37 a0).tdiv 2147483648) * IntKind.i64.wrap ((f37 a1).tdiv 2147483648)) + IntKind.i64.wrap ((IntKind.i64.wrap (IntKind.i64.wrap (IntKind.i64.wrap ((f37 a0).tdiv 2147483648) * (f37 a1).tmod 2147483648) + IntKind.i64.wrap ((f37 a0).tmod 2147483648 * IntKind.i64.wrap ((f37 a1).tdiv 2147483648)))).tdiv 2147483648)) + 1), IntKind.i64.wrap (IntKind.i64.wrap (IntKind.i64.wrap ((f37 a0).tmod 2147483648 * (f37 a1).tmod 2147483648) + IntKind.i64.wrap ((IntKind.i64.wrap (IntKind.i64.wrap (IntKind.i64.wrap ((f37 a0).tdiv 2147483648) * (f37 a1).tmod 2147483648) + IntKind.i64.wrap ((f37 a0).tmod 2147483648 * IntKind.i64.wrap ((f37 a1).tdiv 2147483648)))).tmod 2147483648 * 2147483648)) - 4611686018427387904)))) else (bif !decide (a0 < 0) == decide (a1 < 0) then (((f77 (IntKind.i64.wrap (IntKind.i64.wrap (IntKind.i64.wrap ((f37 a0).tdiv 2147483648) * IntKind.i64.wrap ((f37 a1).tdiv 2147483648)) + IntKind.i64.wrap ((IntKind.i64.wrap (IntKind.i64.wrap (IntKind.i64.wrap ((f37 a0).tdiv 2147483648) * (f37 a1).tmod 2147483648) + IntKind.i64.wrap ((f37 a0).tmod 2147483648 * IntKind.i64.wrap ((f37 a1).tdiv 2147483648)))).tdiv 2147483648))) (IntKind.i64.wrap (IntKind.i64.wrap ((f37 a0).tmod 2147483648 * (f37 a1).tmod 2147483648) + IntKind.i64.wrap ((IntKind.i64.wrap (IntKind.i64.wrap (IntKind.i64.wrap ((f37 a0).tdiv 2147483648) * (f37 a1).tmod 2147483648) + IntKind.i64.wrap ((f37 a0).tmod 2147483648 * IntKind.i64.wrap ((f37 a1).tdiv 2147483648)))).tmod 2147483648 * 2147483648)))).fst, (f77 (IntKind.i64.wrap (IntKind.i64.wrap (IntKind.i64.wrap ((f37 a0).tdiv 2147483648) * IntKind.i64.wrap ((f37 a1).tdiv 2147483648)) + IntKind.i64.wrap ((IntKind.i64.wrap (IntKind.i64.wrap (IntKind.i64.wrap ((f37 a0).tdiv 2147483648) * (f37 a1).tmod 2147483648) + IntKind.i64.wrap ((f37 a0).tmod 2147483648 * IntKind.i64.wrap ((f37 a1).tdiv 2147483648)))).tdiv 2147483648))) (IntKind.i64.wrap (IntKind.i64.wrap ((f37 a0).tmod 2147483648 * (f37 a1).tmod 2147483648) + IntKind.i64.wrap ((IntKind.i64.wrap (IntKind.i64.wrap (IntKind.i64.wrap ((f37 a0).tdiv 2147483648) * (f37 a1).tmod 2147483648) + IntKind.i64.wrap ((f37 a0).tmod 2147483648 * IntKind.i64.wrap ((f37 a1).tdiv 2147483648)))).tmod 2147483648 * 2147483648)))).snd)) else ((IntKind.i64.wrap (IntKind.i64.wrap (IntKind.i64.wrap ((f37 a0).tdiv 2147483648) * IntKind.i64.wrap ((f37 a1).tdiv 2147483648)) + IntKind.i64.wrap ((IntKind.i64.wrap (IntKind.i64.wrap (IntKind.i64.wrap ((f37 a0).tdiv 2147483648) * (f37 a1).tmod 2147483648) + IntKind.i64.wrap ((f37 a0).tmod 2147483648 * IntKind.i64.wrap ((f37 a1).tdiv 2147483648)))).tdiv 2147483648)), IntKind.i64.wrap (IntKind.i64.wrap ((f37 a0).tmod 2147483648 * (f37 a1).tmod 2147483648) + IntKind.i64.wrap ((IntKind.i64.wrap (IntKind.i64.wrap (IntKind.i64.wrap ((f37 a0).tdiv 2147483648) * (f37 a1).tmod 2147483648) + IntKind.i64.wrap ((f37 a0).tmod 2147483648 * IntKind.i64.wrap ((f37 a1).tdiv 2147483648)))).tmod 2147483648 * 2147483648)))))
def g57 (p : Int × Int) : SV := .agg [.int .i64 (.sym p.1), .int .i64 (.sym p.2)]
def S57 : Summ
  | [.v (.int .i64 a0), .v (.int .i64 a1)] => some (g57 (f57 a0.val a1.val))
  | _ => none
theorem S57_ok : SummFn Go.Proofs.Try.prog 57 S57 := by
  have ev : ∀ (a0 : Int) (a1 : Int), (symCall ⟨Go.Proofs.Try.prog, [(42, S42), (37, S37), (52, S52), (77, S77)], 3, 88, false, [], []⟩ 30 57 [.int .i64 (.sym a0), .int .i64 (.sym a1)] []).out = (bif decide (IntKind.i64.wrap (IntKind.i64.wrap ((f37 a0).tmod 2147483648 * (f37 a1).tmod 2147483648) + IntKind.i64.wrap ((IntKind.i64.wrap (IntKind.i64.wrap (IntKind.i64.wrap ((f37 a0).tdiv 2147483648) * (f37 a1).tmod 2147483648) + IntKind.i64.wrap ((f37 a0).tmod 2147483648 * IntKind.i64.wrap ((f37 a1).tdiv 2147483648)))).tmod 2147483648 * 2147483648)) ≥ 4611686018427387904) then (bif !decide (a0 < 0) == decide (a1 < 0) then ((g57 ((f77 (IntKind.i64.wrap (IntKind.i64.wrap (IntKind.i64.wrap (IntKind.i64.wrap ((f37 a0).tdiv 2147483648) * IntKind.i64.wrap ((f37 a1).tdiv 2147483648)) + IntKind.i64.wrap ((IntKind.i64.wrap (IntKind.i64.wrap (IntKind.i64.wrap ((f37 a0).tdiv 2147483648) * (f37 a1).tmod 2147483648) + IntKind.i64.wrap ((f37 a0).tmod 2147483648 * IntKind.i64.wrap ((f37 a1).tdiv 2147483648)))).tdiv 2147483648)) + 1)) (IntKind.i64.wrap (IntKind.i64.wrap (IntKind.i64.wrap ((f37 a0).tmod 2147483648 * (f37 a1).tmod 2147483648) + IntKind.i64.wrap ((IntKind.i64.wrap (IntKind.i64.wrap (IntKind.i64.wrap ((f37 a0).tdiv 2147483648) * (f37 a1).tmod 2147483648) + IntKind.i64.wrap ((f37 a0).tmod 2147483648 * IntKind.i64.wrap ((f37 a1).tdiv 2147483648)))).tmod 2147483648 * 2147483648)) - 4611686018427387904))).fst, (f77 (IntKind.i64.wrap (IntKind.i64.wrap (IntKind.i64.wrap (IntKind.i64.wrap ((f37 a0).tdiv 2147483648) * IntKind.i64.wrap ((f37 a1).tdiv 2147483648)) + IntKind.i64.wrap ((IntKind.i64.wrap (IntKind.i64.wrap (IntKind.i64.wrap ((f37 a0).tdiv 2147483648) * (f37 a1).tmod 2147483648) + IntKind.i64.wrap ((f37 a0).tmod 2147483648 * IntKind.i64.wrap ((f37 a1).tdiv 2147483648)))).tdiv 2147483648)) + 1)) (IntKind.i64.wrap (IntKind.i64.wrap (IntKind.i64.wrap ((f37 a0).tmod 2147483648 * (f37 a1).tmod 2147483648) + IntKind.i64.wrap ((IntKind.i64.wrap (IntKind.i64.wrap (IntKind.i64.wrap ((f37 a0).tdiv 2147483648) * (f37 a1).tmod 2147483648) + IntKind.i64.wrap ((f37 a0).tmod 2147483648 * IntKind.i64.wrap ((f37 a1).tdiv 2147483648)))).tmod 2147483648 * 2147483648)) - 4611686018427387904))).snd)).toV) else ((g57 (IntKind.i64.wrap (IntKind.i64.wrap (IntKind.i64.wrap (IntKind.i64.wrap ((f37 a0).tdiv 2147483648) * IntKind.i64.wrap ((f37 a1).tdiv 2147483648)) + IntKind.i64.wrap ((IntKind.i64.wrap (IntKind.i64.wrap (IntKind.i64.wrap ((f37 a0).tdiv 2147483648) * (f37 a1).tmod 2147483648) + IntKind.i64.wrap ((f37 a0).tmod 2147483648 * IntKind.i64.wrap ((f37 a1).tdiv 2147483648)))).tdiv 2147483648)) + 1), IntKind.i64.wrap (IntKind.i64.wrap (IntKind.i64.wrap ((f37 a0).tmod 2147483648 * (f37 a1).tmod 2147483648) + IntKind.i64.wrap ((IntKind.i64.wrap (IntKind.i64.wrap (IntKind.i64.wrap ((f37 a0).tdiv 2147483648) * (f37 a1).tmod 2147483648) + IntKind.i64.wrap ((f37 a0).tmod 2147483648 * IntKind.i64.wrap ((f37 a1).tdiv 2147483648)))).tmod 2147483648 * 2147483648)) - 4611686018427387904))).toV)) else (bif !decide (a0 < 0) == decide (a1 < 0) then ((g57 ((f77 (IntKind.i64.wrap (IntKind.i64.wrap (IntKind.i64.wrap ((f37 a0).tdiv 2147483648) * IntKind.i64.wrap ((f37 a1).tdiv 2147483648)) + IntKind.i64.wrap ((IntKind.i64.wrap (IntKind.i64.wrap (IntKind.i64.wrap ((f37 a0).tdiv 2147483648) * (f37 a1).tmod 2147483648) + IntKind.i64.wrap ((f37 a0).tmod 2147483648 * IntKind.i64.wrap ((f37 a1).tdiv 2147483648)))).tdiv 2147483648))) (IntKind.i64.wrap (IntKind.i64.wrap ((f37 a0).tmod 2147483648 * (f37 a1).tmod 2147483648) + IntKind.i64.wrap ((IntKind.i64.wrap (IntKind.i64.wrap (IntKind.i64.wrap ((f37 a0).tdiv 2147483648) * (f37 a1).tmod 2147483648) + IntKind.i64.wrap ((f37 a0).tmod 2147483648 * IntKind.i64.wrap ((f37 a1).tdiv 2147483648)))).tmod 2147483648 * 2147483648)))).fst, (f77 (IntKind.i64.wrap (IntKind.i64.wrap (IntKind.i64.wrap ((f37 a0).tdiv 2147483648) * IntKind.i64.wrap ((f37 a1).tdiv 2147483648)) + IntKind.i64.wrap ((IntKind.i64.wrap (IntKind.i64.wrap (IntKind.i64.wrap ((f37 a0).tdiv 2147483648) * (f37 a1).tmod 2147483648) + IntKind.i64.wrap ((f37 a0).tmod 2147483648 * IntKind.i64.wrap ((f37 a1).tdiv 2147483648)))).tdiv 2147483648))) (IntKind.i64.wrap (IntKind.i64.wrap ((f37 a0).tmod 2147483648 * (f37 a1).tmod 2147483648) + IntKind.i64.wrap ((IntKind.i64.wrap (IntKind.i64.wrap (IntKind.i64.wrap ((f37 a0).tdiv 2147483648) * (f37 a1).tmod 2147483648) + IntKind.i64.wrap ((f37 a0).tmod 2147483648 * IntKind.i64.wrap ((f37 a1).tdiv 2147483648)))).tmod 2147483648 * 2147483648)))).snd)).toV) else ((g57 (IntKind.i64.wrap (IntKind.i64.wrap (IntKind.i64.wrap ((f37 a0).tdiv 2147483648) * IntKind.i64.wrap ((f37 a1).tdiv 2147483648)) + IntKind.i64.wrap ((IntKind.i64.wrap (IntKind.i64.wrap (IntKind.i64.wrap ((f37 a0).tdiv 2147483648) * (f37 a1).tmod 2147483648) + IntKind.i64.wrap ((f37 a0).tmod 2147483648 * IntKind.i64.wrap ((f37 a1).tdiv 2147483648)))).tdiv 2147483648)), IntKind.i64.wrap (IntKind.i64.wrap ((f37 a0).tmod 2147483648 * (f37 a1).tmod 2147483648) + IntKind.i64.wrap ((IntKind.i64.wrap (IntKind.i64.wrap (IntKind.i64.wrap ((f37 a0).tdiv 2147483648) * (f37 a1).tmod 2147483648) + IntKind.i64.wrap ((f37 a0).tmod 2147483648 * IntKind.i64.wrap ((f37 a1).tdiv 2147483648)))).tmod 2147483648 * 2147483648)))).toV))) := by
    intro a0 a1
    kernel_rfl
  intro fs r h w vs hv
  unfold S57 at h
  split at h
  · rename_i a0 a1
    cases h
    exact sx_calls (envOk' (S := [(42, S42), (37, S37), (52, S52), (77, S77)]) ⟨S42_ok, S37_ok, S52_ok, S77_ok, trivial⟩) 30 57 [.int .i64 (.sym a0.val), .int .i64 (.sym a1.val)] vs (symifyL_rel _ _ (SArels_v (xs := [.int .i64 a0, .int .i64 a1]) hv)) (by kernel_rfl) rfl ((ev a0.val a1.val).trans (cond_out g57 (cond_out g57 rfl rfl) (cond_out g57 rfl rfl))) w
  · cases h
/-- outrigger/outriggerref03.changed -/
def f59 (a0 : Int) : Bool := (f52 a0).snd
def g59 (p : Bool) : SV := .bool (.sym p)
def S59 : Summ
  | [.v (.int .i64 a0)] => some (g59 (f59 a0.val))
  | _ => none
theorem S59_ok : SummFn Go.Proofs.Try.prog 59 S59 := by
  have ev : ∀ (a0 : Int), (symCall ⟨Go.Proofs.Try.prog, [(52, S52)], 3, 88, false, [], []⟩ 30 59 [.int .i64 (.sym a0)] []).out = ((g59 ((f52 a0).snd)).toV) := by
    intro a0
    kernel_rfl
  intro fs r h w vs hv
  unfold S59 at h
  split at h
  · rename_i a0
    cases h
    exact sx_calls (envOk' (S := [(52, S52)]) ⟨S52_ok, trivial⟩) 30 59 [.int .i64 (.sym a0.val)] vs (symifyL_rel _ _ (SArels_v (xs := [.int .i64 a0]) hv)) (by kernel_rfl) rfl ((ev a0.val).trans rfl) w
  · cases h
/-- outrigger/outriggerref01.Sub -/
def f53 (a0 : Int) (a1 : Int) : Int × Bool := ((f52 (IntKind.i64.wrap ((f52 a0).fst - (f52 a1).fst))).fst, (f52 a0).snd || (f52 a1).snd || (f52 (IntKind.i64.wrap ((f52 a0).fst - (f52 a1).fst))).snd)
def g53 (p : Int × Bool) : SV := .tuple [.int .i64 (.sym p.1), .bool (.sym p.2)]
def S53 : Summ
  | [.v (.int .i64 a0), .v (.int .i64 a1)] => some (g53 (f53 a0.val a1.val))
  | _ => none
theorem S53_ok : SummFn Go.Proofs.Try.prog 53 S53 := by
  have ev : ∀ (a0 : Int) (a1 : Int), (symCall ⟨Go.Proofs.Try.prog, [(52, S52)], 3, 88, false, [], []⟩ 30 53 [.int .i64 (.sym a0), .int .i64 (.sym a1)] []).out = ((g53 ((f52 (IntKind.i64.wrap ((f52 a0).fst - (f52 a1).fst))).fst, (f52 a0).snd || (f52 a1).snd || (f52 (IntKind.i64.wrap ((f52 a0).fst - (f52 a1).fst))).snd)).toV) := by
    intro a0 a1
    kernel_rfl
  intro fs r h w vs hv
  unfold S53 at h
  split at h
  · rename_i a0 a1
    cases h
    exact sx_calls (envOk' (S := [(52, S52)]) ⟨S52_ok, trivial⟩) 30 53 [.int .i64 (.sym a0.val), .int .i64 (.sym a1.val)] vs (symifyL_rel _ _ (SArels_v (xs := [.int .i64 a0, .int .i64 a1]) hv)) (by kernel_rfl) rfl ((ev a0.val a1.val).trans rfl) w
  · cases h
/-- outrigger/outriggerref01.Add -/
def f55 (a0 : Int) (a1 : Int) : Int × Bool := ((f52 (IntKind.i64.wrap ((f52 a0).fst + (f52 a1).fst))).fst, (f52 a0).snd || (f52 a1).snd || (f52 (IntKind.i64.wrap ((f52 a0).fst + (f52 a1).fst))).snd)
def g55 (p : Int × Bool) : SV := .tuple [.int .i64 (.sym p.1), .bool (.sym p.2)]
def S55 : Summ
  | [.v (.int .i64 a0), .v (.int .i64 a1)] => some (g55 (f55 a0.val a1.val))
  | _ => none
theorem S55_ok : SummFn Go.Proofs.Try.prog 55 S55 := by
  have ev : ∀ (a0 : Int) (a1 : Int), (symCall ⟨Go.Proofs.Try.prog, [(52, S52)], 3, 88, false, [], []⟩ 30 55 [.int .i64 (.sym a0), .int .i64 (.sym a1)] []).out = ((g55 ((f52 (IntKind.i64.wrap ((f52 a0).fst + (f52 a1).fst))).fst, (f52 a0).snd || (f52 a1).snd || (f52 (IntKind.i64.wrap ((f52 a0).fst + (f52 a1).fst))).snd)).toV) := by
    intro a0 a1
    kernel_rfl
  intro fs r h w vs hv
  unfold S55 at h
  split at h
  · rename_i a0 a1
    cases h
    exact sx_calls (envOk' (S := [(52, S52)]) ⟨S52_ok, trivial⟩) 30 55 [.int .i64 (.sym a0.val), .int .i64 (.sym a1.val)] vs (symifyL_rel _ _ (SArels_v (xs := [.int .i64 a0, .int .i64 a1]) hv)) (by kernel_rfl) rfl ((ev a0.val a1.val).trans rfl) w
  · cases h
def g4 (p : Bool) : SV := .bool (.sym p)
def g5 (p : Bool) : SV := .bool (.sym p)
def g6 (p : Bool) : SV := .bool (.sym p)
/-- cmp.isNaN[int] -/
def f85 (a0 : Int) : Bool := a0 != a0
def g85 (p : Bool) : SV := .bool (.sym p)
def S85 : Summ
  | [.v (.int .i64 a0)] => some (g85 (f85 a0.val))
  | _ => none
theorem S85_ok : SummFn Go.Proofs.Try.prog 85 S85 := by
  have ev : ∀ (a0 : Int), (symCall ⟨Go.Proofs.Try.prog, [], 3, 88, false, [], []⟩ 30 85 [.int .i64 (.sym a0)] []).out = ((g85 (a0 != a0)).toV) := by
    intro a0
    kernel_rfl
  intro fs r h w vs hv
  unfold S85 at h
  split at h
  · rename_i a0
    cases h
    exact sx_calls (envOk' (S := []) trivial) 30 85 [.int .i64 (.sym a0.val)] vs (symifyL_rel _ _ (SArels_v (xs := [.int .i64 a0]) hv)) (by kernel_rfl) rfl ((ev a0.val).trans rfl) w
  · cases h
/-- cmp.Compare[int] -/
def f83 (a0 : Int) (a1 : Int) : Int := bif f85 a0 then (bif f85 a1 then (0) else (-1)) else (bif f85 a1 then (1) else (bif decide (a0 < a1) then (-1) else (bif decide (a0 > a1) then (1) else (0))))
def g83 (p : Int) : SV := .int .i64 (.sym p)
def S83 : Summ
  | [.v (.int .i64 a0), .v (.int .i64 a1)] => some (g83 (f83 a0.val a1.val))
  | _ => none
theorem S83_ok : SummFn Go.Proofs.Try.prog 83 S83 := by
  have ev : ∀ (a0 : Int) (a1 : Int), (symCall ⟨Go.Proofs.Try.prog, [(85, S85)], 3, 88, false, [], []⟩ 30 83 [.int .i64 (.sym a0), .int .i64 (.sym a1)] []).out = (bif f85 a0 then (bif f85 a1 then ((g83 (0)).toV) else ((g83 (-1)).toV)) else (bif f85 a1 then ((g83 (1)).toV) else (bif decide (a0 < a1) then ((g83 (-1)).toV) else (bif decide (a0 > a1) then ((g83 (1)).toV) else ((g83 (0)).toV))))) := by
    intro a0 a1
    kernel_rfl
  intro fs r h w vs hv
  unfold S83 at h
  split at h
  · rename_i a0 a1
    cases h
    exact sx_calls (envOk' (S := [(85, S85)]) ⟨S85_ok, trivial⟩) 30 83 [.int .i64 (.sym a0.val), .int .i64 (.sym a1.val)] vs (symifyL_rel _ _ (SArels_v (xs := [.int .i64 a0, .int .i64 a1]) hv)) (by kernel_rfl) rfl ((ev a0.val a1.val).trans (cond_out g83 (cond_out g83 rfl rfl) (cond_out g83 rfl (cond_out g83 rfl (cond_out g83 rfl rfl))))) w
  · cases h
/-- outrigger/wide.Compare -/
def f63 (a0_0 : Int) (a0_1 : Int) (a1_0 : Int) (a1_1 : Int) : Int := orL [f83 (f81 a0_0 a0_1).fst (f81 a1_0 a1_1).fst, f83 (f81 a0_0 a0_1).snd (f81 a1_0 a1_1).snd]
def g63 (p : Int) : SV := .int .i64 (.sym p)
def S63 : Summ
  | [.v (.agg [.int .i64 a0_0, .int .i64 a0_1]), .v (.agg [.int .i64 a1_0, .int .i64 a1_1])] => some (g63 (f63 a0_0.val a0_1.val a1_0.val a1_1.val))
  | _ => none
theorem S63_ok : SummFn Go.Proofs.Try.prog 63 S63 := by
  have ev : ∀ (a0_0 : Int) (a0_1 : Int) (a1_0 : Int) (a1_1 : Int), (symCall ⟨Go.Proofs.Try.prog, [(62, S62), (81, S81), (82, S82), (83, S83), (85, S85)], 3, 88, false, [], []⟩ 30 63 [.agg [.int .i64 (.sym a0_0), .int .i64 (.sym a0_1)], .agg [.int .i64 (.sym a1_0), .int .i64 (.sym a1_1)]] []).out = ((g63 (orL [f83 (f81 a0_0 a0_1).fst (f81 a1_0 a1_1).fst, f83 (f81 a0_0 a0_1).snd (f81 a1_0 a1_1).snd])).toV) := by
    intro a0_0 a0_1 a1_0 a1_1
    kernel_rfl
  intro fs r h w vs hv
  unfold S63 at h
  split at h
  · rename_i a0_0 a0_1 a1_0 a1_1
    cases h
    exact sx_calls (envOk' (S := [(62, S62), (81, S81), (82, S82), (83, S83), (85, S85)]) ⟨S62_ok, S81_ok, S82_ok, S83_ok, S85_ok, trivial⟩) 30 63 [.agg [.int .i64 (.sym a0_0.val), .int .i64 (.sym a0_1.val)], .agg [.int .i64 (.sym a1_0.val), .int .i64 (.sym a1_1.val)]] vs (symifyL_rel _ _ (SArels_v (xs := [.agg [.int .i64 a0_0, .int .i64 a0_1], .agg [.int .i64 a1_0, .int .i64 a1_1]]) hv)) (by kernel_rfl) rfl ((ev a0_0.val a0_1.val a1_0.val a1_1.val).trans rfl) w
  · cases h
def g7 (p : Bool) : SV := .bool (.sym p)
def g8 (p : Bool) : SV := .bool (.sym p)
end Go.Proofs.Ytgbbaegfcmlmiaa
