/- What each function computes, by the executor: printed by a program (wip/sx/Gen2.lean). -/
import Derived.Test.YtejlbofmlaclpaaM
namespace Go.Proofs.Ytejlbofmlaclpaa
open Go Go.Sx
set_option maxRecDepth 1000000
set_option maxHeartbeats 100000000
/-- outrigger/wide.Int -/
def f49 (a0_0 : Int) (a0_1 : Int) : Int × Bool := bif (f71 a0_0 a0_1).fst == 0 || (f71 a0_0 a0_1).fst == -1 then (((f25 (IntKind.i64.wrap (IntKind.i64.wrap ((f71 a0_0 a0_1).fst * 2 ^ 62) + (f71 a0_0 a0_1).snd))).fst, !(f25 (IntKind.i64.wrap (IntKind.i64.wrap ((f71 a0_0 a0_1).fst * 2 ^ 62) + (f71 a0_0 a0_1).snd))).snd)) else (bif decide ((f71 a0_0 a0_1).fst < 0) then ((-288230376151711744, false)) else ((288230376151711744, false)))
def g49 (p : Int × Bool) : SV := .tuple [.int .i64 (.sym p.1), .bool (.sym p.2)]
def S49 : Summ
  | [.v (.agg [.int .i64 a0_0, .int .i64 a0_1])] => some (g49 (f49 a0_0.val a0_1.val))
  | _ => none
theorem S49_ok : SummFn Go.Proofs.Try.prog 49 S49 := by
  have ev : ∀ (a0_0 : Int) (a0_1 : Int), (symCall ⟨Go.Proofs.Try.prog, [(25, S25), (51, S51), (68, S68), (71, S71)], 3, 110, false, [], [], []⟩ 30 49 [.agg [.int .i64 (.sym a0_0), .int .i64 (.sym a0_1)]] []).out = (bif (f71 a0_0 a0_1).fst == 0 || (f71 a0_0 a0_1).fst == -1 then ((g49 ((f25 (IntKind.i64.wrap (IntKind.i64.wrap ((f71 a0_0 a0_1).fst * 2 ^ 62) + (f71 a0_0 a0_1).snd))).fst, !(f25 (IntKind.i64.wrap (IntKind.i64.wrap ((f71 a0_0 a0_1).fst * 2 ^ 62) + (f71 a0_0 a0_1).snd))).snd)).toV) else (bif decide ((f71 a0_0 a0_1).fst < 0) then ((g49 (-288230376151711744, false)).toV) else ((g49 (288230376151711744, false)).toV))) := by
    intro a0_0 a0_1
    kernel_rfl
  intro fs r h w vs hv
  unfold S49 at h
  split at h
  · rename_i a0_0 a0_1
    cases h
    exact sx_calls (envOk' (S := [(25, S25), (51, S51), (68, S68), (71, S71)]) ⟨S25_ok, S51_ok, S68_ok, S71_ok, trivial⟩) 30 49 [.agg [.int .i64 (.sym a0_0.val), .int .i64 (.sym a0_1.val)]] vs (symifyL_rel _ _ (SArels_v (xs := [.agg [.int .i64 a0_0, .int .i64 a0_1]]) hv)) (by kernel_rfl) rfl ((ev a0_0.val a0_1.val).trans (cond_out g49 rfl (cond_out g49 rfl rfl))) w
  · cases h
/-- outrigger/scale.Round -/
def f16 (a0_0 : Int) (a0_1 : Int) : Int × Bool := bif !(f30 a0_0 a0_1 (f31 2147483648).fst (f31 2147483648).snd).snd.snd then ((288230376151711744, true)) else (((f49 ((f71 (f30 a0_0 a0_1 (f31 2147483648).fst (f31 2147483648).snd).fst (f30 a0_0 a0_1 (f31 2147483648).fst (f31 2147483648).snd).snd.fst).fst.fdiv (2 ^ 32)) (bitsv BinOp.and IntKind.i64 (bitsv BinOp.or IntKind.i64 (IntKind.i64.wrap ((f71 (f30 a0_0 a0_1 (f31 2147483648).fst (f31 2147483648).snd).fst (f30 a0_0 a0_1 (f31 2147483648).fst (f31 2147483648).snd).snd.fst).fst * 2 ^ 30)) ((f71 (f30 a0_0 a0_1 (f31 2147483648).fst (f31 2147483648).snd).fst (f30 a0_0 a0_1 (f31 2147483648).fst (f31 2147483648).snd).snd.fst).snd.fdiv (2 ^ 32))) 4611686018427387903)).fst, !(f49 ((f71 (f30 a0_0 a0_1 (f31 2147483648).fst (f31 2147483648).snd).fst (f30 a0_0 a0_1 (f31 2147483648).fst (f31 2147483648).snd).snd.fst).fst.fdiv (2 ^ 32)) (bitsv BinOp.and IntKind.i64 (bitsv BinOp.or IntKind.i64 (IntKind.i64.wrap ((f71 (f30 a0_0 a0_1 (f31 2147483648).fst (f31 2147483648).snd).fst (f30 a0_0 a0_1 (f31 2147483648).fst (f31 2147483648).snd).snd.fst).fst * 2 ^ 30)) ((f71 (f30 a0_0 a0_1 (f31 2147483648).fst (f31 2147483648).snd).fst (f30 a0_0 a0_1 (f31 2147483648).fst (f31 2147483648).snd).snd.fst).snd.fdiv (2 ^ 32))) 4611686018427387903)).snd || !f51 a0_0 a0_1))
def g16 (p : Int × Bool) : SV := .tuple [.int .i64 (.sym p.1), .bool (.sym p.2)]
def S16 : Summ
  | [.v (.agg [.int .i64 a0_0, .int .i64 a0_1])] => some (g16 (f16 a0_0.val a0_1.val))
  | _ => none
theorem S16_ok : SummFn Go.Proofs.Try.prog 16 S16 := by
  have ev : ∀ (a0_0 : Int) (a0_1 : Int), (symCall ⟨Go.Proofs.Try.prog, [(25, S25), (30, S30), (31, S31), (49, S49), (51, S51), (68, S68), (71, S71)], 3, 110, false, [], [], []⟩ 30 16 [.agg [.int .i64 (.sym a0_0), .int .i64 (.sym a0_1)]] []).out = (bif !(f30 a0_0 a0_1 (f31 2147483648).fst (f31 2147483648).snd).snd.snd then ((g16 (288230376151711744, true)).toV) else ((g16 ((f49 ((f71 (f30 a0_0 a0_1 (f31 2147483648).fst (f31 2147483648).snd).fst (f30 a0_0 a0_1 (f31 2147483648).fst (f31 2147483648).snd).snd.fst).fst.fdiv (2 ^ 32)) (bitsv BinOp.and IntKind.i64 (bitsv BinOp.or IntKind.i64 (IntKind.i64.wrap ((f71 (f30 a0_0 a0_1 (f31 2147483648).fst (f31 2147483648).snd).fst (f30 a0_0 a0_1 (f31 2147483648).fst (f31 2147483648).snd).snd.fst).fst * 2 ^ 30)) ((f71 (f30 a0_0 a0_1 (f31 2147483648).fst (f31 2147483648).snd).fst (f30 a0_0 a0_1 (f31 2147483648).fst (f31 2147483648).snd).snd.fst).snd.fdiv (2 ^ 32))) 4611686018427387903)).fst, !(f49 ((f71 (f30 a0_0 a0_1 (f31 2147483648).fst (f31 2147483648).snd).fst (f30 a0_0 a0_1 (f31 2147483648).fst (f31 2147483648).snd).snd.fst).fst.fdiv (2 ^ 32)) (bitsv BinOp.and IntKind.i64 (bitsv BinOp.or IntKind.i64 (IntKind.i64.wrap ((f71 (f30 a0_0 a0_1 (f31 2147483648).fst (f31 2147483648).snd).fst (f30 a0_0 a0_1 (f31 2147483648).fst (f31 2147483648).snd).snd.fst).fst * 2 ^ 30)) ((f71 (f30 a0_0 a0_1 (f31 2147483648).fst (f31 2147483648).snd).fst (f30 a0_0 a0_1 (f31 2147483648).fst (f31 2147483648).snd).snd.fst).snd.fdiv (2 ^ 32))) 4611686018427387903)).snd || !f51 a0_0 a0_1)).toV)) := by
    intro a0_0 a0_1
    kernel_rfl
  intro fs r h w vs hv
  unfold S16 at h
  split at h
  · rename_i a0_0 a0_1
    cases h
    exact sx_calls (envOk' (S := [(25, S25), (30, S30), (31, S31), (49, S49), (51, S51), (68, S68), (71, S71)]) ⟨S25_ok, S30_ok, S31_ok, S49_ok, S51_ok, S68_ok, S71_ok, trivial⟩) 30 16 [.agg [.int .i64 (.sym a0_0.val), .int .i64 (.sym a0_1.val)]] vs (symifyL_rel _ _ (SArels_v (xs := [.agg [.int .i64 a0_0, .int .i64 a0_1]]) hv)) (by kernel_rfl) rfl ((ev a0_0.val a0_1.val).trans (cond_out g16 rfl rfl)) w
  · cases h
/-- outrigger/fix.known -/
def f67 (a0 : Int) : Int := f68 a0 (-288230376151711744) 288230376151711744
def g67 (p : Int) : SV := .int .i64 (.sym p)
def S67 : Summ
  | [.v (.int .i64 a0)] => some (g67 (f67 a0.val))
  | _ => none
theorem S67_ok : SummFn Go.Proofs.Try.prog 67 S67 := by
  have ev : ∀ (a0 : Int), (symCall ⟨Go.Proofs.Try.prog, [(68, S68)], 3, 110, false, [], [], []⟩ 30 67 [.int .i64 (.sym a0)] []).out = ((g67 (f68 a0 (-288230376151711744) 288230376151711744)).toV) := by
    intro a0
    kernel_rfl
  intro fs r h w vs hv
  unfold S67 at h
  split at h
  · rename_i a0
    cases h
    exact sx_calls (envOk' (S := [(68, S68)]) ⟨S68_ok, trivial⟩) 30 67 [.int .i64 (.sym a0.val)] vs (symifyL_rel _ _ (SArels_v (xs := [.int .i64 a0]) hv)) (by kernel_rfl) rfl ((ev a0.val).trans rfl) w
  · cases h
/-- outrigger/fix.Abs -/
def f24 (a0 : Int) : Int := mxI (f67 a0) (IntKind.i64.wrap (0 - f67 a0))
def g24 (p : Int) : SV := .int .i64 (.sym p)
def S24 : Summ
  | [.v (.int .i64 a0)] => some (g24 (f24 a0.val))
  | _ => none
theorem S24_ok : SummFn Go.Proofs.Try.prog 24 S24 := by
  have ev : ∀ (a0 : Int), (symCall ⟨Go.Proofs.Try.prog, [(67, S67), (68, S68)], 3, 110, false, [], [], []⟩ 30 24 [.int .i64 (.sym a0)] []).out = ((g24 (mxI (f67 a0) (IntKind.i64.wrap (0 - f67 a0)))).toV) := by
    intro a0
    kernel_rfl
  intro fs r h w vs hv
  unfold S24 at h
  split at h
  · rename_i a0
    cases h
    exact sx_calls (envOk' (S := [(67, S67), (68, S68)]) ⟨S67_ok, S68_ok, trivial⟩) 30 24 [.int .i64 (.sym a0.val)] vs (symifyL_rel _ _ (SArels_v (xs := [.int .i64 a0]) hv)) (by kernel_rfl) rfl ((ev a0.val).trans rfl) w
  · cases h
/-- math/bits.Mul64 -/
def f69 (a0 : Int) (a1 : Int) : Int × Int := (IntKind.u64.wrap (IntKind.u64.wrap (IntKind.u64.wrap (a0.fdiv (2 ^ 32) * a1.fdiv (2 ^ 32)) + (IntKind.u64.wrap (IntKind.u64.wrap (a0.fdiv (2 ^ 32) * bitsv BinOp.and IntKind.u64 a1 4294967295) + (IntKind.u64.wrap (bitsv BinOp.and IntKind.u64 a0 4294967295 * bitsv BinOp.and IntKind.u64 a1 4294967295)).fdiv (2 ^ 32))).fdiv (2 ^ 32)) + (IntKind.u64.wrap (bitsv BinOp.and IntKind.u64 (IntKind.u64.wrap (IntKind.u64.wrap (a0.fdiv (2 ^ 32) * bitsv BinOp.and IntKind.u64 a1 4294967295) + (IntKind.u64.wrap (bitsv BinOp.and IntKind.u64 a0 4294967295 * bitsv BinOp.and IntKind.u64 a1 4294967295)).fdiv (2 ^ 32))) 4294967295 + IntKind.u64.wrap (bitsv BinOp.and IntKind.u64 a0 4294967295 * a1.fdiv (2 ^ 32)))).fdiv (2 ^ 32)), IntKind.u64.wrap (a0 * a1))
def g69 (p : Int × Int) : SV := .tuple [.int .u64 (.sym p.1), .int .u64 (.sym p.2)]
def S69 : Summ
  | [.v (.int .u64 a0), .v (.int .u64 a1)] => some (g69 (f69 a0.val a1.val))
  | _ => none
theorem S69_ok : SummFn Go.Proofs.Try.prog 69 S69 := by
  have ev : ∀ (a0 : Int) (a1 : Int), (symCall ⟨Go.Proofs.Try.prog, [], 3, 110, false, [], [], []⟩ 30 69 [.int .u64 (.sym a0), .int .u64 (.sym a1)] []).out = ((g69 (IntKind.u64.wrap (IntKind.u64.wrap (IntKind.u64.wrap (a0.fdiv (2 ^ 32) * a1.fdiv (2 ^ 32)) + (IntKind.u64.wrap (IntKind.u64.wrap (a0.fdiv (2 ^ 32) * bitsv BinOp.and IntKind.u64 a1 4294967295) + (IntKind.u64.wrap (bitsv BinOp.and IntKind.u64 a0 4294967295 * bitsv BinOp.and IntKind.u64 a1 4294967295)).fdiv (2 ^ 32))).fdiv (2 ^ 32)) + (IntKind.u64.wrap (bitsv BinOp.and IntKind.u64 (IntKind.u64.wrap (IntKind.u64.wrap (a0.fdiv (2 ^ 32) * bitsv BinOp.and IntKind.u64 a1 4294967295) + (IntKind.u64.wrap (bitsv BinOp.and IntKind.u64 a0 4294967295 * bitsv BinOp.and IntKind.u64 a1 4294967295)).fdiv (2 ^ 32))) 4294967295 + IntKind.u64.wrap (bitsv BinOp.and IntKind.u64 a0 4294967295 * a1.fdiv (2 ^ 32)))).fdiv (2 ^ 32)), IntKind.u64.wrap (a0 * a1))).toV) := by
    intro a0 a1
    kernel_rfl
  intro fs r h w vs hv
  unfold S69 at h
  split at h
  · rename_i a0 a1
    cases h
    exact sx_calls (envOk' (S := []) trivial) 30 69 [.int .u64 (.sym a0.val), .int .u64 (.sym a1.val)] vs (symifyL_rel _ _ (SArels_v (xs := [.int .u64 a0, .int .u64 a1]) hv)) (by kernel_rfl) rfl ((ev a0.val a1.val).trans rfl) w
  · cases h
/-- outrigger/wide.neg -/
def f70 (a0_0 : Int) (a0_1 : Int) : Int × Int := bif a0_1 == 0 then ((IntKind.i64.wrap (0 - a0_0), 0)) else ((bitsv BinOp.xor IntKind.i64 (-1) a0_0, IntKind.i64.wrap (4611686018427387904 - a0_1)))
def g70 (p : Int × Int) : SV := .agg [.int .i64 (.sym p.1), .int .i64 (.sym p.2)]
def S70 : Summ
  | [.v (.agg [.int .i64 a0_0, .int .i64 a0_1])] => some (g70 (f70 a0_0.val a0_1.val))
  | _ => none
theorem S70_ok : SummFn Go.Proofs.Try.prog 70 S70 := by
  have ev : ∀ (a0_0 : Int) (a0_1 : Int), (symCall ⟨Go.Proofs.Try.prog, [], 3, 110, false, [], [], []⟩ 30 70 [.agg [.int .i64 (.sym a0_0), .int .i64 (.sym a0_1)]] []).out = (bif a0_1 == 0 then ((g70 (IntKind.i64.wrap (0 - a0_0), 0)).toV) else ((g70 (bitsv BinOp.xor IntKind.i64 (-1) a0_0, IntKind.i64.wrap (4611686018427387904 - a0_1))).toV)) := by
    intro a0_0 a0_1
    kernel_rfl
  intro fs r h w vs hv
  unfold S70 at h
  split at h
  · rename_i a0_0 a0_1
    cases h
    exact sx_calls (envOk' (S := []) trivial) 30 70 [.agg [.int .i64 (.sym a0_0.val), .int .i64 (.sym a0_1.val)]] vs (symifyL_rel _ _ (SArels_v (xs := [.agg [.int .i64 a0_0, .int .i64 a0_1]]) hv)) (by kernel_rfl) rfl ((ev a0_0.val a0_1.val).trans (cond_out g70 rfl rfl)) w
  · cases h
/-- outrigger/wide.Mul -/
def f29 (a0 : Int) (a1 : Int) : Int × Int := bif !decide (a0 < 0) == decide (a1 < 0) then (((f70 (IntKind.i64.wrap (bitsv BinOp.or IntKind.u64 (IntKind.u64.wrap ((f69 (IntKind.u64.wrap (f24 a0)) (IntKind.u64.wrap (f24 a1))).fst * 2 ^ 2)) ((f69 (IntKind.u64.wrap (f24 a0)) (IntKind.u64.wrap (f24 a1))).snd.fdiv (2 ^ 62)))) (IntKind.i64.wrap (bitsv BinOp.and IntKind.u64 (f69 (IntKind.u64.wrap (f24 a0)) (IntKind.u64.wrap (f24 a1))).snd 4611686018427387903))).fst, (f70 (IntKind.i64.wrap (bitsv BinOp.or IntKind.u64 (IntKind.u64.wrap ((f69 (IntKind.u64.wrap (f24 a0)) (IntKind.u64.wrap (f24 a1))).fst * 2 ^ 2)) ((f69 (IntKind.u64.wrap (f24 a0)) (IntKind.u64.wrap (f24 a1))).snd.fdiv (2 ^ 62)))) (IntKind.i64.wrap (bitsv BinOp.and IntKind.u64 (f69 (IntKind.u64.wrap (f24 a0)) (IntKind.u64.wrap (f24 a1))).snd 4611686018427387903))).snd)) else ((IntKind.i64.wrap (bitsv BinOp.or IntKind.u64 (IntKind.u64.wrap ((f69 (IntKind.u64.wrap (f24 a0)) (IntKind.u64.wrap (f24 a1))).fst * 2 ^ 2)) ((f69 (IntKind.u64.wrap (f24 a0)) (IntKind.u64.wrap (f24 a1))).snd.fdiv (2 ^ 62))), IntKind.i64.wrap (bitsv BinOp.and IntKind.u64 (f69 (IntKind.u64.wrap (f24 a0)) (IntKind.u64.wrap (f24 a1))).snd 4611686018427387903)))
def g29 (p : Int × Int) : SV := .agg [.int .i64 (.sym p.1), .int .i64 (.sym p.2)]
def S29 : Summ
  | [.v (.int .i64 a0), .v (.int .i64 a1)] => some (g29 (f29 a0.val a1.val))
  | _ => none
theorem S29_ok : SummFn Go.Proofs.Try.prog 29 S29 := by
  have ev : ∀ (a0 : Int) (a1 : Int), (symCall ⟨Go.Proofs.Try.prog, [(24, S24), (67, S67), (68, S68), (69, S69), (70, S70)], 3, 110, false, [], [], []⟩ 30 29 [.int .i64 (.sym a0), .int .i64 (.sym a1)] []).out = (bif !decide (a0 < 0) == decide (a1 < 0) then ((g29 ((f70 (IntKind.i64.wrap (bitsv BinOp.or IntKind.u64 (IntKind.u64.wrap ((f69 (IntKind.u64.wrap (f24 a0)) (IntKind.u64.wrap (f24 a1))).fst * 2 ^ 2)) ((f69 (IntKind.u64.wrap (f24 a0)) (IntKind.u64.wrap (f24 a1))).snd.fdiv (2 ^ 62)))) (IntKind.i64.wrap (bitsv BinOp.and IntKind.u64 (f69 (IntKind.u64.wrap (f24 a0)) (IntKind.u64.wrap (f24 a1))).snd 4611686018427387903))).fst, (f70 (IntKind.i64.wrap (bitsv BinOp.or IntKind.u64 (IntKind.u64.wrap ((f69 (IntKind.u64.wrap (f24 a0)) (IntKind.u64.wrap (f24 a1))).fst * 2 ^ 2)) ((f69 (IntKind.u64.wrap (f24 a0)) (IntKind.u64.wrap (f24 a1))).snd.fdiv (2 ^ 62)))) (IntKind.i64.wrap (bitsv BinOp.and IntKind.u64 (f69 (IntKind.u64.wrap (f24 a0)) (IntKind.u64.wrap (f24 a1))).snd 4611686018427387903))).snd)).toV) else ((g29 (IntKind.i64.wrap (bitsv BinOp.or IntKind.u64 (IntKind.u64.wrap ((f69 (IntKind.u64.wrap (f24 a0)) (IntKind.u64.wrap (f24 a1))).fst * 2 ^ 2)) ((f69 (IntKind.u64.wrap (f24 a0)) (IntKind.u64.wrap (f24 a1))).snd.fdiv (2 ^ 62))), IntKind.i64.wrap (bitsv BinOp.and IntKind.u64 (f69 (IntKind.u64.wrap (f24 a0)) (IntKind.u64.wrap (f24 a1))).snd 4611686018427387903))).toV)) := by
    intro a0 a1
    kernel_rfl
  intro fs r h w vs hv
  unfold S29 at h
  split at h
  · rename_i a0 a1
    cases h
    exact sx_calls (envOk' (S := [(24, S24), (67, S67), (68, S68), (69, S69), (70, S70)]) ⟨S24_ok, S67_ok, S68_ok, S69_ok, S70_ok, trivial⟩) 30 29 [.int .i64 (.sym a0.val), .int .i64 (.sym a1.val)] vs (symifyL_rel _ _ (SArels_v (xs := [.int .i64 a0, .int .i64 a1]) hv)) (by kernel_rfl) rfl ((ev a0.val a1.val).trans (cond_out g29 rfl rfl)) w
  · cases h
/-- outrigger/scale.Times -/
def f18 (a0 : Int) (a1 : Int) : Int × Bool := bif (f16 (f29 a0 a1).fst (f29 a0 a1).snd).snd then (((f16 (f29 a0 a1).fst (f29 a0 a1).snd).fst, true)) else (((f16 (f29 a0 a1).fst (f29 a0 a1).snd).fst, f56 [a0, a1]))
def g18 (p : Int × Bool) : SV := .tuple [.int .i64 (.sym p.1), .bool (.sym p.2)]
def S18 : Summ
  | [.v (.int .i64 a0), .v (.int .i64 a1)] => some (g18 (f18 a0.val a1.val))
  | _ => none
theorem S18_ok : SummFn Go.Proofs.Try.prog 18 S18 := by
  have ev : ∀ (a0 : Int) (a1 : Int), (symCall ⟨Go.Proofs.Try.prog, [(16, S16), (24, S24), (25, S25), (29, S29), (30, S30), (31, S31), (49, S49), (51, S51), (56, S56), (67, S67), (68, S68), (69, S69), (70, S70), (71, S71)], 3, 110, false, [], [], []⟩ 30 18 [.int .i64 (.sym a0), .int .i64 (.sym a1)] []).out = (bif (f16 (f29 a0 a1).fst (f29 a0 a1).snd).snd then ((g18 ((f16 (f29 a0 a1).fst (f29 a0 a1).snd).fst, true)).toV) else ((g18 ((f16 (f29 a0 a1).fst (f29 a0 a1).snd).fst, f56 [a0, a1])).toV)) := by
    intro a0 a1
    kernel_rfl
  intro fs r h w vs hv
  unfold S18 at h
  split at h
  · rename_i a0 a1
    cases h
    exact sx_calls (envOk' (S := [(16, S16), (24, S24), (25, S25), (29, S29), (30, S30), (31, S31), (49, S49), (51, S51), (56, S56), (67, S67), (68, S68), (69, S69), (70, S70), (71, S71)]) ⟨S16_ok, S24_ok, S25_ok, S29_ok, S30_ok, S31_ok, S49_ok, S51_ok, S56_ok, S67_ok, S68_ok, S69_ok, S70_ok, S71_ok, trivial⟩) 30 18 [.int .i64 (.sym a0.val), .int .i64 (.sym a1.val)] vs (symifyL_rel _ _ (SArels_v (xs := [.int .i64 a0, .int .i64 a1]) hv)) (by kernel_rfl) rfl ((ev a0.val a1.val).trans (cond_out g18 rfl rfl)) w
  · cases h
/-- outrigger/scale.Over -/
def f20 (a0 : Int) (a1 : Int) : Int × Bool := bif !decide (a0 < 0) == decide (a1 < 0) then (bif IntKind.u64.wrap (f24 a0) == 0 then ((0, f56 [a0, a1] || IntKind.u64.wrap (f24 a1) == 0)) else (bif IntKind.u64.wrap (f24 a1) == 0 && decide (a0 < 0) then ((-288230376151711744, true)) else (bif IntKind.u64.wrap (f24 a1) == 0 then ((288230376151711744, true)) else (bif (f59 (IntKind.u64.wrap (f24 a0)) (IntKind.u64.wrap (f24 a1))).snd.snd then ((-288230376151711744, true)) else (bif decide (IntKind.u64.wrap (2 * (f59 (IntKind.u64.wrap (f24 a0)) (IntKind.u64.wrap (f24 a1))).snd.fst) > IntKind.u64.wrap (f24 a1)) || IntKind.u64.wrap (2 * (f59 (IntKind.u64.wrap (f24 a0)) (IntKind.u64.wrap (f24 a1))).snd.fst) == IntKind.u64.wrap (f24 a1) && !!decide (a0 < 0) == decide (a1 < 0) then (bif !decide (a0 < 0) == decide (a1 < 0) then (((f25 (IntKind.i64.wrap (0 - IntKind.i64.wrap (IntKind.u64.wrap ((f59 (IntKind.u64.wrap (f24 a0)) (IntKind.u64.wrap (f24 a1))).fst + 1))))).fst, f56 [a0, a1] || (f25 (IntKind.i64.wrap (0 - IntKind.i64.wrap (IntKind.u64.wrap ((f59 (IntKind.u64.wrap (f24 a0)) (IntKind.u64.wrap (f24 a1))).fst + 1))))).snd)) else (((f25 (IntKind.i64.wrap (IntKind.u64.wrap ((f59 (IntKind.u64.wrap (f24 a0)) (IntKind.u64.wrap (f24 a1))).fst + 1)))).fst, f56 [a0, a1] || (f25 (IntKind.i64.wrap (IntKind.u64.wrap ((f59 (IntKind.u64.wrap (f24 a0)) (IntKind.u64.wrap (f24 a1))).fst + 1)))).snd))) else (bif !decide (a0 < 0) == decide (a1 < 0) then (((f25 (IntKind.i64.wrap (0 - IntKind.i64.wrap (f59 (IntKind.u64.wrap (f24 a0)) (IntKind.u64.wrap (f24 a1))).fst))).fst, f56 [a0, a1] || (f25 (IntKind.i64.wrap (0 - IntKind.i64.wrap (f59 (IntKind.u64.wrap (f24 a0)) (IntKind.u64.wrap (f24 a1))).fst))).snd)) else (((f25 (IntKind.i64.wrap (f59 (IntKind.u64.wrap (f24 a0)) (IntKind.u64.wrap (f24 a1))).fst)).fst, f56 [a0, a1] || (f25 (IntKind.i64.wrap (f59 (IntKind.u64.wrap (f24 a0)) (IntKind.u64.wrap (f24 a1))).fst)).snd)))))))) else (bif IntKind.u64.wrap (f24 a0) == 0 then ((0, f56 [a0, a1] || IntKind.u64.wrap (f24 a1) == 0)) else (bif IntKind.u64.wrap (f24 a1) == 0 && decide (a0 < 0) then ((-288230376151711744, true)) else (bif IntKind.u64.wrap (f24 a1) == 0 then ((288230376151711744, true)) else (bif (f59 (IntKind.u64.wrap (f24 a0)) (IntKind.u64.wrap (f24 a1))).snd.snd then ((288230376151711744, true)) else (bif decide (IntKind.u64.wrap (2 * (f59 (IntKind.u64.wrap (f24 a0)) (IntKind.u64.wrap (f24 a1))).snd.fst) > IntKind.u64.wrap (f24 a1)) || IntKind.u64.wrap (2 * (f59 (IntKind.u64.wrap (f24 a0)) (IntKind.u64.wrap (f24 a1))).snd.fst) == IntKind.u64.wrap (f24 a1) && !!decide (a0 < 0) == decide (a1 < 0) then (bif !decide (a0 < 0) == decide (a1 < 0) then (((f25 (IntKind.i64.wrap (0 - IntKind.i64.wrap (IntKind.u64.wrap ((f59 (IntKind.u64.wrap (f24 a0)) (IntKind.u64.wrap (f24 a1))).fst + 1))))).fst, f56 [a0, a1] || (f25 (IntKind.i64.wrap (0 - IntKind.i64.wrap (IntKind.u64.wrap ((f59 (IntKind.u64.wrap (f24 a0)) (IntKind.u64.wrap (f24 a1))).fst + 1))))).snd)) else (((f25 (IntKind.i64.wrap (IntKind.u64.wrap ((f59 (IntKind.u64.wrap (f24 a0)) (IntKind.u64.wrap (f24 a1))).fst + 1)))).fst, f56 [a0, a1] || (f25 (IntKind.i64.wrap (IntKind.u64.wrap ((f59 (IntKind.u64.wrap (f24 a0)) (IntKind.u64.wrap (f24 a1))).fst + 1)))).snd))) else (bif !decide (a0 < 0) == decide (a1 < 0) then (((f25 (IntKind.i64.wrap (0 - IntKind.i64.wrap (f59 (IntKind.u64.wrap (f24 a0)) (IntKind.u64.wrap (f24 a1))).fst))).fst, f56 [a0, a1] || (f25 (IntKind.i64.wrap (0 - IntKind.i64.wrap (f59 (IntKind.u64.wrap (f24 a0)) (IntKind.u64.wrap (f24 a1))).fst))).snd)) else (((f25 (IntKind.i64.wrap (f59 (IntKind.u64.wrap (f24 a0)) (IntKind.u64.wrap (f24 a1))).fst)).fst, f56 [a0, a1] || (f25 (IntKind.i64.wrap (f59 (IntKind.u64.wrap (f24 a0)) (IntKind.u64.wrap (f24 a1))).fst)).snd))))))))
def g20 (p : Int × Bool) : SV := .tuple [.int .i64 (.sym p.1), .bool (.sym p.2)]
def S20 : Summ
  | [.v (.int .i64 a0), .v (.int .i64 a1)] => some (g20 (f20 a0.val a1.val))
  | _ => none
theorem S20_ok : SummFn Go.Proofs.Try.prog 20 S20 := by
  have ev : ∀ (a0 : Int) (a1 : Int), (symCall ⟨Go.Proofs.Try.prog, [(24, S24), (25, S25), (56, S56), (59, S59), (67, S67), (68, S68)], 3, 110, false, [], [], []⟩ 30 20 [.int .i64 (.sym a0), .int .i64 (.sym a1)] []).out = (bif !decide (a0 < 0) == decide (a1 < 0) then (bif IntKind.u64.wrap (f24 a0) == 0 then ((g20 (0, f56 [a0, a1] || IntKind.u64.wrap (f24 a1) == 0)).toV) else (bif IntKind.u64.wrap (f24 a1) == 0 && decide (a0 < 0) then ((g20 (-288230376151711744, true)).toV) else (bif IntKind.u64.wrap (f24 a1) == 0 then ((g20 (288230376151711744, true)).toV) else (bif (f59 (IntKind.u64.wrap (f24 a0)) (IntKind.u64.wrap (f24 a1))).snd.snd then ((g20 (-288230376151711744, true)).toV) else (bif decide (IntKind.u64.wrap (2 * (f59 (IntKind.u64.wrap (f24 a0)) (IntKind.u64.wrap (f24 a1))).snd.fst) > IntKind.u64.wrap (f24 a1)) || IntKind.u64.wrap (2 * (f59 (IntKind.u64.wrap (f24 a0)) (IntKind.u64.wrap (f24 a1))).snd.fst) == IntKind.u64.wrap (f24 a1) && !!decide (a0 < 0) == decide (a1 < 0) then (bif !decide (a0 < 0) == decide (a1 < 0) then ((g20 ((f25 (IntKind.i64.wrap (0 - IntKind.i64.wrap (IntKind.u64.wrap ((f59 (IntKind.u64.wrap (f24 a0)) (IntKind.u64.wrap (f24 a1))).fst + 1))))).fst, f56 [a0, a1] || (f25 (IntKind.i64.wrap (0 - IntKind.i64.wrap (IntKind.u64.wrap ((f59 (IntKind.u64.wrap (f24 a0)) (IntKind.u64.wrap (f24 a1))).fst + 1))))).snd)).toV) else ((g20 ((f25 (IntKind.i64.wrap (IntKind.u64.wrap ((f59 (IntKind.u64.wrap (f24 a0)) (IntKind.u64.wrap (f24 a1))).fst + 1)))).fst, f56 [a0, a1] || (f25 (IntKind.i64.wrap (IntKind.u64.wrap ((f59 (IntKind.u64.wrap (f24 a0)) (IntKind.u64.wrap (f24 a1))).fst + 1)))).snd)).toV)) else (bif !decide (a0 < 0) == decide (a1 < 0) then ((g20 ((f25 (IntKind.i64.wrap (0 - IntKind.i64.wrap (f59 (IntKind.u64.wrap (f24 a0)) (IntKind.u64.wrap (f24 a1))).fst))).fst, f56 [a0, a1] || (f25 (IntKind.i64.wrap (0 - IntKind.i64.wrap (f59 (IntKind.u64.wrap (f24 a0)) (IntKind.u64.wrap (f24 a1))).fst))).snd)).toV) else ((g20 ((f25 (IntKind.i64.wrap (f59 (IntKind.u64.wrap (f24 a0)) (IntKind.u64.wrap (f24 a1))).fst)).fst, f56 [a0, a1] || (f25 (IntKind.i64.wrap (f59 (IntKind.u64.wrap (f24 a0)) (IntKind.u64.wrap (f24 a1))).fst)).snd)).toV))))))) else (bif IntKind.u64.wrap (f24 a0) == 0 then ((g20 (0, f56 [a0, a1] || IntKind.u64.wrap (f24 a1) == 0)).toV) else (bif IntKind.u64.wrap (f24 a1) == 0 && decide (a0 < 0) then ((g20 (-288230376151711744, true)).toV) else (bif IntKind.u64.wrap (f24 a1) == 0 then ((g20 (288230376151711744, true)).toV) else (bif (f59 (IntKind.u64.wrap (f24 a0)) (IntKind.u64.wrap (f24 a1))).snd.snd then ((g20 (288230376151711744, true)).toV) else (bif decide (IntKind.u64.wrap (2 * (f59 (IntKind.u64.wrap (f24 a0)) (IntKind.u64.wrap (f24 a1))).snd.fst) > IntKind.u64.wrap (f24 a1)) || IntKind.u64.wrap (2 * (f59 (IntKind.u64.wrap (f24 a0)) (IntKind.u64.wrap (f24 a1))).snd.fst) == IntKind.u64.wrap (f24 a1) && !!decide (a0 < 0) == decide (a1 < 0) then (bif !decide (a0 < 0) == decide (a1 < 0) then ((g20 ((f25 (IntKind.i64.wrap (0 - IntKind.i64.wrap (IntKind.u64.wrap ((f59 (IntKind.u64.wrap (f24 a0)) (IntKind.u64.wrap (f24 a1))).fst + 1))))).fst, f56 [a0, a1] || (f25 (IntKind.i64.wrap (0 - IntKind.i64.wrap (IntKind.u64.wrap ((f59 (IntKind.u64.wrap (f24 a0)) (IntKind.u64.wrap (f24 a1))).fst + 1))))).snd)).toV) else ((g20 ((f25 (IntKind.i64.wrap (IntKind.u64.wrap ((f59 (IntKind.u64.wrap (f24 a0)) (IntKind.u64.wrap (f24 a1))).fst + 1)))).fst, f56 [a0, a1] || (f25 (IntKind.i64.wrap (IntKind.u64.wrap ((f59 (IntKind.u64.wrap (f24 a0)) (IntKind.u64.wrap (f24 a1))).fst + 1)))).snd)).toV)) else (bif !decide (a0 < 0) == decide (a1 < 0) then ((g20 ((f25 (IntKind.i64.wrap (0 - IntKind.i64.wrap (f59 (IntKind.u64.wrap (f24 a0)) (IntKind.u64.wrap (f24 a1))).fst))).fst, f56 [a0, a1] || (f25 (IntKind.i64.wrap (0 - IntKind.i64.wrap (f59 (IntKind.u64.wrap (f24 a0)) (IntKind.u64.wrap (f24 a1))).fst))).snd)).toV) else ((g20 ((f25 (IntKind.i64.wrap (f59 (IntKind.u64.wrap (f24 a0)) (IntKind.u64.wrap (f24 a1))).fst)).fst, f56 [a0, a1] || (f25 (IntKind.i64.wrap (f59 (IntKind.u64.wrap (f24 a0)) (IntKind.u64.wrap (f24 a1))).fst)).snd)).toV)))))))) := by
    intro a0 a1
    kernel_rfl
  intro fs r h w vs hv
  unfold S20 at h
  split at h
  · rename_i a0 a1
    cases h
    exact sx_calls (envOk' (S := [(24, S24), (25, S25), (56, S56), (59, S59), (67, S67), (68, S68)]) ⟨S24_ok, S25_ok, S56_ok, S59_ok, S67_ok, S68_ok, trivial⟩) 30 20 [.int .i64 (.sym a0.val), .int .i64 (.sym a1.val)] vs (symifyL_rel _ _ (SArels_v (xs := [.int .i64 a0, .int .i64 a1]) hv)) (by kernel_rfl) rfl ((ev a0.val a1.val).trans (cond_out g20 (cond_out g20 rfl (cond_out g20 rfl (cond_out g20 rfl (cond_out g20 rfl (cond_out g20 (cond_out g20 rfl rfl) (cond_out g20 rfl rfl)))))) (cond_out g20 rfl (cond_out g20 rfl (cond_out g20 rfl (cond_out g20 rfl (cond_out g20 (cond_out g20 rfl rfl) (cond_out g20 rfl rfl)))))))) w
  · cases h
/-- outrigger/fix.Sub -/
def f64 (a0 : Int) (a1 : Int) : Int × Bool := ((f25 (IntKind.i64.wrap (f67 a0 - f67 a1))).fst, (f25 (IntKind.i64.wrap (f67 a0 - f67 a1))).snd || f67 a0 != a0 || f67 a1 != a1)
def g64 (p : Int × Bool) : SV := .tuple [.int .i64 (.sym p.1), .bool (.sym p.2)]
def S64 : Summ
  | [.v (.int .i64 a0), .v (.int .i64 a1)] => some (g64 (f64 a0.val a1.val))
  | _ => none
theorem S64_ok : SummFn Go.Proofs.Try.prog 64 S64 := by
  have ev : ∀ (a0 : Int) (a1 : Int), (symCall ⟨Go.Proofs.Try.prog, [(25, S25), (67, S67), (68, S68)], 3, 110, false, [], [], []⟩ 30 64 [.int .i64 (.sym a0), .int .i64 (.sym a1)] []).out = ((g64 ((f25 (IntKind.i64.wrap (f67 a0 - f67 a1))).fst, (f25 (IntKind.i64.wrap (f67 a0 - f67 a1))).snd || f67 a0 != a0 || f67 a1 != a1)).toV) := by
    intro a0 a1
    kernel_rfl
  intro fs r h w vs hv
  unfold S64 at h
  split at h
  · rename_i a0 a1
    cases h
    exact sx_calls (envOk' (S := [(25, S25), (67, S67), (68, S68)]) ⟨S25_ok, S67_ok, S68_ok, trivial⟩) 30 64 [.int .i64 (.sym a0.val), .int .i64 (.sym a1.val)] vs (symifyL_rel _ _ (SArels_v (xs := [.int .i64 a0, .int .i64 a1]) hv)) (by kernel_rfl) rfl ((ev a0.val a1.val).trans rfl) w
  · cases h
/-- outrigger/outriggerref02.Sane -/
def f55 (a0_0 : Int) (a0_1 : Int) : Bool := decide (a0_1 ≥ 0) && decide (a0_1 < 4611686018427387904) && decide (a0_0 ≥ -2305843009213693952) && decide (a0_0 < 2305843009213693952)
def g55 (p : Bool) : SV := .bool (.sym p)
def S55 : Summ
  | [.v (.agg [.int .i64 a0_0, .int .i64 a0_1])] => some (g55 (f55 a0_0.val a0_1.val))
  | _ => none
theorem S55_ok : SummFn Go.Proofs.Try.prog 55 S55 := by
  have ev : ∀ (a0_0 : Int) (a0_1 : Int), (symCall ⟨Go.Proofs.Try.prog, [], 3, 110, false, [], [], []⟩ 30 55 [.agg [.int .i64 (.sym a0_0), .int .i64 (.sym a0_1)]] []).out = ((g55 (decide (a0_1 ≥ 0) && decide (a0_1 < 4611686018427387904) && decide (a0_0 ≥ -2305843009213693952) && decide (a0_0 < 2305843009213693952))).toV) := by
    intro a0_0 a0_1
    kernel_rfl
  intro fs r h w vs hv
  unfold S55 at h
  split at h
  · rename_i a0_0 a0_1
    cases h
    exact sx_calls (envOk' (S := []) trivial) 30 55 [.agg [.int .i64 (.sym a0_0.val), .int .i64 (.sym a0_1.val)]] vs (symifyL_rel _ _ (SArels_v (xs := [.agg [.int .i64 a0_0, .int .i64 a0_1]]) hv)) (by kernel_rfl) rfl ((ev a0_0.val a0_1.val).trans rfl) w
  · cases h
/-- outrigger/outriggerref02.As -/
def f86 (a0_0 : Int) (a0_1 : Int) : Int × Int := bif !f55 a0_0 a0_1 then ((0, 0)) else ((a0_0, a0_1))
def g86 (p : Int × Int) : SV := .agg [.int .i64 (.sym p.1), .int .i64 (.sym p.2)]
def S86 : Summ
  | [.v (.agg [.int .i64 a0_0, .int .i64 a0_1])] => some (g86 (f86 a0_0.val a0_1.val))
  | _ => none
theorem S86_ok : SummFn Go.Proofs.Try.prog 86 S86 := by
  have ev : ∀ (a0_0 : Int) (a0_1 : Int), (symCall ⟨Go.Proofs.Try.prog, [(55, S55)], 3, 110, false, [], [], []⟩ 30 86 [.agg [.int .i64 (.sym a0_0), .int .i64 (.sym a0_1)]] []).out = (bif !f55 a0_0 a0_1 then ((g86 (0, 0)).toV) else ((g86 (a0_0, a0_1)).toV)) := by
    intro a0_0 a0_1
    kernel_rfl
  intro fs r h w vs hv
  unfold S86 at h
  split at h
  · rename_i a0_0 a0_1
    cases h
    exact sx_calls (envOk' (S := [(55, S55)]) ⟨S55_ok, trivial⟩) 30 86 [.agg [.int .i64 (.sym a0_0.val), .int .i64 (.sym a0_1.val)]] vs (symifyL_rel _ _ (SArels_v (xs := [.agg [.int .i64 a0_0, .int .i64 a0_1]]) hv)) (by kernel_rfl) rfl ((ev a0_0.val a0_1.val).trans (cond_out g86 rfl rfl)) w
  · cases h
/-- outrigger/outriggerref02.Add -/
def f52 (a0_0 : Int) (a0_1 : Int) (a1_0 : Int) (a1_1 : Int) : Int × Int × Bool := bif decide (IntKind.i64.wrap ((f86 a0_0 a0_1).snd + (f86 a1_0 a1_1).snd) < 0) || decide (IntKind.i64.wrap ((f86 a0_0 a0_1).snd + (f86 a1_0 a1_1).snd) ≥ 4611686018427387904) then (bif !f55 (IntKind.i64.wrap (IntKind.i64.wrap ((f86 a0_0 a0_1).fst + (f86 a1_0 a1_1).fst) + 1)) (IntKind.i64.wrap (IntKind.i64.wrap ((f86 a0_0 a0_1).snd + (f86 a1_0 a1_1).snd) - 4611686018427387904)) then ((0, 0, false)) else ((IntKind.i64.wrap (IntKind.i64.wrap ((f86 a0_0 a0_1).fst + (f86 a1_0 a1_1).fst) + 1), IntKind.i64.wrap (IntKind.i64.wrap ((f86 a0_0 a0_1).snd + (f86 a1_0 a1_1).snd) - 4611686018427387904), true))) else (bif !f55 (IntKind.i64.wrap ((f86 a0_0 a0_1).fst + (f86 a1_0 a1_1).fst)) (IntKind.i64.wrap ((f86 a0_0 a0_1).snd + (f86 a1_0 a1_1).snd)) then ((0, 0, false)) else ((IntKind.i64.wrap ((f86 a0_0 a0_1).fst + (f86 a1_0 a1_1).fst), IntKind.i64.wrap ((f86 a0_0 a0_1).snd + (f86 a1_0 a1_1).snd), true)))
def g52 (p : Int × Int × Bool) : SV := .tuple [.agg [.int .i64 (.sym p.1), .int .i64 (.sym p.2.1)], .bool (.sym p.2.2)]
def S52 : Summ
  | [.v (.agg [.int .i64 a0_0, .int .i64 a0_1]), .v (.agg [.int .i64 a1_0, .int .i64 a1_1])] => some (g52 (f52 a0_0.val a0_1.val a1_0.val a1_1.val))
  | _ => none
theorem S52_ok : SummFn Go.Proofs.Try.prog 52 S52 := by
  have ev : ∀ (a0_0 : Int) (a0_1 : Int) (a1_0 : Int) (a1_1 : Int), (symCall ⟨Go.Proofs.Try.prog, [(55, S55), (86, S86)], 3, 110, false, [], [], []⟩ 30 52 [.agg [.int .i64 (.sym a0_0), .int .i64 (.sym a0_1)], .agg [.int .i64 (.sym a1_0), .int .i64 (.sym a1_1)]] []).out = (bif decide (IntKind.i64.wrap ((f86 a0_0 a0_1).snd + (f86 a1_0 a1_1).snd) < 0) || decide (IntKind.i64.wrap ((f86 a0_0 a0_1).snd + (f86 a1_0 a1_1).snd) ≥ 4611686018427387904) then (bif !f55 (IntKind.i64.wrap (IntKind.i64.wrap ((f86 a0_0 a0_1).fst + (f86 a1_0 a1_1).fst) + 1)) (IntKind.i64.wrap (IntKind.i64.wrap ((f86 a0_0 a0_1).snd + (f86 a1_0 a1_1).snd) - 4611686018427387904)) then ((g52 (0, 0, false)).toV) else ((g52 (IntKind.i64.wrap (IntKind.i64.wrap ((f86 a0_0 a0_1).fst + (f86 a1_0 a1_1).fst) + 1), IntKind.i64.wrap (IntKind.i64.wrap ((f86 a0_0 a0_1).snd + (f86 a1_0 a1_1).snd) - 4611686018427387904), true)).toV)) else (bif !f55 (IntKind.i64.wrap ((f86 a0_0 a0_1).fst + (f86 a1_0 a1_1).fst)) (IntKind.i64.wrap ((f86 a0_0 a0_1).snd + (f86 a1_0 a1_1).snd)) then ((g52 (0, 0, false)).toV) else ((g52 (IntKind.i64.wrap ((f86 a0_0 a0_1).fst + (f86 a1_0 a1_1).fst), IntKind.i64.wrap ((f86 a0_0 a0_1).snd + (f86 a1_0 a1_1).snd), true)).toV))) := by
    intro a0_0 a0_1 a1_0 a1_1
    kernel_rfl
  intro fs r h w vs hv
  unfold S52 at h
  split at h
  · rename_i a0_0 a0_1 a1_0 a1_1
    cases h
    exact sx_calls (envOk' (S := [(55, S55), (86, S86)]) ⟨S55_ok, S86_ok, trivial⟩) 30 52 [.agg [.int .i64 (.sym a0_0.val), .int .i64 (.sym a0_1.val)], .agg [.int .i64 (.sym a1_0.val), .int .i64 (.sym a1_1.val)]] vs (symifyL_rel _ _ (SArels_v (xs := [.agg [.int .i64 a0_0, .int .i64 a0_1], .agg [.int .i64 a1_0, .int .i64 a1_1]]) hv)) (by kernel_rfl) rfl ((ev a0_0.val a0_1.val a1_0.val a1_1.val).trans (cond_out g52 (cond_out g52 rfl rfl) (cond_out g52 rfl rfl))) w
  · cases h
/-- outrigger/outriggerref02.Int -/
def f53 (a0_0 : Int) (a0_1 : Int) : Int × Bool := bif (f86 a0_0 a0_1).fst == 0 && decide ((f86 a0_0 a0_1).snd ≤ 288230376151711744) then (((f86 a0_0 a0_1).snd, true)) else (bif (f86 a0_0 a0_1).fst == -1 && decide ((f86 a0_0 a0_1).snd ≥ 4323455642275676160) then ((IntKind.i64.wrap ((f86 a0_0 a0_1).snd - 4611686018427387904), true)) else (bif decide ((f86 a0_0 a0_1).fst < 0) then ((-288230376151711744, false)) else ((288230376151711744, false))))
def g53 (p : Int × Bool) : SV := .tuple [.int .i64 (.sym p.1), .bool (.sym p.2)]
def S53 : Summ
  | [.v (.agg [.int .i64 a0_0, .int .i64 a0_1])] => some (g53 (f53 a0_0.val a0_1.val))
  | _ => none
theorem S53_ok : SummFn Go.Proofs.Try.prog 53 S53 := by
  have ev : ∀ (a0_0 : Int) (a0_1 : Int), (symCall ⟨Go.Proofs.Try.prog, [(55, S55), (86, S86)], 3, 110, false, [], [], []⟩ 30 53 [.agg [.int .i64 (.sym a0_0), .int .i64 (.sym a0_1)]] []).out = (bif (f86 a0_0 a0_1).fst == 0 && decide ((f86 a0_0 a0_1).snd ≤ 288230376151711744) then ((g53 ((f86 a0_0 a0_1).snd, true)).toV) else (bif (f86 a0_0 a0_1).fst == -1 && decide ((f86 a0_0 a0_1).snd ≥ 4323455642275676160) then ((g53 (IntKind.i64.wrap ((f86 a0_0 a0_1).snd - 4611686018427387904), true)).toV) else (bif decide ((f86 a0_0 a0_1).fst < 0) then ((g53 (-288230376151711744, false)).toV) else ((g53 (288230376151711744, false)).toV)))) := by
    intro a0_0 a0_1
    kernel_rfl
  intro fs r h w vs hv
  unfold S53 at h
  split at h
  · rename_i a0_0 a0_1
    cases h
    exact sx_calls (envOk' (S := [(55, S55), (86, S86)]) ⟨S55_ok, S86_ok, trivial⟩) 30 53 [.agg [.int .i64 (.sym a0_0.val), .int .i64 (.sym a0_1.val)]] vs (symifyL_rel _ _ (SArels_v (xs := [.agg [.int .i64 a0_0, .int .i64 a0_1]]) hv)) (by kernel_rfl) rfl ((ev a0_0.val a0_1.val).trans (cond_out g53 rfl (cond_out g53 rfl (cond_out g53 rfl rfl)))) w
  · cases h
/-- outrigger/outriggerref01.Clamp -/
def f63 (a0 : Int) : Int × Bool := bif decide (a0 > 288230376151711744) then ((288230376151711744, true)) else (bif decide (a0 < -288230376151711744) then ((-288230376151711744, true)) else ((a0, false)))
def g63 (p : Int × Bool) : SV := .tuple [.int .i64 (.sym p.1), .bool (.sym p.2)]
def S63 : Summ
  | [.v (.int .i64 a0)] => some (g63 (f63 a0.val))
  | _ => none
theorem S63_ok : SummFn Go.Proofs.Try.prog 63 S63 := by
  have ev : ∀ (a0 : Int), (symCall ⟨Go.Proofs.Try.prog, [], 3, 110, false, [], [], []⟩ 30 63 [.int .i64 (.sym a0)] []).out = (bif decide (a0 > 288230376151711744) then ((g63 (288230376151711744, true)).toV) else (bif decide (a0 < -288230376151711744) then ((g63 (-288230376151711744, true)).toV) else ((g63 (a0, false)).toV))) := by
    intro a0
    kernel_rfl
  intro fs r h w vs hv
  unfold S63 at h
  split at h
  · rename_i a0
    cases h
    exact sx_calls (envOk' (S := []) trivial) 30 63 [.int .i64 (.sym a0.val)] vs (symifyL_rel _ _ (SArels_v (xs := [.int .i64 a0]) hv)) (by kernel_rfl) rfl ((ev a0.val).trans (cond_out g63 rfl (cond_out g63 rfl rfl))) w
  · cases h
/-- outrigger/outriggerref01.As -/
def f60 (a0 : Int) : Int := (f63 a0).fst
def g60 (p : Int) : SV := .int .i64 (.sym p)
def S60 : Summ
  | [.v (.int .i64 a0)] => some (g60 (f60 a0.val))
  | _ => none
theorem S60_ok : SummFn Go.Proofs.Try.prog 60 S60 := by
  have ev : ∀ (a0 : Int), (symCall ⟨Go.Proofs.Try.prog, [(63, S63)], 3, 110, false, [], [], []⟩ 30 60 [.int .i64 (.sym a0)] []).out = ((g60 ((f63 a0).fst)).toV) := by
    intro a0
    kernel_rfl
  intro fs r h w vs hv
  unfold S60 at h
  split at h
  · rename_i a0
    cases h
    exact sx_calls (envOk' (S := [(63, S63)]) ⟨S63_ok, trivial⟩) 30 60 [.int .i64 (.sym a0.val)] vs (symifyL_rel _ _ (SArels_v (xs := [.int .i64 a0]) hv)) (by kernel_rfl) rfl ((ev a0.val).trans rfl) w
  · cases h
/-- outrigger/outriggerref01.Abs -/
def f62 (a0 : Int) : Int := mxI (f60 a0) (IntKind.i64.wrap (0 - f60 a0))
def g62 (p : Int) : SV := .int .i64 (.sym p)
def S62 : Summ
  | [.v (.int .i64 a0)] => some (g62 (f62 a0.val))
  | _ => none
theorem S62_ok : SummFn Go.Proofs.Try.prog 62 S62 := by
  have ev : ∀ (a0 : Int), (symCall ⟨Go.Proofs.Try.prog, [(60, S60), (63, S63)], 3, 110, false, [], [], []⟩ 30 62 [.int .i64 (.sym a0)] []).out = ((g62 (mxI (f60 a0) (IntKind.i64.wrap (0 - f60 a0)))).toV) := by
    intro a0
    kernel_rfl
  intro fs r h w vs hv
  unfold S62 at h
  split at h
  · rename_i a0
    cases h
    exact sx_calls (envOk' (S := [(60, S60), (63, S63)]) ⟨S60_ok, S63_ok, trivial⟩) 30 62 [.int .i64 (.sym a0.val)] vs (symifyL_rel _ _ (SArels_v (xs := [.int .i64 a0]) hv)) (by kernel_rfl) rfl ((ev a0.val).trans rfl) w
  · cases h
/-- outrigger/outriggerref02.turn -/
def f87 (a0_0 : Int) (a0_1 : Int) : Int × Int := bif a0_1 == 0 then ((IntKind.i64.wrap (0 - a0_0), 0)) else ((IntKind.i64.wrap (IntKind.i64.wrap (0 - a0_0) - 1), IntKind.i64.wrap (4611686018427387904 - a0_1)))
def g87 (p : Int × Int) : SV := .agg [.int .i64 (.sym p.1), .int .i64 (.sym p.2)]
def S87 : Summ
  | [.v (.agg [.int .i64 a0_0, .int .i64 a0_1])] => some (g87 (f87 a0_0.val a0_1.val))
  | _ => none
theorem S87_ok : SummFn Go.Proofs.Try.prog 87 S87 := by
  have ev : ∀ (a0_0 : Int) (a0_1 : Int), (symCall ⟨Go.Proofs.Try.prog, [], 3, 110, false, [], [], []⟩ 30 87 [.agg [.int .i64 (.sym a0_0), .int .i64 (.sym a0_1)]] []).out = (bif a0_1 == 0 then ((g87 (IntKind.i64.wrap (0 - a0_0), 0)).toV) else ((g87 (IntKind.i64.wrap (IntKind.i64.wrap (0 - a0_0) - 1), IntKind.i64.wrap (4611686018427387904 - a0_1))).toV)) := by
    intro a0_0 a0_1
    kernel_rfl
  intro fs r h w vs hv
  unfold S87 at h
  split at h
  · rename_i a0_0 a0_1
    cases h
    exact sx_calls (envOk' (S := []) trivial) 30 87 [.agg [.int .i64 (.sym a0_0.val), .int .i64 (.sym a0_1.val)]] vs (symifyL_rel _ _ (SArels_v (xs := [.agg [.int .i64 a0_0, .int .i64 a0_1]]) hv)) (by kernel_rfl) rfl ((ev a0_0.val a0_1.val).trans (cond_out g87 rfl rfl)) w
  · cases h
/-- outrigger/outriggerref02.Mul -/
def f57 (a0 : Int) (a1 : Int) : Int × Int := bif decide (IntKind.i64.wrap (IntKind.i64.wrap ((f62 a0).tmod 2147483648 * (f62 a1).tmod 2147483648) + IntKind.i64.wrap ((IntKind.i64.wrap (IntKind.i64.wrap (IntKind.i64.wrap ((f62 a0).tdiv 2147483648) * (f62 a1).tmod 2147483648) + IntKind.i64.wrap ((f62 a0).tmod 2147483648 * IntKind.i64.wrap ((f62 a1).tdiv 2147483648)))).tmod 2147483648 * 2147483648)) ≥ 4611686018427387904) then (bif !decide (a0 < 0) == decide (a1 < 0) then (((f87 (IntKind.i64.wrap (IntKind.i64.wrap (IntKind.i64.wrap (IntKind.i64.wrap ((f62 a0).tdiv 2147483648) * IntKind.i64.wrap ((f62 a1).tdiv 2147483648)) + IntKind.i64.wrap ((IntKind.i64.wrap (IntKind.i64.wrap (IntKind.i64.wrap ((f62 a0).tdiv 2147483648) * (f62 a1).tmod 2147483648) + IntKind.i64.wrap ((f62 a0).tmod 2147483648 * IntKind.i64.wrap ((f62 a1).tdiv 2147483648)))).tdiv 2147483648)) + 1)) (IntKind.i64.wrap (IntKind.i64.wrap (IntKind.i64.wrap ((f62 a0).tmod 2147483648 * (f62 a1).tmod 2147483648) + IntKind.i64.wrap ((IntKind.i64.wrap (IntKind.i64.wrap (IntKind.i64.wrap ((f62 a0).tdiv 2147483648) * (f62 a1).tmod 2147483648) + IntKind.i64.wrap ((f62 a0).tmod 2147483648 * IntKind.i64.wrap ((f62 a1).tdiv 2147483648)))).tmod 2147483648 * 2147483648)) - 4611686018427387904))).fst, (f87 (IntKind.i64.wrap (IntKind.i64.wrap (IntKind.i64.wrap (IntKind.i64.wrap ((f62 a0).tdiv 2147483648) * IntKind.i64.wrap ((f62 a1).tdiv 2147483648)) + IntKind.i64.wrap ((IntKind.i64.wrap (IntKind.i64.wrap (IntKind.i64.wrap ((f62 a0).tdiv 2147483648) * (f62 a1).tmod 2147483648) + IntKind.i64.wrap ((f62 a0).tmod 2147483648 * IntKind.i64.wrap ((f62 a1).tdiv 2147483648)))).tdiv 2147483648)) + 1)) (IntKind.i64.wrap (IntKind.i64.wrap (IntKind.i64.wrap ((f62 a0).tmod 2147483648 * (f62 a1).tmod 2147483648) + IntKind.i64.wrap ((IntKind.i64.wrap (IntKind.i64.wrap (IntKind.i64.wrap ((f62 a0).tdiv 2147483648) * (f62 a1).tmod 2147483648) + IntKind.i64.wrap ((f62 a0).tmod 2147483648 * IntKind.i64.wrap ((f62 a1).tdiv 2147483648)))).tmod 2147483648 * 2147483648)) - 4611686018427387904))).snd)) else ((IntKind.i64.wrap (IntKind.i64.wrap (IntKind.i64.wrap (IntKind.i64.wrap ((f62 a0).tdiv 2147483648) * IntKind.i64.wrap ((f62 a1).tdiv 2147483648)) + IntKind.i64.wrap ((IntKind.i64.wrap (IntKind.i64.wrap (IntKind.i64.wrap ((f62 a0).tdiv 2147483648) * (f62 a1).tmod 2147483648) + IntKind.i64.wrap ((f62 a0).tmod 2147483648 * IntKind.i64.wrap ((f62 a1).tdiv 2147483648)))).tdiv 2147483648)) + 1), IntKind.i64.wrap (IntKind.i64.wrap (IntKind.i64.wrap ((f62 a0).tmod 2147483648 * (f62 a1).tmod 2147483648) + IntKind.i64.wrap ((IntKind.i64.wrap (IntKind.i64.wrap (IntKind.i64.wrap ((f62 a0).tdiv 2147483648) * (f62 a1).tmod 2147483648) + IntKind.i64.wrap ((f62 a0).tmod 2147483648 * IntKind.i64.wrap ((f62 a1).tdiv 2147483648)))).tmod 2147483648 * 2147483648)) - 4611686018427387904)))) else (bif !decide (a0 < 0) == decide (a1 < 0) then (((f87 (IntKind.i64.wrap (IntKind.i64.wrap (IntKind.i64.wrap ((f62 a0).tdiv 2147483648) * IntKind.i64.wrap ((f62 a1).tdiv 2147483648)) + IntKind.i64.wrap ((IntKind.i64.wrap (IntKind.i64.wrap (IntKind.i64.wrap ((f62 a0).tdiv 2147483648) * (f62 a1).tmod 2147483648) + IntKind.i64.wrap ((f62 a0).tmod 2147483648 * IntKind.i64.wrap ((f62 a1).tdiv 2147483648)))).tdiv 2147483648))) (IntKind.i64.wrap (IntKind.i64.wrap ((f62 a0).tmod 2147483648 * (f62 a1).tmod 2147483648) + IntKind.i64.wrap ((IntKind.i64.wrap (IntKind.i64.wrap (IntKind.i64.wrap ((f62 a0).tdiv 2147483648) * (f62 a1).tmod 2147483648) + IntKind.i64.wrap ((f62 a0).tmod 2147483648 * IntKind.i64.wrap ((f62 a1).tdiv 2147483648)))).tmod 2147483648 * 2147483648)))).fst, (f87 (IntKind.i64.wrap (IntKind.i64.wrap (IntKind.i64.wrap ((f62 a0).tdiv 2147483648) * IntKind.i64.wrap ((f62 a1).tdiv 2147483648)) + IntKind.i64.wrap ((IntKind.i64.wrap (IntKind.i64.wrap (IntKind.i64.wrap ((f62 a0).tdiv 2147483648) * (f62 a1).tmod 2147483648) + IntKind.i64.wrap ((f62 a0).tmod 2147483648 * IntKind.i64.wrap ((f62 a1).tdiv 2147483648)))).tdiv 2147483648))) (IntKind.i64.wrap (IntKind.i64.wrap ((f62 a0).tmod 2147483648 * (f62 a1).tmod 2147483648) + IntKind.i64.wrap ((IntKind.i64.wrap (IntKind.i64.wrap (IntKind.i64.wrap ((f62 a0).tdiv 2147483648) * (f62 a1).tmod 2147483648) + IntKind.i64.wrap ((f62 a0).tmod 2147483648 * IntKind.i64.wrap ((f62 a1).tdiv 2147483648)))).tmod 2147483648 * 2147483648)))).snd)) else ((IntKind.i64.wrap (IntKind.i64.wrap (IntKind.i64.wrap ((f62 a0).tdiv 2147483648) * IntKind.i64.wrap ((f62 a1).tdiv 2147483648)) + IntKind.i64.wrap ((IntKind.i64.wrap (IntKind.i64.wrap (IntKind.i64.wrap ((f62 a0).tdiv 2147483648) * (f62 a1).tmod 2147483648) + IntKind.i64.wrap ((f62 a0).tmod 2147483648 * IntKind.i64.wrap ((f62 a1).tdiv 2147483648)))).tdiv 2147483648)), IntKind.i64.wrap (IntKind.i64.wrap ((f62 a0).tmod 2147483648 * (f62 a1).tmod 2147483648) + IntKind.i64.wrap ((IntKind.i64.wrap (IntKind.i64.wrap (IntKind.i64.wrap ((f62 a0).tdiv 2147483648) * (f62 a1).tmod 2147483648) + IntKind.i64.wrap ((f62 a0).tmod 2147483648 * IntKind.i64.wrap ((f62 a1).tdiv 2147483648)))).tmod 2147483648 * 2147483648)))))
def g57 (p : Int × Int) : SV := .agg [.int .i64 (.sym p.1), .int .i64 (.sym p.2)]
def S57 : Summ
  | [.v (.int .i64 a0), .v (.int .i64 a1)] => some (g57 (f57 a0.val a1.val))
  | _ => none
theorem S57_ok : SummFn Go.Proofs.Try.prog 57 S57 := by
  have ev : ∀ (a0 : Int) (a1 : Int), (symCall ⟨Go.Proofs.Try.prog, [(60, S60), (62, S62), (63, S63), (87, S87)], 3, 110, false, [], [], []⟩ 30 57 [.int .i64 (.sym a0), .int .i64 (.sym a1)] []).out = (bif decide (IntKind.i64.wrap (IntKind.i64.wrap ((f62 a0).tmod 2147483648 * (f62 a1).tmod 2147483648) + IntKind.i64.wrap ((IntKind.i64.wrap (IntKind.i64.wrap (IntKind.i64.wrap ((f62 a0).tdiv 2147483648) * (f62 a1).tmod 2147483648) + IntKind.i64.wrap ((f62 a0).tmod 2147483648 * IntKind.i64.wrap ((f62 a1).tdiv 2147483648)))).tmod 2147483648 * 2147483648)) ≥ 4611686018427387904) then (bif !decide (a0 < 0) == decide (a1 < 0) then ((g57 ((f87 (IntKind.i64.wrap (IntKind.i64.wrap (IntKind.i64.wrap (IntKind.i64.wrap ((f62 a0).tdiv 2147483648) * IntKind.i64.wrap ((f62 a1).tdiv 2147483648)) + IntKind.i64.wrap ((IntKind.i64.wrap (IntKind.i64.wrap (IntKind.i64.wrap ((f62 a0).tdiv 2147483648) * (f62 a1).tmod 2147483648) + IntKind.i64.wrap ((f62 a0).tmod 2147483648 * IntKind.i64.wrap ((f62 a1).tdiv 2147483648)))).tdiv 2147483648)) + 1)) (IntKind.i64.wrap (IntKind.i64.wrap (IntKind.i64.wrap ((f62 a0).tmod 2147483648 * (f62 a1).tmod 2147483648) + IntKind.i64.wrap ((IntKind.i64.wrap (IntKind.i64.wrap (IntKind.i64.wrap ((f62 a0).tdiv 2147483648) * (f62 a1).tmod 2147483648) + IntKind.i64.wrap ((f62 a0).tmod 2147483648 * IntKind.i64.wrap ((f62 a1).tdiv 2147483648)))).tmod 2147483648 * 2147483648)) - 4611686018427387904))).fst, (f87 (IntKind.i64.wrap (IntKind.i64.wrap (IntKind.i64.wrap (IntKind.i64.wrap ((f62 a0).tdiv 2147483648) * IntKind.i64.wrap ((f62 a1).tdiv 2147483648)) + IntKind.i64.wrap ((IntKind.i64.wrap (IntKind.i64.wrap (IntKind.i64.wrap ((f62 a0).tdiv 2147483648) * (f62 a1).tmod 2147483648) + IntKind.i64.wrap ((f62 a0).tmod 2147483648 * IntKind.i64.wrap ((f62 a1).tdiv 2147483648)))).tdiv 2147483648)) + 1)) (IntKind.i64.wrap (IntKind.i64.wrap (IntKind.i64.wrap ((f62 a0).tmod 2147483648 * (f62 a1).tmod 2147483648) + IntKind.i64.wrap ((IntKind.i64.wrap (IntKind.i64.wrap (IntKind.i64.wrap ((f62 a0).tdiv 2147483648) * (f62 a1).tmod 2147483648) + IntKind.i64.wrap ((f62 a0).tmod 2147483648 * IntKind.i64.wrap ((f62 a1).tdiv 2147483648)))).tmod 2147483648 * 2147483648)) - 4611686018427387904))).snd)).toV) else ((g57 (IntKind.i64.wrap (IntKind.i64.wrap (IntKind.i64.wrap (IntKind.i64.wrap ((f62 a0).tdiv 2147483648) * IntKind.i64.wrap ((f62 a1).tdiv 2147483648)) + IntKind.i64.wrap ((IntKind.i64.wrap (IntKind.i64.wrap (IntKind.i64.wrap ((f62 a0).tdiv 2147483648) * (f62 a1).tmod 2147483648) + IntKind.i64.wrap ((f62 a0).tmod 2147483648 * IntKind.i64.wrap ((f62 a1).tdiv 2147483648)))).tdiv 2147483648)) + 1), IntKind.i64.wrap (IntKind.i64.wrap (IntKind.i64.wrap ((f62 a0).tmod 2147483648 * (f62 a1).tmod 2147483648) + IntKind.i64.wrap ((IntKind.i64.wrap (IntKind.i64.wrap (IntKind.i64.wrap ((f62 a0).tdiv 2147483648) * (f62 a1).tmod 2147483648) + IntKind.i64.wrap ((f62 a0).tmod 2147483648 * IntKind.i64.wrap ((f62 a1).tdiv 2147483648)))).tmod 2147483648 * 2147483648)) - 4611686018427387904))).toV)) else (bif !decide (a0 < 0) == decide (a1 < 0) then ((g57 ((f87 (IntKind.i64.wrap (IntKind.i64.wrap (IntKind.i64.wrap ((f62 a0).tdiv 2147483648) * IntKind.i64.wrap ((f62 a1).tdiv 2147483648)) + IntKind.i64.wrap ((IntKind.i64.wrap (IntKind.i64.wrap (IntKind.i64.wrap ((f62 a0).tdiv 2147483648) * (f62 a1).tmod 2147483648) + IntKind.i64.wrap ((f62 a0).tmod 2147483648 * IntKind.i64.wrap ((f62 a1).tdiv 2147483648)))).tdiv 2147483648))) (IntKind.i64.wrap (IntKind.i64.wrap ((f62 a0).tmod 2147483648 * (f62 a1).tmod 2147483648) + IntKind.i64.wrap ((IntKind.i64.wrap (IntKind.i64.wrap (IntKind.i64.wrap ((f62 a0).tdiv 2147483648) * (f62 a1).tmod 2147483648) + IntKind.i64.wrap ((f62 a0).tmod 2147483648 * IntKind.i64.wrap ((f62 a1).tdiv 2147483648)))).tmod 2147483648 * 2147483648)))).fst, (f87 (IntKind.i64.wrap (IntKind.i64.wrap (IntKind.i64.wrap ((f62 a0).tdiv 2147483648) * IntKind.i64.wrap ((f62 a1).tdiv 2147483648)) + IntKind.i64.wrap ((IntKind.i64.wrap (IntKind.i64.wrap (IntKind.i64.wrap ((f62 a0).tdiv 2147483648) * (f62 a1).tmod 2147483648) + IntKind.i64.wrap ((f62 a0).tmod 2147483648 * IntKind.i64.wrap ((f62 a1).tdiv 2147483648)))).tdiv 2147483648))) (IntKind.i64.wrap (IntKind.i64.wrap ((f62 a0).tmod 2147483648 * (f62 a1).tmod 2147483648) + IntKind.i64.wrap ((IntKind.i64.wrap (IntKind.i64.wrap (IntKind.i64.wrap ((f62 a0).tdiv 2147483648) * (f62 a1).tmod 2147483648) + IntKind.i64.wrap ((f62 a0).tmod 2147483648 * IntKind.i64.wrap ((f62 a1).tdiv 2147483648)))).tmod 2147483648 * 2147483648)))).snd)).toV) else ((g57 (IntKind.i64.wrap (IntKind.i64.wrap (IntKind.i64.wrap ((f62 a0).tdiv 2147483648) * IntKind.i64.wrap ((f62 a1).tdiv 2147483648)) + IntKind.i64.wrap ((IntKind.i64.wrap (IntKind.i64.wrap (IntKind.i64.wrap ((f62 a0).tdiv 2147483648) * (f62 a1).tmod 2147483648) + IntKind.i64.wrap ((f62 a0).tmod 2147483648 * IntKind.i64.wrap ((f62 a1).tdiv 2147483648)))).tdiv 2147483648)), IntKind.i64.wrap (IntKind.i64.wrap ((f62 a0).tmod 2147483648 * (f62 a1).tmod 2147483648) + IntKind.i64.wrap ((IntKind.i64.wrap (IntKind.i64.wrap (IntKind.i64.wrap ((f62 a0).tdiv 2147483648) * (f62 a1).tmod 2147483648) + IntKind.i64.wrap ((f62 a0).tmod 2147483648 * IntKind.i64.wrap ((f62 a1).tdiv 2147483648)))).tmod 2147483648 * 2147483648)))).toV))) := by
    intro a0 a1
    kernel_rfl
  intro fs r h w vs hv
  unfold S57 at h
  split at h
  · rename_i a0 a1
    cases h
    exact sx_calls (envOk' (S := [(60, S60), (62, S62), (63, S63), (87, S87)]) ⟨S60_ok, S62_ok, S63_ok, S87_ok, trivial⟩) 30 57 [.int .i64 (.sym a0.val), .int .i64 (.sym a1.val)] vs (symifyL_rel _ _ (SArels_v (xs := [.int .i64 a0, .int .i64 a1]) hv)) (by kernel_rfl) rfl ((ev a0.val a1.val).trans (cond_out g57 (cond_out g57 rfl rfl) (cond_out g57 rfl rfl))) w
  · cases h
/-- outrigger/outriggerref03.changed -/
def f58 (a0 : Int) : Bool := (f63 a0).snd
def g58 (p : Bool) : SV := .bool (.sym p)
def S58 : Summ
  | [.v (.int .i64 a0)] => some (g58 (f58 a0.val))
  | _ => none
theorem S58_ok : SummFn Go.Proofs.Try.prog 58 S58 := by
  have ev : ∀ (a0 : Int), (symCall ⟨Go.Proofs.Try.prog, [(63, S63)], 3, 110, false, [], [], []⟩ 30 58 [.int .i64 (.sym a0)] []).out = ((g58 ((f63 a0).snd)).toV) := by
    intro a0
    kernel_rfl
  intro fs r h w vs hv
  unfold S58 at h
  split at h
  · rename_i a0
    cases h
    exact sx_calls (envOk' (S := [(63, S63)]) ⟨S63_ok, trivial⟩) 30 58 [.int .i64 (.sym a0.val)] vs (symifyL_rel _ _ (SArels_v (xs := [.int .i64 a0]) hv)) (by kernel_rfl) rfl ((ev a0.val).trans rfl) w
  · cases h
/-- outrigger/fix.Neg -/
def f27 (a0 : Int) : Int := IntKind.i64.wrap (0 - f67 a0)
def g27 (p : Int) : SV := .int .i64 (.sym p)
def S27 : Summ
  | [.v (.int .i64 a0)] => some (g27 (f27 a0.val))
  | _ => none
theorem S27_ok : SummFn Go.Proofs.Try.prog 27 S27 := by
  have ev : ∀ (a0 : Int), (symCall ⟨Go.Proofs.Try.prog, [(67, S67), (68, S68)], 3, 110, false, [], [], []⟩ 30 27 [.int .i64 (.sym a0)] []).out = ((g27 (IntKind.i64.wrap (0 - f67 a0))).toV) := by
    intro a0
    kernel_rfl
  intro fs r h w vs hv
  unfold S27 at h
  split at h
  · rename_i a0
    cases h
    exact sx_calls (envOk' (S := [(67, S67), (68, S68)]) ⟨S67_ok, S68_ok, trivial⟩) 30 27 [.int .i64 (.sym a0.val)] vs (symifyL_rel _ _ (SArels_v (xs := [.int .i64 a0]) hv)) (by kernel_rfl) rfl ((ev a0.val).trans rfl) w
  · cases h
/-- cmp.isNaN[int] -/
def f89 (a0 : Int) : Bool := a0 != a0
def g89 (p : Bool) : SV := .bool (.sym p)
def S89 : Summ
  | [.v (.int .i64 a0)] => some (g89 (f89 a0.val))
  | _ => none
theorem S89_ok : SummFn Go.Proofs.Try.prog 89 S89 := by
  have ev : ∀ (a0 : Int), (symCall ⟨Go.Proofs.Try.prog, [], 3, 110, false, [], [], []⟩ 30 89 [.int .i64 (.sym a0)] []).out = ((g89 (a0 != a0)).toV) := by
    intro a0
    kernel_rfl
  intro fs r h w vs hv
  unfold S89 at h
  split at h
  · rename_i a0
    cases h
    exact sx_calls (envOk' (S := []) trivial) 30 89 [.int .i64 (.sym a0.val)] vs (symifyL_rel _ _ (SArels_v (xs := [.int .i64 a0]) hv)) (by kernel_rfl) rfl ((ev a0.val).trans rfl) w
  · cases h
/-- cmp.Compare[int] -/
def f73 (a0 : Int) (a1 : Int) : Int := bif f89 a0 then (bif f89 a1 then (0) else (-1)) else (bif f89 a1 then (1) else (bif decide (a0 < a1) then (-1) else (bif decide (a0 > a1) then (1) else (0))))
def g73 (p : Int) : SV := .int .i64 (.sym p)
def S73 : Summ
  | [.v (.int .i64 a0), .v (.int .i64 a1)] => some (g73 (f73 a0.val a1.val))
  | _ => none
theorem S73_ok : SummFn Go.Proofs.Try.prog 73 S73 := by
  have ev : ∀ (a0 : Int) (a1 : Int), (symCall ⟨Go.Proofs.Try.prog, [(89, S89)], 3, 110, false, [], [], []⟩ 30 73 [.int .i64 (.sym a0), .int .i64 (.sym a1)] []).out = (bif f89 a0 then (bif f89 a1 then ((g73 (0)).toV) else ((g73 (-1)).toV)) else (bif f89 a1 then ((g73 (1)).toV) else (bif decide (a0 < a1) then ((g73 (-1)).toV) else (bif decide (a0 > a1) then ((g73 (1)).toV) else ((g73 (0)).toV))))) := by
    intro a0 a1
    kernel_rfl
  intro fs r h w vs hv
  unfold S73 at h
  split at h
  · rename_i a0 a1
    cases h
    exact sx_calls (envOk' (S := [(89, S89)]) ⟨S89_ok, trivial⟩) 30 73 [.int .i64 (.sym a0.val), .int .i64 (.sym a1.val)] vs (symifyL_rel _ _ (SArels_v (xs := [.int .i64 a0, .int .i64 a1]) hv)) (by kernel_rfl) rfl ((ev a0.val a1.val).trans (cond_out g73 (cond_out g73 rfl rfl) (cond_out g73 rfl (cond_out g73 rfl (cond_out g73 rfl rfl))))) w
  · cases h
/-- outrigger/wide.Compare -/
def f32 (a0_0 : Int) (a0_1 : Int) (a1_0 : Int) (a1_1 : Int) : Int := orL [f73 (f71 a0_0 a0_1).fst (f71 a1_0 a1_1).fst, f73 (f71 a0_0 a0_1).snd (f71 a1_0 a1_1).snd]
def g32 (p : Int) : SV := .int .i64 (.sym p)
def S32 : Summ
  | [.v (.agg [.int .i64 a0_0, .int .i64 a0_1]), .v (.agg [.int .i64 a1_0, .int .i64 a1_1])] => some (g32 (f32 a0_0.val a0_1.val a1_0.val a1_1.val))
  | _ => none
theorem S32_ok : SummFn Go.Proofs.Try.prog 32 S32 := by
  have ev : ∀ (a0_0 : Int) (a0_1 : Int) (a1_0 : Int) (a1_1 : Int), (symCall ⟨Go.Proofs.Try.prog, [(51, S51), (71, S71), (72, S72), (73, S73), (89, S89)], 3, 110, false, [], [], []⟩ 30 32 [.agg [.int .i64 (.sym a0_0), .int .i64 (.sym a0_1)], .agg [.int .i64 (.sym a1_0), .int .i64 (.sym a1_1)]] []).out = ((g32 (orL [f73 (f71 a0_0 a0_1).fst (f71 a1_0 a1_1).fst, f73 (f71 a0_0 a0_1).snd (f71 a1_0 a1_1).snd])).toV) := by
    intro a0_0 a0_1 a1_0 a1_1
    kernel_rfl
  intro fs r h w vs hv
  unfold S32 at h
  split at h
  · rename_i a0_0 a0_1 a1_0 a1_1
    cases h
    exact sx_calls (envOk' (S := [(51, S51), (71, S71), (72, S72), (73, S73), (89, S89)]) ⟨S51_ok, S71_ok, S72_ok, S73_ok, S89_ok, trivial⟩) 30 32 [.agg [.int .i64 (.sym a0_0.val), .int .i64 (.sym a0_1.val)], .agg [.int .i64 (.sym a1_0.val), .int .i64 (.sym a1_1.val)]] vs (symifyL_rel _ _ (SArels_v (xs := [.agg [.int .i64 a0_0, .int .i64 a0_1], .agg [.int .i64 a1_0, .int .i64 a1_1]]) hv)) (by kernel_rfl) rfl ((ev a0_0.val a0_1.val a1_0.val a1_1.val).trans rfl) w
  · cases h
end Go.Proofs.Ytejlbofmlaclpaa
