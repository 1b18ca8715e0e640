/- What each function computes, by the executor: printed by a program (wip/sx/Gen2.lean). -/
import Derived.Test.YtoagcpfklkmolaaM
namespace Go.Proofs.Ytoagcpfklkmolaa
open Go Go.Sx
set_option maxRecDepth 1000000
set_option maxHeartbeats 100000000
/-- outrigger/wide.Int -/
def f102 (a0_0 : Int) (a0_1 : Int) : Int × Bool := bif (f122 a0_0 a0_1).fst == 0 || (f122 a0_0 a0_1).fst == -1 then (((f29 (IntKind.i64.wrap (IntKind.i64.wrap ((f122 a0_0 a0_1).fst * 2 ^ 62) + (f122 a0_0 a0_1).snd))).fst, !(f29 (IntKind.i64.wrap (IntKind.i64.wrap ((f122 a0_0 a0_1).fst * 2 ^ 62) + (f122 a0_0 a0_1).snd))).snd)) else (bif decide ((f122 a0_0 a0_1).fst < 0) then ((-288230376151711744, false)) else ((288230376151711744, false)))
def g102 (p : Int × Bool) : SV := .tuple [.int .i64 (.sym p.1), .bool (.sym p.2)]
def S102 : Summ
  | [.v (.agg [.int .i64 a0_0, .int .i64 a0_1])] => some (g102 (f102 a0_0.val a0_1.val))
  | _ => none
theorem S102_ok : SummFn Go.Proofs.Try.prog 102 S102 := by
  have ev : ∀ (a0_0 : Int) (a0_1 : Int), (symCall ⟨Go.Proofs.Try.prog, [(29, S29), (104, S104), (57, S57), (122, S122)], 3, 130, false, [], [], []⟩ 30 102 [.agg [.int .i64 (.sym a0_0), .int .i64 (.sym a0_1)]] []).out = (bif (f122 a0_0 a0_1).fst == 0 || (f122 a0_0 a0_1).fst == -1 then ((g102 ((f29 (IntKind.i64.wrap (IntKind.i64.wrap ((f122 a0_0 a0_1).fst * 2 ^ 62) + (f122 a0_0 a0_1).snd))).fst, !(f29 (IntKind.i64.wrap (IntKind.i64.wrap ((f122 a0_0 a0_1).fst * 2 ^ 62) + (f122 a0_0 a0_1).snd))).snd)).toV) else (bif decide ((f122 a0_0 a0_1).fst < 0) then ((g102 (-288230376151711744, false)).toV) else ((g102 (288230376151711744, false)).toV))) := by
    intro a0_0 a0_1
    kernel_rfl
  intro fs r h w vs hv
  unfold S102 at h
  split at h
  · rename_i a0_0 a0_1
    cases h
    exact sx_calls (envOk' (S := [(29, S29), (104, S104), (57, S57), (122, S122)]) ⟨S29_ok, S104_ok, S57_ok, S122_ok, trivial⟩) 30 102 [.agg [.int .i64 (.sym a0_0.val), .int .i64 (.sym a0_1.val)]] vs (symifyL_rel _ _ (SArels_v (xs := [.agg [.int .i64 a0_0, .int .i64 a0_1]]) hv)) (by kernel_rfl) rfl ((ev a0_0.val a0_1.val).trans (cond_out g102 rfl (cond_out g102 rfl rfl))) w
  · cases h
/-- outrigger/scale.Round -/
def f71 (a0_0 : Int) (a0_1 : Int) : Int × Bool := bif !(f100 a0_0 a0_1 (f101 2147483648).fst (f101 2147483648).snd).snd.snd then ((288230376151711744, true)) else (((f102 ((f122 (f100 a0_0 a0_1 (f101 2147483648).fst (f101 2147483648).snd).fst (f100 a0_0 a0_1 (f101 2147483648).fst (f101 2147483648).snd).snd.fst).fst.fdiv (2 ^ 32)) (bitsv BinOp.and IntKind.i64 (bitsv BinOp.or IntKind.i64 (IntKind.i64.wrap ((f122 (f100 a0_0 a0_1 (f101 2147483648).fst (f101 2147483648).snd).fst (f100 a0_0 a0_1 (f101 2147483648).fst (f101 2147483648).snd).snd.fst).fst * 2 ^ 30)) ((f122 (f100 a0_0 a0_1 (f101 2147483648).fst (f101 2147483648).snd).fst (f100 a0_0 a0_1 (f101 2147483648).fst (f101 2147483648).snd).snd.fst).snd.fdiv (2 ^ 32))) 4611686018427387903)).fst, !(f102 ((f122 (f100 a0_0 a0_1 (f101 2147483648).fst (f101 2147483648).snd).fst (f100 a0_0 a0_1 (f101 2147483648).fst (f101 2147483648).snd).snd.fst).fst.fdiv (2 ^ 32)) (bitsv BinOp.and IntKind.i64 (bitsv BinOp.or IntKind.i64 (IntKind.i64.wrap ((f122 (f100 a0_0 a0_1 (f101 2147483648).fst (f101 2147483648).snd).fst (f100 a0_0 a0_1 (f101 2147483648).fst (f101 2147483648).snd).snd.fst).fst * 2 ^ 30)) ((f122 (f100 a0_0 a0_1 (f101 2147483648).fst (f101 2147483648).snd).fst (f100 a0_0 a0_1 (f101 2147483648).fst (f101 2147483648).snd).snd.fst).snd.fdiv (2 ^ 32))) 4611686018427387903)).snd || !f104 a0_0 a0_1))
def g71 (p : Int × Bool) : SV := .tuple [.int .i64 (.sym p.1), .bool (.sym p.2)]
def S71 : Summ
  | [.v (.agg [.int .i64 a0_0, .int .i64 a0_1])] => some (g71 (f71 a0_0.val a0_1.val))
  | _ => none
theorem S71_ok : SummFn Go.Proofs.Try.prog 71 S71 := by
  have ev : ∀ (a0_0 : Int) (a0_1 : Int), (symCall ⟨Go.Proofs.Try.prog, [(29, S29), (100, S100), (101, S101), (102, S102), (104, S104), (57, S57), (122, S122)], 3, 130, false, [], [], []⟩ 30 71 [.agg [.int .i64 (.sym a0_0), .int .i64 (.sym a0_1)]] []).out = (bif !(f100 a0_0 a0_1 (f101 2147483648).fst (f101 2147483648).snd).snd.snd then ((g71 (288230376151711744, true)).toV) else ((g71 ((f102 ((f122 (f100 a0_0 a0_1 (f101 2147483648).fst (f101 2147483648).snd).fst (f100 a0_0 a0_1 (f101 2147483648).fst (f101 2147483648).snd).snd.fst).fst.fdiv (2 ^ 32)) (bitsv BinOp.and IntKind.i64 (bitsv BinOp.or IntKind.i64 (IntKind.i64.wrap ((f122 (f100 a0_0 a0_1 (f101 2147483648).fst (f101 2147483648).snd).fst (f100 a0_0 a0_1 (f101 2147483648).fst (f101 2147483648).snd).snd.fst).fst * 2 ^ 30)) ((f122 (f100 a0_0 a0_1 (f101 2147483648).fst (f101 2147483648).snd).fst (f100 a0_0 a0_1 (f101 2147483648).fst (f101 2147483648).snd).snd.fst).snd.fdiv (2 ^ 32))) 4611686018427387903)).fst, !(f102 ((f122 (f100 a0_0 a0_1 (f101 2147483648).fst (f101 2147483648).snd).fst (f100 a0_0 a0_1 (f101 2147483648).fst (f101 2147483648).snd).snd.fst).fst.fdiv (2 ^ 32)) (bitsv BinOp.and IntKind.i64 (bitsv BinOp.or IntKind.i64 (IntKind.i64.wrap ((f122 (f100 a0_0 a0_1 (f101 2147483648).fst (f101 2147483648).snd).fst (f100 a0_0 a0_1 (f101 2147483648).fst (f101 2147483648).snd).snd.fst).fst * 2 ^ 30)) ((f122 (f100 a0_0 a0_1 (f101 2147483648).fst (f101 2147483648).snd).fst (f100 a0_0 a0_1 (f101 2147483648).fst (f101 2147483648).snd).snd.fst).snd.fdiv (2 ^ 32))) 4611686018427387903)).snd || !f104 a0_0 a0_1)).toV)) := by
    intro a0_0 a0_1
    kernel_rfl
  intro fs r h w vs hv
  unfold S71 at h
  split at h
  · rename_i a0_0 a0_1
    cases h
    exact sx_calls (envOk' (S := [(29, S29), (100, S100), (101, S101), (102, S102), (104, S104), (57, S57), (122, S122)]) ⟨S29_ok, S100_ok, S101_ok, S102_ok, S104_ok, S57_ok, S122_ok, trivial⟩) 30 71 [.agg [.int .i64 (.sym a0_0.val), .int .i64 (.sym a0_1.val)]] vs (symifyL_rel _ _ (SArels_v (xs := [.agg [.int .i64 a0_0, .int .i64 a0_1]]) hv)) (by kernel_rfl) rfl ((ev a0_0.val a0_1.val).trans (cond_out g71 rfl rfl)) w
  · cases h
/-- outrigger/fix.known -/
def f91 (a0 : Int) : Int := f57 a0 (-288230376151711744) 288230376151711744
def g91 (p : Int) : SV := .int .i64 (.sym p)
def S91 : Summ
  | [.v (.int .i64 a0)] => some (g91 (f91 a0.val))
  | _ => none
theorem S91_ok : SummFn Go.Proofs.Try.prog 91 S91 := by
  have ev : ∀ (a0 : Int), (symCall ⟨Go.Proofs.Try.prog, [(57, S57)], 3, 130, false, [], [], []⟩ 30 91 [.int .i64 (.sym a0)] []).out = ((g91 (f57 a0 (-288230376151711744) 288230376151711744)).toV) := by
    intro a0
    kernel_rfl
  intro fs r h w vs hv
  unfold S91 at h
  split at h
  · rename_i a0
    cases h
    exact sx_calls (envOk' (S := [(57, S57)]) ⟨S57_ok, trivial⟩) 30 91 [.int .i64 (.sym a0.val)] vs (symifyL_rel _ _ (SArels_v (xs := [.int .i64 a0]) hv)) (by kernel_rfl) rfl ((ev a0.val).trans rfl) w
  · cases h
/-- outrigger/fix.Abs -/
def f84 (a0 : Int) : Int := mxI (f91 a0) (IntKind.i64.wrap (0 - f91 a0))
def g84 (p : Int) : SV := .int .i64 (.sym p)
def S84 : Summ
  | [.v (.int .i64 a0)] => some (g84 (f84 a0.val))
  | _ => none
theorem S84_ok : SummFn Go.Proofs.Try.prog 84 S84 := by
  have ev : ∀ (a0 : Int), (symCall ⟨Go.Proofs.Try.prog, [(91, S91), (57, S57)], 3, 130, false, [], [], []⟩ 30 84 [.int .i64 (.sym a0)] []).out = ((g84 (mxI (f91 a0) (IntKind.i64.wrap (0 - f91 a0)))).toV) := by
    intro a0
    kernel_rfl
  intro fs r h w vs hv
  unfold S84 at h
  split at h
  · rename_i a0
    cases h
    exact sx_calls (envOk' (S := [(91, S91), (57, S57)]) ⟨S91_ok, S57_ok, trivial⟩) 30 84 [.int .i64 (.sym a0.val)] vs (symifyL_rel _ _ (SArels_v (xs := [.int .i64 a0]) hv)) (by kernel_rfl) rfl ((ev a0.val).trans rfl) w
  · cases h
/-- math/bits.Mul64 -/
def f119 (a0 : Int) (a1 : Int) : Int × Int := (IntKind.u64.wrap (IntKind.u64.wrap (IntKind.u64.wrap (a0.fdiv (2 ^ 32) * a1.fdiv (2 ^ 32)) + (IntKind.u64.wrap (IntKind.u64.wrap (a0.fdiv (2 ^ 32) * bitsv BinOp.and IntKind.u64 a1 4294967295) + (IntKind.u64.wrap (bitsv BinOp.and IntKind.u64 a0 4294967295 * bitsv BinOp.and IntKind.u64 a1 4294967295)).fdiv (2 ^ 32))).fdiv (2 ^ 32)) + (IntKind.u64.wrap (bitsv BinOp.and IntKind.u64 (IntKind.u64.wrap (IntKind.u64.wrap (a0.fdiv (2 ^ 32) * bitsv BinOp.and IntKind.u64 a1 4294967295) + (IntKind.u64.wrap (bitsv BinOp.and IntKind.u64 a0 4294967295 * bitsv BinOp.and IntKind.u64 a1 4294967295)).fdiv (2 ^ 32))) 4294967295 + IntKind.u64.wrap (bitsv BinOp.and IntKind.u64 a0 4294967295 * a1.fdiv (2 ^ 32)))).fdiv (2 ^ 32)), IntKind.u64.wrap (a0 * a1))
def g119 (p : Int × Int) : SV := .tuple [.int .u64 (.sym p.1), .int .u64 (.sym p.2)]
def S119 : Summ
  | [.v (.int .u64 a0), .v (.int .u64 a1)] => some (g119 (f119 a0.val a1.val))
  | _ => none
theorem S119_ok : SummFn Go.Proofs.Try.prog 119 S119 := by
  have ev : ∀ (a0 : Int) (a1 : Int), (symCall ⟨Go.Proofs.Try.prog, [], 3, 130, false, [], [], []⟩ 30 119 [.int .u64 (.sym a0), .int .u64 (.sym a1)] []).out = ((g119 (IntKind.u64.wrap (IntKind.u64.wrap (IntKind.u64.wrap (a0.fdiv (2 ^ 32) * a1.fdiv (2 ^ 32)) + (IntKind.u64.wrap (IntKind.u64.wrap (a0.fdiv (2 ^ 32) * bitsv BinOp.and IntKind.u64 a1 4294967295) + (IntKind.u64.wrap (bitsv BinOp.and IntKind.u64 a0 4294967295 * bitsv BinOp.and IntKind.u64 a1 4294967295)).fdiv (2 ^ 32))).fdiv (2 ^ 32)) + (IntKind.u64.wrap (bitsv BinOp.and IntKind.u64 (IntKind.u64.wrap (IntKind.u64.wrap (a0.fdiv (2 ^ 32) * bitsv BinOp.and IntKind.u64 a1 4294967295) + (IntKind.u64.wrap (bitsv BinOp.and IntKind.u64 a0 4294967295 * bitsv BinOp.and IntKind.u64 a1 4294967295)).fdiv (2 ^ 32))) 4294967295 + IntKind.u64.wrap (bitsv BinOp.and IntKind.u64 a0 4294967295 * a1.fdiv (2 ^ 32)))).fdiv (2 ^ 32)), IntKind.u64.wrap (a0 * a1))).toV) := by
    intro a0 a1
    kernel_rfl
  intro fs r h w vs hv
  unfold S119 at h
  split at h
  · rename_i a0 a1
    cases h
    exact sx_calls (envOk' (S := []) trivial) 30 119 [.int .u64 (.sym a0.val), .int .u64 (.sym a1.val)] vs (symifyL_rel _ _ (SArels_v (xs := [.int .u64 a0, .int .u64 a1]) hv)) (by kernel_rfl) rfl ((ev a0.val a1.val).trans rfl) w
  · cases h
/-- outrigger/wide.neg -/
def f120 (a0_0 : Int) (a0_1 : Int) : Int × Int := bif a0_1 == 0 then ((IntKind.i64.wrap (0 - a0_0), 0)) else ((bitsv BinOp.xor IntKind.i64 (-1) a0_0, IntKind.i64.wrap (4611686018427387904 - a0_1)))
def g120 (p : Int × Int) : SV := .agg [.int .i64 (.sym p.1), .int .i64 (.sym p.2)]
def S120 : Summ
  | [.v (.agg [.int .i64 a0_0, .int .i64 a0_1])] => some (g120 (f120 a0_0.val a0_1.val))
  | _ => none
theorem S120_ok : SummFn Go.Proofs.Try.prog 120 S120 := by
  have ev : ∀ (a0_0 : Int) (a0_1 : Int), (symCall ⟨Go.Proofs.Try.prog, [], 3, 130, false, [], [], []⟩ 30 120 [.agg [.int .i64 (.sym a0_0), .int .i64 (.sym a0_1)]] []).out = (bif a0_1 == 0 then ((g120 (IntKind.i64.wrap (0 - a0_0), 0)).toV) else ((g120 (bitsv BinOp.xor IntKind.i64 (-1) a0_0, IntKind.i64.wrap (4611686018427387904 - a0_1))).toV)) := by
    intro a0_0 a0_1
    kernel_rfl
  intro fs r h w vs hv
  unfold S120 at h
  split at h
  · rename_i a0_0 a0_1
    cases h
    exact sx_calls (envOk' (S := []) trivial) 30 120 [.agg [.int .i64 (.sym a0_0.val), .int .i64 (.sym a0_1.val)]] vs (symifyL_rel _ _ (SArels_v (xs := [.agg [.int .i64 a0_0, .int .i64 a0_1]]) hv)) (by kernel_rfl) rfl ((ev a0_0.val a0_1.val).trans (cond_out g120 rfl rfl)) w
  · cases h
/-- outrigger/wide.Mul -/
def f89 (a0 : Int) (a1 : Int) : Int × Int := bif !decide (a0 < 0) == decide (a1 < 0) then (((f120 (IntKind.i64.wrap (bitsv BinOp.or IntKind.u64 (IntKind.u64.wrap ((f119 (IntKind.u64.wrap (f84 a0)) (IntKind.u64.wrap (f84 a1))).fst * 2 ^ 2)) ((f119 (IntKind.u64.wrap (f84 a0)) (IntKind.u64.wrap (f84 a1))).snd.fdiv (2 ^ 62)))) (IntKind.i64.wrap (bitsv BinOp.and IntKind.u64 (f119 (IntKind.u64.wrap (f84 a0)) (IntKind.u64.wrap (f84 a1))).snd 4611686018427387903))).fst, (f120 (IntKind.i64.wrap (bitsv BinOp.or IntKind.u64 (IntKind.u64.wrap ((f119 (IntKind.u64.wrap (f84 a0)) (IntKind.u64.wrap (f84 a1))).fst * 2 ^ 2)) ((f119 (IntKind.u64.wrap (f84 a0)) (IntKind.u64.wrap (f84 a1))).snd.fdiv (2 ^ 62)))) (IntKind.i64.wrap (bitsv BinOp.and IntKind.u64 (f119 (IntKind.u64.wrap (f84 a0)) (IntKind.u64.wrap (f84 a1))).snd 4611686018427387903))).snd)) else ((IntKind.i64.wrap (bitsv BinOp.or IntKind.u64 (IntKind.u64.wrap ((f119 (IntKind.u64.wrap (f84 a0)) (IntKind.u64.wrap (f84 a1))).fst * 2 ^ 2)) ((f119 (IntKind.u64.wrap (f84 a0)) (IntKind.u64.wrap (f84 a1))).snd.fdiv (2 ^ 62))), IntKind.i64.wrap (bitsv BinOp.and IntKind.u64 (f119 (IntKind.u64.wrap (f84 a0)) (IntKind.u64.wrap (f84 a1))).snd 4611686018427387903)))
def g89 (p : Int × Int) : SV := .agg [.int .i64 (.sym p.1), .int .i64 (.sym p.2)]
def S89 : Summ
  | [.v (.int .i64 a0), .v (.int .i64 a1)] => some (g89 (f89 a0.val a1.val))
  | _ => none
theorem S89_ok : SummFn Go.Proofs.Try.prog 89 S89 := by
  have ev : ∀ (a0 : Int) (a1 : Int), (symCall ⟨Go.Proofs.Try.prog, [(84, S84), (91, S91), (57, S57), (119, S119), (120, S120)], 3, 130, false, [], [], []⟩ 30 89 [.int .i64 (.sym a0), .int .i64 (.sym a1)] []).out = (bif !decide (a0 < 0) == decide (a1 < 0) then ((g89 ((f120 (IntKind.i64.wrap (bitsv BinOp.or IntKind.u64 (IntKind.u64.wrap ((f119 (IntKind.u64.wrap (f84 a0)) (IntKind.u64.wrap (f84 a1))).fst * 2 ^ 2)) ((f119 (IntKind.u64.wrap (f84 a0)) (IntKind.u64.wrap (f84 a1))).snd.fdiv (2 ^ 62)))) (IntKind.i64.wrap (bitsv BinOp.and IntKind.u64 (f119 (IntKind.u64.wrap (f84 a0)) (IntKind.u64.wrap (f84 a1))).snd 4611686018427387903))).fst, (f120 (IntKind.i64.wrap (bitsv BinOp.or IntKind.u64 (IntKind.u64.wrap ((f119 (IntKind.u64.wrap (f84 a0)) (IntKind.u64.wrap (f84 a1))).fst * 2 ^ 2)) ((f119 (IntKind.u64.wrap (f84 a0)) (IntKind.u64.wrap (f84 a1))).snd.fdiv (2 ^ 62)))) (IntKind.i64.wrap (bitsv BinOp.and IntKind.u64 (f119 (IntKind.u64.wrap (f84 a0)) (IntKind.u64.wrap (f84 a1))).snd 4611686018427387903))).snd)).toV) else ((g89 (IntKind.i64.wrap (bitsv BinOp.or IntKind.u64 (IntKind.u64.wrap ((f119 (IntKind.u64.wrap (f84 a0)) (IntKind.u64.wrap (f84 a1))).fst * 2 ^ 2)) ((f119 (IntKind.u64.wrap (f84 a0)) (IntKind.u64.wrap (f84 a1))).snd.fdiv (2 ^ 62))), IntKind.i64.wrap (bitsv BinOp.and IntKind.u64 (f119 (IntKind.u64.wrap (f84 a0)) (IntKind.u64.wrap (f84 a1))).snd 4611686018427387903))).toV)) := by
    intro a0 a1
    kernel_rfl
  intro fs r h w vs hv
  unfold S89 at h
  split at h
  · rename_i a0 a1
    cases h
    exact sx_calls (envOk' (S := [(84, S84), (91, S91), (57, S57), (119, S119), (120, S120)]) ⟨S84_ok, S91_ok, S57_ok, S119_ok, S120_ok, trivial⟩) 30 89 [.int .i64 (.sym a0.val), .int .i64 (.sym a1.val)] vs (symifyL_rel _ _ (SArels_v (xs := [.int .i64 a0, .int .i64 a1]) hv)) (by kernel_rfl) rfl ((ev a0.val a1.val).trans (cond_out g89 rfl rfl)) w
  · cases h
/-- outrigger/scale.Times -/
def f53 (a0 : Int) (a1 : Int) : Int × Bool := bif (f71 (f89 a0 a1).fst (f89 a0 a1).snd).snd then (((f71 (f89 a0 a1).fst (f89 a0 a1).snd).fst, true)) else (((f71 (f89 a0 a1).fst (f89 a0 a1).snd).fst, f83 [a0, a1]))
def g53 (p : Int × Bool) : SV := .tuple [.int .i64 (.sym p.1), .bool (.sym p.2)]
def S53 : Summ
  | [.v (.int .i64 a0), .v (.int .i64 a1)] => some (g53 (f53 a0.val a1.val))
  | _ => none
theorem S53_ok : SummFn Go.Proofs.Try.prog 53 S53 := by
  have ev : ∀ (a0 : Int) (a1 : Int), (symCall ⟨Go.Proofs.Try.prog, [(71, S71), (84, S84), (29, S29), (89, S89), (100, S100), (101, S101), (102, S102), (104, S104), (83, S83), (91, S91), (57, S57), (119, S119), (120, S120), (122, S122)], 3, 130, false, [], [], []⟩ 30 53 [.int .i64 (.sym a0), .int .i64 (.sym a1)] []).out = (bif (f71 (f89 a0 a1).fst (f89 a0 a1).snd).snd then ((g53 ((f71 (f89 a0 a1).fst (f89 a0 a1).snd).fst, true)).toV) else ((g53 ((f71 (f89 a0 a1).fst (f89 a0 a1).snd).fst, f83 [a0, a1])).toV)) := by
    intro a0 a1
    kernel_rfl
  intro fs r h w vs hv
  unfold S53 at h
  split at h
  · rename_i a0 a1
    cases h
    exact sx_calls (envOk' (S := [(71, S71), (84, S84), (29, S29), (89, S89), (100, S100), (101, S101), (102, S102), (104, S104), (83, S83), (91, S91), (57, S57), (119, S119), (120, S120), (122, S122)]) ⟨S71_ok, S84_ok, S29_ok, S89_ok, S100_ok, S101_ok, S102_ok, S104_ok, S83_ok, S91_ok, S57_ok, S119_ok, S120_ok, S122_ok, trivial⟩) 30 53 [.int .i64 (.sym a0.val), .int .i64 (.sym a1.val)] vs (symifyL_rel _ _ (SArels_v (xs := [.int .i64 a0, .int .i64 a1]) hv)) (by kernel_rfl) rfl ((ev a0.val a1.val).trans (cond_out g53 rfl rfl)) w
  · cases h
/-- outrigger/scale.Over -/
def f51 (a0 : Int) (a1 : Int) : Int × Bool := bif !decide (a0 < 0) == decide (a1 < 0) then (bif IntKind.u64.wrap (f84 a0) == 0 then ((0, f83 [a0, a1] || IntKind.u64.wrap (f84 a1) == 0)) else (bif IntKind.u64.wrap (f84 a1) == 0 && decide (a0 < 0) then ((-288230376151711744, true)) else (bif IntKind.u64.wrap (f84 a1) == 0 then ((288230376151711744, true)) else (bif (f85 (IntKind.u64.wrap (f84 a0)) (IntKind.u64.wrap (f84 a1))).snd.snd then ((-288230376151711744, true)) else (bif decide (IntKind.u64.wrap (2 * (f85 (IntKind.u64.wrap (f84 a0)) (IntKind.u64.wrap (f84 a1))).snd.fst) > IntKind.u64.wrap (f84 a1)) || IntKind.u64.wrap (2 * (f85 (IntKind.u64.wrap (f84 a0)) (IntKind.u64.wrap (f84 a1))).snd.fst) == IntKind.u64.wrap (f84 a1) && !!decide (a0 < 0) == decide (a1 < 0) then (bif !decide (a0 < 0) == decide (a1 < 0) then (((f29 (IntKind.i64.wrap (0 - IntKind.i64.wrap (IntKind.u64.wrap ((f85 (IntKind.u64.wrap (f84 a0)) (IntKind.u64.wrap (f84 a1))).fst + 1))))).fst, f83 [a0, a1] || (f29 (IntKind.i64.wrap (0 - IntKind.i64.wrap (IntKind.u64.wrap ((f85 (IntKind.u64.wrap (f84 a0)) (IntKind.u64.wrap (f84 a1))).fst + 1))))).snd)) else (((f29 (IntKind.i64.wrap (IntKind.u64.wrap ((f85 (IntKind.u64.wrap (f84 a0)) (IntKind.u64.wrap (f84 a1))).fst + 1)))).fst, f83 [a0, a1] || (f29 (IntKind.i64.wrap (IntKind.u64.wrap ((f85 (IntKind.u64.wrap (f84 a0)) (IntKind.u64.wrap (f84 a1))).fst + 1)))).snd))) else (bif !decide (a0 < 0) == decide (a1 < 0) then (((f29 (IntKind.i64.wrap (0 - IntKind.i64.wrap (f85 (IntKind.u64.wrap (f84 a0)) (IntKind.u64.wrap (f84 a1))).fst))).fst, f83 [a0, a1] || (f29 (IntKind.i64.wrap (0 - IntKind.i64.wrap (f85 (IntKind.u64.wrap (f84 a0)) (IntKind.u64.wrap (f84 a1))).fst))).snd)) else (((f29 (IntKind.i64.wrap (f85 (IntKind.u64.wrap (f84 a0)) (IntKind.u64.wrap (f84 a1))).fst)).fst, f83 [a0, a1] || (f29 (IntKind.i64.wrap (f85 (IntKind.u64.wrap (f84 a0)) (IntKind.u64.wrap (f84 a1))).fst)).snd)))))))) else (bif IntKind.u64.wrap (f84 a0) == 0 then ((0, f83 [a0, a1] || IntKind.u64.wrap (f84 a1) == 0)) else (bif IntKind.u64.wrap (f84 a1) == 0 && decide (a0 < 0) then ((-288230376151711744, true)) else (bif IntKind.u64.wrap (f84 a1) == 0 then ((288230376151711744, true)) else (bif (f85 (IntKind.u64.wrap (f84 a0)) (IntKind.u64.wrap (f84 a1))).snd.snd then ((288230376151711744, true)) else (bif decide (IntKind.u64.wrap (2 * (f85 (IntKind.u64.wrap (f84 a0)) (IntKind.u64.wrap (f84 a1))).snd.fst) > IntKind.u64.wrap (f84 a1)) || IntKind.u64.wrap (2 * (f85 (IntKind.u64.wrap (f84 a0)) (IntKind.u64.wrap (f84 a1))).snd.fst) == IntKind.u64.wrap (f84 a1) && !!decide (a0 < 0) == decide (a1 < 0) then (bif !decide (a0 < 0) == decide (a1 < 0) then (((f29 (IntKind.i64.wrap (0 - IntKind.i64.wrap (IntKind.u64.wrap ((f85 (IntKind.u64.wrap (f84 a0)) (IntKind.u64.wrap (f84 a1))).fst + 1))))).fst, f83 [a0, a1] || (f29 (IntKind.i64.wrap (0 - IntKind.i64.wrap (IntKind.u64.wrap ((f85 (IntKind.u64.wrap (f84 a0)) (IntKind.u64.wrap (f84 a1))).fst + 1))))).snd)) else (((f29 (IntKind.i64.wrap (IntKind.u64.wrap ((f85 (IntKind.u64.wrap (f84 a0)) (IntKind.u64.wrap (f84 a1))).fst + 1)))).fst, f83 [a0, a1] || (f29 (IntKind.i64.wrap (IntKind.u64.wrap ((f85 (IntKind.u64.wrap (f84 a0)) (IntKind.u64.wrap (f84 a1))).fst + 1)))).snd))) else (bif !decide (a0 < 0) == decide (a1 < 0) then (((f29 (IntKind.i64.wrap (0 - IntKind.i64.wrap (f85 (IntKind.u64.wrap (f84 a0)) (IntKind.u64.wrap (f84 a1))).fst))).fst, f83 [a0, a1] || (f29 (IntKind.i64.wrap (0 - IntKind.i64.wrap (f85 (IntKind.u64.wrap (f84 a0)) (IntKind.u64.wrap (f84 a1))).fst))).snd)) else (((f29 (IntKind.i64.wrap (f85 (IntKind.u64.wrap (f84 a0)) (IntKind.u64.wrap (f84 a1))).fst)).fst, f83 [a0, a1] || (f29 (IntKind.i64.wrap (f85 (IntKind.u64.wrap (f84 a0)) (IntKind.u64.wrap (f84 a1))).fst)).snd))))))))
def g51 (p : Int × Bool) : SV := .tuple [.int .i64 (.sym p.1), .bool (.sym p.2)]
def S51 : Summ
  | [.v (.int .i64 a0), .v (.int .i64 a1)] => some (g51 (f51 a0.val a1.val))
  | _ => none
theorem S51_ok : SummFn Go.Proofs.Try.prog 51 S51 := by
  have ev : ∀ (a0 : Int) (a1 : Int), (symCall ⟨Go.Proofs.Try.prog, [(84, S84), (29, S29), (83, S83), (85, S85), (91, S91), (57, S57)], 3, 130, false, [], [], []⟩ 30 51 [.int .i64 (.sym a0), .int .i64 (.sym a1)] []).out = (bif !decide (a0 < 0) == decide (a1 < 0) then (bif IntKind.u64.wrap (f84 a0) == 0 then ((g51 (0, f83 [a0, a1] || IntKind.u64.wrap (f84 a1) == 0)).toV) else (bif IntKind.u64.wrap (f84 a1) == 0 && decide (a0 < 0) then ((g51 (-288230376151711744, true)).toV) else (bif IntKind.u64.wrap (f84 a1) == 0 then ((g51 (288230376151711744, true)).toV) else (bif (f85 (IntKind.u64.wrap (f84 a0)) (IntKind.u64.wrap (f84 a1))).snd.snd then ((g51 (-288230376151711744, true)).toV) else (bif decide (IntKind.u64.wrap (2 * (f85 (IntKind.u64.wrap (f84 a0)) (IntKind.u64.wrap (f84 a1))).snd.fst) > IntKind.u64.wrap (f84 a1)) || IntKind.u64.wrap (2 * (f85 (IntKind.u64.wrap (f84 a0)) (IntKind.u64.wrap (f84 a1))).snd.fst) == IntKind.u64.wrap (f84 a1) && !!decide (a0 < 0) == decide (a1 < 0) then (bif !decide (a0 < 0) == decide (a1 < 0) then ((g51 ((f29 (IntKind.i64.wrap (0 - IntKind.i64.wrap (IntKind.u64.wrap ((f85 (IntKind.u64.wrap (f84 a0)) (IntKind.u64.wrap (f84 a1))).fst + 1))))).fst, f83 [a0, a1] || (f29 (IntKind.i64.wrap (0 - IntKind.i64.wrap (IntKind.u64.wrap ((f85 (IntKind.u64.wrap (f84 a0)) (IntKind.u64.wrap (f84 a1))).fst + 1))))).snd)).toV) else ((g51 ((f29 (IntKind.i64.wrap (IntKind.u64.wrap ((f85 (IntKind.u64.wrap (f84 a0)) (IntKind.u64.wrap (f84 a1))).fst + 1)))).fst, f83 [a0, a1] || (f29 (IntKind.i64.wrap (IntKind.u64.wrap ((f85 (IntKind.u64.wrap (f84 a0)) (IntKind.u64.wrap (f84 a1))).fst + 1)))).snd)).toV)) else (bif !decide (a0 < 0) == decide (a1 < 0) then ((g51 ((f29 (IntKind.i64.wrap (0 - IntKind.i64.wrap (f85 (IntKind.u64.wrap (f84 a0)) (IntKind.u64.wrap (f84 a1))).fst))).fst, f83 [a0, a1] || (f29 (IntKind.i64.wrap (0 - IntKind.i64.wrap (f85 (IntKind.u64.wrap (f84 a0)) (IntKind.u64.wrap (f84 a1))).fst))).snd)).toV) else ((g51 ((f29 (IntKind.i64.wrap (f85 (IntKind.u64.wrap (f84 a0)) (IntKind.u64.wrap (f84 a1))).fst)).fst, f83 [a0, a1] || (f29 (IntKind.i64.wrap (f85 (IntKind.u64.wrap (f84 a0)) (IntKind.u64.wrap (f84 a1))).fst)).snd)).toV))))))) else (bif IntKind.u64.wrap (f84 a0) == 0 then ((g51 (0, f83 [a0, a1] || IntKind.u64.wrap (f84 a1) == 0)).toV) else (bif IntKind.u64.wrap (f84 a1) == 0 && decide (a0 < 0) then ((g51 (-288230376151711744, true)).toV) else (bif IntKind.u64.wrap (f84 a1) == 0 then ((g51 (288230376151711744, true)).toV) else (bif (f85 (IntKind.u64.wrap (f84 a0)) (IntKind.u64.wrap (f84 a1))).snd.snd then ((g51 (288230376151711744, true)).toV) else (bif decide (IntKind.u64.wrap (2 * (f85 (IntKind.u64.wrap (f84 a0)) (IntKind.u64.wrap (f84 a1))).snd.fst) > IntKind.u64.wrap (f84 a1)) || IntKind.u64.wrap (2 * (f85 (IntKind.u64.wrap (f84 a0)) (IntKind.u64.wrap (f84 a1))).snd.fst) == IntKind.u64.wrap (f84 a1) && !!decide (a0 < 0) == decide (a1 < 0) then (bif !decide (a0 < 0) == decide (a1 < 0) then ((g51 ((f29 (IntKind.i64.wrap (0 - IntKind.i64.wrap (IntKind.u64.wrap ((f85 (IntKind.u64.wrap (f84 a0)) (IntKind.u64.wrap (f84 a1))).fst + 1))))).fst, f83 [a0, a1] || (f29 (IntKind.i64.wrap (0 - IntKind.i64.wrap (IntKind.u64.wrap ((f85 (IntKind.u64.wrap (f84 a0)) (IntKind.u64.wrap (f84 a1))).fst + 1))))).snd)).toV) else ((g51 ((f29 (IntKind.i64.wrap (IntKind.u64.wrap ((f85 (IntKind.u64.wrap (f84 a0)) (IntKind.u64.wrap (f84 a1))).fst + 1)))).fst, f83 [a0, a1] || (f29 (IntKind.i64.wrap (IntKind.u64.wrap ((f85 (IntKind.u64.wrap (f84 a0)) (IntKind.u64.wrap (f84 a1))).fst + 1)))).snd)).toV)) else (bif !decide (a0 < 0) == decide (a1 < 0) then ((g51 ((f29 (IntKind.i64.wrap (0 - IntKind.i64.wrap (f85 (IntKind.u64.wrap (f84 a0)) (IntKind.u64.wrap (f84 a1))).fst))).fst, f83 [a0, a1] || (f29 (IntKind.i64.wrap (0 - IntKind.i64.wrap (f85 (IntKind.u64.wrap (f84 a0)) (IntKind.u64.wrap (f84 a1))).fst))).snd)).toV) else ((g51 ((f29 (IntKind.i64.wrap (f85 (IntKind.u64.wrap (f84 a0)) (IntKind.u64.wrap (f84 a1))).fst)).fst, f83 [a0, a1] || (f29 (IntKind.i64.wrap (f85 (IntKind.u64.wrap (f84 a0)) (IntKind.u64.wrap (f84 a1))).fst)).snd)).toV)))))))) := by
    intro a0 a1
    kernel_rfl
  intro fs r h w vs hv
  unfold S51 at h
  split at h
  · rename_i a0 a1
    cases h
    exact sx_calls (envOk' (S := [(84, S84), (29, S29), (83, S83), (85, S85), (91, S91), (57, S57)]) ⟨S84_ok, S29_ok, S83_ok, S85_ok, S91_ok, S57_ok, trivial⟩) 30 51 [.int .i64 (.sym a0.val), .int .i64 (.sym a1.val)] vs (symifyL_rel _ _ (SArels_v (xs := [.int .i64 a0, .int .i64 a1]) hv)) (by kernel_rfl) rfl ((ev a0.val a1.val).trans (cond_out g51 (cond_out g51 rfl (cond_out g51 rfl (cond_out g51 rfl (cond_out g51 rfl (cond_out g51 (cond_out g51 rfl rfl) (cond_out g51 rfl rfl)))))) (cond_out g51 rfl (cond_out g51 rfl (cond_out g51 rfl (cond_out g51 rfl (cond_out g51 (cond_out g51 rfl rfl) (cond_out g51 rfl rfl)))))))) w
  · cases h
/-- outrigger/fix.Sub -/
def f97 (a0 : Int) (a1 : Int) : Int × Bool := ((f29 (IntKind.i64.wrap (f91 a0 - f91 a1))).fst, (f29 (IntKind.i64.wrap (f91 a0 - f91 a1))).snd || f91 a0 != a0 || f91 a1 != a1)
def g97 (p : Int × Bool) : SV := .tuple [.int .i64 (.sym p.1), .bool (.sym p.2)]
def S97 : Summ
  | [.v (.int .i64 a0), .v (.int .i64 a1)] => some (g97 (f97 a0.val a1.val))
  | _ => none
theorem S97_ok : SummFn Go.Proofs.Try.prog 97 S97 := by
  have ev : ∀ (a0 : Int) (a1 : Int), (symCall ⟨Go.Proofs.Try.prog, [(29, S29), (91, S91), (57, S57)], 3, 130, false, [], [], []⟩ 30 97 [.int .i64 (.sym a0), .int .i64 (.sym a1)] []).out = ((g97 ((f29 (IntKind.i64.wrap (f91 a0 - f91 a1))).fst, (f29 (IntKind.i64.wrap (f91 a0 - f91 a1))).snd || f91 a0 != a0 || f91 a1 != a1)).toV) := by
    intro a0 a1
    kernel_rfl
  intro fs r h w vs hv
  unfold S97 at h
  split at h
  · rename_i a0 a1
    cases h
    exact sx_calls (envOk' (S := [(29, S29), (91, S91), (57, S57)]) ⟨S29_ok, S91_ok, S57_ok, trivial⟩) 30 97 [.int .i64 (.sym a0.val), .int .i64 (.sym a1.val)] vs (symifyL_rel _ _ (SArels_v (xs := [.int .i64 a0, .int .i64 a1]) hv)) (by kernel_rfl) rfl ((ev a0.val a1.val).trans rfl) w
  · cases h
/-- outrigger/outriggerref02.Sane -/
def f112 (a0_0 : Int) (a0_1 : Int) : Bool := decide (a0_1 ≥ 0) && decide (a0_1 < 4611686018427387904) && decide (a0_0 ≥ -2305843009213693952) && decide (a0_0 < 2305843009213693952)
def g112 (p : Bool) : SV := .bool (.sym p)
def S112 : Summ
  | [.v (.agg [.int .i64 a0_0, .int .i64 a0_1])] => some (g112 (f112 a0_0.val a0_1.val))
  | _ => none
theorem S112_ok : SummFn Go.Proofs.Try.prog 112 S112 := by
  have ev : ∀ (a0_0 : Int) (a0_1 : Int), (symCall ⟨Go.Proofs.Try.prog, [], 3, 130, false, [], [], []⟩ 30 112 [.agg [.int .i64 (.sym a0_0), .int .i64 (.sym a0_1)]] []).out = ((g112 (decide (a0_1 ≥ 0) && decide (a0_1 < 4611686018427387904) && decide (a0_0 ≥ -2305843009213693952) && decide (a0_0 < 2305843009213693952))).toV) := by
    intro a0_0 a0_1
    kernel_rfl
  intro fs r h w vs hv
  unfold S112 at h
  split at h
  · rename_i a0_0 a0_1
    cases h
    exact sx_calls (envOk' (S := []) trivial) 30 112 [.agg [.int .i64 (.sym a0_0.val), .int .i64 (.sym a0_1.val)]] vs (symifyL_rel _ _ (SArels_v (xs := [.agg [.int .i64 a0_0, .int .i64 a0_1]]) hv)) (by kernel_rfl) rfl ((ev a0_0.val a0_1.val).trans rfl) w
  · cases h
/-- outrigger/outriggerref02.As -/
def f114 (a0_0 : Int) (a0_1 : Int) : Int × Int := bif !f112 a0_0 a0_1 then ((0, 0)) else ((a0_0, a0_1))
def g114 (p : Int × Int) : SV := .agg [.int .i64 (.sym p.1), .int .i64 (.sym p.2)]
def S114 : Summ
  | [.v (.agg [.int .i64 a0_0, .int .i64 a0_1])] => some (g114 (f114 a0_0.val a0_1.val))
  | _ => none
theorem S114_ok : SummFn Go.Proofs.Try.prog 114 S114 := by
  have ev : ∀ (a0_0 : Int) (a0_1 : Int), (symCall ⟨Go.Proofs.Try.prog, [(112, S112)], 3, 130, false, [], [], []⟩ 30 114 [.agg [.int .i64 (.sym a0_0), .int .i64 (.sym a0_1)]] []).out = (bif !f112 a0_0 a0_1 then ((g114 (0, 0)).toV) else ((g114 (a0_0, a0_1)).toV)) := by
    intro a0_0 a0_1
    kernel_rfl
  intro fs r h w vs hv
  unfold S114 at h
  split at h
  · rename_i a0_0 a0_1
    cases h
    exact sx_calls (envOk' (S := [(112, S112)]) ⟨S112_ok, trivial⟩) 30 114 [.agg [.int .i64 (.sym a0_0.val), .int .i64 (.sym a0_1.val)]] vs (symifyL_rel _ _ (SArels_v (xs := [.agg [.int .i64 a0_0, .int .i64 a0_1]]) hv)) (by kernel_rfl) rfl ((ev a0_0.val a0_1.val).trans (cond_out g114 rfl rfl)) w
  · cases h
/-- outrigger/outriggerref02.Add -/
def f109 (a0_0 : Int) (a0_1 : Int) (a1_0 : Int) (a1_1 : Int) : Int × Int × Bool := bif decide (IntKind.i64.wrap ((f114 a0_0 a0_1).snd + (f114 a1_0 a1_1).snd) < 0) || decide (IntKind.i64.wrap ((f114 a0_0 a0_1).snd + (f114 a1_0 a1_1).snd) ≥ 4611686018427387904) then (bif !f112 (IntKind.i64.wrap (IntKind.i64.wrap ((f114 a0_0 a0_1).fst + (f114 a1_0 a1_1).fst) + 1)) (IntKind.i64.wrap (IntKind.i64.wrap ((f114 a0_0 a0_1).snd + (f114 a1_0 a1_1).snd) - 4611686018427387904)) then ((0, 0, false)) else ((IntKind.i64.wrap (IntKind.i64.wrap ((f114 a0_0 a0_1).fst + (f114 a1_0 a1_1).fst) + 1), IntKind.i64.wrap (IntKind.i64.wrap ((f114 a0_0 a0_1).snd + (f114 a1_0 a1_1).snd) - 4611686018427387904), true))) else (bif !f112 (IntKind.i64.wrap ((f114 a0_0 a0_1).fst + (f114 a1_0 a1_1).fst)) (IntKind.i64.wrap ((f114 a0_0 a0_1).snd + (f114 a1_0 a1_1).snd)) then ((0, 0, false)) else ((IntKind.i64.wrap ((f114 a0_0 a0_1).fst + (f114 a1_0 a1_1).fst), IntKind.i64.wrap ((f114 a0_0 a0_1).snd + (f114 a1_0 a1_1).snd), true)))
def g109 (p : Int × Int × Bool) : SV := .tuple [.agg [.int .i64 (.sym p.1), .int .i64 (.sym p.2.1)], .bool (.sym p.2.2)]
def S109 : Summ
  | [.v (.agg [.int .i64 a0_0, .int .i64 a0_1]), .v (.agg [.int .i64 a1_0, .int .i64 a1_1])] => some (g109 (f109 a0_0.val a0_1.val a1_0.val a1_1.val))
  | _ => none
theorem S109_ok : SummFn Go.Proofs.Try.prog 109 S109 := by
  have ev : ∀ (a0_0 : Int) (a0_1 : Int) (a1_0 : Int) (a1_1 : Int), (symCall ⟨Go.Proofs.Try.prog, [(112, S112), (114, S114)], 3, 130, false, [], [], []⟩ 30 109 [.agg [.int .i64 (.sym a0_0), .int .i64 (.sym a0_1)], .agg [.int .i64 (.sym a1_0), .int .i64 (.sym a1_1)]] []).out = (bif decide (IntKind.i64.wrap ((f114 a0_0 a0_1).snd + (f114 a1_0 a1_1).snd) < 0) || decide (IntKind.i64.wrap ((f114 a0_0 a0_1).snd + (f114 a1_0 a1_1).snd) ≥ 4611686018427387904) then (bif !f112 (IntKind.i64.wrap (IntKind.i64.wrap ((f114 a0_0 a0_1).fst + (f114 a1_0 a1_1).fst) + 1)) (IntKind.i64.wrap (IntKind.i64.wrap ((f114 a0_0 a0_1).snd + (f114 a1_0 a1_1).snd) - 4611686018427387904)) then ((g109 (0, 0, false)).toV) else ((g109 (IntKind.i64.wrap (IntKind.i64.wrap ((f114 a0_0 a0_1).fst + (f114 a1_0 a1_1).fst) + 1), IntKind.i64.wrap (IntKind.i64.wrap ((f114 a0_0 a0_1).snd + (f114 a1_0 a1_1).snd) - 4611686018427387904), true)).toV)) else (bif !f112 (IntKind.i64.wrap ((f114 a0_0 a0_1).fst + (f114 a1_0 a1_1).fst)) (IntKind.i64.wrap ((f114 a0_0 a0_1).snd + (f114 a1_0 a1_1).snd)) then ((g109 (0, 0, false)).toV) else ((g109 (IntKind.i64.wrap ((f114 a0_0 a0_1).fst + (f114 a1_0 a1_1).fst), IntKind.i64.wrap ((f114 a0_0 a0_1).snd + (f114 a1_0 a1_1).snd), true)).toV))) := by
    intro a0_0 a0_1 a1_0 a1_1
    kernel_rfl
  intro fs r h w vs hv
  unfold S109 at h
  split at h
  · rename_i a0_0 a0_1 a1_0 a1_1
    cases h
    exact sx_calls (envOk' (S := [(112, S112), (114, S114)]) ⟨S112_ok, S114_ok, trivial⟩) 30 109 [.agg [.int .i64 (.sym a0_0.val), .int .i64 (.sym a0_1.val)], .agg [.int .i64 (.sym a1_0.val), .int .i64 (.sym a1_1.val)]] vs (symifyL_rel _ _ (SArels_v (xs := [.agg [.int .i64 a0_0, .int .i64 a0_1], .agg [.int .i64 a1_0, .int .i64 a1_1]]) hv)) (by kernel_rfl) rfl ((ev a0_0.val a0_1.val a1_0.val a1_1.val).trans (cond_out g109 (cond_out g109 rfl rfl) (cond_out g109 rfl rfl))) w
  · cases h
/-- outrigger/outriggerref02.Int -/
def f110 (a0_0 : Int) (a0_1 : Int) : Int × Bool := bif (f114 a0_0 a0_1).fst == 0 && decide ((f114 a0_0 a0_1).snd ≤ 288230376151711744) then (((f114 a0_0 a0_1).snd, true)) else (bif (f114 a0_0 a0_1).fst == -1 && decide ((f114 a0_0 a0_1).snd ≥ 4323455642275676160) then ((IntKind.i64.wrap ((f114 a0_0 a0_1).snd - 4611686018427387904), true)) else (bif decide ((f114 a0_0 a0_1).fst < 0) then ((-288230376151711744, false)) else ((288230376151711744, false))))
def g110 (p : Int × Bool) : SV := .tuple [.int .i64 (.sym p.1), .bool (.sym p.2)]
def S110 : Summ
  | [.v (.agg [.int .i64 a0_0, .int .i64 a0_1])] => some (g110 (f110 a0_0.val a0_1.val))
  | _ => none
theorem S110_ok : SummFn Go.Proofs.Try.prog 110 S110 := by
  have ev : ∀ (a0_0 : Int) (a0_1 : Int), (symCall ⟨Go.Proofs.Try.prog, [(112, S112), (114, S114)], 3, 130, false, [], [], []⟩ 30 110 [.agg [.int .i64 (.sym a0_0), .int .i64 (.sym a0_1)]] []).out = (bif (f114 a0_0 a0_1).fst == 0 && decide ((f114 a0_0 a0_1).snd ≤ 288230376151711744) then ((g110 ((f114 a0_0 a0_1).snd, true)).toV) else (bif (f114 a0_0 a0_1).fst == -1 && decide ((f114 a0_0 a0_1).snd ≥ 4323455642275676160) then ((g110 (IntKind.i64.wrap ((f114 a0_0 a0_1).snd - 4611686018427387904), true)).toV) else (bif decide ((f114 a0_0 a0_1).fst < 0) then ((g110 (-288230376151711744, false)).toV) else ((g110 (288230376151711744, false)).toV)))) := by
    intro a0_0 a0_1
    kernel_rfl
  intro fs r h w vs hv
  unfold S110 at h
  split at h
  · rename_i a0_0 a0_1
    cases h
    exact sx_calls (envOk' (S := [(112, S112), (114, S114)]) ⟨S112_ok, S114_ok, trivial⟩) 30 110 [.agg [.int .i64 (.sym a0_0.val), .int .i64 (.sym a0_1.val)]] vs (symifyL_rel _ _ (SArels_v (xs := [.agg [.int .i64 a0_0, .int .i64 a0_1]]) hv)) (by kernel_rfl) rfl ((ev a0_0.val a0_1.val).trans (cond_out g110 rfl (cond_out g110 rfl (cond_out g110 rfl rfl)))) w
  · cases h
/-- outrigger/outriggerref01.Clamp -/
def f76 (a0 : Int) : Int × Bool := bif decide (a0 > 288230376151711744) then ((288230376151711744, true)) else (bif decide (a0 < -288230376151711744) then ((-288230376151711744, true)) else ((a0, false)))
def g76 (p : Int × Bool) : SV := .tuple [.int .i64 (.sym p.1), .bool (.sym p.2)]
def S76 : Summ
  | [.v (.int .i64 a0)] => some (g76 (f76 a0.val))
  | _ => none
theorem S76_ok : SummFn Go.Proofs.Try.prog 76 S76 := by
  have ev : ∀ (a0 : Int), (symCall ⟨Go.Proofs.Try.prog, [], 3, 130, false, [], [], []⟩ 30 76 [.int .i64 (.sym a0)] []).out = (bif decide (a0 > 288230376151711744) then ((g76 (288230376151711744, true)).toV) else (bif decide (a0 < -288230376151711744) then ((g76 (-288230376151711744, true)).toV) else ((g76 (a0, false)).toV))) := by
    intro a0
    kernel_rfl
  intro fs r h w vs hv
  unfold S76 at h
  split at h
  · rename_i a0
    cases h
    exact sx_calls (envOk' (S := []) trivial) 30 76 [.int .i64 (.sym a0.val)] vs (symifyL_rel _ _ (SArels_v (xs := [.int .i64 a0]) hv)) (by kernel_rfl) rfl ((ev a0.val).trans (cond_out g76 rfl (cond_out g76 rfl rfl))) w
  · cases h
/-- outrigger/outriggerref01.As -/
def f56 (a0 : Int) : Int := (f76 a0).fst
def g56 (p : Int) : SV := .int .i64 (.sym p)
def S56 : Summ
  | [.v (.int .i64 a0)] => some (g56 (f56 a0.val))
  | _ => none
theorem S56_ok : SummFn Go.Proofs.Try.prog 56 S56 := by
  have ev : ∀ (a0 : Int), (symCall ⟨Go.Proofs.Try.prog, [(76, S76)], 3, 130, false, [], [], []⟩ 30 56 [.int .i64 (.sym a0)] []).out = ((g56 ((f76 a0).fst)).toV) := by
    intro a0
    kernel_rfl
  intro fs r h w vs hv
  unfold S56 at h
  split at h
  · rename_i a0
    cases h
    exact sx_calls (envOk' (S := [(76, S76)]) ⟨S76_ok, trivial⟩) 30 56 [.int .i64 (.sym a0.val)] vs (symifyL_rel _ _ (SArels_v (xs := [.int .i64 a0]) hv)) (by kernel_rfl) rfl ((ev a0.val).trans rfl) w
  · cases h
/-- outrigger/outriggerref01.Abs -/
def f87 (a0 : Int) : Int := mxI (f56 a0) (IntKind.i64.wrap (0 - f56 a0))
def g87 (p : Int) : SV := .int .i64 (.sym p)
def S87 : Summ
  | [.v (.int .i64 a0)] => some (g87 (f87 a0.val))
  | _ => none
theorem S87_ok : SummFn Go.Proofs.Try.prog 87 S87 := by
  have ev : ∀ (a0 : Int), (symCall ⟨Go.Proofs.Try.prog, [(56, S56), (76, S76)], 3, 130, false, [], [], []⟩ 30 87 [.int .i64 (.sym a0)] []).out = ((g87 (mxI (f56 a0) (IntKind.i64.wrap (0 - f56 a0)))).toV) := by
    intro a0
    kernel_rfl
  intro fs r h w vs hv
  unfold S87 at h
  split at h
  · rename_i a0
    cases h
    exact sx_calls (envOk' (S := [(56, S56), (76, S76)]) ⟨S56_ok, S76_ok, trivial⟩) 30 87 [.int .i64 (.sym a0.val)] vs (symifyL_rel _ _ (SArels_v (xs := [.int .i64 a0]) hv)) (by kernel_rfl) rfl ((ev a0.val).trans rfl) w
  · cases h
/-- outrigger/outriggerref02.turn -/
def f121 (a0_0 : Int) (a0_1 : Int) : Int × Int := bif a0_1 == 0 then ((IntKind.i64.wrap (0 - a0_0), 0)) else ((IntKind.i64.wrap (IntKind.i64.wrap (0 - a0_0) - 1), IntKind.i64.wrap (4611686018427387904 - a0_1)))
def g121 (p : Int × Int) : SV := .agg [.int .i64 (.sym p.1), .int .i64 (.sym p.2)]
def S121 : Summ
  | [.v (.agg [.int .i64 a0_0, .int .i64 a0_1])] => some (g121 (f121 a0_0.val a0_1.val))
  | _ => none
theorem S121_ok : SummFn Go.Proofs.Try.prog 121 S121 := by
  have ev : ∀ (a0_0 : Int) (a0_1 : Int), (symCall ⟨Go.Proofs.Try.prog, [], 3, 130, false, [], [], []⟩ 30 121 [.agg [.int .i64 (.sym a0_0), .int .i64 (.sym a0_1)]] []).out = (bif a0_1 == 0 then ((g121 (IntKind.i64.wrap (0 - a0_0), 0)).toV) else ((g121 (IntKind.i64.wrap (IntKind.i64.wrap (0 - a0_0) - 1), IntKind.i64.wrap (4611686018427387904 - a0_1))).toV)) := by
    intro a0_0 a0_1
    kernel_rfl
  intro fs r h w vs hv
  unfold S121 at h
  split at h
  · rename_i a0_0 a0_1
    cases h
    exact sx_calls (envOk' (S := []) trivial) 30 121 [.agg [.int .i64 (.sym a0_0.val), .int .i64 (.sym a0_1.val)]] vs (symifyL_rel _ _ (SArels_v (xs := [.agg [.int .i64 a0_0, .int .i64 a0_1]]) hv)) (by kernel_rfl) rfl ((ev a0_0.val a0_1.val).trans (cond_out g121 rfl rfl)) w
  · cases h
/-- outrigger/outriggerref02.Mul -/
def f90 (a0 : Int) (a1 : Int) : Int × Int := bif decide (IntKind.i64.wrap (IntKind.i64.wrap ((f87 a0).tmod 2147483648 * (f87 a1).tmod 2147483648) + IntKind.i64.wrap ((IntKind.i64.wrap (IntKind.i64.wrap (IntKind.i64.wrap ((f87 a0).tdiv 2147483648) * (f87 a1).tmod 2147483648) + IntKind.i64.wrap ((f87 a0).tmod 2147483648 * IntKind.i64.wrap ((f87 a1).tdiv 2147483648)))).tmod 2147483648 * 2147483648)) ≥ 4611686018427387904) then (bif !decide (a0 < 0) == decide (a1 < 0) then (((f121 (IntKind.i64.wrap (IntKind.i64.wrap (IntKind.i64.wrap (IntKind.i64.wrap ((f87 a0).tdiv 2147483648) * IntKind.i64.wrap ((f87 a1).tdiv 2147483648)) + IntKind.i64.wrap ((IntKind.i64.wrap (IntKind.i64.wrap (IntKind.i64.wrap ((f87 a0).tdiv 2147483648) * (f87 a1).tmod 2147483648) + IntKind.i64.wrap ((f87 a0).tmod 2147483648 * IntKind.i64.wrap ((f87 a1).tdiv 2147483648)))).tdiv 2147483648)) + 1)) (IntKind.i64.wrap (IntKind.i64.wrap (IntKind.i64.wrap ((f87 a0).tmod 2147483648 * (f87 a1).tmod 2147483648) + IntKind.i64.wrap ((IntKind.i64.wrap (IntKind.i64.wrap (IntKind.i64.wrap ((f87 a0).tdiv 2147483648) * (f87 a1).tmod 2147483648) + IntKind.i64.wrap ((f87 a0).tmod 2147483648 * IntKind.i64.wrap ((f87 a1).tdiv 2147483648)))).tmod 2147483648 * 2147483648)) - 4611686018427387904))).fst, (f121 (IntKind.i64.wrap (IntKind.i64.wrap (IntKind.i64.wrap (IntKind.i64.wrap ((f87 a0).tdiv 2147483648) * IntKind.i64.wrap ((f87 a1).tdiv 2147483648)) + IntKind.i64.wrap ((IntKind.i64.wrap (IntKind.i64.wrap (IntKind.i64.wrap ((f87 a0).tdiv 2147483648) * (f87 a1).tmod 2147483648) + IntKind.i64.wrap ((f87 a0).tmod 2147483648 * IntKind.i64.wrap ((f87 a1).tdiv 2147483648)))).tdiv 2147483648)) + 1)) (IntKind.i64.wrap (IntKind.i64.wrap (IntKind.i64.wrap ((f87 a0).tmod 2147483648 * (f87 a1).tmod 2147483648) + IntKind.i64.wrap ((IntKind.i64.wrap (IntKind.i64.wrap (IntKind.i64.wrap ((f87 a0).tdiv 2147483648) * (f87 a1).tmod 2147483648) + IntKind.i64.wrap ((f87 a0).tmod 2147483648 * IntKind.i64.wrap ((f87 a1).tdiv 2147483648)))).tmod 2147483648 * 2147483648)) - 4611686018427387904))).snd)) else ((IntKind.i64.wrap (IntKind.i64.wrap (IntKind.i64.wrap (IntKind.i64.wrap ((f87 a0).tdiv 2147483648) * IntKind.i64.wrap ((f87 a1).tdiv 2147483648)) + IntKind.i64.wrap ((IntKind.i64.wrap (IntKind.i64.wrap (IntKind.i64.wrap ((f87 a0).tdiv 2147483648) * (f87 a1).tmod 2147483648) + IntKind.i64.wrap ((f87 a0).tmod 2147483648 * IntKind.i64.wrap ((f87 a1).tdiv 2147483648)))).tdiv 2147483648)) + 1), IntKind.i64.wrap (IntKind.i64.wrap (IntKind.i64.wrap ((f87 a0).tmod 2147483648 * (f87 a1).tmod 2147483648) + IntKind.i64.wrap ((IntKind.i64.wrap (IntKind.i64.wrap (IntKind.i64.wrap ((f87 a0).tdiv 2147483648) * (f87 a1).tmod 2147483648) + IntKind.i64.wrap ((f87 a0).tmod 2147483648 * IntKind.i64.wrap ((f87 a1).tdiv 2147483648)))).tmod 2147483648 * 2147483648)) - 4611686018427387904)))) else (bif !decide (a0 < 0) == decide (a1 < 0) then (((f121 (IntKind.i64.wrap (IntKind.i64.wrap (IntKind.i64.wrap ((f87 a0).tdiv 2147483648) * IntKind.i64.wrap ((f87 a1).tdiv 2147483648)) + IntKind.i64.wrap ((IntKind.i64.wrap (IntKind.i64.wrap (IntKind.i64.wrap ((f87 a0).tdiv 2147483648) * (f87 a1).tmod 2147483648) + IntKind.i64.wrap ((f87 a0).tmod 2147483648 * IntKind.i64.wrap ((f87 a1).tdiv 2147483648)))).tdiv 2147483648))) (IntKind.i64.wrap (IntKind.i64.wrap ((f87 a0).tmod 2147483648 * (f87 a1).tmod 2147483648) + IntKind.i64.wrap ((IntKind.i64.wrap (IntKind.i64.wrap (IntKind.i64.wrap ((f87 a0).tdiv 2147483648) * (f87 a1).tmod 2147483648) + IntKind.i64.wrap ((f87 a0).tmod 2147483648 * IntKind.i64.wrap ((f87 a1).tdiv 2147483648)))).tmod 2147483648 * 2147483648)))).fst, (f121 (IntKind.i64.wrap (IntKind.i64.wrap (IntKind.i64.wrap ((f87 a0).tdiv 2147483648) * IntKind.i64.wrap ((f87 a1).tdiv 2147483648)) + IntKind.i64.wrap ((IntKind.i64.wrap (IntKind.i64.wrap (IntKind.i64.wrap ((f87 a0).tdiv 2147483648) * (f87 a1).tmod 2147483648) + IntKind.i64.wrap ((f87 a0).tmod 2147483648 * IntKind.i64.wrap ((f87 a1).tdiv 2147483648)))).tdiv 2147483648))) (IntKind.i64.wrap (IntKind.i64.wrap ((f87 a0).tmod 2147483648 * (f87 a1).tmod 2147483648) + IntKind.i64.wrap ((IntKind.i64.wrap (IntKind.i64.wrap (IntKind.i64.wrap ((f87 a0).tdiv 2147483648) * (f87 a1).tmod 2147483648) + IntKind.i64.wrap ((f87 a0).tmod 2147483648 * IntKind.i64.wrap ((f87 a1).tdiv 2147483648)))).tmod 2147483648 * 2147483648)))).snd)) else ((IntKind.i64.wrap (IntKind.i64.wrap (IntKind.i64.wrap ((f87 a0).tdiv 2147483648) * IntKind.i64.wrap ((f87 a1).tdiv 2147483648)) + IntKind.i64.wrap ((IntKind.i64.wrap (IntKind.i64.wrap (IntKind.i64.wrap ((f87 a0).tdiv 2147483648) * (f87 a1).tmod 2147483648) + IntKind.i64.wrap ((f87 a0).tmod 2147483648 * IntKind.i64.wrap ((f87 a1).tdiv 2147483648)))).tdiv 2147483648)), IntKind.i64.wrap (IntKind.i64.wrap ((f87 a0).tmod 2147483648 * (f87 a1).tmod 2147483648) + IntKind.i64.wrap ((IntKind.i64.wrap (IntKind.i64.wrap (IntKind.i64.wrap ((f87 a0).tdiv 2147483648) * (f87 a1).tmod 2147483648) + IntKind.i64.wrap ((f87 a0).tmod 2147483648 * IntKind.i64.wrap ((f87 a1).tdiv 2147483648)))).tmod 2147483648 * 2147483648)))))
def g90 (p : Int × Int) : SV := .agg [.int .i64 (.sym p.1), .int .i64 (.sym p.2)]
def S90 : Summ
  | [.v (.int .i64 a0), .v (.int .i64 a1)] => some (g90 (f90 a0.val a1.val))
  | _ => none
theorem S90_ok : SummFn Go.Proofs.Try.prog 90 S90 := by
  have ev : ∀ (a0 : Int) (a1 : Int), (symCall ⟨Go.Proofs.Try.prog, [(56, S56), (87, S87), (76, S76), (121, S121)], 3, 130, false, [], [], []⟩ 30 90 [.int .i64 (.sym a0), .int .i64 (.sym a1)] []).out = (bif decide (IntKind.i64.wrap (IntKind.i64.wrap ((f87 a0).tmod 2147483648 * (f87 a1).tmod 2147483648) + IntKind.i64.wrap ((IntKind.i64.wrap (IntKind.i64.wrap (IntKind.i64.wrap ((f87 a0).tdiv 2147483648) * (f87 a1).tmod 2147483648) + IntKind.i64.wrap ((f87 a0).tmod 2147483648 * IntKind.i64.wrap ((f87 a1).tdiv 2147483648)))).tmod 2147483648 * 2147483648)) ≥ 4611686018427387904) then (bif !decide (a0 < 0) == decide (a1 < 0) then ((g90 ((f121 (IntKind.i64.wrap (IntKind.i64.wrap (IntKind.i64.wrap (IntKind.i64.wrap ((f87 a0).tdiv 2147483648) * IntKind.i64.wrap ((f87 a1).tdiv 2147483648)) + IntKind.i64.wrap ((IntKind.i64.wrap (IntKind.i64.wrap (IntKind.i64.wrap ((f87 a0).tdiv 2147483648) * (f87 a1).tmod 2147483648) + IntKind.i64.wrap ((f87 a0).tmod 2147483648 * IntKind.i64.wrap ((f87 a1).tdiv 2147483648)))).tdiv 2147483648)) + 1)) (IntKind.i64.wrap (IntKind.i64.wrap (IntKind.i64.wrap ((f87 a0).tmod 2147483648 * (f87 a1).tmod 2147483648) + IntKind.i64.wrap ((IntKind.i64.wrap (IntKind.i64.wrap (IntKind.i64.wrap ((f87 a0).tdiv 2147483648) * (f87 a1).tmod 2147483648) + IntKind.i64.wrap ((f87 a0).tmod 2147483648 * IntKind.i64.wrap ((f87 a1).tdiv 2147483648)))).tmod 2147483648 * 2147483648)) - 4611686018427387904))).fst, (f121 (IntKind.i64.wrap (IntKind.i64.wrap (IntKind.i64.wrap (IntKind.i64.wrap ((f87 a0).tdiv 2147483648) * IntKind.i64.wrap ((f87 a1).tdiv 2147483648)) + IntKind.i64.wrap ((IntKind.i64.wrap (IntKind.i64.wrap (IntKind.i64.wrap ((f87 a0).tdiv 2147483648) * (f87 a1).tmod 2147483648) + IntKind.i64.wrap ((f87 a0).tmod 2147483648 * IntKind.i64.wrap ((f87 a1).tdiv 2147483648)))).tdiv 2147483648)) + 1)) (IntKind.i64.wrap (IntKind.i64.wrap (IntKind.i64.wrap ((f87 a0).tmod 2147483648 * (f87 a1).tmod 2147483648) + IntKind.i64.wrap ((IntKind.i64.wrap (IntKind.i64.wrap (IntKind.i64.wrap ((f87 a0).tdiv 2147483648) * (f87 a1).tmod 2147483648) + IntKind.i64.wrap ((f87 a0).tmod 2147483648 * IntKind.i64.wrap ((f87 a1).tdiv 2147483648)))).tmod 2147483648 * 2147483648)) - 4611686018427387904))).snd)).toV) else ((g90 (IntKind.i64.wrap (IntKind.i64.wrap (IntKind.i64.wrap (IntKind.i64.wrap ((f87 a0).tdiv 2147483648) * IntKind.i64.wrap ((f87 a1).tdiv 2147483648)) + IntKind.i64.wrap ((IntKind.i64.wrap (IntKind.i64.wrap (IntKind.i64.wrap ((f87 a0).tdiv 2147483648) * (f87 a1).tmod 2147483648) + IntKind.i64.wrap ((f87 a0).tmod 2147483648 * IntKind.i64.wrap ((f87 a1).tdiv 2147483648)))).tdiv 2147483648)) + 1), IntKind.i64.wrap (IntKind.i64.wrap (IntKind.i64.wrap ((f87 a0).tmod 2147483648 * (f87 a1).tmod 2147483648) + IntKind.i64.wrap ((IntKind.i64.wrap (IntKind.i64.wrap (IntKind.i64.wrap ((f87 a0).tdiv 2147483648) * (f87 a1).tmod 2147483648) + IntKind.i64.wrap ((f87 a0).tmod 2147483648 * IntKind.i64.wrap ((f87 a1).tdiv 2147483648)))).tmod 2147483648 * 2147483648)) - 4611686018427387904))).toV)) else (bif !decide (a0 < 0) == decide (a1 < 0) then ((g90 ((f121 (IntKind.i64.wrap (IntKind.i64.wrap (IntKind.i64.wrap ((f87 a0).tdiv 2147483648) * IntKind.i64.wrap ((f87 a1).tdiv 2147483648)) + IntKind.i64.wrap ((IntKind.i64.wrap (IntKind.i64.wrap (IntKind.i64.wrap ((f87 a0).tdiv 2147483648) * (f87 a1).tmod 2147483648) + IntKind.i64.wrap ((f87 a0).tmod 2147483648 * IntKind.i64.wrap ((f87 a1).tdiv 2147483648)))).tdiv 2147483648))) (IntKind.i64.wrap (IntKind.i64.wrap ((f87 a0).tmod 2147483648 * (f87 a1).tmod 2147483648) + IntKind.i64.wrap ((IntKind.i64.wrap (IntKind.i64.wrap (IntKind.i64.wrap ((f87 a0).tdiv 2147483648) * (f87 a1).tmod 2147483648) + IntKind.i64.wrap ((f87 a0).tmod 2147483648 * IntKind.i64.wrap ((f87 a1).tdiv 2147483648)))).tmod 2147483648 * 2147483648)))).fst, (f121 (IntKind.i64.wrap (IntKind.i64.wrap (IntKind.i64.wrap ((f87 a0).tdiv 2147483648) * IntKind.i64.wrap ((f87 a1).tdiv 2147483648)) + IntKind.i64.wrap ((IntKind.i64.wrap (IntKind.i64.wrap (IntKind.i64.wrap ((f87 a0).tdiv 2147483648) * (f87 a1).tmod 2147483648) + IntKind.i64.wrap ((f87 a0).tmod 2147483648 * IntKind.i64.wrap ((f87 a1).tdiv 2147483648)))).tdiv 2147483648))) (IntKind.i64.wrap (IntKind.i64.wrap ((f87 a0).tmod 2147483648 * (f87 a1).tmod 2147483648) + IntKind.i64.wrap ((IntKind.i64.wrap (IntKind.i64.wrap (IntKind.i64.wrap ((f87 a0).tdiv 2147483648) * (f87 a1).tmod 2147483648) + IntKind.i64.wrap ((f87 a0).tmod 2147483648 * IntKind.i64.wrap ((f87 a1).tdiv 2147483648)))).tmod 2147483648 * 2147483648)))).snd)).toV) else ((g90 (IntKind.i64.wrap (IntKind.i64.wrap (IntKind.i64.wrap ((f87 a0).tdiv 2147483648) * IntKind.i64.wrap ((f87 a1).tdiv 2147483648)) + IntKind.i64.wrap ((IntKind.i64.wrap (IntKind.i64.wrap (IntKind.i64.wrap ((f87 a0).tdiv 2147483648) * (f87 a1).tmod 2147483648) + IntKind.i64.wrap ((f87 a0).tmod 2147483648 * IntKind.i64.wrap ((f87 a1).tdiv 2147483648)))).tdiv 2147483648)), IntKind.i64.wrap (IntKind.i64.wrap ((f87 a0).tmod 2147483648 * (f87 a1).tmod 2147483648) + IntKind.i64.wrap ((IntKind.i64.wrap (IntKind.i64.wrap (IntKind.i64.wrap ((f87 a0).tdiv 2147483648) * (f87 a1).tmod 2147483648) + IntKind.i64.wrap ((f87 a0).tmod 2147483648 * IntKind.i64.wrap ((f87 a1).tdiv 2147483648)))).tmod 2147483648 * 2147483648)))).toV))) := by
    intro a0 a1
    kernel_rfl
  intro fs r h w vs hv
  unfold S90 at h
  split at h
  · rename_i a0 a1
    cases h
    exact sx_calls (envOk' (S := [(56, S56), (87, S87), (76, S76), (121, S121)]) ⟨S56_ok, S87_ok, S76_ok, S121_ok, trivial⟩) 30 90 [.int .i64 (.sym a0.val), .int .i64 (.sym a1.val)] vs (symifyL_rel _ _ (SArels_v (xs := [.int .i64 a0, .int .i64 a1]) hv)) (by kernel_rfl) rfl ((ev a0.val a1.val).trans (cond_out g90 (cond_out g90 rfl rfl) (cond_out g90 rfl rfl))) w
  · cases h
/-- outrigger/outriggerref03.changed -/
def f88 (a0 : Int) : Bool := (f76 a0).snd
def g88 (p : Bool) : SV := .bool (.sym p)
def S88 : Summ
  | [.v (.int .i64 a0)] => some (g88 (f88 a0.val))
  | _ => none
theorem S88_ok : SummFn Go.Proofs.Try.prog 88 S88 := by
  have ev : ∀ (a0 : Int), (symCall ⟨Go.Proofs.Try.prog, [(76, S76)], 3, 130, false, [], [], []⟩ 30 88 [.int .i64 (.sym a0)] []).out = ((g88 ((f76 a0).snd)).toV) := by
    intro a0
    kernel_rfl
  intro fs r h w vs hv
  unfold S88 at h
  split at h
  · rename_i a0
    cases h
    exact sx_calls (envOk' (S := [(76, S76)]) ⟨S76_ok, trivial⟩) 30 88 [.int .i64 (.sym a0.val)] vs (symifyL_rel _ _ (SArels_v (xs := [.int .i64 a0]) hv)) (by kernel_rfl) rfl ((ev a0.val).trans rfl) w
  · cases h
/-- outrigger/fix.Neg -/
def f55 (a0 : Int) : Int := IntKind.i64.wrap (0 - f91 a0)
def g55 (p : Int) : SV := .int .i64 (.sym p)
def S55 : Summ
  | [.v (.int .i64 a0)] => some (g55 (f55 a0.val))
  | _ => none
theorem S55_ok : SummFn Go.Proofs.Try.prog 55 S55 := by
  have ev : ∀ (a0 : Int), (symCall ⟨Go.Proofs.Try.prog, [(91, S91), (57, S57)], 3, 130, false, [], [], []⟩ 30 55 [.int .i64 (.sym a0)] []).out = ((g55 (IntKind.i64.wrap (0 - f91 a0))).toV) := by
    intro a0
    kernel_rfl
  intro fs r h w vs hv
  unfold S55 at h
  split at h
  · rename_i a0
    cases h
    exact sx_calls (envOk' (S := [(91, S91), (57, S57)]) ⟨S91_ok, S57_ok, trivial⟩) 30 55 [.int .i64 (.sym a0.val)] vs (symifyL_rel _ _ (SArels_v (xs := [.int .i64 a0]) hv)) (by kernel_rfl) rfl ((ev a0.val).trans rfl) w
  · cases h
/-- cmp.isNaN[int] -/
def f128 (a0 : Int) : Bool := a0 != a0
def g128 (p : Bool) : SV := .bool (.sym p)
def S128 : Summ
  | [.v (.int .i64 a0)] => some (g128 (f128 a0.val))
  | _ => none
theorem S128_ok : SummFn Go.Proofs.Try.prog 128 S128 := by
  have ev : ∀ (a0 : Int), (symCall ⟨Go.Proofs.Try.prog, [], 3, 130, false, [], [], []⟩ 30 128 [.int .i64 (.sym a0)] []).out = ((g128 (a0 != a0)).toV) := by
    intro a0
    kernel_rfl
  intro fs r h w vs hv
  unfold S128 at h
  split at h
  · rename_i a0
    cases h
    exact sx_calls (envOk' (S := []) trivial) 30 128 [.int .i64 (.sym a0.val)] vs (symifyL_rel _ _ (SArels_v (xs := [.int .i64 a0]) hv)) (by kernel_rfl) rfl ((ev a0.val).trans rfl) w
  · cases h
/-- cmp.Compare[int] -/
def f126 (a0 : Int) (a1 : Int) : Int := bif f128 a0 then (bif f128 a1 then (0) else (-1)) else (bif f128 a1 then (1) else (bif decide (a0 < a1) then (-1) else (bif decide (a0 > a1) then (1) else (0))))
def g126 (p : Int) : SV := .int .i64 (.sym p)
def S126 : Summ
  | [.v (.int .i64 a0), .v (.int .i64 a1)] => some (g126 (f126 a0.val a1.val))
  | _ => none
theorem S126_ok : SummFn Go.Proofs.Try.prog 126 S126 := by
  have ev : ∀ (a0 : Int) (a1 : Int), (symCall ⟨Go.Proofs.Try.prog, [(128, S128)], 3, 130, false, [], [], []⟩ 30 126 [.int .i64 (.sym a0), .int .i64 (.sym a1)] []).out = (bif f128 a0 then (bif f128 a1 then ((g126 (0)).toV) else ((g126 (-1)).toV)) else (bif f128 a1 then ((g126 (1)).toV) else (bif decide (a0 < a1) then ((g126 (-1)).toV) else (bif decide (a0 > a1) then ((g126 (1)).toV) else ((g126 (0)).toV))))) := by
    intro a0 a1
    kernel_rfl
  intro fs r h w vs hv
  unfold S126 at h
  split at h
  · rename_i a0 a1
    cases h
    exact sx_calls (envOk' (S := [(128, S128)]) ⟨S128_ok, trivial⟩) 30 126 [.int .i64 (.sym a0.val), .int .i64 (.sym a1.val)] vs (symifyL_rel _ _ (SArels_v (xs := [.int .i64 a0, .int .i64 a1]) hv)) (by kernel_rfl) rfl ((ev a0.val a1.val).trans (cond_out g126 (cond_out g126 rfl rfl) (cond_out g126 rfl (cond_out g126 rfl (cond_out g126 rfl rfl))))) w
  · cases h
/-- outrigger/wide.Compare -/
def f113 (a0_0 : Int) (a0_1 : Int) (a1_0 : Int) (a1_1 : Int) : Int := orL [f126 (f122 a0_0 a0_1).fst (f122 a1_0 a1_1).fst, f126 (f122 a0_0 a0_1).snd (f122 a1_0 a1_1).snd]
def g113 (p : Int) : SV := .int .i64 (.sym p)
def S113 : Summ
  | [.v (.agg [.int .i64 a0_0, .int .i64 a0_1]), .v (.agg [.int .i64 a1_0, .int .i64 a1_1])] => some (g113 (f113 a0_0.val a0_1.val a1_0.val a1_1.val))
  | _ => none
theorem S113_ok : SummFn Go.Proofs.Try.prog 113 S113 := by
  have ev : ∀ (a0_0 : Int) (a0_1 : Int) (a1_0 : Int) (a1_1 : Int), (symCall ⟨Go.Proofs.Try.prog, [(104, S104), (122, S122), (125, S125), (126, S126), (128, S128)], 3, 130, false, [], [], []⟩ 30 113 [.agg [.int .i64 (.sym a0_0), .int .i64 (.sym a0_1)], .agg [.int .i64 (.sym a1_0), .int .i64 (.sym a1_1)]] []).out = ((g113 (orL [f126 (f122 a0_0 a0_1).fst (f122 a1_0 a1_1).fst, f126 (f122 a0_0 a0_1).snd (f122 a1_0 a1_1).snd])).toV) := by
    intro a0_0 a0_1 a1_0 a1_1
    kernel_rfl
  intro fs r h w vs hv
  unfold S113 at h
  split at h
  · rename_i a0_0 a0_1 a1_0 a1_1
    cases h
    exact sx_calls (envOk' (S := [(104, S104), (122, S122), (125, S125), (126, S126), (128, S128)]) ⟨S104_ok, S122_ok, S125_ok, S126_ok, S128_ok, trivial⟩) 30 113 [.agg [.int .i64 (.sym a0_0.val), .int .i64 (.sym a0_1.val)], .agg [.int .i64 (.sym a1_0.val), .int .i64 (.sym a1_1.val)]] vs (symifyL_rel _ _ (SArels_v (xs := [.agg [.int .i64 a0_0, .int .i64 a0_1], .agg [.int .i64 a1_0, .int .i64 a1_1]]) hv)) (by kernel_rfl) rfl ((ev a0_0.val a0_1.val a1_0.val a1_1.val).trans rfl) w
  · cases h
end Go.Proofs.Ytoagcpfklkmolaa
