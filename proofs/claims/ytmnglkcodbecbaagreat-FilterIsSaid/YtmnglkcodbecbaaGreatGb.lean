/- What each function computes, by the executor: printed by a program (wip/sx/Gen2.lean). -/
import Derived.Test.YtmnglkcodbecbaaGreatM
namespace Go.Proofs.YtmnglkcodbecbaaGreat
open Go Go.Sx
set_option maxRecDepth 1000000
set_option maxHeartbeats 100000000
/-- outrigger/wide.Int -/
def f192 (a0_0 : Int) (a0_1 : Int) : Int × Bool := bif (f203 a0_0 a0_1).fst == 0 || (f203 a0_0 a0_1).fst == -1 then (((f82 (IntKind.i64.wrap (IntKind.i64.wrap ((f203 a0_0 a0_1).fst * 2 ^ 62) + (f203 a0_0 a0_1).snd))).fst, !(f82 (IntKind.i64.wrap (IntKind.i64.wrap ((f203 a0_0 a0_1).fst * 2 ^ 62) + (f203 a0_0 a0_1).snd))).snd)) else (bif decide ((f203 a0_0 a0_1).fst < 0) then ((-288230376151711744, false)) else ((288230376151711744, false)))
def g192 (p : Int × Bool) : SV := .tuple [.int .i64 (.sym p.1), .bool (.sym p.2)]
def S192 : Summ
  | [.v (.agg [.int .i64 a0_0, .int .i64 a0_1])] => some (g192 (f192 a0_0.val a0_1.val))
  | _ => none
theorem S192_ok : SummFn Go.Proofs.Tryz.prog 192 S192 := by
  have ev : ∀ (a0_0 : Int) (a0_1 : Int), (symCall ⟨Go.Proofs.Tryz.prog, [(82, S82), (176, S176), (142, S142), (203, S203)], 3, 215, false, [], [], []⟩ 30 192 [.agg [.int .i64 (.sym a0_0), .int .i64 (.sym a0_1)]] []).out = (bif (f203 a0_0 a0_1).fst == 0 || (f203 a0_0 a0_1).fst == -1 then ((g192 ((f82 (IntKind.i64.wrap (IntKind.i64.wrap ((f203 a0_0 a0_1).fst * 2 ^ 62) + (f203 a0_0 a0_1).snd))).fst, !(f82 (IntKind.i64.wrap (IntKind.i64.wrap ((f203 a0_0 a0_1).fst * 2 ^ 62) + (f203 a0_0 a0_1).snd))).snd)).toV) else (bif decide ((f203 a0_0 a0_1).fst < 0) then ((g192 (-288230376151711744, false)).toV) else ((g192 (288230376151711744, false)).toV))) := by
    intro a0_0 a0_1
    kernel_rfl
  intro fs r h w vs hv
  unfold S192 at h
  split at h
  · rename_i a0_0 a0_1
    cases h
    exact sx_calls (envOk' (S := [(82, S82), (176, S176), (142, S142), (203, S203)]) ⟨S82_ok, S176_ok, S142_ok, S203_ok, trivial⟩) 30 192 [.agg [.int .i64 (.sym a0_0.val), .int .i64 (.sym a0_1.val)]] vs (symifyL_rel _ _ (SArels_v (xs := [.agg [.int .i64 a0_0, .int .i64 a0_1]]) hv)) (by kernel_rfl) rfl ((ev a0_0.val a0_1.val).trans (cond_out g192 rfl (cond_out g192 rfl rfl))) w
  · cases h
/-- outrigger/scale.Round -/
def f157 (a0_0 : Int) (a0_1 : Int) : Int × Bool := bif !(f178 a0_0 a0_1 (f179 2147483648).fst (f179 2147483648).snd).snd.snd then ((288230376151711744, true)) else (((f192 ((f203 (f178 a0_0 a0_1 (f179 2147483648).fst (f179 2147483648).snd).fst (f178 a0_0 a0_1 (f179 2147483648).fst (f179 2147483648).snd).snd.fst).fst.fdiv (2 ^ 32)) (bitsv BinOp.and IntKind.i64 (bitsv BinOp.or IntKind.i64 (IntKind.i64.wrap ((f203 (f178 a0_0 a0_1 (f179 2147483648).fst (f179 2147483648).snd).fst (f178 a0_0 a0_1 (f179 2147483648).fst (f179 2147483648).snd).snd.fst).fst * 2 ^ 30)) ((f203 (f178 a0_0 a0_1 (f179 2147483648).fst (f179 2147483648).snd).fst (f178 a0_0 a0_1 (f179 2147483648).fst (f179 2147483648).snd).snd.fst).snd.fdiv (2 ^ 32))) 4611686018427387903)).fst, !(f192 ((f203 (f178 a0_0 a0_1 (f179 2147483648).fst (f179 2147483648).snd).fst (f178 a0_0 a0_1 (f179 2147483648).fst (f179 2147483648).snd).snd.fst).fst.fdiv (2 ^ 32)) (bitsv BinOp.and IntKind.i64 (bitsv BinOp.or IntKind.i64 (IntKind.i64.wrap ((f203 (f178 a0_0 a0_1 (f179 2147483648).fst (f179 2147483648).snd).fst (f178 a0_0 a0_1 (f179 2147483648).fst (f179 2147483648).snd).snd.fst).fst * 2 ^ 30)) ((f203 (f178 a0_0 a0_1 (f179 2147483648).fst (f179 2147483648).snd).fst (f178 a0_0 a0_1 (f179 2147483648).fst (f179 2147483648).snd).snd.fst).snd.fdiv (2 ^ 32))) 4611686018427387903)).snd || !f176 a0_0 a0_1))
def g157 (p : Int × Bool) : SV := .tuple [.int .i64 (.sym p.1), .bool (.sym p.2)]
def S157 : Summ
  | [.v (.agg [.int .i64 a0_0, .int .i64 a0_1])] => some (g157 (f157 a0_0.val a0_1.val))
  | _ => none
theorem S157_ok : SummFn Go.Proofs.Tryz.prog 157 S157 := by
  have ev : ∀ (a0_0 : Int) (a0_1 : Int), (symCall ⟨Go.Proofs.Tryz.prog, [(82, S82), (178, S178), (179, S179), (192, S192), (176, S176), (142, S142), (203, S203)], 3, 215, false, [], [], []⟩ 30 157 [.agg [.int .i64 (.sym a0_0), .int .i64 (.sym a0_1)]] []).out = (bif !(f178 a0_0 a0_1 (f179 2147483648).fst (f179 2147483648).snd).snd.snd then ((g157 (288230376151711744, true)).toV) else ((g157 ((f192 ((f203 (f178 a0_0 a0_1 (f179 2147483648).fst (f179 2147483648).snd).fst (f178 a0_0 a0_1 (f179 2147483648).fst (f179 2147483648).snd).snd.fst).fst.fdiv (2 ^ 32)) (bitsv BinOp.and IntKind.i64 (bitsv BinOp.or IntKind.i64 (IntKind.i64.wrap ((f203 (f178 a0_0 a0_1 (f179 2147483648).fst (f179 2147483648).snd).fst (f178 a0_0 a0_1 (f179 2147483648).fst (f179 2147483648).snd).snd.fst).fst * 2 ^ 30)) ((f203 (f178 a0_0 a0_1 (f179 2147483648).fst (f179 2147483648).snd).fst (f178 a0_0 a0_1 (f179 2147483648).fst (f179 2147483648).snd).snd.fst).snd.fdiv (2 ^ 32))) 4611686018427387903)).fst, !(f192 ((f203 (f178 a0_0 a0_1 (f179 2147483648).fst (f179 2147483648).snd).fst (f178 a0_0 a0_1 (f179 2147483648).fst (f179 2147483648).snd).snd.fst).fst.fdiv (2 ^ 32)) (bitsv BinOp.and IntKind.i64 (bitsv BinOp.or IntKind.i64 (IntKind.i64.wrap ((f203 (f178 a0_0 a0_1 (f179 2147483648).fst (f179 2147483648).snd).fst (f178 a0_0 a0_1 (f179 2147483648).fst (f179 2147483648).snd).snd.fst).fst * 2 ^ 30)) ((f203 (f178 a0_0 a0_1 (f179 2147483648).fst (f179 2147483648).snd).fst (f178 a0_0 a0_1 (f179 2147483648).fst (f179 2147483648).snd).snd.fst).snd.fdiv (2 ^ 32))) 4611686018427387903)).snd || !f176 a0_0 a0_1)).toV)) := by
    intro a0_0 a0_1
    kernel_rfl
  intro fs r h w vs hv
  unfold S157 at h
  split at h
  · rename_i a0_0 a0_1
    cases h
    exact sx_calls (envOk' (S := [(82, S82), (178, S178), (179, S179), (192, S192), (176, S176), (142, S142), (203, S203)]) ⟨S82_ok, S178_ok, S179_ok, S192_ok, S176_ok, S142_ok, S203_ok, trivial⟩) 30 157 [.agg [.int .i64 (.sym a0_0.val), .int .i64 (.sym a0_1.val)]] vs (symifyL_rel _ _ (SArels_v (xs := [.agg [.int .i64 a0_0, .int .i64 a0_1]]) hv)) (by kernel_rfl) rfl ((ev a0_0.val a0_1.val).trans (cond_out g157 rfl rfl)) w
  · cases h
/-- outrigger/fix.known -/
def f153 (a0 : Int) : Int := f142 a0 (-288230376151711744) 288230376151711744
def g153 (p : Int) : SV := .int .i64 (.sym p)
def S153 : Summ
  | [.v (.int .i64 a0)] => some (g153 (f153 a0.val))
  | _ => none
theorem S153_ok : SummFn Go.Proofs.Tryz.prog 153 S153 := by
  have ev : ∀ (a0 : Int), (symCall ⟨Go.Proofs.Tryz.prog, [(142, S142)], 3, 215, false, [], [], []⟩ 30 153 [.int .i64 (.sym a0)] []).out = ((g153 (f142 a0 (-288230376151711744) 288230376151711744)).toV) := by
    intro a0
    kernel_rfl
  intro fs r h w vs hv
  unfold S153 at h
  split at h
  · rename_i a0
    cases h
    exact sx_calls (envOk' (S := [(142, S142)]) ⟨S142_ok, trivial⟩) 30 153 [.int .i64 (.sym a0.val)] vs (symifyL_rel _ _ (SArels_v (xs := [.int .i64 a0]) hv)) (by kernel_rfl) rfl ((ev a0.val).trans rfl) w
  · cases h
/-- outrigger/fix.Abs -/
def f163 (a0 : Int) : Int := mxI (f153 a0) (IntKind.i64.wrap (0 - f153 a0))
def g163 (p : Int) : SV := .int .i64 (.sym p)
def S163 : Summ
  | [.v (.int .i64 a0)] => some (g163 (f163 a0.val))
  | _ => none
theorem S163_ok : SummFn Go.Proofs.Tryz.prog 163 S163 := by
  have ev : ∀ (a0 : Int), (symCall ⟨Go.Proofs.Tryz.prog, [(153, S153), (142, S142)], 3, 215, false, [], [], []⟩ 30 163 [.int .i64 (.sym a0)] []).out = ((g163 (mxI (f153 a0) (IntKind.i64.wrap (0 - f153 a0)))).toV) := by
    intro a0
    kernel_rfl
  intro fs r h w vs hv
  unfold S163 at h
  split at h
  · rename_i a0
    cases h
    exact sx_calls (envOk' (S := [(153, S153), (142, S142)]) ⟨S153_ok, S142_ok, trivial⟩) 30 163 [.int .i64 (.sym a0.val)] vs (symifyL_rel _ _ (SArels_v (xs := [.int .i64 a0]) hv)) (by kernel_rfl) rfl ((ev a0.val).trans rfl) w
  · cases h
/-- math/bits.Mul64 -/
def f194 (a0 : Int) (a1 : Int) : Int × Int := (IntKind.u64.wrap (IntKind.u64.wrap (IntKind.u64.wrap (a0.fdiv (2 ^ 32) * a1.fdiv (2 ^ 32)) + (IntKind.u64.wrap (IntKind.u64.wrap (a0.fdiv (2 ^ 32) * bitsv BinOp.and IntKind.u64 a1 4294967295) + (IntKind.u64.wrap (bitsv BinOp.and IntKind.u64 a0 4294967295 * bitsv BinOp.and IntKind.u64 a1 4294967295)).fdiv (2 ^ 32))).fdiv (2 ^ 32)) + (IntKind.u64.wrap (bitsv BinOp.and IntKind.u64 (IntKind.u64.wrap (IntKind.u64.wrap (a0.fdiv (2 ^ 32) * bitsv BinOp.and IntKind.u64 a1 4294967295) + (IntKind.u64.wrap (bitsv BinOp.and IntKind.u64 a0 4294967295 * bitsv BinOp.and IntKind.u64 a1 4294967295)).fdiv (2 ^ 32))) 4294967295 + IntKind.u64.wrap (bitsv BinOp.and IntKind.u64 a0 4294967295 * a1.fdiv (2 ^ 32)))).fdiv (2 ^ 32)), IntKind.u64.wrap (a0 * a1))
def g194 (p : Int × Int) : SV := .tuple [.int .u64 (.sym p.1), .int .u64 (.sym p.2)]
def S194 : Summ
  | [.v (.int .u64 a0), .v (.int .u64 a1)] => some (g194 (f194 a0.val a1.val))
  | _ => none
theorem S194_ok : SummFn Go.Proofs.Tryz.prog 194 S194 := by
  have ev : ∀ (a0 : Int) (a1 : Int), (symCall ⟨Go.Proofs.Tryz.prog, [], 3, 215, false, [], [], []⟩ 30 194 [.int .u64 (.sym a0), .int .u64 (.sym a1)] []).out = ((g194 (IntKind.u64.wrap (IntKind.u64.wrap (IntKind.u64.wrap (a0.fdiv (2 ^ 32) * a1.fdiv (2 ^ 32)) + (IntKind.u64.wrap (IntKind.u64.wrap (a0.fdiv (2 ^ 32) * bitsv BinOp.and IntKind.u64 a1 4294967295) + (IntKind.u64.wrap (bitsv BinOp.and IntKind.u64 a0 4294967295 * bitsv BinOp.and IntKind.u64 a1 4294967295)).fdiv (2 ^ 32))).fdiv (2 ^ 32)) + (IntKind.u64.wrap (bitsv BinOp.and IntKind.u64 (IntKind.u64.wrap (IntKind.u64.wrap (a0.fdiv (2 ^ 32) * bitsv BinOp.and IntKind.u64 a1 4294967295) + (IntKind.u64.wrap (bitsv BinOp.and IntKind.u64 a0 4294967295 * bitsv BinOp.and IntKind.u64 a1 4294967295)).fdiv (2 ^ 32))) 4294967295 + IntKind.u64.wrap (bitsv BinOp.and IntKind.u64 a0 4294967295 * a1.fdiv (2 ^ 32)))).fdiv (2 ^ 32)), IntKind.u64.wrap (a0 * a1))).toV) := by
    intro a0 a1
    kernel_rfl
  intro fs r h w vs hv
  unfold S194 at h
  split at h
  · rename_i a0 a1
    cases h
    exact sx_calls (envOk' (S := []) trivial) 30 194 [.int .u64 (.sym a0.val), .int .u64 (.sym a1.val)] vs (symifyL_rel _ _ (SArels_v (xs := [.int .u64 a0, .int .u64 a1]) hv)) (by kernel_rfl) rfl ((ev a0.val a1.val).trans rfl) w
  · cases h
/-- outrigger/wide.neg -/
def f195 (a0_0 : Int) (a0_1 : Int) : Int × Int := bif a0_1 == 0 then ((IntKind.i64.wrap (0 - a0_0), 0)) else ((bitsv BinOp.xor IntKind.i64 (-1) a0_0, IntKind.i64.wrap (4611686018427387904 - a0_1)))
def g195 (p : Int × Int) : SV := .agg [.int .i64 (.sym p.1), .int .i64 (.sym p.2)]
def S195 : Summ
  | [.v (.agg [.int .i64 a0_0, .int .i64 a0_1])] => some (g195 (f195 a0_0.val a0_1.val))
  | _ => none
theorem S195_ok : SummFn Go.Proofs.Tryz.prog 195 S195 := by
  have ev : ∀ (a0_0 : Int) (a0_1 : Int), (symCall ⟨Go.Proofs.Tryz.prog, [], 3, 215, false, [], [], []⟩ 30 195 [.agg [.int .i64 (.sym a0_0), .int .i64 (.sym a0_1)]] []).out = (bif a0_1 == 0 then ((g195 (IntKind.i64.wrap (0 - a0_0), 0)).toV) else ((g195 (bitsv BinOp.xor IntKind.i64 (-1) a0_0, IntKind.i64.wrap (4611686018427387904 - a0_1))).toV)) := by
    intro a0_0 a0_1
    kernel_rfl
  intro fs r h w vs hv
  unfold S195 at h
  split at h
  · rename_i a0_0 a0_1
    cases h
    exact sx_calls (envOk' (S := []) trivial) 30 195 [.agg [.int .i64 (.sym a0_0.val), .int .i64 (.sym a0_1.val)]] vs (symifyL_rel _ _ (SArels_v (xs := [.agg [.int .i64 a0_0, .int .i64 a0_1]]) hv)) (by kernel_rfl) rfl ((ev a0_0.val a0_1.val).trans (cond_out g195 rfl rfl)) w
  · cases h
/-- outrigger/wide.Mul -/
def f158 (a0 : Int) (a1 : Int) : Int × Int := bif !decide (a0 < 0) == decide (a1 < 0) then (((f195 (IntKind.i64.wrap (bitsv BinOp.or IntKind.u64 (IntKind.u64.wrap ((f194 (IntKind.u64.wrap (f163 a0)) (IntKind.u64.wrap (f163 a1))).fst * 2 ^ 2)) ((f194 (IntKind.u64.wrap (f163 a0)) (IntKind.u64.wrap (f163 a1))).snd.fdiv (2 ^ 62)))) (IntKind.i64.wrap (bitsv BinOp.and IntKind.u64 (f194 (IntKind.u64.wrap (f163 a0)) (IntKind.u64.wrap (f163 a1))).snd 4611686018427387903))).fst, (f195 (IntKind.i64.wrap (bitsv BinOp.or IntKind.u64 (IntKind.u64.wrap ((f194 (IntKind.u64.wrap (f163 a0)) (IntKind.u64.wrap (f163 a1))).fst * 2 ^ 2)) ((f194 (IntKind.u64.wrap (f163 a0)) (IntKind.u64.wrap (f163 a1))).snd.fdiv (2 ^ 62)))) (IntKind.i64.wrap (bitsv BinOp.and IntKind.u64 (f194 (IntKind.u64.wrap (f163 a0)) (IntKind.u64.wrap (f163 a1))).snd 4611686018427387903))).snd)) else ((IntKind.i64.wrap (bitsv BinOp.or IntKind.u64 (IntKind.u64.wrap ((f194 (IntKind.u64.wrap (f163 a0)) (IntKind.u64.wrap (f163 a1))).fst * 2 ^ 2)) ((f194 (IntKind.u64.wrap (f163 a0)) (IntKind.u64.wrap (f163 a1))).snd.fdiv (2 ^ 62))), IntKind.i64.wrap (bitsv BinOp.and IntKind.u64 (f194 (IntKind.u64.wrap (f163 a0)) (IntKind.u64.wrap (f163 a1))).snd 4611686018427387903)))
def g158 (p : Int × Int) : SV := .agg [.int .i64 (.sym p.1), .int .i64 (.sym p.2)]
def S158 : Summ
  | [.v (.int .i64 a0), .v (.int .i64 a1)] => some (g158 (f158 a0.val a1.val))
  | _ => none
theorem S158_ok : SummFn Go.Proofs.Tryz.prog 158 S158 := by
  have ev : ∀ (a0 : Int) (a1 : Int), (symCall ⟨Go.Proofs.Tryz.prog, [(163, S163), (153, S153), (142, S142), (194, S194), (195, S195)], 3, 215, false, [], [], []⟩ 30 158 [.int .i64 (.sym a0), .int .i64 (.sym a1)] []).out = (bif !decide (a0 < 0) == decide (a1 < 0) then ((g158 ((f195 (IntKind.i64.wrap (bitsv BinOp.or IntKind.u64 (IntKind.u64.wrap ((f194 (IntKind.u64.wrap (f163 a0)) (IntKind.u64.wrap (f163 a1))).fst * 2 ^ 2)) ((f194 (IntKind.u64.wrap (f163 a0)) (IntKind.u64.wrap (f163 a1))).snd.fdiv (2 ^ 62)))) (IntKind.i64.wrap (bitsv BinOp.and IntKind.u64 (f194 (IntKind.u64.wrap (f163 a0)) (IntKind.u64.wrap (f163 a1))).snd 4611686018427387903))).fst, (f195 (IntKind.i64.wrap (bitsv BinOp.or IntKind.u64 (IntKind.u64.wrap ((f194 (IntKind.u64.wrap (f163 a0)) (IntKind.u64.wrap (f163 a1))).fst * 2 ^ 2)) ((f194 (IntKind.u64.wrap (f163 a0)) (IntKind.u64.wrap (f163 a1))).snd.fdiv (2 ^ 62)))) (IntKind.i64.wrap (bitsv BinOp.and IntKind.u64 (f194 (IntKind.u64.wrap (f163 a0)) (IntKind.u64.wrap (f163 a1))).snd 4611686018427387903))).snd)).toV) else ((g158 (IntKind.i64.wrap (bitsv BinOp.or IntKind.u64 (IntKind.u64.wrap ((f194 (IntKind.u64.wrap (f163 a0)) (IntKind.u64.wrap (f163 a1))).fst * 2 ^ 2)) ((f194 (IntKind.u64.wrap (f163 a0)) (IntKind.u64.wrap (f163 a1))).snd.fdiv (2 ^ 62))), IntKind.i64.wrap (bitsv BinOp.and IntKind.u64 (f194 (IntKind.u64.wrap (f163 a0)) (IntKind.u64.wrap (f163 a1))).snd 4611686018427387903))).toV)) := by
    intro a0 a1
    kernel_rfl
  intro fs r h w vs hv
  unfold S158 at h
  split at h
  · rename_i a0 a1
    cases h
    exact sx_calls (envOk' (S := [(163, S163), (153, S153), (142, S142), (194, S194), (195, S195)]) ⟨S163_ok, S153_ok, S142_ok, S194_ok, S195_ok, trivial⟩) 30 158 [.int .i64 (.sym a0.val), .int .i64 (.sym a1.val)] vs (symifyL_rel _ _ (SArels_v (xs := [.int .i64 a0, .int .i64 a1]) hv)) (by kernel_rfl) rfl ((ev a0.val a1.val).trans (cond_out g158 rfl rfl)) w
  · cases h
/-- outrigger/scale.Times -/
def f96 (a0 : Int) (a1 : Int) : Int × Bool := bif (f157 (f158 a0 a1).fst (f158 a0 a1).snd).snd then (((f157 (f158 a0 a1).fst (f158 a0 a1).snd).fst, true)) else (((f157 (f158 a0 a1).fst (f158 a0 a1).snd).fst, f159 [a0, a1]))
def g96 (p : Int × Bool) : SV := .tuple [.int .i64 (.sym p.1), .bool (.sym p.2)]
def S96 : Summ
  | [.v (.int .i64 a0), .v (.int .i64 a1)] => some (g96 (f96 a0.val a1.val))
  | _ => none
theorem S96_ok : SummFn Go.Proofs.Tryz.prog 96 S96 := by
  have ev : ∀ (a0 : Int) (a1 : Int), (symCall ⟨Go.Proofs.Tryz.prog, [(157, S157), (163, S163), (82, S82), (158, S158), (178, S178), (179, S179), (192, S192), (176, S176), (159, S159), (153, S153), (142, S142), (194, S194), (195, S195), (203, S203)], 3, 215, false, [], [], []⟩ 30 96 [.int .i64 (.sym a0), .int .i64 (.sym a1)] []).out = (bif (f157 (f158 a0 a1).fst (f158 a0 a1).snd).snd then ((g96 ((f157 (f158 a0 a1).fst (f158 a0 a1).snd).fst, true)).toV) else ((g96 ((f157 (f158 a0 a1).fst (f158 a0 a1).snd).fst, f159 [a0, a1])).toV)) := by
    intro a0 a1
    kernel_rfl
  intro fs r h w vs hv
  unfold S96 at h
  split at h
  · rename_i a0 a1
    cases h
    exact sx_calls (envOk' (S := [(157, S157), (163, S163), (82, S82), (158, S158), (178, S178), (179, S179), (192, S192), (176, S176), (159, S159), (153, S153), (142, S142), (194, S194), (195, S195), (203, S203)]) ⟨S157_ok, S163_ok, S82_ok, S158_ok, S178_ok, S179_ok, S192_ok, S176_ok, S159_ok, S153_ok, S142_ok, S194_ok, S195_ok, S203_ok, trivial⟩) 30 96 [.int .i64 (.sym a0.val), .int .i64 (.sym a1.val)] vs (symifyL_rel _ _ (SArels_v (xs := [.int .i64 a0, .int .i64 a1]) hv)) (by kernel_rfl) rfl ((ev a0.val a1.val).trans (cond_out g96 rfl rfl)) w
  · cases h
/-- outrigger/scale.Over -/
def f105 (a0 : Int) (a1 : Int) : Int × Bool := bif !decide (a0 < 0) == decide (a1 < 0) then (bif IntKind.u64.wrap (f163 a0) == 0 then ((0, f159 [a0, a1] || IntKind.u64.wrap (f163 a1) == 0)) else (bif IntKind.u64.wrap (f163 a1) == 0 && decide (a0 < 0) then ((-288230376151711744, true)) else (bif IntKind.u64.wrap (f163 a1) == 0 then ((288230376151711744, true)) else (bif (f164 (IntKind.u64.wrap (f163 a0)) (IntKind.u64.wrap (f163 a1))).snd.snd then ((-288230376151711744, true)) else (bif decide (IntKind.u64.wrap (2 * (f164 (IntKind.u64.wrap (f163 a0)) (IntKind.u64.wrap (f163 a1))).snd.fst) > IntKind.u64.wrap (f163 a1)) || IntKind.u64.wrap (2 * (f164 (IntKind.u64.wrap (f163 a0)) (IntKind.u64.wrap (f163 a1))).snd.fst) == IntKind.u64.wrap (f163 a1) && !!decide (a0 < 0) == decide (a1 < 0) then (bif !decide (a0 < 0) == decide (a1 < 0) then (((f82 (IntKind.i64.wrap (0 - IntKind.i64.wrap (IntKind.u64.wrap ((f164 (IntKind.u64.wrap (f163 a0)) (IntKind.u64.wrap (f163 a1))).fst + 1))))).fst, f159 [a0, a1] || (f82 (IntKind.i64.wrap (0 - IntKind.i64.wrap (IntKind.u64.wrap ((f164 (IntKind.u64.wrap (f163 a0)) (IntKind.u64.wrap (f163 a1))).fst + 1))))).snd)) else (((f82 (IntKind.i64.wrap (IntKind.u64.wrap ((f164 (IntKind.u64.wrap (f163 a0)) (IntKind.u64.wrap (f163 a1))).fst + 1)))).fst, f159 [a0, a1] || (f82 (IntKind.i64.wrap (IntKind.u64.wrap ((f164 (IntKind.u64.wrap (f163 a0)) (IntKind.u64.wrap (f163 a1))).fst + 1)))).snd))) else (bif !decide (a0 < 0) == decide (a1 < 0) then (((f82 (IntKind.i64.wrap (0 - IntKind.i64.wrap (f164 (IntKind.u64.wrap (f163 a0)) (IntKind.u64.wrap (f163 a1))).fst))).fst, f159 [a0, a1] || (f82 (IntKind.i64.wrap (0 - IntKind.i64.wrap (f164 (IntKind.u64.wrap (f163 a0)) (IntKind.u64.wrap (f163 a1))).fst))).snd)) else (((f82 (IntKind.i64.wrap (f164 (IntKind.u64.wrap (f163 a0)) (IntKind.u64.wrap (f163 a1))).fst)).fst, f159 [a0, a1] || (f82 (IntKind.i64.wrap (f164 (IntKind.u64.wrap (f163 a0)) (IntKind.u64.wrap (f163 a1))).fst)).snd)))))))) else (bif IntKind.u64.wrap (f163 a0) == 0 then ((0, f159 [a0, a1] || IntKind.u64.wrap (f163 a1) == 0)) else (bif IntKind.u64.wrap (f163 a1) == 0 && decide (a0 < 0) then ((-288230376151711744, true)) else (bif IntKind.u64.wrap (f163 a1) == 0 then ((288230376151711744, true)) else (bif (f164 (IntKind.u64.wrap (f163 a0)) (IntKind.u64.wrap (f163 a1))).snd.snd then ((288230376151711744, true)) else (bif decide (IntKind.u64.wrap (2 * (f164 (IntKind.u64.wrap (f163 a0)) (IntKind.u64.wrap (f163 a1))).snd.fst) > IntKind.u64.wrap (f163 a1)) || IntKind.u64.wrap (2 * (f164 (IntKind.u64.wrap (f163 a0)) (IntKind.u64.wrap (f163 a1))).snd.fst) == IntKind.u64.wrap (f163 a1) && !!decide (a0 < 0) == decide (a1 < 0) then (bif !decide (a0 < 0) == decide (a1 < 0) then (((f82 (IntKind.i64.wrap (0 - IntKind.i64.wrap (IntKind.u64.wrap ((f164 (IntKind.u64.wrap (f163 a0)) (IntKind.u64.wrap (f163 a1))).fst + 1))))).fst, f159 [a0, a1] || (f82 (IntKind.i64.wrap (0 - IntKind.i64.wrap (IntKind.u64.wrap ((f164 (IntKind.u64.wrap (f163 a0)) (IntKind.u64.wrap (f163 a1))).fst + 1))))).snd)) else (((f82 (IntKind.i64.wrap (IntKind.u64.wrap ((f164 (IntKind.u64.wrap (f163 a0)) (IntKind.u64.wrap (f163 a1))).fst + 1)))).fst, f159 [a0, a1] || (f82 (IntKind.i64.wrap (IntKind.u64.wrap ((f164 (IntKind.u64.wrap (f163 a0)) (IntKind.u64.wrap (f163 a1))).fst + 1)))).snd))) else (bif !decide (a0 < 0) == decide (a1 < 0) then (((f82 (IntKind.i64.wrap (0 - IntKind.i64.wrap (f164 (IntKind.u64.wrap (f163 a0)) (IntKind.u64.wrap (f163 a1))).fst))).fst, f159 [a0, a1] || (f82 (IntKind.i64.wrap (0 - IntKind.i64.wrap (f164 (IntKind.u64.wrap (f163 a0)) (IntKind.u64.wrap (f163 a1))).fst))).snd)) else (((f82 (IntKind.i64.wrap (f164 (IntKind.u64.wrap (f163 a0)) (IntKind.u64.wrap (f163 a1))).fst)).fst, f159 [a0, a1] || (f82 (IntKind.i64.wrap (f164 (IntKind.u64.wrap (f163 a0)) (IntKind.u64.wrap (f163 a1))).fst)).snd))))))))
def g105 (p : Int × Bool) : SV := .tuple [.int .i64 (.sym p.1), .bool (.sym p.2)]
def S105 : Summ
  | [.v (.int .i64 a0), .v (.int .i64 a1)] => some (g105 (f105 a0.val a1.val))
  | _ => none
theorem S105_ok : SummFn Go.Proofs.Tryz.prog 105 S105 := by
  have ev : ∀ (a0 : Int) (a1 : Int), (symCall ⟨Go.Proofs.Tryz.prog, [(163, S163), (82, S82), (159, S159), (164, S164), (153, S153), (142, S142)], 3, 215, false, [], [], []⟩ 30 105 [.int .i64 (.sym a0), .int .i64 (.sym a1)] []).out = (bif !decide (a0 < 0) == decide (a1 < 0) then (bif IntKind.u64.wrap (f163 a0) == 0 then ((g105 (0, f159 [a0, a1] || IntKind.u64.wrap (f163 a1) == 0)).toV) else (bif IntKind.u64.wrap (f163 a1) == 0 && decide (a0 < 0) then ((g105 (-288230376151711744, true)).toV) else (bif IntKind.u64.wrap (f163 a1) == 0 then ((g105 (288230376151711744, true)).toV) else (bif (f164 (IntKind.u64.wrap (f163 a0)) (IntKind.u64.wrap (f163 a1))).snd.snd then ((g105 (-288230376151711744, true)).toV) else (bif decide (IntKind.u64.wrap (2 * (f164 (IntKind.u64.wrap (f163 a0)) (IntKind.u64.wrap (f163 a1))).snd.fst) > IntKind.u64.wrap (f163 a1)) || IntKind.u64.wrap (2 * (f164 (IntKind.u64.wrap (f163 a0)) (IntKind.u64.wrap (f163 a1))).snd.fst) == IntKind.u64.wrap (f163 a1) && !!decide (a0 < 0) == decide (a1 < 0) then (bif !decide (a0 < 0) == decide (a1 < 0) then ((g105 ((f82 (IntKind.i64.wrap (0 - IntKind.i64.wrap (IntKind.u64.wrap ((f164 (IntKind.u64.wrap (f163 a0)) (IntKind.u64.wrap (f163 a1))).fst + 1))))).fst, f159 [a0, a1] || (f82 (IntKind.i64.wrap (0 - IntKind.i64.wrap (IntKind.u64.wrap ((f164 (IntKind.u64.wrap (f163 a0)) (IntKind.u64.wrap (f163 a1))).fst + 1))))).snd)).toV) else ((g105 ((f82 (IntKind.i64.wrap (IntKind.u64.wrap ((f164 (IntKind.u64.wrap (f163 a0)) (IntKind.u64.wrap (f163 a1))).fst + 1)))).fst, f159 [a0, a1] || (f82 (IntKind.i64.wrap (IntKind.u64.wrap ((f164 (IntKind.u64.wrap (f163 a0)) (IntKind.u64.wrap (f163 a1))).fst + 1)))).snd)).toV)) else (bif !decide (a0 < 0) == decide (a1 < 0) then ((g105 ((f82 (IntKind.i64.wrap (0 - IntKind.i64.wrap (f164 (IntKind.u64.wrap (f163 a0)) (IntKind.u64.wrap (f163 a1))).fst))).fst, f159 [a0, a1] || (f82 (IntKind.i64.wrap (0 - IntKind.i64.wrap (f164 (IntKind.u64.wrap (f163 a0)) (IntKind.u64.wrap (f163 a1))).fst))).snd)).toV) else ((g105 ((f82 (IntKind.i64.wrap (f164 (IntKind.u64.wrap (f163 a0)) (IntKind.u64.wrap (f163 a1))).fst)).fst, f159 [a0, a1] || (f82 (IntKind.i64.wrap (f164 (IntKind.u64.wrap (f163 a0)) (IntKind.u64.wrap (f163 a1))).fst)).snd)).toV))))))) else (bif IntKind.u64.wrap (f163 a0) == 0 then ((g105 (0, f159 [a0, a1] || IntKind.u64.wrap (f163 a1) == 0)).toV) else (bif IntKind.u64.wrap (f163 a1) == 0 && decide (a0 < 0) then ((g105 (-288230376151711744, true)).toV) else (bif IntKind.u64.wrap (f163 a1) == 0 then ((g105 (288230376151711744, true)).toV) else (bif (f164 (IntKind.u64.wrap (f163 a0)) (IntKind.u64.wrap (f163 a1))).snd.snd then ((g105 (288230376151711744, true)).toV) else (bif decide (IntKind.u64.wrap (2 * (f164 (IntKind.u64.wrap (f163 a0)) (IntKind.u64.wrap (f163 a1))).snd.fst) > IntKind.u64.wrap (f163 a1)) || IntKind.u64.wrap (2 * (f164 (IntKind.u64.wrap (f163 a0)) (IntKind.u64.wrap (f163 a1))).snd.fst) == IntKind.u64.wrap (f163 a1) && !!decide (a0 < 0) == decide (a1 < 0) then (bif !decide (a0 < 0) == decide (a1 < 0) then ((g105 ((f82 (IntKind.i64.wrap (0 - IntKind.i64.wrap (IntKind.u64.wrap ((f164 (IntKind.u64.wrap (f163 a0)) (IntKind.u64.wrap (f163 a1))).fst + 1))))).fst, f159 [a0, a1] || (f82 (IntKind.i64.wrap (0 - IntKind.i64.wrap (IntKind.u64.wrap ((f164 (IntKind.u64.wrap (f163 a0)) (IntKind.u64.wrap (f163 a1))).fst + 1))))).snd)).toV) else ((g105 ((f82 (IntKind.i64.wrap (IntKind.u64.wrap ((f164 (IntKind.u64.wrap (f163 a0)) (IntKind.u64.wrap (f163 a1))).fst + 1)))).fst, f159 [a0, a1] || (f82 (IntKind.i64.wrap (IntKind.u64.wrap ((f164 (IntKind.u64.wrap (f163 a0)) (IntKind.u64.wrap (f163 a1))).fst + 1)))).snd)).toV)) else (bif !decide (a0 < 0) == decide (a1 < 0) then ((g105 ((f82 (IntKind.i64.wrap (0 - IntKind.i64.wrap (f164 (IntKind.u64.wrap (f163 a0)) (IntKind.u64.wrap (f163 a1))).fst))).fst, f159 [a0, a1] || (f82 (IntKind.i64.wrap (0 - IntKind.i64.wrap (f164 (IntKind.u64.wrap (f163 a0)) (IntKind.u64.wrap (f163 a1))).fst))).snd)).toV) else ((g105 ((f82 (IntKind.i64.wrap (f164 (IntKind.u64.wrap (f163 a0)) (IntKind.u64.wrap (f163 a1))).fst)).fst, f159 [a0, a1] || (f82 (IntKind.i64.wrap (f164 (IntKind.u64.wrap (f163 a0)) (IntKind.u64.wrap (f163 a1))).fst)).snd)).toV)))))))) := by
    intro a0 a1
    kernel_rfl
  intro fs r h w vs hv
  unfold S105 at h
  split at h
  · rename_i a0 a1
    cases h
    exact sx_calls (envOk' (S := [(163, S163), (82, S82), (159, S159), (164, S164), (153, S153), (142, S142)]) ⟨S163_ok, S82_ok, S159_ok, S164_ok, S153_ok, S142_ok, trivial⟩) 30 105 [.int .i64 (.sym a0.val), .int .i64 (.sym a1.val)] vs (symifyL_rel _ _ (SArels_v (xs := [.int .i64 a0, .int .i64 a1]) hv)) (by kernel_rfl) rfl ((ev a0.val a1.val).trans (cond_out g105 (cond_out g105 rfl (cond_out g105 rfl (cond_out g105 rfl (cond_out g105 rfl (cond_out g105 (cond_out g105 rfl rfl) (cond_out g105 rfl rfl)))))) (cond_out g105 rfl (cond_out g105 rfl (cond_out g105 rfl (cond_out g105 rfl (cond_out g105 (cond_out g105 rfl rfl) (cond_out g105 rfl rfl)))))))) w
  · cases h
/-- outrigger/fix.Sub -/
def f98 (a0 : Int) (a1 : Int) : Int × Bool := ((f82 (IntKind.i64.wrap (f153 a0 - f153 a1))).fst, (f82 (IntKind.i64.wrap (f153 a0 - f153 a1))).snd || f153 a0 != a0 || f153 a1 != a1)
def g98 (p : Int × Bool) : SV := .tuple [.int .i64 (.sym p.1), .bool (.sym p.2)]
def S98 : Summ
  | [.v (.int .i64 a0), .v (.int .i64 a1)] => some (g98 (f98 a0.val a1.val))
  | _ => none
theorem S98_ok : SummFn Go.Proofs.Tryz.prog 98 S98 := by
  have ev : ∀ (a0 : Int) (a1 : Int), (symCall ⟨Go.Proofs.Tryz.prog, [(82, S82), (153, S153), (142, S142)], 3, 215, false, [], [], []⟩ 30 98 [.int .i64 (.sym a0), .int .i64 (.sym a1)] []).out = ((g98 ((f82 (IntKind.i64.wrap (f153 a0 - f153 a1))).fst, (f82 (IntKind.i64.wrap (f153 a0 - f153 a1))).snd || f153 a0 != a0 || f153 a1 != a1)).toV) := by
    intro a0 a1
    kernel_rfl
  intro fs r h w vs hv
  unfold S98 at h
  split at h
  · rename_i a0 a1
    cases h
    exact sx_calls (envOk' (S := [(82, S82), (153, S153), (142, S142)]) ⟨S82_ok, S153_ok, S142_ok, trivial⟩) 30 98 [.int .i64 (.sym a0.val), .int .i64 (.sym a1.val)] vs (symifyL_rel _ _ (SArels_v (xs := [.int .i64 a0, .int .i64 a1]) hv)) (by kernel_rfl) rfl ((ev a0.val a1.val).trans rfl) w
  · cases h
/-- outrigger/outriggerref02.Sane -/
def f186 (a0_0 : Int) (a0_1 : Int) : Bool := decide (a0_1 ≥ 0) && decide (a0_1 < 4611686018427387904) && decide (a0_0 ≥ -2305843009213693952) && decide (a0_0 < 2305843009213693952)
def g186 (p : Bool) : SV := .bool (.sym p)
def S186 : Summ
  | [.v (.agg [.int .i64 a0_0, .int .i64 a0_1])] => some (g186 (f186 a0_0.val a0_1.val))
  | _ => none
theorem S186_ok : SummFn Go.Proofs.Tryz.prog 186 S186 := by
  have ev : ∀ (a0_0 : Int) (a0_1 : Int), (symCall ⟨Go.Proofs.Tryz.prog, [], 3, 215, false, [], [], []⟩ 30 186 [.agg [.int .i64 (.sym a0_0), .int .i64 (.sym a0_1)]] []).out = ((g186 (decide (a0_1 ≥ 0) && decide (a0_1 < 4611686018427387904) && decide (a0_0 ≥ -2305843009213693952) && decide (a0_0 < 2305843009213693952))).toV) := by
    intro a0_0 a0_1
    kernel_rfl
  intro fs r h w vs hv
  unfold S186 at h
  split at h
  · rename_i a0_0 a0_1
    cases h
    exact sx_calls (envOk' (S := []) trivial) 30 186 [.agg [.int .i64 (.sym a0_0.val), .int .i64 (.sym a0_1.val)]] vs (symifyL_rel _ _ (SArels_v (xs := [.agg [.int .i64 a0_0, .int .i64 a0_1]]) hv)) (by kernel_rfl) rfl ((ev a0_0.val a0_1.val).trans rfl) w
  · cases h
/-- outrigger/outriggerref02.As -/
def f184 (a0_0 : Int) (a0_1 : Int) : Int × Int := bif !f186 a0_0 a0_1 then ((0, 0)) else ((a0_0, a0_1))
def g184 (p : Int × Int) : SV := .agg [.int .i64 (.sym p.1), .int .i64 (.sym p.2)]
def S184 : Summ
  | [.v (.agg [.int .i64 a0_0, .int .i64 a0_1])] => some (g184 (f184 a0_0.val a0_1.val))
  | _ => none
theorem S184_ok : SummFn Go.Proofs.Tryz.prog 184 S184 := by
  have ev : ∀ (a0_0 : Int) (a0_1 : Int), (symCall ⟨Go.Proofs.Tryz.prog, [(186, S186)], 3, 215, false, [], [], []⟩ 30 184 [.agg [.int .i64 (.sym a0_0), .int .i64 (.sym a0_1)]] []).out = (bif !f186 a0_0 a0_1 then ((g184 (0, 0)).toV) else ((g184 (a0_0, a0_1)).toV)) := by
    intro a0_0 a0_1
    kernel_rfl
  intro fs r h w vs hv
  unfold S184 at h
  split at h
  · rename_i a0_0 a0_1
    cases h
    exact sx_calls (envOk' (S := [(186, S186)]) ⟨S186_ok, trivial⟩) 30 184 [.agg [.int .i64 (.sym a0_0.val), .int .i64 (.sym a0_1.val)]] vs (symifyL_rel _ _ (SArels_v (xs := [.agg [.int .i64 a0_0, .int .i64 a0_1]]) hv)) (by kernel_rfl) rfl ((ev a0_0.val a0_1.val).trans (cond_out g184 rfl rfl)) w
  · cases h
/-- outrigger/outriggerref02.Add -/
def f187 (a0_0 : Int) (a0_1 : Int) (a1_0 : Int) (a1_1 : Int) : Int × Int × Bool := bif decide (IntKind.i64.wrap ((f184 a0_0 a0_1).snd + (f184 a1_0 a1_1).snd) < 0) || decide (IntKind.i64.wrap ((f184 a0_0 a0_1).snd + (f184 a1_0 a1_1).snd) ≥ 4611686018427387904) then (bif !f186 (IntKind.i64.wrap (IntKind.i64.wrap ((f184 a0_0 a0_1).fst + (f184 a1_0 a1_1).fst) + 1)) (IntKind.i64.wrap (IntKind.i64.wrap ((f184 a0_0 a0_1).snd + (f184 a1_0 a1_1).snd) - 4611686018427387904)) then ((0, 0, false)) else ((IntKind.i64.wrap (IntKind.i64.wrap ((f184 a0_0 a0_1).fst + (f184 a1_0 a1_1).fst) + 1), IntKind.i64.wrap (IntKind.i64.wrap ((f184 a0_0 a0_1).snd + (f184 a1_0 a1_1).snd) - 4611686018427387904), true))) else (bif !f186 (IntKind.i64.wrap ((f184 a0_0 a0_1).fst + (f184 a1_0 a1_1).fst)) (IntKind.i64.wrap ((f184 a0_0 a0_1).snd + (f184 a1_0 a1_1).snd)) then ((0, 0, false)) else ((IntKind.i64.wrap ((f184 a0_0 a0_1).fst + (f184 a1_0 a1_1).fst), IntKind.i64.wrap ((f184 a0_0 a0_1).snd + (f184 a1_0 a1_1).snd), true)))
def g187 (p : Int × Int × Bool) : SV := .tuple [.agg [.int .i64 (.sym p.1), .int .i64 (.sym p.2.1)], .bool (.sym p.2.2)]
def S187 : Summ
  | [.v (.agg [.int .i64 a0_0, .int .i64 a0_1]), .v (.agg [.int .i64 a1_0, .int .i64 a1_1])] => some (g187 (f187 a0_0.val a0_1.val a1_0.val a1_1.val))
  | _ => none
theorem S187_ok : SummFn Go.Proofs.Tryz.prog 187 S187 := by
  have ev : ∀ (a0_0 : Int) (a0_1 : Int) (a1_0 : Int) (a1_1 : Int), (symCall ⟨Go.Proofs.Tryz.prog, [(186, S186), (184, S184)], 3, 215, false, [], [], []⟩ 30 187 [.agg [.int .i64 (.sym a0_0), .int .i64 (.sym a0_1)], .agg [.int .i64 (.sym a1_0), .int .i64 (.sym a1_1)]] []).out = (bif decide (IntKind.i64.wrap ((f184 a0_0 a0_1).snd + (f184 a1_0 a1_1).snd) < 0) || decide (IntKind.i64.wrap ((f184 a0_0 a0_1).snd + (f184 a1_0 a1_1).snd) ≥ 4611686018427387904) then (bif !f186 (IntKind.i64.wrap (IntKind.i64.wrap ((f184 a0_0 a0_1).fst + (f184 a1_0 a1_1).fst) + 1)) (IntKind.i64.wrap (IntKind.i64.wrap ((f184 a0_0 a0_1).snd + (f184 a1_0 a1_1).snd) - 4611686018427387904)) then ((g187 (0, 0, false)).toV) else ((g187 (IntKind.i64.wrap (IntKind.i64.wrap ((f184 a0_0 a0_1).fst + (f184 a1_0 a1_1).fst) + 1), IntKind.i64.wrap (IntKind.i64.wrap ((f184 a0_0 a0_1).snd + (f184 a1_0 a1_1).snd) - 4611686018427387904), true)).toV)) else (bif !f186 (IntKind.i64.wrap ((f184 a0_0 a0_1).fst + (f184 a1_0 a1_1).fst)) (IntKind.i64.wrap ((f184 a0_0 a0_1).snd + (f184 a1_0 a1_1).snd)) then ((g187 (0, 0, false)).toV) else ((g187 (IntKind.i64.wrap ((f184 a0_0 a0_1).fst + (f184 a1_0 a1_1).fst), IntKind.i64.wrap ((f184 a0_0 a0_1).snd + (f184 a1_0 a1_1).snd), true)).toV))) := by
    intro a0_0 a0_1 a1_0 a1_1
    kernel_rfl
  intro fs r h w vs hv
  unfold S187 at h
  split at h
  · rename_i a0_0 a0_1 a1_0 a1_1
    cases h
    exact sx_calls (envOk' (S := [(186, S186), (184, S184)]) ⟨S186_ok, S184_ok, trivial⟩) 30 187 [.agg [.int .i64 (.sym a0_0.val), .int .i64 (.sym a0_1.val)], .agg [.int .i64 (.sym a1_0.val), .int .i64 (.sym a1_1.val)]] vs (symifyL_rel _ _ (SArels_v (xs := [.agg [.int .i64 a0_0, .int .i64 a0_1], .agg [.int .i64 a1_0, .int .i64 a1_1]]) hv)) (by kernel_rfl) rfl ((ev a0_0.val a0_1.val a1_0.val a1_1.val).trans (cond_out g187 (cond_out g187 rfl rfl) (cond_out g187 rfl rfl))) w
  · cases h
/-- outrigger/outriggerref02.Int -/
def f196 (a0_0 : Int) (a0_1 : Int) : Int × Bool := bif (f184 a0_0 a0_1).fst == 0 && decide ((f184 a0_0 a0_1).snd ≤ 288230376151711744) then (((f184 a0_0 a0_1).snd, true)) else (bif (f184 a0_0 a0_1).fst == -1 && decide ((f184 a0_0 a0_1).snd ≥ 4323455642275676160) then ((IntKind.i64.wrap ((f184 a0_0 a0_1).snd - 4611686018427387904), true)) else (bif decide ((f184 a0_0 a0_1).fst < 0) then ((-288230376151711744, false)) else ((288230376151711744, false))))
def g196 (p : Int × Bool) : SV := .tuple [.int .i64 (.sym p.1), .bool (.sym p.2)]
def S196 : Summ
  | [.v (.agg [.int .i64 a0_0, .int .i64 a0_1])] => some (g196 (f196 a0_0.val a0_1.val))
  | _ => none
theorem S196_ok : SummFn Go.Proofs.Tryz.prog 196 S196 := by
  have ev : ∀ (a0_0 : Int) (a0_1 : Int), (symCall ⟨Go.Proofs.Tryz.prog, [(186, S186), (184, S184)], 3, 215, false, [], [], []⟩ 30 196 [.agg [.int .i64 (.sym a0_0), .int .i64 (.sym a0_1)]] []).out = (bif (f184 a0_0 a0_1).fst == 0 && decide ((f184 a0_0 a0_1).snd ≤ 288230376151711744) then ((g196 ((f184 a0_0 a0_1).snd, true)).toV) else (bif (f184 a0_0 a0_1).fst == -1 && decide ((f184 a0_0 a0_1).snd ≥ 4323455642275676160) then ((g196 (IntKind.i64.wrap ((f184 a0_0 a0_1).snd - 4611686018427387904), true)).toV) else (bif decide ((f184 a0_0 a0_1).fst < 0) then ((g196 (-288230376151711744, false)).toV) else ((g196 (288230376151711744, false)).toV)))) := by
    intro a0_0 a0_1
    kernel_rfl
  intro fs r h w vs hv
  unfold S196 at h
  split at h
  · rename_i a0_0 a0_1
    cases h
    exact sx_calls (envOk' (S := [(186, S186), (184, S184)]) ⟨S186_ok, S184_ok, trivial⟩) 30 196 [.agg [.int .i64 (.sym a0_0.val), .int .i64 (.sym a0_1.val)]] vs (symifyL_rel _ _ (SArels_v (xs := [.agg [.int .i64 a0_0, .int .i64 a0_1]]) hv)) (by kernel_rfl) rfl ((ev a0_0.val a0_1.val).trans (cond_out g196 rfl (cond_out g196 rfl (cond_out g196 rfl rfl)))) w
  · cases h
/-- outrigger/outriggerref01.Clamp -/
def f146 (a0 : Int) : Int × Bool := bif decide (a0 > 288230376151711744) then ((288230376151711744, true)) else (bif decide (a0 < -288230376151711744) then ((-288230376151711744, true)) else ((a0, false)))
def g146 (p : Int × Bool) : SV := .tuple [.int .i64 (.sym p.1), .bool (.sym p.2)]
def S146 : Summ
  | [.v (.int .i64 a0)] => some (g146 (f146 a0.val))
  | _ => none
theorem S146_ok : SummFn Go.Proofs.Tryz.prog 146 S146 := by
  have ev : ∀ (a0 : Int), (symCall ⟨Go.Proofs.Tryz.prog, [], 3, 215, false, [], [], []⟩ 30 146 [.int .i64 (.sym a0)] []).out = (bif decide (a0 > 288230376151711744) then ((g146 (288230376151711744, true)).toV) else (bif decide (a0 < -288230376151711744) then ((g146 (-288230376151711744, true)).toV) else ((g146 (a0, false)).toV))) := by
    intro a0
    kernel_rfl
  intro fs r h w vs hv
  unfold S146 at h
  split at h
  · rename_i a0
    cases h
    exact sx_calls (envOk' (S := []) trivial) 30 146 [.int .i64 (.sym a0.val)] vs (symifyL_rel _ _ (SArels_v (xs := [.int .i64 a0]) hv)) (by kernel_rfl) rfl ((ev a0.val).trans (cond_out g146 rfl (cond_out g146 rfl rfl))) w
  · cases h
/-- outrigger/outriggerref01.As -/
def f88 (a0 : Int) : Int := (f146 a0).fst
def g88 (p : Int) : SV := .int .i64 (.sym p)
def S88 : Summ
  | [.v (.int .i64 a0)] => some (g88 (f88 a0.val))
  | _ => none
theorem S88_ok : SummFn Go.Proofs.Tryz.prog 88 S88 := by
  have ev : ∀ (a0 : Int), (symCall ⟨Go.Proofs.Tryz.prog, [(146, S146)], 3, 215, false, [], [], []⟩ 30 88 [.int .i64 (.sym a0)] []).out = ((g88 ((f146 a0).fst)).toV) := by
    intro a0
    kernel_rfl
  intro fs r h w vs hv
  unfold S88 at h
  split at h
  · rename_i a0
    cases h
    exact sx_calls (envOk' (S := [(146, S146)]) ⟨S146_ok, trivial⟩) 30 88 [.int .i64 (.sym a0.val)] vs (symifyL_rel _ _ (SArels_v (xs := [.int .i64 a0]) hv)) (by kernel_rfl) rfl ((ev a0.val).trans rfl) w
  · cases h
/-- outrigger/outriggerref01.Abs -/
def f132 (a0 : Int) : Int := mxI (f88 a0) (IntKind.i64.wrap (0 - f88 a0))
def g132 (p : Int) : SV := .int .i64 (.sym p)
def S132 : Summ
  | [.v (.int .i64 a0)] => some (g132 (f132 a0.val))
  | _ => none
theorem S132_ok : SummFn Go.Proofs.Tryz.prog 132 S132 := by
  have ev : ∀ (a0 : Int), (symCall ⟨Go.Proofs.Tryz.prog, [(88, S88), (146, S146)], 3, 215, false, [], [], []⟩ 30 132 [.int .i64 (.sym a0)] []).out = ((g132 (mxI (f88 a0) (IntKind.i64.wrap (0 - f88 a0)))).toV) := by
    intro a0
    kernel_rfl
  intro fs r h w vs hv
  unfold S132 at h
  split at h
  · rename_i a0
    cases h
    exact sx_calls (envOk' (S := [(88, S88), (146, S146)]) ⟨S88_ok, S146_ok, trivial⟩) 30 132 [.int .i64 (.sym a0.val)] vs (symifyL_rel _ _ (SArels_v (xs := [.int .i64 a0]) hv)) (by kernel_rfl) rfl ((ev a0.val).trans rfl) w
  · cases h
/-- outrigger/outriggerref02.turn -/
def f198 (a0_0 : Int) (a0_1 : Int) : Int × Int := bif a0_1 == 0 then ((IntKind.i64.wrap (0 - a0_0), 0)) else ((IntKind.i64.wrap (IntKind.i64.wrap (0 - a0_0) - 1), IntKind.i64.wrap (4611686018427387904 - a0_1)))
def g198 (p : Int × Int) : SV := .agg [.int .i64 (.sym p.1), .int .i64 (.sym p.2)]
def S198 : Summ
  | [.v (.agg [.int .i64 a0_0, .int .i64 a0_1])] => some (g198 (f198 a0_0.val a0_1.val))
  | _ => none
theorem S198_ok : SummFn Go.Proofs.Tryz.prog 198 S198 := by
  have ev : ∀ (a0_0 : Int) (a0_1 : Int), (symCall ⟨Go.Proofs.Tryz.prog, [], 3, 215, false, [], [], []⟩ 30 198 [.agg [.int .i64 (.sym a0_0), .int .i64 (.sym a0_1)]] []).out = (bif a0_1 == 0 then ((g198 (IntKind.i64.wrap (0 - a0_0), 0)).toV) else ((g198 (IntKind.i64.wrap (IntKind.i64.wrap (0 - a0_0) - 1), IntKind.i64.wrap (4611686018427387904 - a0_1))).toV)) := by
    intro a0_0 a0_1
    kernel_rfl
  intro fs r h w vs hv
  unfold S198 at h
  split at h
  · rename_i a0_0 a0_1
    cases h
    exact sx_calls (envOk' (S := []) trivial) 30 198 [.agg [.int .i64 (.sym a0_0.val), .int .i64 (.sym a0_1.val)]] vs (symifyL_rel _ _ (SArels_v (xs := [.agg [.int .i64 a0_0, .int .i64 a0_1]]) hv)) (by kernel_rfl) rfl ((ev a0_0.val a0_1.val).trans (cond_out g198 rfl rfl)) w
  · cases h
/-- outrigger/outriggerref02.Mul -/
def f161 (a0 : Int) (a1 : Int) : Int × Int := bif decide (IntKind.i64.wrap (IntKind.i64.wrap ((f132 a0).tmod 2147483648 * (f132 a1).tmod 2147483648) + IntKind.i64.wrap ((IntKind.i64.wrap (IntKind.i64.wrap (IntKind.i64.wrap ((f132 a0).tdiv 2147483648) * (f132 a1).tmod 2147483648) + IntKind.i64.wrap ((f132 a0).tmod 2147483648 * IntKind.i64.wrap ((f132 a1).tdiv 2147483648)))).tmod 2147483648 * 2147483648)) ≥ 4611686018427387904) then (bif !decide (a0 < 0) == decide (a1 < 0) then (((f198 (IntKind.i64.wrap (IntKind.i64.wrap (IntKind.i64.wrap (IntKind.i64.wrap ((f132 a0).tdiv 2147483648) * IntKind.i64.wrap ((f132 a1).tdiv 2147483648)) + IntKind.i64.wrap ((IntKind.i64.wrap (IntKind.i64.wrap (IntKind.i64.wrap ((f132 a0).tdiv 2147483648) * (f132 a1).tmod 2147483648) + IntKind.i64.wrap ((f132 a0).tmod 2147483648 * IntKind.i64.wrap ((f132 a1).tdiv 2147483648)))).tdiv 2147483648)) + 1)) (IntKind.i64.wrap (IntKind.i64.wrap (IntKind.i64.wrap ((f132 a0).tmod 2147483648 * (f132 a1).tmod 2147483648) + IntKind.i64.wrap ((IntKind.i64.wrap (IntKind.i64.wrap (IntKind.i64.wrap ((f132 a0).tdiv 2147483648) * (f132 a1).tmod 2147483648) + IntKind.i64.wrap ((f132 a0).tmod 2147483648 * IntKind.i64.wrap ((f132 a1).tdiv 2147483648)))).tmod 2147483648 * 2147483648)) - 4611686018427387904))).fst, (f198 (IntKind.i64.wrap (IntKind.i64.wrap (IntKind.i64.wrap (IntKind.i64.wrap ((f132 a0).tdiv 2147483648) * IntKind.i64.wrap ((f132 a1).tdiv 2147483648)) + IntKind.i64.wrap ((IntKind.i64.wrap (IntKind.i64.wrap (IntKind.i64.wrap ((f132 a0).tdiv 2147483648) * (f132 a1).tmod 2147483648) + IntKind.i64.wrap ((f132 a0).tmod 2147483648 * IntKind.i64.wrap ((f132 a1).tdiv 2147483648)))).tdiv 2147483648)) + 1)) (IntKind.i64.wrap (IntKind.i64.wrap (IntKind.i64.wrap ((f132 a0).tmod 2147483648 * (f132 a1).tmod 2147483648) + IntKind.i64.wrap ((IntKind.i64.wrap (IntKind.i64.wrap (IntKind.i64.wrap ((f132 a0).tdiv 2147483648) * (f132 a1).tmod 2147483648) + IntKind.i64.wrap ((f132 a0).tmod 2147483648 * IntKind.i64.wrap ((f132 a1).tdiv 2147483648)))).tmod 2147483648 * 2147483648)) - 4611686018427387904))).snd)) else ((IntKind.i64.wrap (IntKind.i64.wrap (IntKind.i64.wrap (IntKind.i64.wrap ((f132 a0).tdiv 2147483648) * IntKind.i64.wrap ((f132 a1).tdiv 2147483648)) + IntKind.i64.wrap ((IntKind.i64.wrap (IntKind.i64.wrap (IntKind.i64.wrap ((f132 a0).tdiv 2147483648) * (f132 a1).tmod 2147483648) + IntKind.i64.wrap ((f132 a0).tmod 2147483648 * IntKind.i64.wrap ((f132 a1).tdiv 2147483648)))).tdiv 2147483648)) + 1), IntKind.i64.wrap (IntKind.i64.wrap (IntKind.i64.wrap ((f132 a0).tmod 2147483648 * (f132 a1).tmod 2147483648) + IntKind.i64.wrap ((IntKind.i64.wrap (IntKind.i64.wrap (IntKind.i64.wrap ((f132 a0).tdiv 2147483648) * (f132 a1).tmod 2147483648) + IntKind.i64.wrap ((f132 a0).tmod 2147483648 * IntKind.i64.wrap ((f132 a1).tdiv 2147483648)))).tmod 2147483648 * 2147483648)) - 4611686018427387904)))) else (bif !decide (a0 < 0) == decide (a1 < 0) then (((f198 (IntKind.i64.wrap (IntKind.i64.wrap (IntKind.i64.wrap ((f132 a0).tdiv 2147483648) * IntKind.i64.wrap ((f132 a1).tdiv 2147483648)) + IntKind.i64.wrap ((IntKind.i64.wrap (IntKind.i64.wrap (IntKind.i64.wrap ((f132 a0).tdiv 2147483648) * (f132 a1).tmod 2147483648) + IntKind.i64.wrap ((f132 a0).tmod 2147483648 * IntKind.i64.wrap ((f132 a1).tdiv 2147483648)))).tdiv 2147483648))) (IntKind.i64.wrap (IntKind.i64.wrap ((f132 a0).tmod 2147483648 * (f132 a1).tmod 2147483648) + IntKind.i64.wrap ((IntKind.i64.wrap (IntKind.i64.wrap (IntKind.i64.wrap ((f132 a0).tdiv 2147483648) * (f132 a1).tmod 2147483648) + IntKind.i64.wrap ((f132 a0).tmod 2147483648 * IntKind.i64.wrap ((f132 a1).tdiv 2147483648)))).tmod 2147483648 * 2147483648)))).fst, (f198 (IntKind.i64.wrap (IntKind.i64.wrap (IntKind.i64.wrap ((f132 a0).tdiv 2147483648) * IntKind.i64.wrap ((f132 a1).tdiv 2147483648)) + IntKind.i64.wrap ((IntKind.i64.wrap (IntKind.i64.wrap (IntKind.i64.wrap ((f132 a0).tdiv 2147483648) * (f132 a1).tmod 2147483648) + IntKind.i64.wrap ((f132 a0).tmod 2147483648 * IntKind.i64.wrap ((f132 a1).tdiv 2147483648)))).tdiv 2147483648))) (IntKind.i64.wrap (IntKind.i64.wrap ((f132 a0).tmod 2147483648 * (f132 a1).tmod 2147483648) + IntKind.i64.wrap ((IntKind.i64.wrap (IntKind.i64.wrap (IntKind.i64.wrap ((f132 a0).tdiv 2147483648) * (f132 a1).tmod 2147483648) + IntKind.i64.wrap ((f132 a0).tmod 2147483648 * IntKind.i64.wrap ((f132 a1).tdiv 2147483648)))).tmod 2147483648 * 2147483648)))).snd)) else ((IntKind.i64.wrap (IntKind.i64.wrap (IntKind.i64.wrap ((f132 a0).tdiv 2147483648) * IntKind.i64.wrap ((f132 a1).tdiv 2147483648)) + IntKind.i64.wrap ((IntKind.i64.wrap (IntKind.i64.wrap (IntKind.i64.wrap ((f132 a0).tdiv 2147483648) * (f132 a1).tmod 2147483648) + IntKind.i64.wrap ((f132 a0).tmod 2147483648 * IntKind.i64.wrap ((f132 a1).tdiv 2147483648)))).tdiv 2147483648)), IntKind.i64.wrap (IntKind.i64.wrap ((f132 a0).tmod 2147483648 * (f132 a1).tmod 2147483648) + IntKind.i64.wrap ((IntKind.i64.wrap (IntKind.i64.wrap (IntKind.i64.wrap ((f132 a0).tdiv 2147483648) * (f132 a1).tmod 2147483648) + IntKind.i64.wrap ((f132 a0).tmod 2147483648 * IntKind.i64.wrap ((f132 a1).tdiv 2147483648)))).tmod 2147483648 * 2147483648)))))
def g161 (p : Int × Int) : SV := .agg [.int .i64 (.sym p.1), .int .i64 (.sym p.2)]
def S161 : Summ
  | [.v (.int .i64 a0), .v (.int .i64 a1)] => some (g161 (f161 a0.val a1.val))
  | _ => none
theorem S161_ok : SummFn Go.Proofs.Tryz.prog 161 S161 := by
  have ev : ∀ (a0 : Int) (a1 : Int), (symCall ⟨Go.Proofs.Tryz.prog, [(88, S88), (132, S132), (146, S146), (198, S198)], 3, 215, false, [], [], []⟩ 30 161 [.int .i64 (.sym a0), .int .i64 (.sym a1)] []).out = (bif decide (IntKind.i64.wrap (IntKind.i64.wrap ((f132 a0).tmod 2147483648 * (f132 a1).tmod 2147483648) + IntKind.i64.wrap ((IntKind.i64.wrap (IntKind.i64.wrap (IntKind.i64.wrap ((f132 a0).tdiv 2147483648) * (f132 a1).tmod 2147483648) + IntKind.i64.wrap ((f132 a0).tmod 2147483648 * IntKind.i64.wrap ((f132 a1).tdiv 2147483648)))).tmod 2147483648 * 2147483648)) ≥ 4611686018427387904) then (bif !decide (a0 < 0) == decide (a1 < 0) then ((g161 ((f198 (IntKind.i64.wrap (IntKind.i64.wrap (IntKind.i64.wrap (IntKind.i64.wrap ((f132 a0).tdiv 2147483648) * IntKind.i64.wrap ((f132 a1).tdiv 2147483648)) + IntKind.i64.wrap ((IntKind.i64.wrap (IntKind.i64.wrap (IntKind.i64.wrap ((f132 a0).tdiv 2147483648) * (f132 a1).tmod 2147483648) + IntKind.i64.wrap ((f132 a0).tmod 2147483648 * IntKind.i64.wrap ((f132 a1).tdiv 2147483648)))).tdiv 2147483648)) + 1)) (IntKind.i64.wrap (IntKind.i64.wrap (IntKind.i64.wrap ((f132 a0).tmod 2147483648 * (f132 a1).tmod 2147483648) + IntKind.i64.wrap ((IntKind.i64.wrap (IntKind.i64.wrap (IntKind.i64.wrap ((f132 a0).tdiv 2147483648) * (f132 a1).tmod 2147483648) + IntKind.i64.wrap ((f132 a0).tmod 2147483648 * IntKind.i64.wrap ((f132 a1).tdiv 2147483648)))).tmod 2147483648 * 2147483648)) - 4611686018427387904))).fst, (f198 (IntKind.i64.wrap (IntKind.i64.wrap (IntKind.i64.wrap (IntKind.i64.wrap ((f132 a0).tdiv 2147483648) * IntKind.i64.wrap ((f132 a1).tdiv 2147483648)) + IntKind.i64.wrap ((IntKind.i64.wrap (IntKind.i64.wrap (IntKind.i64.wrap ((f132 a0).tdiv 2147483648) * (f132 a1).tmod 2147483648) + IntKind.i64.wrap ((f132 a0).tmod 2147483648 * IntKind.i64.wrap ((f132 a1).tdiv 2147483648)))).tdiv 2147483648)) + 1)) (IntKind.i64.wrap (IntKind.i64.wrap (IntKind.i64.wrap ((f132 a0).tmod 2147483648 * (f132 a1).tmod 2147483648) + IntKind.i64.wrap ((IntKind.i64.wrap (IntKind.i64.wrap (IntKind.i64.wrap ((f132 a0).tdiv 2147483648) * (f132 a1).tmod 2147483648) + IntKind.i64.wrap ((f132 a0).tmod 2147483648 * IntKind.i64.wrap ((f132 a1).tdiv 2147483648)))).tmod 2147483648 * 2147483648)) - 4611686018427387904))).snd)).toV) else ((g161 (IntKind.i64.wrap (IntKind.i64.wrap (IntKind.i64.wrap (IntKind.i64.wrap ((f132 a0).tdiv 2147483648) * IntKind.i64.wrap ((f132 a1).tdiv 2147483648)) + IntKind.i64.wrap ((IntKind.i64.wrap (IntKind.i64.wrap (IntKind.i64.wrap ((f132 a0).tdiv 2147483648) * (f132 a1).tmod 2147483648) + IntKind.i64.wrap ((f132 a0).tmod 2147483648 * IntKind.i64.wrap ((f132 a1).tdiv 2147483648)))).tdiv 2147483648)) + 1), IntKind.i64.wrap (IntKind.i64.wrap (IntKind.i64.wrap ((f132 a0).tmod 2147483648 * (f132 a1).tmod 2147483648) + IntKind.i64.wrap ((IntKind.i64.wrap (IntKind.i64.wrap (IntKind.i64.wrap ((f132 a0).tdiv 2147483648) * (f132 a1).tmod 2147483648) + IntKind.i64.wrap ((f132 a0).tmod 2147483648 * IntKind.i64.wrap ((f132 a1).tdiv 2147483648)))).tmod 2147483648 * 2147483648)) - 4611686018427387904))).toV)) else (bif !decide (a0 < 0) == decide (a1 < 0) then ((g161 ((f198 (IntKind.i64.wrap (IntKind.i64.wrap (IntKind.i64.wrap ((f132 a0).tdiv 2147483648) * IntKind.i64.wrap ((f132 a1).tdiv 2147483648)) + IntKind.i64.wrap ((IntKind.i64.wrap (IntKind.i64.wrap (IntKind.i64.wrap ((f132 a0).tdiv 2147483648) * (f132 a1).tmod 2147483648) + IntKind.i64.wrap ((f132 a0).tmod 2147483648 * IntKind.i64.wrap ((f132 a1).tdiv 2147483648)))).tdiv 2147483648))) (IntKind.i64.wrap (IntKind.i64.wrap ((f132 a0).tmod 2147483648 * (f132 a1).tmod 2147483648) + IntKind.i64.wrap ((IntKind.i64.wrap (IntKind.i64.wrap (IntKind.i64.wrap ((f132 a0).tdiv 2147483648) * (f132 a1).tmod 2147483648) + IntKind.i64.wrap ((f132 a0).tmod 2147483648 * IntKind.i64.wrap ((f132 a1).tdiv 2147483648)))).tmod 2147483648 * 2147483648)))).fst, (f198 (IntKind.i64.wrap (IntKind.i64.wrap (IntKind.i64.wrap ((f132 a0).tdiv 2147483648) * IntKind.i64.wrap ((f132 a1).tdiv 2147483648)) + IntKind.i64.wrap ((IntKind.i64.wrap (IntKind.i64.wrap (IntKind.i64.wrap ((f132 a0).tdiv 2147483648) * (f132 a1).tmod 2147483648) + IntKind.i64.wrap ((f132 a0).tmod 2147483648 * IntKind.i64.wrap ((f132 a1).tdiv 2147483648)))).tdiv 2147483648))) (IntKind.i64.wrap (IntKind.i64.wrap ((f132 a0).tmod 2147483648 * (f132 a1).tmod 2147483648) + IntKind.i64.wrap ((IntKind.i64.wrap (IntKind.i64.wrap (IntKind.i64.wrap ((f132 a0).tdiv 2147483648) * (f132 a1).tmod 2147483648) + IntKind.i64.wrap ((f132 a0).tmod 2147483648 * IntKind.i64.wrap ((f132 a1).tdiv 2147483648)))).tmod 2147483648 * 2147483648)))).snd)).toV) else ((g161 (IntKind.i64.wrap (IntKind.i64.wrap (IntKind.i64.wrap ((f132 a0).tdiv 2147483648) * IntKind.i64.wrap ((f132 a1).tdiv 2147483648)) + IntKind.i64.wrap ((IntKind.i64.wrap (IntKind.i64.wrap (IntKind.i64.wrap ((f132 a0).tdiv 2147483648) * (f132 a1).tmod 2147483648) + IntKind.i64.wrap ((f132 a0).tmod 2147483648 * IntKind.i64.wrap ((f132 a1).tdiv 2147483648)))).tdiv 2147483648)), IntKind.i64.wrap (IntKind.i64.wrap ((f132 a0).tmod 2147483648 * (f132 a1).tmod 2147483648) + IntKind.i64.wrap ((IntKind.i64.wrap (IntKind.i64.wrap (IntKind.i64.wrap ((f132 a0).tdiv 2147483648) * (f132 a1).tmod 2147483648) + IntKind.i64.wrap ((f132 a0).tmod 2147483648 * IntKind.i64.wrap ((f132 a1).tdiv 2147483648)))).tmod 2147483648 * 2147483648)))).toV))) := by
    intro a0 a1
    kernel_rfl
  intro fs r h w vs hv
  unfold S161 at h
  split at h
  · rename_i a0 a1
    cases h
    exact sx_calls (envOk' (S := [(88, S88), (132, S132), (146, S146), (198, S198)]) ⟨S88_ok, S132_ok, S146_ok, S198_ok, trivial⟩) 30 161 [.int .i64 (.sym a0.val), .int .i64 (.sym a1.val)] vs (symifyL_rel _ _ (SArels_v (xs := [.int .i64 a0, .int .i64 a1]) hv)) (by kernel_rfl) rfl ((ev a0.val a1.val).trans (cond_out g161 (cond_out g161 rfl rfl) (cond_out g161 rfl rfl))) w
  · cases h
/-- outrigger/outriggerref03.changed -/
def f162 (a0 : Int) : Bool := (f146 a0).snd
def g162 (p : Bool) : SV := .bool (.sym p)
def S162 : Summ
  | [.v (.int .i64 a0)] => some (g162 (f162 a0.val))
  | _ => none
theorem S162_ok : SummFn Go.Proofs.Tryz.prog 162 S162 := by
  have ev : ∀ (a0 : Int), (symCall ⟨Go.Proofs.Tryz.prog, [(146, S146)], 3, 215, false, [], [], []⟩ 30 162 [.int .i64 (.sym a0)] []).out = ((g162 ((f146 a0).snd)).toV) := by
    intro a0
    kernel_rfl
  intro fs r h w vs hv
  unfold S162 at h
  split at h
  · rename_i a0
    cases h
    exact sx_calls (envOk' (S := [(146, S146)]) ⟨S146_ok, trivial⟩) 30 162 [.int .i64 (.sym a0.val)] vs (symifyL_rel _ _ (SArels_v (xs := [.int .i64 a0]) hv)) (by kernel_rfl) rfl ((ev a0.val).trans rfl) w
  · cases h
/-- outrigger/fix.Neg -/
def f86 (a0 : Int) : Int := IntKind.i64.wrap (0 - f153 a0)
def g86 (p : Int) : SV := .int .i64 (.sym p)
def S86 : Summ
  | [.v (.int .i64 a0)] => some (g86 (f86 a0.val))
  | _ => none
theorem S86_ok : SummFn Go.Proofs.Tryz.prog 86 S86 := by
  have ev : ∀ (a0 : Int), (symCall ⟨Go.Proofs.Tryz.prog, [(153, S153), (142, S142)], 3, 215, false, [], [], []⟩ 30 86 [.int .i64 (.sym a0)] []).out = ((g86 (IntKind.i64.wrap (0 - f153 a0))).toV) := by
    intro a0
    kernel_rfl
  intro fs r h w vs hv
  unfold S86 at h
  split at h
  · rename_i a0
    cases h
    exact sx_calls (envOk' (S := [(153, S153), (142, S142)]) ⟨S153_ok, S142_ok, trivial⟩) 30 86 [.int .i64 (.sym a0.val)] vs (symifyL_rel _ _ (SArels_v (xs := [.int .i64 a0]) hv)) (by kernel_rfl) rfl ((ev a0.val).trans rfl) w
  · cases h
/-- cmp.isNaN[int] -/
def f213 (a0 : Int) : Bool := a0 != a0
def g213 (p : Bool) : SV := .bool (.sym p)
def S213 : Summ
  | [.v (.int .i64 a0)] => some (g213 (f213 a0.val))
  | _ => none
theorem S213_ok : SummFn Go.Proofs.Tryz.prog 213 S213 := by
  have ev : ∀ (a0 : Int), (symCall ⟨Go.Proofs.Tryz.prog, [], 3, 215, false, [], [], []⟩ 30 213 [.int .i64 (.sym a0)] []).out = ((g213 (a0 != a0)).toV) := by
    intro a0
    kernel_rfl
  intro fs r h w vs hv
  unfold S213 at h
  split at h
  · rename_i a0
    cases h
    exact sx_calls (envOk' (S := []) trivial) 30 213 [.int .i64 (.sym a0.val)] vs (symifyL_rel _ _ (SArels_v (xs := [.int .i64 a0]) hv)) (by kernel_rfl) rfl ((ev a0.val).trans rfl) w
  · cases h
/-- cmp.Compare[int] -/
def f205 (a0 : Int) (a1 : Int) : Int := bif f213 a0 then (bif f213 a1 then (0) else (-1)) else (bif f213 a1 then (1) else (bif decide (a0 < a1) then (-1) else (bif decide (a0 > a1) then (1) else (0))))
def g205 (p : Int) : SV := .int .i64 (.sym p)
def S205 : Summ
  | [.v (.int .i64 a0), .v (.int .i64 a1)] => some (g205 (f205 a0.val a1.val))
  | _ => none
theorem S205_ok : SummFn Go.Proofs.Tryz.prog 205 S205 := by
  have ev : ∀ (a0 : Int) (a1 : Int), (symCall ⟨Go.Proofs.Tryz.prog, [(213, S213)], 3, 215, false, [], [], []⟩ 30 205 [.int .i64 (.sym a0), .int .i64 (.sym a1)] []).out = (bif f213 a0 then (bif f213 a1 then ((g205 (0)).toV) else ((g205 (-1)).toV)) else (bif f213 a1 then ((g205 (1)).toV) else (bif decide (a0 < a1) then ((g205 (-1)).toV) else (bif decide (a0 > a1) then ((g205 (1)).toV) else ((g205 (0)).toV))))) := by
    intro a0 a1
    kernel_rfl
  intro fs r h w vs hv
  unfold S205 at h
  split at h
  · rename_i a0 a1
    cases h
    exact sx_calls (envOk' (S := [(213, S213)]) ⟨S213_ok, trivial⟩) 30 205 [.int .i64 (.sym a0.val), .int .i64 (.sym a1.val)] vs (symifyL_rel _ _ (SArels_v (xs := [.int .i64 a0, .int .i64 a1]) hv)) (by kernel_rfl) rfl ((ev a0.val a1.val).trans (cond_out g205 (cond_out g205 rfl rfl) (cond_out g205 rfl (cond_out g205 rfl (cond_out g205 rfl rfl))))) w
  · cases h
/-- outrigger/wide.Compare -/
def f177 (a0_0 : Int) (a0_1 : Int) (a1_0 : Int) (a1_1 : Int) : Int := orL [f205 (f203 a0_0 a0_1).fst (f203 a1_0 a1_1).fst, f205 (f203 a0_0 a0_1).snd (f203 a1_0 a1_1).snd]
def g177 (p : Int) : SV := .int .i64 (.sym p)
def S177 : Summ
  | [.v (.agg [.int .i64 a0_0, .int .i64 a0_1]), .v (.agg [.int .i64 a1_0, .int .i64 a1_1])] => some (g177 (f177 a0_0.val a0_1.val a1_0.val a1_1.val))
  | _ => none
theorem S177_ok : SummFn Go.Proofs.Tryz.prog 177 S177 := by
  have ev : ∀ (a0_0 : Int) (a0_1 : Int) (a1_0 : Int) (a1_1 : Int), (symCall ⟨Go.Proofs.Tryz.prog, [(176, S176), (203, S203), (204, S204), (205, S205), (213, S213)], 3, 215, false, [], [], []⟩ 30 177 [.agg [.int .i64 (.sym a0_0), .int .i64 (.sym a0_1)], .agg [.int .i64 (.sym a1_0), .int .i64 (.sym a1_1)]] []).out = ((g177 (orL [f205 (f203 a0_0 a0_1).fst (f203 a1_0 a1_1).fst, f205 (f203 a0_0 a0_1).snd (f203 a1_0 a1_1).snd])).toV) := by
    intro a0_0 a0_1 a1_0 a1_1
    kernel_rfl
  intro fs r h w vs hv
  unfold S177 at h
  split at h
  · rename_i a0_0 a0_1 a1_0 a1_1
    cases h
    exact sx_calls (envOk' (S := [(176, S176), (203, S203), (204, S204), (205, S205), (213, S213)]) ⟨S176_ok, S203_ok, S204_ok, S205_ok, S213_ok, trivial⟩) 30 177 [.agg [.int .i64 (.sym a0_0.val), .int .i64 (.sym a0_1.val)], .agg [.int .i64 (.sym a1_0.val), .int .i64 (.sym a1_1.val)]] vs (symifyL_rel _ _ (SArels_v (xs := [.agg [.int .i64 a0_0, .int .i64 a0_1], .agg [.int .i64 a1_0, .int .i64 a1_1]]) hv)) (by kernel_rfl) rfl ((ev a0_0.val a0_1.val a1_0.val a1_1.val).trans rfl) w
  · cases h
end Go.Proofs.YtmnglkcodbecbaaGreat
