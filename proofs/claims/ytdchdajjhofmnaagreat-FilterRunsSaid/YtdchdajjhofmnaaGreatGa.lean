/- What each function computes, by the executor: printed by a program (wip/sx/Gen2.lean). -/
import Derived.Test.YtdchdajjhofmnaaGreatS
namespace Go.Proofs.YtdchdajjhofmnaaGreat
open Go Go.Sx
set_option maxRecDepth 1000000
set_option maxHeartbeats 100000000
def f282 (I0 I1 : Int) : Bool := decide (I1 ≥ 0) && decide (I1 ≤ 4611686018427387903) && decide (I0 ≥ -2305843009213693952) && decide (I0 < 2305843009213693952)
def g282 (p : Bool) : SV := bv p
def S282 : Summ
 | [.v (.agg [.int .i64 I0, .int .i64 I1])] => some (g282 (f282 I0.val I1.val))
 | _ => none
theorem S282_ok : SummFn Go.Proofs.Tryz.prog 282 S282 := by
 have ev : ∀ (I0 I1 : Int), (symCall ⟨Go.Proofs.Tryz.prog, [], 3, 336, false, [], [], [], []⟩ 30 282 [.agg [iv I0, iv I1]] []).out = ((g282 (decide (I1 ≥ 0) && decide (I1 ≤ 4611686018427387903) && decide (I0 ≥ -2305843009213693952) && decide (I0 < 2305843009213693952))).toV) := by
  intro I0 I1
  kernel_rfl
 intro fs r h w vs hv
 unfold S282 at h
 split at h
 ·rename_i I0 I1
  cases h
  exact sx_calls (envOk' (S := []) trivial) 30 282 [.agg [iv I0.val, iv I1.val]] vs (symifyL_rel _ _ (SArels_v (xs := [.agg [.int .i64 I0, .int .i64 I1]]) hv)) (by kernel_rfl) rfl ((ev I0.val I1.val).trans rfl) w
 ·cases h
def f317 (I0 I1 : Int) : Int × Int := bif f282 I0 I1 then ((I0, I1)) else ((0, 0))
def g317 (p : Int × Int) : SV := .agg [iv p.1, iv p.2]
def S317 : Summ
 | [.v (.agg [.int .i64 I0, .int .i64 I1])] => some (g317 (f317 I0.val I1.val))
 | _ => none
theorem S317_ok : SummFn Go.Proofs.Tryz.prog 317 S317 := by
 have ev : ∀ (I0 I1 : Int), (symCall ⟨Go.Proofs.Tryz.prog, [(282, S282)], 3, 336, false, [], [], [], []⟩ 30 317 [.agg [iv I0, iv I1]] []).out = (bif f282 I0 I1 then ((g317 (I0, I1)).toV) else ((g317 (0, 0)).toV)) := by
  intro I0 I1
  kernel_rfl
 intro fs r h w vs hv
 unfold S317 at h
 split at h
 ·rename_i I0 I1
  cases h
  exact sx_calls (envOk' (S := [(282, S282)]) ⟨S282_ok, trivial⟩) 30 317 [.agg [iv I0.val, iv I1.val]] vs (symifyL_rel _ _ (SArels_v (xs := [.agg [.int .i64 I0, .int .i64 I1]]) hv)) (by kernel_rfl) rfl ((ev I0.val I1.val).trans (cond_out g317 rfl rfl)) w
 ·cases h
def f284 (I0 I1 Z0 Z1 : Int) : Int × Int × Bool := bif !((f317 (IntKind.i64.wrap (IntKind.i64.wrap ((f317 I0 I1).fst + (f317 Z0 Z1).fst) + IntKind.i64.wrap ((IntKind.u64.wrap (IntKind.u64.wrap (f317 I0 I1).snd + IntKind.u64.wrap (f317 Z0 Z1).snd)).fdiv (2 ^ 62)))) (IntKind.i64.wrap (bitsv BinOp.and IntKind.u64 (IntKind.u64.wrap (IntKind.u64.wrap (f317 I0 I1).snd + IntKind.u64.wrap (f317 Z0 Z1).snd)) 4611686018427387903))).fst == IntKind.i64.wrap (IntKind.i64.wrap ((f317 I0 I1).fst + (f317 Z0 Z1).fst) + IntKind.i64.wrap ((IntKind.u64.wrap (IntKind.u64.wrap (f317 I0 I1).snd + IntKind.u64.wrap (f317 Z0 Z1).snd)).fdiv (2 ^ 62))) && (f317 (IntKind.i64.wrap (IntKind.i64.wrap ((f317 I0 I1).fst + (f317 Z0 Z1).fst) + IntKind.i64.wrap ((IntKind.u64.wrap (IntKind.u64.wrap (f317 I0 I1).snd + IntKind.u64.wrap (f317 Z0 Z1).snd)).fdiv (2 ^ 62)))) (IntKind.i64.wrap (bitsv BinOp.and IntKind.u64 (IntKind.u64.wrap (IntKind.u64.wrap (f317 I0 I1).snd + IntKind.u64.wrap (f317 Z0 Z1).snd)) 4611686018427387903))).snd == IntKind.i64.wrap (bitsv BinOp.and IntKind.u64 (IntKind.u64.wrap (IntKind.u64.wrap (f317 I0 I1).snd + IntKind.u64.wrap (f317 Z0 Z1).snd)) 4611686018427387903)) then ((0, 0, false)) else ((IntKind.i64.wrap (IntKind.i64.wrap ((f317 I0 I1).fst + (f317 Z0 Z1).fst) + IntKind.i64.wrap ((IntKind.u64.wrap (IntKind.u64.wrap (f317 I0 I1).snd + IntKind.u64.wrap (f317 Z0 Z1).snd)).fdiv (2 ^ 62))), IntKind.i64.wrap (bitsv BinOp.and IntKind.u64 (IntKind.u64.wrap (IntKind.u64.wrap (f317 I0 I1).snd + IntKind.u64.wrap (f317 Z0 Z1).snd)) 4611686018427387903), true))
def g284 (p : Int × Int × Bool) : SV := .tuple [.agg [iv p.1, iv p.2.1], bv p.2.2]
def S284 : Summ
 | [.v (.agg [.int .i64 I0, .int .i64 I1]), .v (.agg [.int .i64 Z0, .int .i64 Z1])] => some (g284 (f284 I0.val I1.val Z0.val Z1.val))
 | _ => none
theorem S284_ok : SummFn Go.Proofs.Tryz.prog 284 S284 := by
 have ev : ∀ (I0 I1 Z0 Z1 : Int), (symCall ⟨Go.Proofs.Tryz.prog, [(282, S282), (317, S317)], 3, 336, false, [], [], [], []⟩ 30 284 [.agg [iv I0, iv I1], .agg [iv Z0, iv Z1]] []).out = (bif !((f317 (IntKind.i64.wrap (IntKind.i64.wrap ((f317 I0 I1).fst + (f317 Z0 Z1).fst) + IntKind.i64.wrap ((IntKind.u64.wrap (IntKind.u64.wrap (f317 I0 I1).snd + IntKind.u64.wrap (f317 Z0 Z1).snd)).fdiv (2 ^ 62)))) (IntKind.i64.wrap (bitsv BinOp.and IntKind.u64 (IntKind.u64.wrap (IntKind.u64.wrap (f317 I0 I1).snd + IntKind.u64.wrap (f317 Z0 Z1).snd)) 4611686018427387903))).fst == IntKind.i64.wrap (IntKind.i64.wrap ((f317 I0 I1).fst + (f317 Z0 Z1).fst) + IntKind.i64.wrap ((IntKind.u64.wrap (IntKind.u64.wrap (f317 I0 I1).snd + IntKind.u64.wrap (f317 Z0 Z1).snd)).fdiv (2 ^ 62))) && (f317 (IntKind.i64.wrap (IntKind.i64.wrap ((f317 I0 I1).fst + (f317 Z0 Z1).fst) + IntKind.i64.wrap ((IntKind.u64.wrap (IntKind.u64.wrap (f317 I0 I1).snd + IntKind.u64.wrap (f317 Z0 Z1).snd)).fdiv (2 ^ 62)))) (IntKind.i64.wrap (bitsv BinOp.and IntKind.u64 (IntKind.u64.wrap (IntKind.u64.wrap (f317 I0 I1).snd + IntKind.u64.wrap (f317 Z0 Z1).snd)) 4611686018427387903))).snd == IntKind.i64.wrap (bitsv BinOp.and IntKind.u64 (IntKind.u64.wrap (IntKind.u64.wrap (f317 I0 I1).snd + IntKind.u64.wrap (f317 Z0 Z1).snd)) 4611686018427387903)) then ((g284 (0, 0, false)).toV) else ((g284 (IntKind.i64.wrap (IntKind.i64.wrap ((f317 I0 I1).fst + (f317 Z0 Z1).fst) + IntKind.i64.wrap ((IntKind.u64.wrap (IntKind.u64.wrap (f317 I0 I1).snd + IntKind.u64.wrap (f317 Z0 Z1).snd)).fdiv (2 ^ 62))), IntKind.i64.wrap (bitsv BinOp.and IntKind.u64 (IntKind.u64.wrap (IntKind.u64.wrap (f317 I0 I1).snd + IntKind.u64.wrap (f317 Z0 Z1).snd)) 4611686018427387903), true)).toV)) := by
  intro I0 I1 Z0 Z1
  kernel_rfl
 intro fs r h w vs hv
 unfold S284 at h
 split at h
 ·rename_i I0 I1 Z0 Z1
  cases h
  exact sx_calls (envOk' (S := [(282, S282), (317, S317)]) ⟨S282_ok, S317_ok, trivial⟩) 30 284 [.agg [iv I0.val, iv I1.val], .agg [iv Z0.val, iv Z1.val]] vs (symifyL_rel _ _ (SArels_v (xs := [.agg [.int .i64 I0, .int .i64 I1], .agg [.int .i64 Z0, .int .i64 Z1]]) hv)) (by kernel_rfl) rfl ((ev I0.val I1.val Z0.val Z1.val).trans (cond_out g284 rfl rfl)) w
 ·cases h
def f285 (a0 : Int) : Int × Int := (a0.fdiv (2 ^ 62), bitsv BinOp.and IntKind.i64 a0 4611686018427387903)
def g285 (p : Int × Int) : SV := .agg [iv p.1, iv p.2]
def S285 : Summ
 | [.v (.int .i64 a0)] => some (g285 (f285 a0.val))
 | _ => none
theorem S285_ok : SummFn Go.Proofs.Tryz.prog 285 S285 := by
 have ev : ∀ (a0 : Int), (symCall ⟨Go.Proofs.Tryz.prog, [], 3, 336, false, [], [], [], []⟩ 30 285 [iv a0] []).out = ((g285 (a0.fdiv (2 ^ 62), bitsv BinOp.and IntKind.i64 a0 4611686018427387903)).toV) := by
  intro a0
  kernel_rfl
 intro fs r h w vs hv
 unfold S285 at h
 split at h
 ·rename_i a0
  cases h
  exact sx_calls (envOk' (S := []) trivial) 30 285 [iv a0.val] vs (symifyL_rel _ _ (SArels_v (xs := [.int .i64 a0]) hv)) (by kernel_rfl) rfl ((ev a0.val).trans rfl) w
 ·cases h
def f149 (a0 a1 a2 : Int) : Int := mxI a1 (mnI a0 a2)
def g149 (p : Int) : SV := iv p
def S149 : Summ
 | [.v (.int .i64 a0), .v (.int .i64 a1), .v (.int .i64 a2)] => some (g149 (f149 a0.val a1.val a2.val))
 | _ => none
theorem S149_ok : SummFn Go.Proofs.Tryz.prog 149 S149 := by
 have ev : ∀ (a0 a1 a2 : Int), (symCall ⟨Go.Proofs.Tryz.prog, [], 3, 336, false, [], [], [], []⟩ 30 149 [iv a0, iv a1, iv a2] []).out = ((g149 (mxI a1 (mnI a0 a2))).toV) := by
  intro a0 a1 a2
  kernel_rfl
 intro fs r h w vs hv
 unfold S149 at h
 split at h
 ·rename_i a0 a1 a2
  cases h
  exact sx_calls (envOk' (S := []) trivial) 30 149 [iv a0.val, iv a1.val, iv a2.val] vs (symifyL_rel _ _ (SArels_v (xs := [.int .i64 a0, .int .i64 a1, .int .i64 a2]) hv)) (by kernel_rfl) rfl ((ev a0.val a1.val a2.val).trans rfl) w
 ·cases h
def f99 (a0 : Int) : Int × Bool := (f149 a0 (-288230376151711744) 288230376151711744, f149 a0 (-288230376151711744) 288230376151711744 != a0)
def g99 (p : Int × Bool) : SV := .tuple [iv p.1, bv p.2]
def S99 : Summ
 | [.v (.int .i64 a0)] => some (g99 (f99 a0.val))
 | _ => none
theorem S99_ok : SummFn Go.Proofs.Tryz.prog 99 S99 := by
 have ev : ∀ (a0 : Int), (symCall ⟨Go.Proofs.Tryz.prog, [(149, S149)], 3, 336, false, [], [], [], []⟩ 30 99 [iv a0] []).out = ((g99 (f149 a0 (-288230376151711744) 288230376151711744, f149 a0 (-288230376151711744) 288230376151711744 != a0)).toV) := by
  intro a0
  kernel_rfl
 intro fs r h w vs hv
 unfold S99 at h
 split at h
 ·rename_i a0
  cases h
  exact sx_calls (envOk' (S := [(149, S149)]) ⟨S149_ok, trivial⟩) 30 99 [iv a0.val] vs (symifyL_rel _ _ (SArels_v (xs := [.int .i64 a0]) hv)) (by kernel_rfl) rfl ((ev a0.val).trans rfl) w
 ·cases h
end Go.Proofs.YtdchdajjhofmnaaGreat
