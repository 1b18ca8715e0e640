/- What each function computes, by the executor: printed by a program (wip/sx/Gen2.lean). -/
import Derived.Test.YtdchdajjhofmnaaGreatM
namespace Go.Proofs.YtdchdajjhofmnaaGreat
open Go Go.Sx
set_option maxRecDepth 1000000
set_option maxHeartbeats 100000000
def f300 (I0 I1 : Int) : Int × Bool := bif (f317 I0 I1).fst == 0 || (f317 I0 I1).fst == -1 then (((f99 (IntKind.i64.wrap (IntKind.i64.wrap ((f317 I0 I1).fst * 2 ^ 62) + (f317 I0 I1).snd))).fst, !(f99 (IntKind.i64.wrap (IntKind.i64.wrap ((f317 I0 I1).fst * 2 ^ 62) + (f317 I0 I1).snd))).snd)) else (bif decide ((f317 I0 I1).fst < 0) then ((-288230376151711744, false)) else ((288230376151711744, false)))
def g300 (p : Int × Bool) : SV := .tuple [iv p.1, bv p.2]
def S300 : Summ
 | [.v (.agg [.int .i64 I0, .int .i64 I1])] => some (g300 (f300 I0.val I1.val))
 | _ => none
theorem S300_ok : SummFn Go.Proofs.Tryz.prog 300 S300 := by
 have ev : ∀ (I0 I1 : Int), (symCall ⟨Go.Proofs.Tryz.prog, [(99, S99), (282, S282), (149, S149), (317, S317)], 3, 336, false, [], [], [], []⟩ 30 300 [.agg [iv I0, iv I1]] []).out = (bif (f317 I0 I1).fst == 0 || (f317 I0 I1).fst == -1 then ((g300 ((f99 (IntKind.i64.wrap (IntKind.i64.wrap ((f317 I0 I1).fst * 2 ^ 62) + (f317 I0 I1).snd))).fst, !(f99 (IntKind.i64.wrap (IntKind.i64.wrap ((f317 I0 I1).fst * 2 ^ 62) + (f317 I0 I1).snd))).snd)).toV) else (bif decide ((f317 I0 I1).fst < 0) then ((g300 (-288230376151711744, false)).toV) else ((g300 (288230376151711744, false)).toV))) := by
  intro I0 I1
  kernel_rfl
 intro fs r h w vs hv
 unfold S300 at h
 split at h
 ·rename_i I0 I1
  cases h
  exact sx_calls (envOk' (S := [(99, S99), (282, S282), (149, S149), (317, S317)]) ⟨S99_ok, S282_ok, S149_ok, S317_ok, trivial⟩) 30 300 [.agg [iv I0.val, iv I1.val]] vs (symifyL_rel _ _ (SArels_v (xs := [.agg [.int .i64 I0, .int .i64 I1]]) hv)) (by kernel_rfl) rfl ((ev I0.val I1.val).trans (cond_out g300 rfl (cond_out g300 rfl rfl))) w
 ·cases h
def f258 (I0 I1 : Int) : Int × Bool := bif !(f284 I0 I1 (f285 2147483648).fst (f285 2147483648).snd).snd.snd then ((288230376151711744, true)) else (((f300 ((f317 (f284 I0 I1 (f285 2147483648).fst (f285 2147483648).snd).fst (f284 I0 I1 (f285 2147483648).fst (f285 2147483648).snd).snd.fst).fst.fdiv (2 ^ 32)) (bitsv BinOp.and IntKind.i64 (bitsv BinOp.or IntKind.i64 (IntKind.i64.wrap ((f317 (f284 I0 I1 (f285 2147483648).fst (f285 2147483648).snd).fst (f284 I0 I1 (f285 2147483648).fst (f285 2147483648).snd).snd.fst).fst * 2 ^ 30)) ((f317 (f284 I0 I1 (f285 2147483648).fst (f285 2147483648).snd).fst (f284 I0 I1 (f285 2147483648).fst (f285 2147483648).snd).snd.fst).snd.fdiv (2 ^ 32))) 4611686018427387903)).fst, !(f300 ((f317 (f284 I0 I1 (f285 2147483648).fst (f285 2147483648).snd).fst (f284 I0 I1 (f285 2147483648).fst (f285 2147483648).snd).snd.fst).fst.fdiv (2 ^ 32)) (bitsv BinOp.and IntKind.i64 (bitsv BinOp.or IntKind.i64 (IntKind.i64.wrap ((f317 (f284 I0 I1 (f285 2147483648).fst (f285 2147483648).snd).fst (f284 I0 I1 (f285 2147483648).fst (f285 2147483648).snd).snd.fst).fst * 2 ^ 30)) ((f317 (f284 I0 I1 (f285 2147483648).fst (f285 2147483648).snd).fst (f284 I0 I1 (f285 2147483648).fst (f285 2147483648).snd).snd.fst).snd.fdiv (2 ^ 32))) 4611686018427387903)).snd || !f282 I0 I1))
def g258 (p : Int × Bool) : SV := .tuple [iv p.1, bv p.2]
def S258 : Summ
 | [.v (.agg [.int .i64 I0, .int .i64 I1])] => some (g258 (f258 I0.val I1.val))
 | _ => none
theorem S258_ok : SummFn Go.Proofs.Tryz.prog 258 S258 := by
 have ev : ∀ (I0 I1 : Int), (symCall ⟨Go.Proofs.Tryz.prog, [(99, S99), (284, S284), (285, S285), (300, S300), (282, S282), (149, S149), (317, S317)], 3, 336, false, [], [], [], []⟩ 30 258 [.agg [iv I0, iv I1]] []).out = (bif !(f284 I0 I1 (f285 2147483648).fst (f285 2147483648).snd).snd.snd then ((g258 (288230376151711744, true)).toV) else ((g258 ((f300 ((f317 (f284 I0 I1 (f285 2147483648).fst (f285 2147483648).snd).fst (f284 I0 I1 (f285 2147483648).fst (f285 2147483648).snd).snd.fst).fst.fdiv (2 ^ 32)) (bitsv BinOp.and IntKind.i64 (bitsv BinOp.or IntKind.i64 (IntKind.i64.wrap ((f317 (f284 I0 I1 (f285 2147483648).fst (f285 2147483648).snd).fst (f284 I0 I1 (f285 2147483648).fst (f285 2147483648).snd).snd.fst).fst * 2 ^ 30)) ((f317 (f284 I0 I1 (f285 2147483648).fst (f285 2147483648).snd).fst (f284 I0 I1 (f285 2147483648).fst (f285 2147483648).snd).snd.fst).snd.fdiv (2 ^ 32))) 4611686018427387903)).fst, !(f300 ((f317 (f284 I0 I1 (f285 2147483648).fst (f285 2147483648).snd).fst (f284 I0 I1 (f285 2147483648).fst (f285 2147483648).snd).snd.fst).fst.fdiv (2 ^ 32)) (bitsv BinOp.and IntKind.i64 (bitsv BinOp.or IntKind.i64 (IntKind.i64.wrap ((f317 (f284 I0 I1 (f285 2147483648).fst (f285 2147483648).snd).fst (f284 I0 I1 (f285 2147483648).fst (f285 2147483648).snd).snd.fst).fst * 2 ^ 30)) ((f317 (f284 I0 I1 (f285 2147483648).fst (f285 2147483648).snd).fst (f284 I0 I1 (f285 2147483648).fst (f285 2147483648).snd).snd.fst).snd.fdiv (2 ^ 32))) 4611686018427387903)).snd || !f282 I0 I1)).toV)) := by
  intro I0 I1
  kernel_rfl
 intro fs r h w vs hv
 unfold S258 at h
 split at h
 ·rename_i I0 I1
  cases h
  exact sx_calls (envOk' (S := [(99, S99), (284, S284), (285, S285), (300, S300), (282, S282), (149, S149), (317, S317)]) ⟨S99_ok, S284_ok, S285_ok, S300_ok, S282_ok, S149_ok, S317_ok, trivial⟩) 30 258 [.agg [iv I0.val, iv I1.val]] vs (symifyL_rel _ _ (SArels_v (xs := [.agg [.int .i64 I0, .int .i64 I1]]) hv)) (by kernel_rfl) rfl ((ev I0.val I1.val).trans (cond_out g258 rfl rfl)) w
 ·cases h
def f257 (a0 : Int) : Int := f149 a0 (-288230376151711744) 288230376151711744
def g257 (p : Int) : SV := iv p
def S257 : Summ
 | [.v (.int .i64 a0)] => some (g257 (f257 a0.val))
 | _ => none
theorem S257_ok : SummFn Go.Proofs.Tryz.prog 257 S257 := by
 have ev : ∀ (a0 : Int), (symCall ⟨Go.Proofs.Tryz.prog, [(149, S149)], 3, 336, false, [], [], [], []⟩ 30 257 [iv a0] []).out = ((g257 (f149 a0 (-288230376151711744) 288230376151711744)).toV) := by
  intro a0
  kernel_rfl
 intro fs r h w vs hv
 unfold S257 at h
 split at h
 ·rename_i a0
  cases h
  exact sx_calls (envOk' (S := [(149, S149)]) ⟨S149_ok, trivial⟩) 30 257 [iv a0.val] vs (symifyL_rel _ _ (SArels_v (xs := [.int .i64 a0]) hv)) (by kernel_rfl) rfl ((ev a0.val).trans rfl) w
 ·cases h
def f303 (a0 : Int) : Int := mxI (f257 a0) (IntKind.i64.wrap (0 - f257 a0))
def g303 (p : Int) : SV := iv p
def S303 : Summ
 | [.v (.int .i64 a0)] => some (g303 (f303 a0.val))
 | _ => none
theorem S303_ok : SummFn Go.Proofs.Tryz.prog 303 S303 := by
 have ev : ∀ (a0 : Int), (symCall ⟨Go.Proofs.Tryz.prog, [(257, S257), (149, S149)], 3, 336, false, [], [], [], []⟩ 30 303 [iv a0] []).out = ((g303 (mxI (f257 a0) (IntKind.i64.wrap (0 - f257 a0)))).toV) := by
  intro a0
  kernel_rfl
 intro fs r h w vs hv
 unfold S303 at h
 split at h
 ·rename_i a0
  cases h
  exact sx_calls (envOk' (S := [(257, S257), (149, S149)]) ⟨S257_ok, S149_ok, trivial⟩) 30 303 [iv a0.val] vs (symifyL_rel _ _ (SArels_v (xs := [.int .i64 a0]) hv)) (by kernel_rfl) rfl ((ev a0.val).trans rfl) w
 ·cases h
def f302 (a0 a1 : Int) : Int × Int := (IntKind.u64.wrap (IntKind.u64.wrap (IntKind.u64.wrap (a0.fdiv (2 ^ 32) * a1.fdiv (2 ^ 32)) + (IntKind.u64.wrap (IntKind.u64.wrap (a0.fdiv (2 ^ 32) * bitsv BinOp.and IntKind.u64 a1 4294967295) + (IntKind.u64.wrap (bitsv BinOp.and IntKind.u64 a0 4294967295 * bitsv BinOp.and IntKind.u64 a1 4294967295)).fdiv (2 ^ 32))).fdiv (2 ^ 32)) + (IntKind.u64.wrap (bitsv BinOp.and IntKind.u64 (IntKind.u64.wrap (IntKind.u64.wrap (a0.fdiv (2 ^ 32) * bitsv BinOp.and IntKind.u64 a1 4294967295) + (IntKind.u64.wrap (bitsv BinOp.and IntKind.u64 a0 4294967295 * bitsv BinOp.and IntKind.u64 a1 4294967295)).fdiv (2 ^ 32))) 4294967295 + IntKind.u64.wrap (bitsv BinOp.and IntKind.u64 a0 4294967295 * a1.fdiv (2 ^ 32)))).fdiv (2 ^ 32)), IntKind.u64.wrap (a0 * a1))
def g302 (p : Int × Int) : SV := .tuple [.int .u64 (.sym p.1), .int .u64 (.sym p.2)]
def S302 : Summ
 | [.v (.int .u64 a0), .v (.int .u64 a1)] => some (g302 (f302 a0.val a1.val))
 | _ => none
theorem S302_ok : SummFn Go.Proofs.Tryz.prog 302 S302 := by
 have ev : ∀ (a0 a1 : Int), (symCall ⟨Go.Proofs.Tryz.prog, [], 3, 336, false, [], [], [], []⟩ 30 302 [.int .u64 (.sym a0), .int .u64 (.sym a1)] []).out = ((g302 (IntKind.u64.wrap (IntKind.u64.wrap (IntKind.u64.wrap (a0.fdiv (2 ^ 32) * a1.fdiv (2 ^ 32)) + (IntKind.u64.wrap (IntKind.u64.wrap (a0.fdiv (2 ^ 32) * bitsv BinOp.and IntKind.u64 a1 4294967295) + (IntKind.u64.wrap (bitsv BinOp.and IntKind.u64 a0 4294967295 * bitsv BinOp.and IntKind.u64 a1 4294967295)).fdiv (2 ^ 32))).fdiv (2 ^ 32)) + (IntKind.u64.wrap (bitsv BinOp.and IntKind.u64 (IntKind.u64.wrap (IntKind.u64.wrap (a0.fdiv (2 ^ 32) * bitsv BinOp.and IntKind.u64 a1 4294967295) + (IntKind.u64.wrap (bitsv BinOp.and IntKind.u64 a0 4294967295 * bitsv BinOp.and IntKind.u64 a1 4294967295)).fdiv (2 ^ 32))) 4294967295 + IntKind.u64.wrap (bitsv BinOp.and IntKind.u64 a0 4294967295 * a1.fdiv (2 ^ 32)))).fdiv (2 ^ 32)), IntKind.u64.wrap (a0 * a1))).toV) := by
  intro a0 a1
  kernel_rfl
 intro fs r h w vs hv
 unfold S302 at h
 split at h
 ·rename_i a0 a1
  cases h
  exact sx_calls (envOk' (S := []) trivial) 30 302 [.int .u64 (.sym a0.val), .int .u64 (.sym a1.val)] vs (symifyL_rel _ _ (SArels_v (xs := [.int .u64 a0, .int .u64 a1]) hv)) (by kernel_rfl) rfl ((ev a0.val a1.val).trans rfl) w
 ·cases h
def f304 (I0 I1 : Int) : Int × Int := bif I1 == 0 then ((IntKind.i64.wrap (0 - I0), 0)) else ((bitsv BinOp.xor IntKind.i64 (-1) I0, IntKind.i64.wrap (4611686018427387904 - I1)))
def g304 (p : Int × Int) : SV := .agg [iv p.1, iv p.2]
def S304 : Summ
 | [.v (.agg [.int .i64 I0, .int .i64 I1])] => some (g304 (f304 I0.val I1.val))
 | _ => none
theorem S304_ok : SummFn Go.Proofs.Tryz.prog 304 S304 := by
 have ev : ∀ (I0 I1 : Int), (symCall ⟨Go.Proofs.Tryz.prog, [], 3, 336, false, [], [], [], []⟩ 30 304 [.agg [iv I0, iv I1]] []).out = (bif I1 == 0 then ((g304 (IntKind.i64.wrap (0 - I0), 0)).toV) else ((g304 (bitsv BinOp.xor IntKind.i64 (-1) I0, IntKind.i64.wrap (4611686018427387904 - I1))).toV)) := by
  intro I0 I1
  kernel_rfl
 intro fs r h w vs hv
 unfold S304 at h
 split at h
 ·rename_i I0 I1
  cases h
  exact sx_calls (envOk' (S := []) trivial) 30 304 [.agg [iv I0.val, iv I1.val]] vs (symifyL_rel _ _ (SArels_v (xs := [.agg [.int .i64 I0, .int .i64 I1]]) hv)) (by kernel_rfl) rfl ((ev I0.val I1.val).trans (cond_out g304 rfl rfl)) w
 ·cases h
def f259 (a0 a1 : Int) : Int × Int := bif !decide (a0 < 0) == decide (a1 < 0) then (((f304 (IntKind.i64.wrap (bitsv BinOp.or IntKind.u64 (IntKind.u64.wrap ((f302 (IntKind.u64.wrap (f303 a0)) (IntKind.u64.wrap (f303 a1))).fst * 2 ^ 2)) ((f302 (IntKind.u64.wrap (f303 a0)) (IntKind.u64.wrap (f303 a1))).snd.fdiv (2 ^ 62)))) (IntKind.i64.wrap (bitsv BinOp.and IntKind.u64 (f302 (IntKind.u64.wrap (f303 a0)) (IntKind.u64.wrap (f303 a1))).snd 4611686018427387903))).fst, (f304 (IntKind.i64.wrap (bitsv BinOp.or IntKind.u64 (IntKind.u64.wrap ((f302 (IntKind.u64.wrap (f303 a0)) (IntKind.u64.wrap (f303 a1))).fst * 2 ^ 2)) ((f302 (IntKind.u64.wrap (f303 a0)) (IntKind.u64.wrap (f303 a1))).snd.fdiv (2 ^ 62)))) (IntKind.i64.wrap (bitsv BinOp.and IntKind.u64 (f302 (IntKind.u64.wrap (f303 a0)) (IntKind.u64.wrap (f303 a1))).snd 4611686018427387903))).snd)) else ((IntKind.i64.wrap (bitsv BinOp.or IntKind.u64 (IntKind.u64.wrap ((f302 (IntKind.u64.wrap (f303 a0)) (IntKind.u64.wrap (f303 a1))).fst * 2 ^ 2)) ((f302 (IntKind.u64.wrap (f303 a0)) (IntKind.u64.wrap (f303 a1))).snd.fdiv (2 ^ 62))), IntKind.i64.wrap (bitsv BinOp.and IntKind.u64 (f302 (IntKind.u64.wrap (f303 a0)) (IntKind.u64.wrap (f303 a1))).snd 4611686018427387903)))
def g259 (p : Int × Int) : SV := .agg [iv p.1, iv p.2]
def S259 : Summ
 | [.v (.int .i64 a0), .v (.int .i64 a1)] => some (g259 (f259 a0.val a1.val))
 | _ => none
theorem S259_ok : SummFn Go.Proofs.Tryz.prog 259 S259 := by
 have ev : ∀ (a0 a1 : Int), (symCall ⟨Go.Proofs.Tryz.prog, [(303, S303), (257, S257), (149, S149), (302, S302), (304, S304)], 3, 336, false, [], [], [], []⟩ 30 259 [iv a0, iv a1] []).out = (bif !decide (a0 < 0) == decide (a1 < 0) then ((g259 ((f304 (IntKind.i64.wrap (bitsv BinOp.or IntKind.u64 (IntKind.u64.wrap ((f302 (IntKind.u64.wrap (f303 a0)) (IntKind.u64.wrap (f303 a1))).fst * 2 ^ 2)) ((f302 (IntKind.u64.wrap (f303 a0)) (IntKind.u64.wrap (f303 a1))).snd.fdiv (2 ^ 62)))) (IntKind.i64.wrap (bitsv BinOp.and IntKind.u64 (f302 (IntKind.u64.wrap (f303 a0)) (IntKind.u64.wrap (f303 a1))).snd 4611686018427387903))).fst, (f304 (IntKind.i64.wrap (bitsv BinOp.or IntKind.u64 (IntKind.u64.wrap ((f302 (IntKind.u64.wrap (f303 a0)) (IntKind.u64.wrap (f303 a1))).fst * 2 ^ 2)) ((f302 (IntKind.u64.wrap (f303 a0)) (IntKind.u64.wrap (f303 a1))).snd.fdiv (2 ^ 62)))) (IntKind.i64.wrap (bitsv BinOp.and IntKind.u64 (f302 (IntKind.u64.wrap (f303 a0)) (IntKind.u64.wrap (f303 a1))).snd 4611686018427387903))).snd)).toV) else ((g259 (IntKind.i64.wrap (bitsv BinOp.or IntKind.u64 (IntKind.u64.wrap ((f302 (IntKind.u64.wrap (f303 a0)) (IntKind.u64.wrap (f303 a1))).fst * 2 ^ 2)) ((f302 (IntKind.u64.wrap (f303 a0)) (IntKind.u64.wrap (f303 a1))).snd.fdiv (2 ^ 62))), IntKind.i64.wrap (bitsv BinOp.and IntKind.u64 (f302 (IntKind.u64.wrap (f303 a0)) (IntKind.u64.wrap (f303 a1))).snd 4611686018427387903))).toV)) := by
  intro a0 a1
  kernel_rfl
 intro fs r h w vs hv
 unfold S259 at h
 split at h
 ·rename_i a0 a1
  cases h
  exact sx_calls (envOk' (S := [(303, S303), (257, S257), (149, S149), (302, S302), (304, S304)]) ⟨S303_ok, S257_ok, S149_ok, S302_ok, S304_ok, trivial⟩) 30 259 [iv a0.val, iv a1.val] vs (symifyL_rel _ _ (SArels_v (xs := [.int .i64 a0, .int .i64 a1]) hv)) (by kernel_rfl) rfl ((ev a0.val a1.val).trans (cond_out g259 rfl rfl)) w
 ·cases h
def f206 (a0 a1 : Int) : Int × Bool := bif (f258 (f259 a0 a1).fst (f259 a0 a1).snd).snd then (((f258 (f259 a0 a1).fst (f259 a0 a1).snd).fst, true)) else (((f258 (f259 a0 a1).fst (f259 a0 a1).snd).fst, f260 [a0, a1]))
def g206 (p : Int × Bool) : SV := .tuple [iv p.1, bv p.2]
def S206 : Summ
 | [.v (.int .i64 a0), .v (.int .i64 a1)] => some (g206 (f206 a0.val a1.val))
 | _ => none
theorem S206_ok : SummFn Go.Proofs.Tryz.prog 206 S206 := by
 have ev : ∀ (a0 a1 : Int), (symCall ⟨Go.Proofs.Tryz.prog, [(258, S258), (303, S303), (99, S99), (259, S259), (284, S284), (285, S285), (300, S300), (282, S282), (260, S260), (257, S257), (149, S149), (302, S302), (304, S304), (317, S317)], 3, 336, false, [], [], [], []⟩ 30 206 [iv a0, iv a1] []).out = (bif (f258 (f259 a0 a1).fst (f259 a0 a1).snd).snd then ((g206 ((f258 (f259 a0 a1).fst (f259 a0 a1).snd).fst, true)).toV) else ((g206 ((f258 (f259 a0 a1).fst (f259 a0 a1).snd).fst, f260 [a0, a1])).toV)) := by
  intro a0 a1
  kernel_rfl
 intro fs r h w vs hv
 unfold S206 at h
 split at h
 ·rename_i a0 a1
  cases h
  exact sx_calls (envOk' (S := [(258, S258), (303, S303), (99, S99), (259, S259), (284, S284), (285, S285), (300, S300), (282, S282), (260, S260), (257, S257), (149, S149), (302, S302), (304, S304), (317, S317)]) ⟨S258_ok, S303_ok, S99_ok, S259_ok, S284_ok, S285_ok, S300_ok, S282_ok, S260_ok, S257_ok, S149_ok, S302_ok, S304_ok, S317_ok, trivial⟩) 30 206 [iv a0.val, iv a1.val] vs (symifyL_rel _ _ (SArels_v (xs := [.int .i64 a0, .int .i64 a1]) hv)) (by kernel_rfl) rfl ((ev a0.val a1.val).trans (cond_out g206 rfl rfl)) w
 ·cases h
def f312 (a0 a1 : Int) : Int × Bool := bif !decide (a0 < 0) == decide (a1 < 0) then (bif IntKind.u64.wrap (f303 a0) == 0 then ((0, f260 [a0, a1] || IntKind.u64.wrap (f303 a1) == 0)) else (bif IntKind.u64.wrap (f303 a1) == 0 && decide (a0 < 0) then ((-288230376151711744, true)) else (bif IntKind.u64.wrap (f303 a1) == 0 then ((288230376151711744, true)) else (bif (f326 (IntKind.u64.wrap (f303 a0)) (IntKind.u64.wrap (f303 a1))).snd.snd then ((-288230376151711744, true)) else (bif decide (IntKind.u64.wrap (2 * (f326 (IntKind.u64.wrap (f303 a0)) (IntKind.u64.wrap (f303 a1))).snd.fst) > IntKind.u64.wrap (f303 a1)) || IntKind.u64.wrap (2 * (f326 (IntKind.u64.wrap (f303 a0)) (IntKind.u64.wrap (f303 a1))).snd.fst) == IntKind.u64.wrap (f303 a1) && !!decide (a0 < 0) == decide (a1 < 0) then (bif !decide (a0 < 0) == decide (a1 < 0) then (((f99 (IntKind.i64.wrap (0 - IntKind.i64.wrap (IntKind.u64.wrap ((f326 (IntKind.u64.wrap (f303 a0)) (IntKind.u64.wrap (f303 a1))).fst + 1))))).fst, f260 [a0, a1] || (f99 (IntKind.i64.wrap (0 - IntKind.i64.wrap (IntKind.u64.wrap ((f326 (IntKind.u64.wrap (f303 a0)) (IntKind.u64.wrap (f303 a1))).fst + 1))))).snd)) else (((f99 (IntKind.i64.wrap (IntKind.u64.wrap ((f326 (IntKind.u64.wrap (f303 a0)) (IntKind.u64.wrap (f303 a1))).fst + 1)))).fst, f260 [a0, a1] || (f99 (IntKind.i64.wrap (IntKind.u64.wrap ((f326 (IntKind.u64.wrap (f303 a0)) (IntKind.u64.wrap (f303 a1))).fst + 1)))).snd))) else (bif !decide (a0 < 0) == decide (a1 < 0) then (((f99 (IntKind.i64.wrap (0 - IntKind.i64.wrap (f326 (IntKind.u64.wrap (f303 a0)) (IntKind.u64.wrap (f303 a1))).fst))).fst, f260 [a0, a1] || (f99 (IntKind.i64.wrap (0 - IntKind.i64.wrap (f326 (IntKind.u64.wrap (f303 a0)) (IntKind.u64.wrap (f303 a1))).fst))).snd)) else (((f99 (IntKind.i64.wrap (f326 (IntKind.u64.wrap (f303 a0)) (IntKind.u64.wrap (f303 a1))).fst)).fst, f260 [a0, a1] || (f99 (IntKind.i64.wrap (f326 (IntKind.u64.wrap (f303 a0)) (IntKind.u64.wrap (f303 a1))).fst)).snd)))))))) else (bif IntKind.u64.wrap (f303 a0) == 0 then ((0, f260 [a0, a1] || IntKind.u64.wrap (f303 a1) == 0)) else (bif IntKind.u64.wrap (f303 a1) == 0 && decide (a0 < 0) then ((-288230376151711744, true)) else (bif IntKind.u64.wrap (f303 a1) == 0 then ((288230376151711744, true)) else (bif (f326 (IntKind.u64.wrap (f303 a0)) (IntKind.u64.wrap (f303 a1))).snd.snd then ((288230376151711744, true)) else (bif decide (IntKind.u64.wrap (2 * (f326 (IntKind.u64.wrap (f303 a0)) (IntKind.u64.wrap (f303 a1))).snd.fst) > IntKind.u64.wrap (f303 a1)) || IntKind.u64.wrap (2 * (f326 (IntKind.u64.wrap (f303 a0)) (IntKind.u64.wrap (f303 a1))).snd.fst) == IntKind.u64.wrap (f303 a1) && !!decide (a0 < 0) == decide (a1 < 0) then (bif !decide (a0 < 0) == decide (a1 < 0) then (((f99 (IntKind.i64.wrap (0 - IntKind.i64.wrap (IntKind.u64.wrap ((f326 (IntKind.u64.wrap (f303 a0)) (IntKind.u64.wrap (f303 a1))).fst + 1))))).fst, f260 [a0, a1] || (f99 (IntKind.i64.wrap (0 - IntKind.i64.wrap (IntKind.u64.wrap ((f326 (IntKind.u64.wrap (f303 a0)) (IntKind.u64.wrap (f303 a1))).fst + 1))))).snd)) else (((f99 (IntKind.i64.wrap (IntKind.u64.wrap ((f326 (IntKind.u64.wrap (f303 a0)) (IntKind.u64.wrap (f303 a1))).fst + 1)))).fst, f260 [a0, a1] || (f99 (IntKind.i64.wrap (IntKind.u64.wrap ((f326 (IntKind.u64.wrap (f303 a0)) (IntKind.u64.wrap (f303 a1))).fst + 1)))).snd))) else (bif !decide (a0 < 0) == decide (a1 < 0) then (((f99 (IntKind.i64.wrap (0 - IntKind.i64.wrap (f326 (IntKind.u64.wrap (f303 a0)) (IntKind.u64.wrap (f303 a1))).fst))).fst, f260 [a0, a1] || (f99 (IntKind.i64.wrap (0 - IntKind.i64.wrap (f326 (IntKind.u64.wrap (f303 a0)) (IntKind.u64.wrap (f303 a1))).fst))).snd)) else (((f99 (IntKind.i64.wrap (f326 (IntKind.u64.wrap (f303 a0)) (IntKind.u64.wrap (f303 a1))).fst)).fst, f260 [a0, a1] || (f99 (IntKind.i64.wrap (f326 (IntKind.u64.wrap (f303 a0)) (IntKind.u64.wrap (f303 a1))).fst)).snd))))))))
def g312 (p : Int × Bool) : SV := .tuple [iv p.1, bv p.2]
def S312 : Summ
 | [.v (.int .i64 a0), .v (.int .i64 a1)] => some (g312 (f312 a0.val a1.val))
 | _ => none
theorem S312_ok : SummFn Go.Proofs.Tryz.prog 312 S312 := by
 have ev : ∀ (a0 a1 : Int), (symCall ⟨Go.Proofs.Tryz.prog, [(303, S303), (99, S99), (260, S260), (326, S326), (257, S257), (149, S149)], 3, 336, false, [], [], [], []⟩ 30 312 [iv a0, iv a1] []).out = (bif !decide (a0 < 0) == decide (a1 < 0) then (bif IntKind.u64.wrap (f303 a0) == 0 then ((g312 (0, f260 [a0, a1] || IntKind.u64.wrap (f303 a1) == 0)).toV) else (bif IntKind.u64.wrap (f303 a1) == 0 && decide (a0 < 0) then ((g312 (-288230376151711744, true)).toV) else (bif IntKind.u64.wrap (f303 a1) == 0 then ((g312 (288230376151711744, true)).toV) else (bif (f326 (IntKind.u64.wrap (f303 a0)) (IntKind.u64.wrap (f303 a1))).snd.snd then ((g312 (-288230376151711744, true)).toV) else (bif decide (IntKind.u64.wrap (2 * (f326 (IntKind.u64.wrap (f303 a0)) (IntKind.u64.wrap (f303 a1))).snd.fst) > IntKind.u64.wrap (f303 a1)) || IntKind.u64.wrap (2 * (f326 (IntKind.u64.wrap (f303 a0)) (IntKind.u64.wrap (f303 a1))).snd.fst) == IntKind.u64.wrap (f303 a1) && !!decide (a0 < 0) == decide (a1 < 0) then (bif !decide (a0 < 0) == decide (a1 < 0) then ((g312 ((f99 (IntKind.i64.wrap (0 - IntKind.i64.wrap (IntKind.u64.wrap ((f326 (IntKind.u64.wrap (f303 a0)) (IntKind.u64.wrap (f303 a1))).fst + 1))))).fst, f260 [a0, a1] || (f99 (IntKind.i64.wrap (0 - IntKind.i64.wrap (IntKind.u64.wrap ((f326 (IntKind.u64.wrap (f303 a0)) (IntKind.u64.wrap (f303 a1))).fst + 1))))).snd)).toV) else ((g312 ((f99 (IntKind.i64.wrap (IntKind.u64.wrap ((f326 (IntKind.u64.wrap (f303 a0)) (IntKind.u64.wrap (f303 a1))).fst + 1)))).fst, f260 [a0, a1] || (f99 (IntKind.i64.wrap (IntKind.u64.wrap ((f326 (IntKind.u64.wrap (f303 a0)) (IntKind.u64.wrap (f303 a1))).fst + 1)))).snd)).toV)) else (bif !decide (a0 < 0) == decide (a1 < 0) then ((g312 ((f99 (IntKind.i64.wrap (0 - IntKind.i64.wrap (f326 (IntKind.u64.wrap (f303 a0)) (IntKind.u64.wrap (f303 a1))).fst))).fst, f260 [a0, a1] || (f99 (IntKind.i64.wrap (0 - IntKind.i64.wrap (f326 (IntKind.u64.wrap (f303 a0)) (IntKind.u64.wrap (f303 a1))).fst))).snd)).toV) else ((g312 ((f99 (IntKind.i64.wrap (f326 (IntKind.u64.wrap (f303 a0)) (IntKind.u64.wrap (f303 a1))).fst)).fst, f260 [a0, a1] || (f99 (IntKind.i64.wrap (f326 (IntKind.u64.wrap (f303 a0)) (IntKind.u64.wrap (f303 a1))).fst)).snd)).toV))))))) else (bif IntKind.u64.wrap (f303 a0) == 0 then ((g312 (0, f260 [a0, a1] || IntKind.u64.wrap (f303 a1) == 0)).toV) else (bif IntKind.u64.wrap (f303 a1) == 0 && decide (a0 < 0) then ((g312 (-288230376151711744, true)).toV) else (bif IntKind.u64.wrap (f303 a1) == 0 then ((g312 (288230376151711744, true)).toV) else (bif (f326 (IntKind.u64.wrap (f303 a0)) (IntKind.u64.wrap (f303 a1))).snd.snd then ((g312 (288230376151711744, true)).toV) else (bif decide (IntKind.u64.wrap (2 * (f326 (IntKind.u64.wrap (f303 a0)) (IntKind.u64.wrap (f303 a1))).snd.fst) > IntKind.u64.wrap (f303 a1)) || IntKind.u64.wrap (2 * (f326 (IntKind.u64.wrap (f303 a0)) (IntKind.u64.wrap (f303 a1))).snd.fst) == IntKind.u64.wrap (f303 a1) && !!decide (a0 < 0) == decide (a1 < 0) then (bif !decide (a0 < 0) == decide (a1 < 0) then ((g312 ((f99 (IntKind.i64.wrap (0 - IntKind.i64.wrap (IntKind.u64.wrap ((f326 (IntKind.u64.wrap (f303 a0)) (IntKind.u64.wrap (f303 a1))).fst + 1))))).fst, f260 [a0, a1] || (f99 (IntKind.i64.wrap (0 - IntKind.i64.wrap (IntKind.u64.wrap ((f326 (IntKind.u64.wrap (f303 a0)) (IntKind.u64.wrap (f303 a1))).fst + 1))))).snd)).toV) else ((g312 ((f99 (IntKind.i64.wrap (IntKind.u64.wrap ((f326 (IntKind.u64.wrap (f303 a0)) (IntKind.u64.wrap (f303 a1))).fst + 1)))).fst, f260 [a0, a1] || (f99 (IntKind.i64.wrap (IntKind.u64.wrap ((f326 (IntKind.u64.wrap (f303 a0)) (IntKind.u64.wrap (f303 a1))).fst + 1)))).snd)).toV)) else (bif !decide (a0 < 0) == decide (a1 < 0) then ((g312 ((f99 (IntKind.i64.wrap (0 - IntKind.i64.wrap (f326 (IntKind.u64.wrap (f303 a0)) (IntKind.u64.wrap (f303 a1))).fst))).fst, f260 [a0, a1] || (f99 (IntKind.i64.wrap (0 - IntKind.i64.wrap (f326 (IntKind.u64.wrap (f303 a0)) (IntKind.u64.wrap (f303 a1))).fst))).snd)).toV) else ((g312 ((f99 (IntKind.i64.wrap (f326 (IntKind.u64.wrap (f303 a0)) (IntKind.u64.wrap (f303 a1))).fst)).fst, f260 [a0, a1] || (f99 (IntKind.i64.wrap (f326 (IntKind.u64.wrap (f303 a0)) (IntKind.u64.wrap (f303 a1))).fst)).snd)).toV)))))))) := by
  intro a0 a1
  kernel_rfl
 intro fs r h w vs hv
 unfold S312 at h
 split at h
 ·rename_i a0 a1
  cases h
  exact sx_calls (envOk' (S := [(303, S303), (99, S99), (260, S260), (326, S326), (257, S257), (149, S149)]) ⟨S303_ok, S99_ok, S260_ok, S326_ok, S257_ok, S149_ok, trivial⟩) 30 312 [iv a0.val, iv a1.val] vs (symifyL_rel _ _ (SArels_v (xs := [.int .i64 a0, .int .i64 a1]) hv)) (by kernel_rfl) rfl ((ev a0.val a1.val).trans (cond_out g312 (cond_out g312 rfl (cond_out g312 rfl (cond_out g312 rfl (cond_out g312 rfl (cond_out g312 (cond_out g312 rfl rfl) (cond_out g312 rfl rfl)))))) (cond_out g312 rfl (cond_out g312 rfl (cond_out g312 rfl (cond_out g312 rfl (cond_out g312 (cond_out g312 rfl rfl) (cond_out g312 rfl rfl)))))))) w
 ·cases h
def f204 (a0 a1 : Int) : Int × Bool := ((f99 (IntKind.i64.wrap (f257 a0 - f257 a1))).fst, (f99 (IntKind.i64.wrap (f257 a0 - f257 a1))).snd || f257 a0 != a0 || f257 a1 != a1)
def g204 (p : Int × Bool) : SV := .tuple [iv p.1, bv p.2]
def S204 : Summ
 | [.v (.int .i64 a0), .v (.int .i64 a1)] => some (g204 (f204 a0.val a1.val))
 | _ => none
theorem S204_ok : SummFn Go.Proofs.Tryz.prog 204 S204 := by
 have ev : ∀ (a0 a1 : Int), (symCall ⟨Go.Proofs.Tryz.prog, [(99, S99), (257, S257), (149, S149)], 3, 336, false, [], [], [], []⟩ 30 204 [iv a0, iv a1] []).out = ((g204 ((f99 (IntKind.i64.wrap (f257 a0 - f257 a1))).fst, (f99 (IntKind.i64.wrap (f257 a0 - f257 a1))).snd || f257 a0 != a0 || f257 a1 != a1)).toV) := by
  intro a0 a1
  kernel_rfl
 intro fs r h w vs hv
 unfold S204 at h
 split at h
 ·rename_i a0 a1
  cases h
  exact sx_calls (envOk' (S := [(99, S99), (257, S257), (149, S149)]) ⟨S99_ok, S257_ok, S149_ok, trivial⟩) 30 204 [iv a0.val, iv a1.val] vs (symifyL_rel _ _ (SArels_v (xs := [.int .i64 a0, .int .i64 a1]) hv)) (by kernel_rfl) rfl ((ev a0.val a1.val).trans rfl) w
 ·cases h
def f275 (I0 I1 : Int) : Bool := decide (I1 ≥ 0) && decide (I1 < 4611686018427387904) && decide (I0 ≥ -2305843009213693952) && decide (I0 < 2305843009213693952)
def g275 (p : Bool) : SV := bv p
def S275 : Summ
 | [.v (.agg [.int .i64 I0, .int .i64 I1])] => some (g275 (f275 I0.val I1.val))
 | _ => none
theorem S275_ok : SummFn Go.Proofs.Tryz.prog 275 S275 := by
 have ev : ∀ (I0 I1 : Int), (symCall ⟨Go.Proofs.Tryz.prog, [], 3, 336, false, [], [], [], []⟩ 30 275 [.agg [iv I0, iv I1]] []).out = ((g275 (decide (I1 ≥ 0) && decide (I1 < 4611686018427387904) && decide (I0 ≥ -2305843009213693952) && decide (I0 < 2305843009213693952))).toV) := by
  intro I0 I1
  kernel_rfl
 intro fs r h w vs hv
 unfold S275 at h
 split at h
 ·rename_i I0 I1
  cases h
  exact sx_calls (envOk' (S := []) trivial) 30 275 [.agg [iv I0.val, iv I1.val]] vs (symifyL_rel _ _ (SArels_v (xs := [.agg [.int .i64 I0, .int .i64 I1]]) hv)) (by kernel_rfl) rfl ((ev I0.val I1.val).trans rfl) w
 ·cases h
def f273 (I0 I1 : Int) : Int × Int := bif !f275 I0 I1 then ((0, 0)) else ((I0, I1))
def g273 (p : Int × Int) : SV := .agg [iv p.1, iv p.2]
def S273 : Summ
 | [.v (.agg [.int .i64 I0, .int .i64 I1])] => some (g273 (f273 I0.val I1.val))
 | _ => none
theorem S273_ok : SummFn Go.Proofs.Tryz.prog 273 S273 := by
 have ev : ∀ (I0 I1 : Int), (symCall ⟨Go.Proofs.Tryz.prog, [(275, S275)], 3, 336, false, [], [], [], []⟩ 30 273 [.agg [iv I0, iv I1]] []).out = (bif !f275 I0 I1 then ((g273 (0, 0)).toV) else ((g273 (I0, I1)).toV)) := by
  intro I0 I1
  kernel_rfl
 intro fs r h w vs hv
 unfold S273 at h
 split at h
 ·rename_i I0 I1
  cases h
  exact sx_calls (envOk' (S := [(275, S275)]) ⟨S275_ok, trivial⟩) 30 273 [.agg [iv I0.val, iv I1.val]] vs (symifyL_rel _ _ (SArels_v (xs := [.agg [.int .i64 I0, .int .i64 I1]]) hv)) (by kernel_rfl) rfl ((ev I0.val I1.val).trans (cond_out g273 rfl rfl)) w
 ·cases h
def f276 (I0 I1 Z0 Z1 : Int) : Int × Int × Bool := bif decide (IntKind.i64.wrap ((f273 I0 I1).snd + (f273 Z0 Z1).snd) < 0) || decide (IntKind.i64.wrap ((f273 I0 I1).snd + (f273 Z0 Z1).snd) ≥ 4611686018427387904) then (bif !f275 (IntKind.i64.wrap (IntKind.i64.wrap ((f273 I0 I1).fst + (f273 Z0 Z1).fst) + 1)) (IntKind.i64.wrap (IntKind.i64.wrap ((f273 I0 I1).snd + (f273 Z0 Z1).snd) - 4611686018427387904)) then ((0, 0, false)) else ((IntKind.i64.wrap (IntKind.i64.wrap ((f273 I0 I1).fst + (f273 Z0 Z1).fst) + 1), IntKind.i64.wrap (IntKind.i64.wrap ((f273 I0 I1).snd + (f273 Z0 Z1).snd) - 4611686018427387904), true))) else (bif !f275 (IntKind.i64.wrap ((f273 I0 I1).fst + (f273 Z0 Z1).fst)) (IntKind.i64.wrap ((f273 I0 I1).snd + (f273 Z0 Z1).snd)) then ((0, 0, false)) else ((IntKind.i64.wrap ((f273 I0 I1).fst + (f273 Z0 Z1).fst), IntKind.i64.wrap ((f273 I0 I1).snd + (f273 Z0 Z1).snd), true)))
def g276 (p : Int × Int × Bool) : SV := .tuple [.agg [iv p.1, iv p.2.1], bv p.2.2]
def S276 : Summ
 | [.v (.agg [.int .i64 I0, .int .i64 I1]), .v (.agg [.int .i64 Z0, .int .i64 Z1])] => some (g276 (f276 I0.val I1.val Z0.val Z1.val))
 | _ => none
theorem S276_ok : SummFn Go.Proofs.Tryz.prog 276 S276 := by
 have ev : ∀ (I0 I1 Z0 Z1 : Int), (symCall ⟨Go.Proofs.Tryz.prog, [(275, S275), (273, S273)], 3, 336, false, [], [], [], []⟩ 30 276 [.agg [iv I0, iv I1], .agg [iv Z0, iv Z1]] []).out = (bif decide (IntKind.i64.wrap ((f273 I0 I1).snd + (f273 Z0 Z1).snd) < 0) || decide (IntKind.i64.wrap ((f273 I0 I1).snd + (f273 Z0 Z1).snd) ≥ 4611686018427387904) then (bif !f275 (IntKind.i64.wrap (IntKind.i64.wrap ((f273 I0 I1).fst + (f273 Z0 Z1).fst) + 1)) (IntKind.i64.wrap (IntKind.i64.wrap ((f273 I0 I1).snd + (f273 Z0 Z1).snd) - 4611686018427387904)) then ((g276 (0, 0, false)).toV) else ((g276 (IntKind.i64.wrap (IntKind.i64.wrap ((f273 I0 I1).fst + (f273 Z0 Z1).fst) + 1), IntKind.i64.wrap (IntKind.i64.wrap ((f273 I0 I1).snd + (f273 Z0 Z1).snd) - 4611686018427387904), true)).toV)) else (bif !f275 (IntKind.i64.wrap ((f273 I0 I1).fst + (f273 Z0 Z1).fst)) (IntKind.i64.wrap ((f273 I0 I1).snd + (f273 Z0 Z1).snd)) then ((g276 (0, 0, false)).toV) else ((g276 (IntKind.i64.wrap ((f273 I0 I1).fst + (f273 Z0 Z1).fst), IntKind.i64.wrap ((f273 I0 I1).snd + (f273 Z0 Z1).snd), true)).toV))) := by
  intro I0 I1 Z0 Z1
  kernel_rfl
 intro fs r h w vs hv
 unfold S276 at h
 split at h
 ·rename_i I0 I1 Z0 Z1
  cases h
  exact sx_calls (envOk' (S := [(275, S275), (273, S273)]) ⟨S275_ok, S273_ok, trivial⟩) 30 276 [.agg [iv I0.val, iv I1.val], .agg [iv Z0.val, iv Z1.val]] vs (symifyL_rel _ _ (SArels_v (xs := [.agg [.int .i64 I0, .int .i64 I1], .agg [.int .i64 Z0, .int .i64 Z1]]) hv)) (by kernel_rfl) rfl ((ev I0.val I1.val Z0.val Z1.val).trans (cond_out g276 (cond_out g276 rfl rfl) (cond_out g276 rfl rfl))) w
 ·cases h
def f280 (I0 I1 : Int) : Int × Bool := bif (f273 I0 I1).fst == 0 && decide ((f273 I0 I1).snd ≤ 288230376151711744) then (((f273 I0 I1).snd, true)) else (bif (f273 I0 I1).fst == -1 && decide ((f273 I0 I1).snd ≥ 4323455642275676160) then ((IntKind.i64.wrap ((f273 I0 I1).snd - 4611686018427387904), true)) else (bif decide ((f273 I0 I1).fst < 0) then ((-288230376151711744, false)) else ((288230376151711744, false))))
def g280 (p : Int × Bool) : SV := .tuple [iv p.1, bv p.2]
def S280 : Summ
 | [.v (.agg [.int .i64 I0, .int .i64 I1])] => some (g280 (f280 I0.val I1.val))
 | _ => none
theorem S280_ok : SummFn Go.Proofs.Tryz.prog 280 S280 := by
 have ev : ∀ (I0 I1 : Int), (symCall ⟨Go.Proofs.Tryz.prog, [(275, S275), (273, S273)], 3, 336, false, [], [], [], []⟩ 30 280 [.agg [iv I0, iv I1]] []).out = (bif (f273 I0 I1).fst == 0 && decide ((f273 I0 I1).snd ≤ 288230376151711744) then ((g280 ((f273 I0 I1).snd, true)).toV) else (bif (f273 I0 I1).fst == -1 && decide ((f273 I0 I1).snd ≥ 4323455642275676160) then ((g280 (IntKind.i64.wrap ((f273 I0 I1).snd - 4611686018427387904), true)).toV) else (bif decide ((f273 I0 I1).fst < 0) then ((g280 (-288230376151711744, false)).toV) else ((g280 (288230376151711744, false)).toV)))) := by
  intro I0 I1
  kernel_rfl
 intro fs r h w vs hv
 unfold S280 at h
 split at h
 ·rename_i I0 I1
  cases h
  exact sx_calls (envOk' (S := [(275, S275), (273, S273)]) ⟨S275_ok, S273_ok, trivial⟩) 30 280 [.agg [iv I0.val, iv I1.val]] vs (symifyL_rel _ _ (SArels_v (xs := [.agg [.int .i64 I0, .int .i64 I1]]) hv)) (by kernel_rfl) rfl ((ev I0.val I1.val).trans (cond_out g280 rfl (cond_out g280 rfl (cond_out g280 rfl rfl)))) w
 ·cases h
def f182 (a0 : Int) : Int × Bool := bif decide (a0 > 288230376151711744) then ((288230376151711744, true)) else (bif decide (a0 < -288230376151711744) then ((-288230376151711744, true)) else ((a0, false)))
def g182 (p : Int × Bool) : SV := .tuple [iv p.1, bv p.2]
def S182 : Summ
 | [.v (.int .i64 a0)] => some (g182 (f182 a0.val))
 | _ => none
theorem S182_ok : SummFn Go.Proofs.Tryz.prog 182 S182 := by
 have ev : ∀ (a0 : Int), (symCall ⟨Go.Proofs.Tryz.prog, [], 3, 336, false, [], [], [], []⟩ 30 182 [iv a0] []).out = (bif decide (a0 > 288230376151711744) then ((g182 (288230376151711744, true)).toV) else (bif decide (a0 < -288230376151711744) then ((g182 (-288230376151711744, true)).toV) else ((g182 (a0, false)).toV))) := by
  intro a0
  kernel_rfl
 intro fs r h w vs hv
 unfold S182 at h
 split at h
 ·rename_i a0
  cases h
  exact sx_calls (envOk' (S := []) trivial) 30 182 [iv a0.val] vs (symifyL_rel _ _ (SArels_v (xs := [.int .i64 a0]) hv)) (by kernel_rfl) rfl ((ev a0.val).trans (cond_out g182 rfl (cond_out g182 rfl rfl))) w
 ·cases h
def f114 (a0 : Int) : Int := (f182 a0).fst
def g114 (p : Int) : SV := iv p
def S114 : Summ
 | [.v (.int .i64 a0)] => some (g114 (f114 a0.val))
 | _ => none
theorem S114_ok : SummFn Go.Proofs.Tryz.prog 114 S114 := by
 have ev : ∀ (a0 : Int), (symCall ⟨Go.Proofs.Tryz.prog, [(182, S182)], 3, 336, false, [], [], [], []⟩ 30 114 [iv a0] []).out = ((g114 ((f182 a0).fst)).toV) := by
  intro a0
  kernel_rfl
 intro fs r h w vs hv
 unfold S114 at h
 split at h
 ·rename_i a0
  cases h
  exact sx_calls (envOk' (S := [(182, S182)]) ⟨S182_ok, trivial⟩) 30 114 [iv a0.val] vs (symifyL_rel _ _ (SArels_v (xs := [.int .i64 a0]) hv)) (by kernel_rfl) rfl ((ev a0.val).trans rfl) w
 ·cases h
def f180 (a0 : Int) : Int := mxI (f114 a0) (IntKind.i64.wrap (0 - f114 a0))
def g180 (p : Int) : SV := iv p
def S180 : Summ
 | [.v (.int .i64 a0)] => some (g180 (f180 a0.val))
 | _ => none
theorem S180_ok : SummFn Go.Proofs.Tryz.prog 180 S180 := by
 have ev : ∀ (a0 : Int), (symCall ⟨Go.Proofs.Tryz.prog, [(114, S114), (182, S182)], 3, 336, false, [], [], [], []⟩ 30 180 [iv a0] []).out = ((g180 (mxI (f114 a0) (IntKind.i64.wrap (0 - f114 a0)))).toV) := by
  intro a0
  kernel_rfl
 intro fs r h w vs hv
 unfold S180 at h
 split at h
 ·rename_i a0
  cases h
  exact sx_calls (envOk' (S := [(114, S114), (182, S182)]) ⟨S114_ok, S182_ok, trivial⟩) 30 180 [iv a0.val] vs (symifyL_rel _ _ (SArels_v (xs := [.int .i64 a0]) hv)) (by kernel_rfl) rfl ((ev a0.val).trans rfl) w
 ·cases h
def f279 (I0 I1 : Int) : Int × Int := bif I1 == 0 then ((IntKind.i64.wrap (0 - I0), 0)) else ((IntKind.i64.wrap (IntKind.i64.wrap (0 - I0) - 1), IntKind.i64.wrap (4611686018427387904 - I1)))
def g279 (p : Int × Int) : SV := .agg [iv p.1, iv p.2]
def S279 : Summ
 | [.v (.agg [.int .i64 I0, .int .i64 I1])] => some (g279 (f279 I0.val I1.val))
 | _ => none
theorem S279_ok : SummFn Go.Proofs.Tryz.prog 279 S279 := by
 have ev : ∀ (I0 I1 : Int), (symCall ⟨Go.Proofs.Tryz.prog, [], 3, 336, false, [], [], [], []⟩ 30 279 [.agg [iv I0, iv I1]] []).out = (bif I1 == 0 then ((g279 (IntKind.i64.wrap (0 - I0), 0)).toV) else ((g279 (IntKind.i64.wrap (IntKind.i64.wrap (0 - I0) - 1), IntKind.i64.wrap (4611686018427387904 - I1))).toV)) := by
  intro I0 I1
  kernel_rfl
 intro fs r h w vs hv
 unfold S279 at h
 split at h
 ·rename_i I0 I1
  cases h
  exact sx_calls (envOk' (S := []) trivial) 30 279 [.agg [iv I0.val, iv I1.val]] vs (symifyL_rel _ _ (SArels_v (xs := [.agg [.int .i64 I0, .int .i64 I1]]) hv)) (by kernel_rfl) rfl ((ev I0.val I1.val).trans (cond_out g279 rfl rfl)) w
 ·cases h
def f225 (a0 a1 : Int) : Int × Int := bif decide (IntKind.i64.wrap (IntKind.i64.wrap ((f180 a0).tmod 2147483648 * (f180 a1).tmod 2147483648) + IntKind.i64.wrap ((IntKind.i64.wrap (IntKind.i64.wrap (IntKind.i64.wrap ((f180 a0).tdiv 2147483648) * (f180 a1).tmod 2147483648) + IntKind.i64.wrap ((f180 a0).tmod 2147483648 * IntKind.i64.wrap ((f180 a1).tdiv 2147483648)))).tmod 2147483648 * 2147483648)) ≥ 4611686018427387904) then (bif !decide (a0 < 0) == decide (a1 < 0) then (((f279 (IntKind.i64.wrap (IntKind.i64.wrap (IntKind.i64.wrap (IntKind.i64.wrap ((f180 a0).tdiv 2147483648) * IntKind.i64.wrap ((f180 a1).tdiv 2147483648)) + IntKind.i64.wrap ((IntKind.i64.wrap (IntKind.i64.wrap (IntKind.i64.wrap ((f180 a0).tdiv 2147483648) * (f180 a1).tmod 2147483648) + IntKind.i64.wrap ((f180 a0).tmod 2147483648 * IntKind.i64.wrap ((f180 a1).tdiv 2147483648)))).tdiv 2147483648)) + 1)) (IntKind.i64.wrap (IntKind.i64.wrap (IntKind.i64.wrap ((f180 a0).tmod 2147483648 * (f180 a1).tmod 2147483648) + IntKind.i64.wrap ((IntKind.i64.wrap (IntKind.i64.wrap (IntKind.i64.wrap ((f180 a0).tdiv 2147483648) * (f180 a1).tmod 2147483648) + IntKind.i64.wrap ((f180 a0).tmod 2147483648 * IntKind.i64.wrap ((f180 a1).tdiv 2147483648)))).tmod 2147483648 * 2147483648)) - 4611686018427387904))).fst, (f279 (IntKind.i64.wrap (IntKind.i64.wrap (IntKind.i64.wrap (IntKind.i64.wrap ((f180 a0).tdiv 2147483648) * IntKind.i64.wrap ((f180 a1).tdiv 2147483648)) + IntKind.i64.wrap ((IntKind.i64.wrap (IntKind.i64.wrap (IntKind.i64.wrap ((f180 a0).tdiv 2147483648) * (f180 a1).tmod 2147483648) + IntKind.i64.wrap ((f180 a0).tmod 2147483648 * IntKind.i64.wrap ((f180 a1).tdiv 2147483648)))).tdiv 2147483648)) + 1)) (IntKind.i64.wrap (IntKind.i64.wrap (IntKind.i64.wrap ((f180 a0).tmod 2147483648 * (f180 a1).tmod 2147483648) + IntKind.i64.wrap ((IntKind.i64.wrap (IntKind.i64.wrap (IntKind.i64.wrap ((f180 a0).tdiv 2147483648) * (f180 a1).tmod 2147483648) + IntKind.i64.wrap ((f180 a0).tmod 2147483648 * IntKind.i64.wrap ((f180 a1).tdiv 2147483648)))).tmod 2147483648 * 2147483648)) - 4611686018427387904))).snd)) else ((IntKind.i64.wrap (IntKind.i64.wrap (IntKind.i64.wrap (IntKind.i64.wrap ((f180 a0).tdiv 2147483648) * IntKind.i64.wrap ((f180 a1).tdiv 2147483648)) + IntKind.i64.wrap ((IntKind.i64.wrap (IntKind.i64.wrap (IntKind.i64.wrap ((f180 a0).tdiv 2147483648) * (f180 a1).tmod 2147483648) + IntKind.i64.wrap ((f180 a0).tmod 2147483648 * IntKind.i64.wrap ((f180 a1).tdiv 2147483648)))).tdiv 2147483648)) + 1), IntKind.i64.wrap (IntKind.i64.wrap (IntKind.i64.wrap ((f180 a0).tmod 2147483648 * (f180 a1).tmod 2147483648) + IntKind.i64.wrap ((IntKind.i64.wrap (IntKind.i64.wrap (IntKind.i64.wrap ((f180 a0).tdiv 2147483648) * (f180 a1).tmod 2147483648) + IntKind.i64.wrap ((f180 a0).tmod 2147483648 * IntKind.i64.wrap ((f180 a1).tdiv 2147483648)))).tmod 2147483648 * 2147483648)) - 4611686018427387904)))) else (bif !decide (a0 < 0) == decide (a1 < 0) then (((f279 (IntKind.i64.wrap (IntKind.i64.wrap (IntKind.i64.wrap ((f180 a0).tdiv 2147483648) * IntKind.i64.wrap ((f180 a1).tdiv 2147483648)) + IntKind.i64.wrap ((IntKind.i64.wrap (IntKind.i64.wrap (IntKind.i64.wrap ((f180 a0).tdiv 2147483648) * (f180 a1).tmod 2147483648) + IntKind.i64.wrap ((f180 a0).tmod 2147483648 * IntKind.i64.wrap ((f180 a1).tdiv 2147483648)))).tdiv 2147483648))) (IntKind.i64.wrap (IntKind.i64.wrap ((f180 a0).tmod 2147483648 * (f180 a1).tmod 2147483648) + IntKind.i64.wrap ((IntKind.i64.wrap (IntKind.i64.wrap (IntKind.i64.wrap ((f180 a0).tdiv 2147483648) * (f180 a1).tmod 2147483648) + IntKind.i64.wrap ((f180 a0).tmod 2147483648 * IntKind.i64.wrap ((f180 a1).tdiv 2147483648)))).tmod 2147483648 * 2147483648)))).fst, (f279 (IntKind.i64.wrap (IntKind.i64.wrap (IntKind.i64.wrap ((f180 a0).tdiv 2147483648) * IntKind.i64.wrap ((f180 a1).tdiv 2147483648)) + IntKind.i64.wrap ((IntKind.i64.wrap (IntKind.i64.wrap (IntKind.i64.wrap ((f180 a0).tdiv 2147483648) * (f180 a1).tmod 2147483648) + IntKind.i64.wrap ((f180 a0).tmod 2147483648 * IntKind.i64.wrap ((f180 a1).tdiv 2147483648)))).tdiv 2147483648))) (IntKind.i64.wrap (IntKind.i64.wrap ((f180 a0).tmod 2147483648 * (f180 a1).tmod 2147483648) + IntKind.i64.wrap ((IntKind.i64.wrap (IntKind.i64.wrap (IntKind.i64.wrap ((f180 a0).tdiv 2147483648) * (f180 a1).tmod 2147483648) + IntKind.i64.wrap ((f180 a0).tmod 2147483648 * IntKind.i64.wrap ((f180 a1).tdiv 2147483648)))).tmod 2147483648 * 2147483648)))).snd)) else ((IntKind.i64.wrap (IntKind.i64.wrap (IntKind.i64.wrap ((f180 a0).tdiv 2147483648) * IntKind.i64.wrap ((f180 a1).tdiv 2147483648)) + IntKind.i64.wrap ((IntKind.i64.wrap (IntKind.i64.wrap (IntKind.i64.wrap ((f180 a0).tdiv 2147483648) * (f180 a1).tmod 2147483648) + IntKind.i64.wrap ((f180 a0).tmod 2147483648 * IntKind.i64.wrap ((f180 a1).tdiv 2147483648)))).tdiv 2147483648)), IntKind.i64.wrap (IntKind.i64.wrap ((f180 a0).tmod 2147483648 * (f180 a1).tmod 2147483648) + IntKind.i64.wrap ((IntKind.i64.wrap (IntKind.i64.wrap (IntKind.i64.wrap ((f180 a0).tdiv 2147483648) * (f180 a1).tmod 2147483648) + IntKind.i64.wrap ((f180 a0).tmod 2147483648 * IntKind.i64.wrap ((f180 a1).tdiv 2147483648)))).tmod 2147483648 * 2147483648)))))
def g225 (p : Int × Int) : SV := .agg [iv p.1, iv p.2]
def S225 : Summ
 | [.v (.int .i64 a0), .v (.int .i64 a1)] => some (g225 (f225 a0.val a1.val))
 | _ => none
theorem S225_ok : SummFn Go.Proofs.Tryz.prog 225 S225 := by
 have ev : ∀ (a0 a1 : Int), (symCall ⟨Go.Proofs.Tryz.prog, [(114, S114), (180, S180), (182, S182), (279, S279)], 3, 336, false, [], [], [], []⟩ 30 225 [iv a0, iv a1] []).out = (bif decide (IntKind.i64.wrap (IntKind.i64.wrap ((f180 a0).tmod 2147483648 * (f180 a1).tmod 2147483648) + IntKind.i64.wrap ((IntKind.i64.wrap (IntKind.i64.wrap (IntKind.i64.wrap ((f180 a0).tdiv 2147483648) * (f180 a1).tmod 2147483648) + IntKind.i64.wrap ((f180 a0).tmod 2147483648 * IntKind.i64.wrap ((f180 a1).tdiv 2147483648)))).tmod 2147483648 * 2147483648)) ≥ 4611686018427387904) then (bif !decide (a0 < 0) == decide (a1 < 0) then ((g225 ((f279 (IntKind.i64.wrap (IntKind.i64.wrap (IntKind.i64.wrap (IntKind.i64.wrap ((f180 a0).tdiv 2147483648) * IntKind.i64.wrap ((f180 a1).tdiv 2147483648)) + IntKind.i64.wrap ((IntKind.i64.wrap (IntKind.i64.wrap (IntKind.i64.wrap ((f180 a0).tdiv 2147483648) * (f180 a1).tmod 2147483648) + IntKind.i64.wrap ((f180 a0).tmod 2147483648 * IntKind.i64.wrap ((f180 a1).tdiv 2147483648)))).tdiv 2147483648)) + 1)) (IntKind.i64.wrap (IntKind.i64.wrap (IntKind.i64.wrap ((f180 a0).tmod 2147483648 * (f180 a1).tmod 2147483648) + IntKind.i64.wrap ((IntKind.i64.wrap (IntKind.i64.wrap (IntKind.i64.wrap ((f180 a0).tdiv 2147483648) * (f180 a1).tmod 2147483648) + IntKind.i64.wrap ((f180 a0).tmod 2147483648 * IntKind.i64.wrap ((f180 a1).tdiv 2147483648)))).tmod 2147483648 * 2147483648)) - 4611686018427387904))).fst, (f279 (IntKind.i64.wrap (IntKind.i64.wrap (IntKind.i64.wrap (IntKind.i64.wrap ((f180 a0).tdiv 2147483648) * IntKind.i64.wrap ((f180 a1).tdiv 2147483648)) + IntKind.i64.wrap ((IntKind.i64.wrap (IntKind.i64.wrap (IntKind.i64.wrap ((f180 a0).tdiv 2147483648) * (f180 a1).tmod 2147483648) + IntKind.i64.wrap ((f180 a0).tmod 2147483648 * IntKind.i64.wrap ((f180 a1).tdiv 2147483648)))).tdiv 2147483648)) + 1)) (IntKind.i64.wrap (IntKind.i64.wrap (IntKind.i64.wrap ((f180 a0).tmod 2147483648 * (f180 a1).tmod 2147483648) + IntKind.i64.wrap ((IntKind.i64.wrap (IntKind.i64.wrap (IntKind.i64.wrap ((f180 a0).tdiv 2147483648) * (f180 a1).tmod 2147483648) + IntKind.i64.wrap ((f180 a0).tmod 2147483648 * IntKind.i64.wrap ((f180 a1).tdiv 2147483648)))).tmod 2147483648 * 2147483648)) - 4611686018427387904))).snd)).toV) else ((g225 (IntKind.i64.wrap (IntKind.i64.wrap (IntKind.i64.wrap (IntKind.i64.wrap ((f180 a0).tdiv 2147483648) * IntKind.i64.wrap ((f180 a1).tdiv 2147483648)) + IntKind.i64.wrap ((IntKind.i64.wrap (IntKind.i64.wrap (IntKind.i64.wrap ((f180 a0).tdiv 2147483648) * (f180 a1).tmod 2147483648) + IntKind.i64.wrap ((f180 a0).tmod 2147483648 * IntKind.i64.wrap ((f180 a1).tdiv 2147483648)))).tdiv 2147483648)) + 1), IntKind.i64.wrap (IntKind.i64.wrap (IntKind.i64.wrap ((f180 a0).tmod 2147483648 * (f180 a1).tmod 2147483648) + IntKind.i64.wrap ((IntKind.i64.wrap (IntKind.i64.wrap (IntKind.i64.wrap ((f180 a0).tdiv 2147483648) * (f180 a1).tmod 2147483648) + IntKind.i64.wrap ((f180 a0).tmod 2147483648 * IntKind.i64.wrap ((f180 a1).tdiv 2147483648)))).tmod 2147483648 * 2147483648)) - 4611686018427387904))).toV)) else (bif !decide (a0 < 0) == decide (a1 < 0) then ((g225 ((f279 (IntKind.i64.wrap (IntKind.i64.wrap (IntKind.i64.wrap ((f180 a0).tdiv 2147483648) * IntKind.i64.wrap ((f180 a1).tdiv 2147483648)) + IntKind.i64.wrap ((IntKind.i64.wrap (IntKind.i64.wrap (IntKind.i64.wrap ((f180 a0).tdiv 2147483648) * (f180 a1).tmod 2147483648) + IntKind.i64.wrap ((f180 a0).tmod 2147483648 * IntKind.i64.wrap ((f180 a1).tdiv 2147483648)))).tdiv 2147483648))) (IntKind.i64.wrap (IntKind.i64.wrap ((f180 a0).tmod 2147483648 * (f180 a1).tmod 2147483648) + IntKind.i64.wrap ((IntKind.i64.wrap (IntKind.i64.wrap (IntKind.i64.wrap ((f180 a0).tdiv 2147483648) * (f180 a1).tmod 2147483648) + IntKind.i64.wrap ((f180 a0).tmod 2147483648 * IntKind.i64.wrap ((f180 a1).tdiv 2147483648)))).tmod 2147483648 * 2147483648)))).fst, (f279 (IntKind.i64.wrap (IntKind.i64.wrap (IntKind.i64.wrap ((f180 a0).tdiv 2147483648) * IntKind.i64.wrap ((f180 a1).tdiv 2147483648)) + IntKind.i64.wrap ((IntKind.i64.wrap (IntKind.i64.wrap (IntKind.i64.wrap ((f180 a0).tdiv 2147483648) * (f180 a1).tmod 2147483648) + IntKind.i64.wrap ((f180 a0).tmod 2147483648 * IntKind.i64.wrap ((f180 a1).tdiv 2147483648)))).tdiv 2147483648))) (IntKind.i64.wrap (IntKind.i64.wrap ((f180 a0).tmod 2147483648 * (f180 a1).tmod 2147483648) + IntKind.i64.wrap ((IntKind.i64.wrap (IntKind.i64.wrap (IntKind.i64.wrap ((f180 a0).tdiv 2147483648) * (f180 a1).tmod 2147483648) + IntKind.i64.wrap ((f180 a0).tmod 2147483648 * IntKind.i64.wrap ((f180 a1).tdiv 2147483648)))).tmod 2147483648 * 2147483648)))).snd)).toV) else ((g225 (IntKind.i64.wrap (IntKind.i64.wrap (IntKind.i64.wrap ((f180 a0).tdiv 2147483648) * IntKind.i64.wrap ((f180 a1).tdiv 2147483648)) + IntKind.i64.wrap ((IntKind.i64.wrap (IntKind.i64.wrap (IntKind.i64.wrap ((f180 a0).tdiv 2147483648) * (f180 a1).tmod 2147483648) + IntKind.i64.wrap ((f180 a0).tmod 2147483648 * IntKind.i64.wrap ((f180 a1).tdiv 2147483648)))).tdiv 2147483648)), IntKind.i64.wrap (IntKind.i64.wrap ((f180 a0).tmod 2147483648 * (f180 a1).tmod 2147483648) + IntKind.i64.wrap ((IntKind.i64.wrap (IntKind.i64.wrap (IntKind.i64.wrap ((f180 a0).tdiv 2147483648) * (f180 a1).tmod 2147483648) + IntKind.i64.wrap ((f180 a0).tmod 2147483648 * IntKind.i64.wrap ((f180 a1).tdiv 2147483648)))).tmod 2147483648 * 2147483648)))).toV))) := by
  intro a0 a1
  kernel_rfl
 intro fs r h w vs hv
 unfold S225 at h
 split at h
 ·rename_i a0 a1
  cases h
  exact sx_calls (envOk' (S := [(114, S114), (180, S180), (182, S182), (279, S279)]) ⟨S114_ok, S180_ok, S182_ok, S279_ok, trivial⟩) 30 225 [iv a0.val, iv a1.val] vs (symifyL_rel _ _ (SArels_v (xs := [.int .i64 a0, .int .i64 a1]) hv)) (by kernel_rfl) rfl ((ev a0.val a1.val).trans (cond_out g225 (cond_out g225 rfl rfl) (cond_out g225 rfl rfl))) w
 ·cases h
def f227 (a0 : Int) : Bool := (f182 a0).snd
def g227 (p : Bool) : SV := bv p
def S227 : Summ
 | [.v (.int .i64 a0)] => some (g227 (f227 a0.val))
 | _ => none
theorem S227_ok : SummFn Go.Proofs.Tryz.prog 227 S227 := by
 have ev : ∀ (a0 : Int), (symCall ⟨Go.Proofs.Tryz.prog, [(182, S182)], 3, 336, false, [], [], [], []⟩ 30 227 [iv a0] []).out = ((g227 ((f182 a0).snd)).toV) := by
  intro a0
  kernel_rfl
 intro fs r h w vs hv
 unfold S227 at h
 split at h
 ·rename_i a0
  cases h
  exact sx_calls (envOk' (S := [(182, S182)]) ⟨S182_ok, trivial⟩) 30 227 [iv a0.val] vs (symifyL_rel _ _ (SArels_v (xs := [.int .i64 a0]) hv)) (by kernel_rfl) rfl ((ev a0.val).trans rfl) w
 ·cases h
def f256 (a0 : Int) : Int := IntKind.i64.wrap (0 - f257 a0)
def g256 (p : Int) : SV := iv p
def S256 : Summ
 | [.v (.int .i64 a0)] => some (g256 (f256 a0.val))
 | _ => none
theorem S256_ok : SummFn Go.Proofs.Tryz.prog 256 S256 := by
 have ev : ∀ (a0 : Int), (symCall ⟨Go.Proofs.Tryz.prog, [(257, S257), (149, S149)], 3, 336, false, [], [], [], []⟩ 30 256 [iv a0] []).out = ((g256 (IntKind.i64.wrap (0 - f257 a0))).toV) := by
  intro a0
  kernel_rfl
 intro fs r h w vs hv
 unfold S256 at h
 split at h
 ·rename_i a0
  cases h
  exact sx_calls (envOk' (S := [(257, S257), (149, S149)]) ⟨S257_ok, S149_ok, trivial⟩) 30 256 [iv a0.val] vs (symifyL_rel _ _ (SArels_v (xs := [.int .i64 a0]) hv)) (by kernel_rfl) rfl ((ev a0.val).trans rfl) w
 ·cases h
def f229 (a0 : Int) : Bool := a0 != a0
def g229 (p : Bool) : SV := bv p
def S229 : Summ
 | [.v (.int .i64 a0)] => some (g229 (f229 a0.val))
 | _ => none
theorem S229_ok : SummFn Go.Proofs.Tryz.prog 229 S229 := by
 have ev : ∀ (a0 : Int), (symCall ⟨Go.Proofs.Tryz.prog, [], 3, 336, false, [], [], [], []⟩ 30 229 [iv a0] []).out = ((g229 (a0 != a0)).toV) := by
  intro a0
  kernel_rfl
 intro fs r h w vs hv
 unfold S229 at h
 split at h
 ·rename_i a0
  cases h
  exact sx_calls (envOk' (S := []) trivial) 30 229 [iv a0.val] vs (symifyL_rel _ _ (SArels_v (xs := [.int .i64 a0]) hv)) (by kernel_rfl) rfl ((ev a0.val).trans rfl) w
 ·cases h
def f185 (a0 a1 : Int) : Int := bif f229 a0 then (bif f229 a1 then (0) else (-1)) else (bif f229 a1 then (1) else (bif decide (a0 < a1) then (-1) else (bif decide (a0 > a1) then (1) else (0))))
def g185 (p : Int) : SV := iv p
def S185 : Summ
 | [.v (.int .i64 a0), .v (.int .i64 a1)] => some (g185 (f185 a0.val a1.val))
 | _ => none
theorem S185_ok : SummFn Go.Proofs.Tryz.prog 185 S185 := by
 have ev : ∀ (a0 a1 : Int), (symCall ⟨Go.Proofs.Tryz.prog, [(229, S229)], 3, 336, false, [], [], [], []⟩ 30 185 [iv a0, iv a1] []).out = (bif f229 a0 then (bif f229 a1 then ((g185 (0)).toV) else ((g185 (-1)).toV)) else (bif f229 a1 then ((g185 (1)).toV) else (bif decide (a0 < a1) then ((g185 (-1)).toV) else (bif decide (a0 > a1) then ((g185 (1)).toV) else ((g185 (0)).toV))))) := by
  intro a0 a1
  kernel_rfl
 intro fs r h w vs hv
 unfold S185 at h
 split at h
 ·rename_i a0 a1
  cases h
  exact sx_calls (envOk' (S := [(229, S229)]) ⟨S229_ok, trivial⟩) 30 185 [iv a0.val, iv a1.val] vs (symifyL_rel _ _ (SArels_v (xs := [.int .i64 a0, .int .i64 a1]) hv)) (by kernel_rfl) rfl ((ev a0.val a1.val).trans (cond_out g185 (cond_out g185 rfl rfl) (cond_out g185 rfl (cond_out g185 rfl (cond_out g185 rfl rfl))))) w
 ·cases h
def f283 (I0 I1 Z0 Z1 : Int) : Int := orL [f185 (f317 I0 I1).fst (f317 Z0 Z1).fst, f185 (f317 I0 I1).snd (f317 Z0 Z1).snd]
def g283 (p : Int) : SV := iv p
def S283 : Summ
 | [.v (.agg [.int .i64 I0, .int .i64 I1]), .v (.agg [.int .i64 Z0, .int .i64 Z1])] => some (g283 (f283 I0.val I1.val Z0.val Z1.val))
 | _ => none
theorem S283_ok : SummFn Go.Proofs.Tryz.prog 283 S283 := by
 have ev : ∀ (I0 I1 Z0 Z1 : Int), (symCall ⟨Go.Proofs.Tryz.prog, [(282, S282), (317, S317), (184, S184), (185, S185), (229, S229)], 3, 336, false, [], [], [], []⟩ 30 283 [.agg [iv I0, iv I1], .agg [iv Z0, iv Z1]] []).out = ((g283 (orL [f185 (f317 I0 I1).fst (f317 Z0 Z1).fst, f185 (f317 I0 I1).snd (f317 Z0 Z1).snd])).toV) := by
  intro I0 I1 Z0 Z1
  kernel_rfl
 intro fs r h w vs hv
 unfold S283 at h
 split at h
 ·rename_i I0 I1 Z0 Z1
  cases h
  exact sx_calls (envOk' (S := [(282, S282), (317, S317), (184, S184), (185, S185), (229, S229)]) ⟨S282_ok, S317_ok, S184_ok, S185_ok, S229_ok, trivial⟩) 30 283 [.agg [iv I0.val, iv I1.val], .agg [iv Z0.val, iv Z1.val]] vs (symifyL_rel _ _ (SArels_v (xs := [.agg [.int .i64 I0, .int .i64 I1], .agg [.int .i64 Z0, .int .i64 Z1]]) hv)) (by kernel_rfl) rfl ((ev I0.val I1.val Z0.val Z1.val).trans rfl) w
 ·cases h
end Go.Proofs.YtdchdajjhofmnaaGreat
