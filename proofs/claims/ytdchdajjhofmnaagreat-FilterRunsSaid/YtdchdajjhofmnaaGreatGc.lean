/- What the references of scale and the law ScaleIs compute, by the executor: printed by a program (wip/sx/Gen2.lean). -/
import Derived.Test.YtdchdajjhofmnaaGreatR
namespace Go.Proofs.YtdchdajjhofmnaaGreat
open Go Go.Sx
set_option maxRecDepth 1000000
set_option maxHeartbeats 100000000
def f226 (I0 I1 : Int) : Int × Bool := bif !(f276 I0 I1 0 2147483648).snd.snd then ((288230376151711744, true)) else (((f280 (f281 (f276 I0 I1 0 2147483648).fst (f276 I0 I1 0 2147483648).snd.fst).fst (f281 (f276 I0 I1 0 2147483648).fst (f276 I0 I1 0 2147483648).snd.fst).snd).fst, !(f280 (f281 (f276 I0 I1 0 2147483648).fst (f276 I0 I1 0 2147483648).snd.fst).fst (f281 (f276 I0 I1 0 2147483648).fst (f276 I0 I1 0 2147483648).snd.fst).snd).snd || !f275 I0 I1))
def g226 (p : Int × Bool) : SV := .tuple [iv p.1, bv p.2]
def S226 : Summ
 | [.v (.agg [.int .i64 I0, .int .i64 I1])] => some (g226 (f226 I0.val I1.val))
 | _ => none
theorem S226_ok : SummFn Go.Proofs.Tryz.prog 226 S226 := by
 have ev : ∀ (I0 I1 : Int), (symCall ⟨Go.Proofs.Tryz.prog, [(276, S276), (280, S280), (281, S281), (275, S275)], 3, 336, false, [], [], [], []⟩ 30 226 [.agg [iv I0, iv I1]] []).out = (bif !(f276 I0 I1 0 2147483648).snd.snd then ((g226 (288230376151711744, true)).toV) else ((g226 ((f280 (f281 (f276 I0 I1 0 2147483648).fst (f276 I0 I1 0 2147483648).snd.fst).fst (f281 (f276 I0 I1 0 2147483648).fst (f276 I0 I1 0 2147483648).snd.fst).snd).fst, !(f280 (f281 (f276 I0 I1 0 2147483648).fst (f276 I0 I1 0 2147483648).snd.fst).fst (f281 (f276 I0 I1 0 2147483648).fst (f276 I0 I1 0 2147483648).snd.fst).snd).snd || !f275 I0 I1)).toV)) := by
  intro I0 I1
  kernel_rfl
 intro fs r h w vs hv
 unfold S226 at h
 split at h
 ·rename_i I0 I1
  cases h
  exact sx_calls (envOk' (S := [(276, S276), (280, S280), (281, S281), (275, S275)]) ⟨S276_ok, S280_ok, S281_ok, S275_ok, trivial⟩) 30 226 [.agg [iv I0.val, iv I1.val]] vs (symifyL_rel _ _ (SArels_v (xs := [.agg [.int .i64 I0, .int .i64 I1]]) hv)) (by kernel_rfl) rfl ((ev I0.val I1.val).trans (cond_out g226 rfl rfl)) w
 ·cases h
def f179 (a0 a1 : Int) : Int × Bool := ((f226 (f225 a0 a1).fst (f225 a0 a1).snd).fst, (f226 (f225 a0 a1).fst (f225 a0 a1).snd).snd || f227 a0 || f227 a1)
def g179 (p : Int × Bool) : SV := .tuple [iv p.1, bv p.2]
def S179 : Summ
 | [.v (.int .i64 a0), .v (.int .i64 a1)] => some (g179 (f179 a0.val a1.val))
 | _ => none
theorem S179_ok : SummFn Go.Proofs.Tryz.prog 179 S179 := by
 have ev : ∀ (a0 a1 : Int), (symCall ⟨Go.Proofs.Tryz.prog, [(226, S226), (225, S225), (227, S227)], 3, 336, false, [], [], [], []⟩ 30 179 [iv a0, iv a1] []).out = ((g179 ((f226 (f225 a0 a1).fst (f225 a0 a1).snd).fst, (f226 (f225 a0 a1).fst (f225 a0 a1).snd).snd || f227 a0 || f227 a1)).toV) := by
  intro a0 a1
  kernel_rfl
 intro fs r h w vs hv
 unfold S179 at h
 split at h
 ·rename_i a0 a1
  cases h
  exact sx_calls (envOk' (S := [(226, S226), (225, S225), (227, S227)]) ⟨S226_ok, S225_ok, S227_ok, trivial⟩) 30 179 [iv a0.val, iv a1.val] vs (symifyL_rel _ _ (SArels_v (xs := [.int .i64 a0, .int .i64 a1]) hv)) (by kernel_rfl) rfl ((ev a0.val a1.val).trans rfl) w
 ·cases h
def f222 (a0 a1 : Int) : Int × Bool := bif f114 a1 == 0 && decide (f114 a0 > 0) then ((288230376151711744, true)) else (bif f114 a1 == 0 && decide (f114 a0 < 0) then ((-288230376151711744, true)) else (bif f114 a1 == 0 then ((0, true)) else (bif decide (f114 a0 < 0) == decide (f114 a1 < 0) && decide (IntKind.i64.wrap (2 * (f272 (f180 (f114 a0)) (f180 (f114 a1))).snd) ≥ f180 (f114 a1)) then (bif !decide (f114 a0 < 0) == decide (f114 a1 < 0) then (bif decide (IntKind.i64.wrap (2 * (f272 (f180 (f114 a0)) (f180 (f114 a1))).snd) > f180 (f114 a1)) then (((f182 (IntKind.i64.wrap (0 - IntKind.i64.wrap (IntKind.i64.wrap ((f272 (f180 (f114 a0)) (f180 (f114 a1))).fst + 1) + 1)))).fst, (f182 (IntKind.i64.wrap (0 - IntKind.i64.wrap (IntKind.i64.wrap ((f272 (f180 (f114 a0)) (f180 (f114 a1))).fst + 1) + 1)))).snd || f227 a0 || f227 a1)) else (((f182 (IntKind.i64.wrap (0 - IntKind.i64.wrap ((f272 (f180 (f114 a0)) (f180 (f114 a1))).fst + 1)))).fst, (f182 (IntKind.i64.wrap (0 - IntKind.i64.wrap ((f272 (f180 (f114 a0)) (f180 (f114 a1))).fst + 1)))).snd || f227 a0 || f227 a1))) else (((f182 (IntKind.i64.wrap ((f272 (f180 (f114 a0)) (f180 (f114 a1))).fst + 1))).fst, (f182 (IntKind.i64.wrap ((f272 (f180 (f114 a0)) (f180 (f114 a1))).fst + 1))).snd || f227 a0 || f227 a1))) else (bif !decide (f114 a0 < 0) == decide (f114 a1 < 0) then (bif decide (IntKind.i64.wrap (2 * (f272 (f180 (f114 a0)) (f180 (f114 a1))).snd) > f180 (f114 a1)) then (((f182 (IntKind.i64.wrap (0 - IntKind.i64.wrap ((f272 (f180 (f114 a0)) (f180 (f114 a1))).fst + 1)))).fst, (f182 (IntKind.i64.wrap (0 - IntKind.i64.wrap ((f272 (f180 (f114 a0)) (f180 (f114 a1))).fst + 1)))).snd || f227 a0 || f227 a1)) else (((f182 (IntKind.i64.wrap (0 - (f272 (f180 (f114 a0)) (f180 (f114 a1))).fst))).fst, (f182 (IntKind.i64.wrap (0 - (f272 (f180 (f114 a0)) (f180 (f114 a1))).fst))).snd || f227 a0 || f227 a1))) else (((f182 (f272 (f180 (f114 a0)) (f180 (f114 a1))).fst).fst, (f182 (f272 (f180 (f114 a0)) (f180 (f114 a1))).fst).snd || f227 a0 || f227 a1))))))
def g222 (p : Int × Bool) : SV := .tuple [iv p.1, bv p.2]
def S222 : Summ
 | [.v (.int .i64 a0), .v (.int .i64 a1)] => some (g222 (f222 a0.val a1.val))
 | _ => none
theorem S222_ok : SummFn Go.Proofs.Tryz.prog 222 S222 := by
 have ev : ∀ (a0 a1 : Int), (symCall ⟨Go.Proofs.Tryz.prog, [(227, S227), (114, S114), (272, S272), (180, S180), (182, S182)], 3, 336, false, [], [], [], []⟩ 30 222 [iv a0, iv a1] []).out = (bif f114 a1 == 0 && decide (f114 a0 > 0) then ((g222 (288230376151711744, true)).toV) else (bif f114 a1 == 0 && decide (f114 a0 < 0) then ((g222 (-288230376151711744, true)).toV) else (bif f114 a1 == 0 then ((g222 (0, true)).toV) else (bif decide (f114 a0 < 0) == decide (f114 a1 < 0) && decide (IntKind.i64.wrap (2 * (f272 (f180 (f114 a0)) (f180 (f114 a1))).snd) ≥ f180 (f114 a1)) then (bif !decide (f114 a0 < 0) == decide (f114 a1 < 0) then (bif decide (IntKind.i64.wrap (2 * (f272 (f180 (f114 a0)) (f180 (f114 a1))).snd) > f180 (f114 a1)) then ((g222 ((f182 (IntKind.i64.wrap (0 - IntKind.i64.wrap (IntKind.i64.wrap ((f272 (f180 (f114 a0)) (f180 (f114 a1))).fst + 1) + 1)))).fst, (f182 (IntKind.i64.wrap (0 - IntKind.i64.wrap (IntKind.i64.wrap ((f272 (f180 (f114 a0)) (f180 (f114 a1))).fst + 1) + 1)))).snd || f227 a0 || f227 a1)).toV) else ((g222 ((f182 (IntKind.i64.wrap (0 - IntKind.i64.wrap ((f272 (f180 (f114 a0)) (f180 (f114 a1))).fst + 1)))).fst, (f182 (IntKind.i64.wrap (0 - IntKind.i64.wrap ((f272 (f180 (f114 a0)) (f180 (f114 a1))).fst + 1)))).snd || f227 a0 || f227 a1)).toV)) else ((g222 ((f182 (IntKind.i64.wrap ((f272 (f180 (f114 a0)) (f180 (f114 a1))).fst + 1))).fst, (f182 (IntKind.i64.wrap ((f272 (f180 (f114 a0)) (f180 (f114 a1))).fst + 1))).snd || f227 a0 || f227 a1)).toV)) else (bif !decide (f114 a0 < 0) == decide (f114 a1 < 0) then (bif decide (IntKind.i64.wrap (2 * (f272 (f180 (f114 a0)) (f180 (f114 a1))).snd) > f180 (f114 a1)) then ((g222 ((f182 (IntKind.i64.wrap (0 - IntKind.i64.wrap ((f272 (f180 (f114 a0)) (f180 (f114 a1))).fst + 1)))).fst, (f182 (IntKind.i64.wrap (0 - IntKind.i64.wrap ((f272 (f180 (f114 a0)) (f180 (f114 a1))).fst + 1)))).snd || f227 a0 || f227 a1)).toV) else ((g222 ((f182 (IntKind.i64.wrap (0 - (f272 (f180 (f114 a0)) (f180 (f114 a1))).fst))).fst, (f182 (IntKind.i64.wrap (0 - (f272 (f180 (f114 a0)) (f180 (f114 a1))).fst))).snd || f227 a0 || f227 a1)).toV)) else ((g222 ((f182 (f272 (f180 (f114 a0)) (f180 (f114 a1))).fst).fst, (f182 (f272 (f180 (f114 a0)) (f180 (f114 a1))).fst).snd || f227 a0 || f227 a1)).toV)))))) := by
  intro a0 a1
  kernel_rfl
 intro fs r h w vs hv
 unfold S222 at h
 split at h
 ·rename_i a0 a1
  cases h
  exact sx_calls (envOk' (S := [(227, S227), (114, S114), (272, S272), (180, S180), (182, S182)]) ⟨S227_ok, S114_ok, S272_ok, S180_ok, S182_ok, trivial⟩) 30 222 [iv a0.val, iv a1.val] vs (symifyL_rel _ _ (SArels_v (xs := [.int .i64 a0, .int .i64 a1]) hv)) (by kernel_rfl) rfl ((ev a0.val a1.val).trans (cond_out g222 rfl (cond_out g222 rfl (cond_out g222 rfl (cond_out g222 (cond_out g222 (cond_out g222 rfl rfl) rfl) (cond_out g222 (cond_out g222 rfl rfl) rfl)))))) w
 ·cases h
end Go.Proofs.YtdchdajjhofmnaaGreat
