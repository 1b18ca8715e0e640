/- What each function computes, by the executor: printed by a program (wip/sx2/Gen3.lean). -/
import Derived.Test.YtdchdajjhofmnaaGreatGc
namespace Go.Proofs.YtdchdajjhofmnaaGreat
open Go Go.Sx
set_option maxRecDepth 1000000
set_option maxHeartbeats 100000000
def f268 (a0 : Int) : Int := IntKind.i64.wrap (0 - f114 a0)
def g268 (p : Int) : SV := iv p
def S268 : Summ
 | [.v (.int .i64 a0)] => some (g268 (f268 a0.val))
 | _ => none
theorem S268_ok : SummFn Go.Proofs.Tryz.prog 268 S268 := by
 have ev : ∀ (a0 : Int), (symCall ⟨Go.Proofs.Tryz.prog, [(114, S114), (182, S182)], 3, 336, true, [], [], [], []⟩ 30 268 [iv a0] []).out = ((g268 (f268 a0)).toV) := by
  intro a0
  kernel_rfl
 intro fs r h w vs hv
 unfold S268 at h
 split at h
 ·rename_i a0
  cases h
  exact sx_calls (envOkH' (S := [(114, S114), (182, S182)]) (HS := []) (j := true) ⟨S114_ok, S182_ok, trivial⟩ trivial) 30 268 [iv a0.val] vs (symifyL_rel _ _ (SArels_v (xs := [.int .i64 a0]) hv)) (by kernel_rfl) rfl (ev a0.val) w
 ·cases h
def f278 (I0 I1 Z0 Z1 : Int) : Int := let x1 := (f273 I0 I1).fst == (f273 Z0 Z1).fst; bif decide ((f273 I0 I1).fst < (f273 Z0 Z1).fst) || x1 && decide ((f273 I0 I1).snd < (f273 Z0 Z1).snd) then -1 else bif x1 && (f273 I0 I1).snd == (f273 Z0 Z1).snd then 0 else 1
def g278 (p : Int) : SV := iv p
def S278 : Summ
 | [.v (.agg [.int .i64 I0, .int .i64 I1]), .v (.agg [.int .i64 Z0, .int .i64 Z1])] => some (g278 (f278 I0.val I1.val Z0.val Z1.val))
 | _ => none
theorem S278_ok : SummFn Go.Proofs.Tryz.prog 278 S278 := by
 have ev : ∀ (I0 I1 Z0 Z1 : Int), (symCall ⟨Go.Proofs.Tryz.prog, [(275, S275), (273, S273)], 3, 336, true, [], [], [], []⟩ 30 278 [.agg [iv I0, iv I1], .agg [iv Z0, iv Z1]] []).out = ((g278 (f278 I0 I1 Z0 Z1)).toV) := by
  intro I0 I1 Z0 Z1
  kernel_rfl
 intro fs r h w vs hv
 unfold S278 at h
 split at h
 ·rename_i I0 I1 Z0 Z1
  cases h
  exact sx_calls (envOkH' (S := [(275, S275), (273, S273)]) (HS := []) (j := true) ⟨S275_ok, S273_ok, trivial⟩ trivial) 30 278 [.agg [iv I0.val, iv I1.val], .agg [iv Z0.val, iv Z1.val]] vs (symifyL_rel _ _ (SArels_v (xs := [.agg [.int .i64 I0, .int .i64 I1], .agg [.int .i64 Z0, .int .i64 Z1]]) hv)) (by kernel_rfl) rfl (ev I0.val I1.val Z0.val Z1.val) w
 ·cases h
def f274 (a0 Z0 Z1 : Int) : Bool := let x1 := f278 (f225 a0 a0).fst (f225 a0 a0).snd Z0 Z1; decide (x1 ≤ 0)
def g274 (p : Bool) : SV := bv p
def S274 : Summ
 | [.v (.int .i64 a0), .v (.agg [.int .i64 Z0, .int .i64 Z1])] => some (g274 (f274 a0.val Z0.val Z1.val))
 | _ => none
theorem S274_ok : SummFn Go.Proofs.Tryz.prog 274 S274 := by
 have ev : ∀ (a0 Z0 Z1 : Int), (symCall ⟨Go.Proofs.Tryz.prog, [(275, S275), (225, S225), (114, S114), (180, S180), (182, S182), (273, S273), (279, S279), (278, S278)], 3, 336, true, [], [], [], []⟩ 30 274 [iv a0, .agg [iv Z0, iv Z1]] []).out = ((g274 (f274 a0 Z0 Z1)).toV) := by
  intro a0 Z0 Z1
  kernel_rfl
 intro fs r h w vs hv
 unfold S274 at h
 split at h
 ·rename_i a0 Z0 Z1
  cases h
  exact sx_calls (envOkH' (S := [(275, S275), (225, S225), (114, S114), (180, S180), (182, S182), (273, S273), (279, S279), (278, S278)]) (HS := []) (j := true) ⟨S275_ok, S225_ok, S114_ok, S180_ok, S182_ok, S273_ok, S279_ok, S278_ok, trivial⟩ trivial) 30 274 [iv a0.val, .agg [iv Z0.val, iv Z1.val]] vs (symifyL_rel _ _ (SArels_v (xs := [.int .i64 a0, .agg [.int .i64 Z0, .int .i64 Z1]]) hv)) (by kernel_rfl) rfl (ev a0.val Z0.val Z1.val) w
 ·cases h
end Go.Proofs.YtdchdajjhofmnaaGreat
