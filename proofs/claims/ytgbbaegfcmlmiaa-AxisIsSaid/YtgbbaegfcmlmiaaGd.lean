/- What each function computes, by the executor: printed by a program (wip/sx2/Gen3.lean). -/
import Derived.Test.YtgbbaegfcmlmiaaGb
namespace Go.Proofs.Ytgbbaegfcmlmiaa
open Go Go.Sx
set_option maxRecDepth 1000000
set_option maxHeartbeats 100000000
/-- outrigger/outriggerref02.Compare -/
noncomputable def f76 (a0_0 : Int) (a0_1 : Int) (a1_0 : Int) (a1_1 : Int) : Int := let x1 : Bool := (f71 a0_0 a0_1).fst == (f71 a1_0 a1_1).fst; bif decide ((f71 a0_0 a0_1).fst < (f71 a1_0 a1_1).fst) || x1 && decide ((f71 a0_0 a0_1).snd < (f71 a1_0 a1_1).snd) then -1 else bif x1 && (f71 a0_0 a0_1).snd == (f71 a1_0 a1_1).snd then 0 else 1
noncomputable def g76 (p : Int) : SV := .int .i64 (.sym p)
noncomputable def S76 : Summ
  | [.v (.agg [.int .i64 a0_0, .int .i64 a0_1]), .v (.agg [.int .i64 a1_0, .int .i64 a1_1])] => some (g76 (f76 a0_0.val a0_1.val a1_0.val a1_1.val))
  | _ => none
theorem S76_ok : SummFn Go.Proofs.Try.prog 76 S76 := by
  have ev : ∀ (a0_0 : Int) (a0_1 : Int) (a1_0 : Int) (a1_1 : Int), (symCall ⟨Go.Proofs.Try.prog, [(71, S71), (73, S73)], 3, 88, true, [], []⟩ 30 76 [.agg [.int .i64 (.sym a0_0), .int .i64 (.sym a0_1)], .agg [.int .i64 (.sym a1_0), .int .i64 (.sym a1_1)]] []).out = ((g76 (f76 a0_0 a0_1 a1_0 a1_1)).toV) := by
    intro a0_0 a0_1 a1_0 a1_1
    kernel_rfl
  intro fs r h w vs hv
  unfold S76 at h
  split at h
  · rename_i a0_0 a0_1 a1_0 a1_1
    cases h
    exact sx_calls (envOkU' (S := [(71, S71), (73, S73)]) (HS := []) (US := []) (j := true) ⟨S71_ok, S73_ok, trivial⟩ trivial trivial) 30 76 [.agg [.int .i64 (.sym a0_0.val), .int .i64 (.sym a0_1.val)], .agg [.int .i64 (.sym a1_0.val), .int .i64 (.sym a1_1.val)]] vs (symifyL_rel _ _ (SArels_v (xs := [.agg [.int .i64 a0_0, .int .i64 a0_1], .agg [.int .i64 a1_0, .int .i64 a1_1]]) hv)) (by kernel_rfl) rfl (ev a0_0.val a0_1.val a1_0.val a1_1.val) w
  · cases h
/-- outrigger/outriggerref04.fits -/
noncomputable def f72 (a0 : Int) (a1_0 : Int) (a1_1 : Int) : Bool := let x1 : Int := f76 (f57 a0 a0).fst (f57 a0 a0).snd a1_0 a1_1; decide (x1 ≤ 0)
noncomputable def g72 (p : Bool) : SV := .bool (.sym p)
noncomputable def S72 : Summ
  | [.v (.int .i64 a0), .v (.agg [.int .i64 a1_0, .int .i64 a1_1])] => some (g72 (f72 a0.val a1_0.val a1_1.val))
  | _ => none
theorem S72_ok : SummFn Go.Proofs.Try.prog 72 S72 := by
  have ev : ∀ (a0 : Int) (a1_0 : Int) (a1_1 : Int), (symCall ⟨Go.Proofs.Try.prog, [(37, S37), (42, S42), (52, S52), (57, S57), (71, S71), (73, S73), (76, S76), (77, S77)], 3, 88, true, [], []⟩ 30 72 [.int .i64 (.sym a0), .agg [.int .i64 (.sym a1_0), .int .i64 (.sym a1_1)]] []).out = ((g72 (f72 a0 a1_0 a1_1)).toV) := by
    intro a0 a1_0 a1_1
    kernel_rfl
  intro fs r h w vs hv
  unfold S72 at h
  split at h
  · rename_i a0 a1_0 a1_1
    cases h
    exact sx_calls (envOkU' (S := [(37, S37), (42, S42), (52, S52), (57, S57), (71, S71), (73, S73), (76, S76), (77, S77)]) (HS := []) (US := []) (j := true) ⟨S37_ok, S42_ok, S52_ok, S57_ok, S71_ok, S73_ok, S76_ok, S77_ok, trivial⟩ trivial trivial) 30 72 [.int .i64 (.sym a0.val), .agg [.int .i64 (.sym a1_0.val), .int .i64 (.sym a1_1.val)]] vs (symifyL_rel _ _ (SArels_v (xs := [.int .i64 a0, .agg [.int .i64 a1_0, .int .i64 a1_1]]) hv)) (by kernel_rfl) rfl (ev a0.val a1_0.val a1_1.val) w
  · cases h
end Go.Proofs.Ytgbbaegfcmlmiaa
