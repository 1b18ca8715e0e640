/- What each function computes, by the executor: printed by a program (wip/sx2/Gen3.lean). -/
import Derived.Test.YtoagcpfklkmolaaGc
namespace Go.Proofs.Ytoagcpfklkmolaa
open Go Go.Sx
set_option maxRecDepth 1000000
set_option maxHeartbeats 100000000
/-- outrigger/outriggerref01.Neg -/
def f75 (a0 : Int) : Int := IntKind.i64.wrap (0 - f56 a0)
def g75 (p : Int) : SV := .int .i64 (.sym p)
def S75 : Summ
  | [.v (.int .i64 a0)] => some (g75 (f75 a0.val))
  | _ => none
theorem S75_ok : SummFn Go.Proofs.Try.prog 75 S75 := by
  have ev : ∀ (a0 : Int), (symCall ⟨Go.Proofs.Try.prog, [(56, S56), (76, S76)], 3, 130, true, [], [], []⟩ 30 75 [.int .i64 (.sym a0)] []).out = ((g75 (f75 a0)).toV) := by
    intro a0
    kernel_rfl
  intro fs r h w vs hv
  unfold S75 at h
  split at h
  · rename_i a0
    cases h
    exact sx_calls (envOkH' (S := [(56, S56), (76, S76)]) (HS := []) (j := true) ⟨S56_ok, S76_ok, trivial⟩ trivial) 30 75 [.int .i64 (.sym a0.val)] vs (symifyL_rel _ _ (SArels_v (xs := [.int .i64 a0]) hv)) (by kernel_rfl) rfl (ev a0.val) w
  · cases h
/-- outrigger/outriggerref02.Compare -/
def f117 (a0_0 : Int) (a0_1 : Int) (a1_0 : Int) (a1_1 : Int) : Int := let x1 : Bool := (f114 a0_0 a0_1).fst == (f114 a1_0 a1_1).fst; bif decide ((f114 a0_0 a0_1).fst < (f114 a1_0 a1_1).fst) || x1 && decide ((f114 a0_0 a0_1).snd < (f114 a1_0 a1_1).snd) then -1 else bif x1 && (f114 a0_0 a0_1).snd == (f114 a1_0 a1_1).snd then 0 else 1
def g117 (p : Int) : SV := .int .i64 (.sym p)
def S117 : Summ
  | [.v (.agg [.int .i64 a0_0, .int .i64 a0_1]), .v (.agg [.int .i64 a1_0, .int .i64 a1_1])] => some (g117 (f117 a0_0.val a0_1.val a1_0.val a1_1.val))
  | _ => none
theorem S117_ok : SummFn Go.Proofs.Try.prog 117 S117 := by
  have ev : ∀ (a0_0 : Int) (a0_1 : Int) (a1_0 : Int) (a1_1 : Int), (symCall ⟨Go.Proofs.Try.prog, [(112, S112), (114, S114)], 3, 130, true, [], [], []⟩ 30 117 [.agg [.int .i64 (.sym a0_0), .int .i64 (.sym a0_1)], .agg [.int .i64 (.sym a1_0), .int .i64 (.sym a1_1)]] []).out = ((g117 (f117 a0_0 a0_1 a1_0 a1_1)).toV) := by
    intro a0_0 a0_1 a1_0 a1_1
    kernel_rfl
  intro fs r h w vs hv
  unfold S117 at h
  split at h
  · rename_i a0_0 a0_1 a1_0 a1_1
    cases h
    exact sx_calls (envOkH' (S := [(112, S112), (114, S114)]) (HS := []) (j := true) ⟨S112_ok, S114_ok, trivial⟩ trivial) 30 117 [.agg [.int .i64 (.sym a0_0.val), .int .i64 (.sym a0_1.val)], .agg [.int .i64 (.sym a1_0.val), .int .i64 (.sym a1_1.val)]] vs (symifyL_rel _ _ (SArels_v (xs := [.agg [.int .i64 a0_0, .int .i64 a0_1], .agg [.int .i64 a1_0, .int .i64 a1_1]]) hv)) (by kernel_rfl) rfl (ev a0_0.val a0_1.val a1_0.val a1_1.val) w
  · cases h
/-- outrigger/outriggerref04.fits -/
def f115 (a0 : Int) (a1_0 : Int) (a1_1 : Int) : Bool := let x1 : Int := f117 (f90 a0 a0).fst (f90 a0 a0).snd a1_0 a1_1; decide (x1 ≤ 0)
def g115 (p : Bool) : SV := .bool (.sym p)
def S115 : Summ
  | [.v (.int .i64 a0), .v (.agg [.int .i64 a1_0, .int .i64 a1_1])] => some (g115 (f115 a0.val a1_0.val a1_1.val))
  | _ => none
theorem S115_ok : SummFn Go.Proofs.Try.prog 115 S115 := by
  have ev : ∀ (a0 : Int) (a1_0 : Int) (a1_1 : Int), (symCall ⟨Go.Proofs.Try.prog, [(112, S112), (90, S90), (56, S56), (87, S87), (76, S76), (114, S114), (121, S121), (117, S117)], 3, 130, true, [], [], []⟩ 30 115 [.int .i64 (.sym a0), .agg [.int .i64 (.sym a1_0), .int .i64 (.sym a1_1)]] []).out = ((g115 (f115 a0 a1_0 a1_1)).toV) := by
    intro a0 a1_0 a1_1
    kernel_rfl
  intro fs r h w vs hv
  unfold S115 at h
  split at h
  · rename_i a0 a1_0 a1_1
    cases h
    exact sx_calls (envOkH' (S := [(112, S112), (90, S90), (56, S56), (87, S87), (76, S76), (114, S114), (121, S121), (117, S117)]) (HS := []) (j := true) ⟨S112_ok, S90_ok, S56_ok, S87_ok, S76_ok, S114_ok, S121_ok, S117_ok, trivial⟩ trivial) 30 115 [.int .i64 (.sym a0.val), .agg [.int .i64 (.sym a1_0.val), .int .i64 (.sym a1_1.val)]] vs (symifyL_rel _ _ (SArels_v (xs := [.int .i64 a0, .agg [.int .i64 a1_0, .int .i64 a1_1]]) hv)) (by kernel_rfl) rfl (ev a0.val a1_0.val a1_1.val) w
  · cases h
end Go.Proofs.Ytoagcpfklkmolaa
