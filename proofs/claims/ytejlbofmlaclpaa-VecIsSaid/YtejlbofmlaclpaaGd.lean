/- What each function computes, by the executor: printed by a program (wip/sx2/Gen3.lean). -/
import Derived.Test.YtejlbofmlaclpaaGc
namespace Go.Proofs.Ytejlbofmlaclpaa
open Go Go.Sx
set_option maxRecDepth 1000000
set_option maxHeartbeats 100000000
/-- outrigger/outriggerref01.Neg -/
def f97 (a0 : Int) : Int := IntKind.i64.wrap (0 - f60 a0)
def g97 (p : Int) : SV := .int .i64 (.sym p)
def S97 : Summ
  | [.v (.int .i64 a0)] => some (g97 (f97 a0.val))
  | _ => none
theorem S97_ok : SummFn Go.Proofs.Try.prog 97 S97 := by
  have ev : ∀ (a0 : Int), (symCall ⟨Go.Proofs.Try.prog, [(60, S60), (63, S63)], 3, 110, true, [], [], []⟩ 30 97 [.int .i64 (.sym a0)] []).out = ((g97 (f97 a0)).toV) := by
    intro a0
    kernel_rfl
  intro fs r h w vs hv
  unfold S97 at h
  split at h
  · rename_i a0
    cases h
    exact sx_calls (envOkH' (S := [(60, S60), (63, S63)]) (HS := []) (j := true) ⟨S60_ok, S63_ok, trivial⟩ trivial) 30 97 [.int .i64 (.sym a0.val)] vs (symifyL_rel _ _ (SArels_v (xs := [.int .i64 a0]) hv)) (by kernel_rfl) rfl (ev a0.val) w
  · cases h
/-- outrigger/outriggerref02.Compare -/
def f106 (a0_0 : Int) (a0_1 : Int) (a1_0 : Int) (a1_1 : Int) : Int := let x1 : Bool := (f86 a0_0 a0_1).fst == (f86 a1_0 a1_1).fst; bif decide ((f86 a0_0 a0_1).fst < (f86 a1_0 a1_1).fst) || x1 && decide ((f86 a0_0 a0_1).snd < (f86 a1_0 a1_1).snd) then -1 else bif x1 && (f86 a0_0 a0_1).snd == (f86 a1_0 a1_1).snd then 0 else 1
def g106 (p : Int) : SV := .int .i64 (.sym p)
def S106 : Summ
  | [.v (.agg [.int .i64 a0_0, .int .i64 a0_1]), .v (.agg [.int .i64 a1_0, .int .i64 a1_1])] => some (g106 (f106 a0_0.val a0_1.val a1_0.val a1_1.val))
  | _ => none
theorem S106_ok : SummFn Go.Proofs.Try.prog 106 S106 := by
  have ev : ∀ (a0_0 : Int) (a0_1 : Int) (a1_0 : Int) (a1_1 : Int), (symCall ⟨Go.Proofs.Try.prog, [(55, S55), (86, S86)], 3, 110, true, [], [], []⟩ 30 106 [.agg [.int .i64 (.sym a0_0), .int .i64 (.sym a0_1)], .agg [.int .i64 (.sym a1_0), .int .i64 (.sym a1_1)]] []).out = ((g106 (f106 a0_0 a0_1 a1_0 a1_1)).toV) := by
    intro a0_0 a0_1 a1_0 a1_1
    kernel_rfl
  intro fs r h w vs hv
  unfold S106 at h
  split at h
  · rename_i a0_0 a0_1 a1_0 a1_1
    cases h
    exact sx_calls (envOkH' (S := [(55, S55), (86, S86)]) (HS := []) (j := true) ⟨S55_ok, S86_ok, trivial⟩ trivial) 30 106 [.agg [.int .i64 (.sym a0_0.val), .int .i64 (.sym a0_1.val)], .agg [.int .i64 (.sym a1_0.val), .int .i64 (.sym a1_1.val)]] vs (symifyL_rel _ _ (SArels_v (xs := [.agg [.int .i64 a0_0, .int .i64 a0_1], .agg [.int .i64 a1_0, .int .i64 a1_1]]) hv)) (by kernel_rfl) rfl (ev a0_0.val a0_1.val a1_0.val a1_1.val) w
  · cases h
/-- outrigger/outriggerref04.fits -/
def f104 (a0 : Int) (a1_0 : Int) (a1_1 : Int) : Bool := let x1 : Int := f106 (f57 a0 a0).fst (f57 a0 a0).snd a1_0 a1_1; decide (x1 ≤ 0)
def g104 (p : Bool) : SV := .bool (.sym p)
def S104 : Summ
  | [.v (.int .i64 a0), .v (.agg [.int .i64 a1_0, .int .i64 a1_1])] => some (g104 (f104 a0.val a1_0.val a1_1.val))
  | _ => none
theorem S104_ok : SummFn Go.Proofs.Try.prog 104 S104 := by
  have ev : ∀ (a0 : Int) (a1_0 : Int) (a1_1 : Int), (symCall ⟨Go.Proofs.Try.prog, [(55, S55), (57, S57), (60, S60), (62, S62), (63, S63), (86, S86), (87, S87), (106, S106)], 3, 110, true, [], [], []⟩ 30 104 [.int .i64 (.sym a0), .agg [.int .i64 (.sym a1_0), .int .i64 (.sym a1_1)]] []).out = ((g104 (f104 a0 a1_0 a1_1)).toV) := by
    intro a0 a1_0 a1_1
    kernel_rfl
  intro fs r h w vs hv
  unfold S104 at h
  split at h
  · rename_i a0 a1_0 a1_1
    cases h
    exact sx_calls (envOkH' (S := [(55, S55), (57, S57), (60, S60), (62, S62), (63, S63), (86, S86), (87, S87), (106, S106)]) (HS := []) (j := true) ⟨S55_ok, S57_ok, S60_ok, S62_ok, S63_ok, S86_ok, S87_ok, S106_ok, trivial⟩ trivial) 30 104 [.int .i64 (.sym a0.val), .agg [.int .i64 (.sym a1_0.val), .int .i64 (.sym a1_1.val)]] vs (symifyL_rel _ _ (SArels_v (xs := [.int .i64 a0, .agg [.int .i64 a1_0, .int .i64 a1_1]]) hv)) (by kernel_rfl) rfl (ev a0.val a1_0.val a1_1.val) w
  · cases h
end Go.Proofs.Ytejlbofmlaclpaa
