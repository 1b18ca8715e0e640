/- What each function computes, by the executor: printed by a program (wip/sx2/Gen3.lean). -/
import Derived.Test.YtmnglkcodbecbaaGreatGc
namespace Go.Proofs.YtmnglkcodbecbaaGreat
open Go Go.Sx
set_option maxRecDepth 1000000
set_option maxHeartbeats 100000000
/-- outrigger/outriggerref01.Neg -/
def f156 (a0 : Int) : Int := IntKind.i64.wrap (0 - f88 a0)
def g156 (p : Int) : SV := .int .i64 (.sym p)
def S156 : Summ
  | [.v (.int .i64 a0)] => some (g156 (f156 a0.val))
  | _ => none
theorem S156_ok : SummFn Go.Proofs.Tryz.prog 156 S156 := by
  have ev : ∀ (a0 : Int), (symCall ⟨Go.Proofs.Tryz.prog, [(88, S88), (146, S146)], 3, 215, true, [], [], []⟩ 30 156 [.int .i64 (.sym a0)] []).out = ((g156 (f156 a0)).toV) := by
    intro a0
    kernel_rfl
  intro fs r h w vs hv
  unfold S156 at h
  split at h
  · rename_i a0
    cases h
    exact sx_calls (envOkH' (S := [(88, S88), (146, S146)]) (HS := []) (j := true) ⟨S88_ok, S146_ok, trivial⟩ trivial) 30 156 [.int .i64 (.sym a0.val)] vs (symifyL_rel _ _ (SArels_v (xs := [.int .i64 a0]) hv)) (by kernel_rfl) rfl (ev a0.val) w
  · cases h
/-- outrigger/outriggerref02.Compare -/
def f189 (a0_0 : Int) (a0_1 : Int) (a1_0 : Int) (a1_1 : Int) : Int := let x1 : Bool := (f184 a0_0 a0_1).fst == (f184 a1_0 a1_1).fst; bif decide ((f184 a0_0 a0_1).fst < (f184 a1_0 a1_1).fst) || x1 && decide ((f184 a0_0 a0_1).snd < (f184 a1_0 a1_1).snd) then -1 else bif x1 && (f184 a0_0 a0_1).snd == (f184 a1_0 a1_1).snd then 0 else 1
def g189 (p : Int) : SV := .int .i64 (.sym p)
def S189 : Summ
  | [.v (.agg [.int .i64 a0_0, .int .i64 a0_1]), .v (.agg [.int .i64 a1_0, .int .i64 a1_1])] => some (g189 (f189 a0_0.val a0_1.val a1_0.val a1_1.val))
  | _ => none
theorem S189_ok : SummFn Go.Proofs.Tryz.prog 189 S189 := by
  have ev : ∀ (a0_0 : Int) (a0_1 : Int) (a1_0 : Int) (a1_1 : Int), (symCall ⟨Go.Proofs.Tryz.prog, [(186, S186), (184, S184)], 3, 215, true, [], [], []⟩ 30 189 [.agg [.int .i64 (.sym a0_0), .int .i64 (.sym a0_1)], .agg [.int .i64 (.sym a1_0), .int .i64 (.sym a1_1)]] []).out = ((g189 (f189 a0_0 a0_1 a1_0 a1_1)).toV) := by
    intro a0_0 a0_1 a1_0 a1_1
    kernel_rfl
  intro fs r h w vs hv
  unfold S189 at h
  split at h
  · rename_i a0_0 a0_1 a1_0 a1_1
    cases h
    exact sx_calls (envOkH' (S := [(186, S186), (184, S184)]) (HS := []) (j := true) ⟨S186_ok, S184_ok, trivial⟩ trivial) 30 189 [.agg [.int .i64 (.sym a0_0.val), .int .i64 (.sym a0_1.val)], .agg [.int .i64 (.sym a1_0.val), .int .i64 (.sym a1_1.val)]] vs (symifyL_rel _ _ (SArels_v (xs := [.agg [.int .i64 a0_0, .int .i64 a0_1], .agg [.int .i64 a1_0, .int .i64 a1_1]]) hv)) (by kernel_rfl) rfl (ev a0_0.val a0_1.val a1_0.val a1_1.val) w
  · cases h
/-- outrigger/outriggerref04.fits -/
def f185 (a0 : Int) (a1_0 : Int) (a1_1 : Int) : Bool := let x1 : Int := f189 (f161 a0 a0).fst (f161 a0 a0).snd a1_0 a1_1; decide (x1 ≤ 0)
def g185 (p : Bool) : SV := .bool (.sym p)
def S185 : Summ
  | [.v (.int .i64 a0), .v (.agg [.int .i64 a1_0, .int .i64 a1_1])] => some (g185 (f185 a0.val a1_0.val a1_1.val))
  | _ => none
theorem S185_ok : SummFn Go.Proofs.Tryz.prog 185 S185 := by
  have ev : ∀ (a0 : Int) (a1_0 : Int) (a1_1 : Int), (symCall ⟨Go.Proofs.Tryz.prog, [(186, S186), (161, S161), (88, S88), (132, S132), (146, S146), (184, S184), (198, S198), (189, S189)], 3, 215, true, [], [], []⟩ 30 185 [.int .i64 (.sym a0), .agg [.int .i64 (.sym a1_0), .int .i64 (.sym a1_1)]] []).out = ((g185 (f185 a0 a1_0 a1_1)).toV) := by
    intro a0 a1_0 a1_1
    kernel_rfl
  intro fs r h w vs hv
  unfold S185 at h
  split at h
  · rename_i a0 a1_0 a1_1
    cases h
    exact sx_calls (envOkH' (S := [(186, S186), (161, S161), (88, S88), (132, S132), (146, S146), (184, S184), (198, S198), (189, S189)]) (HS := []) (j := true) ⟨S186_ok, S161_ok, S88_ok, S132_ok, S146_ok, S184_ok, S198_ok, S189_ok, trivial⟩ trivial) 30 185 [.int .i64 (.sym a0.val), .agg [.int .i64 (.sym a1_0.val), .int .i64 (.sym a1_1.val)]] vs (symifyL_rel _ _ (SArels_v (xs := [.int .i64 a0, .agg [.int .i64 a1_0, .int .i64 a1_1]]) hv)) (by kernel_rfl) rfl (ev a0.val a1_0.val a1_1.val) w
  · cases h
end Go.Proofs.YtmnglkcodbecbaaGreat
