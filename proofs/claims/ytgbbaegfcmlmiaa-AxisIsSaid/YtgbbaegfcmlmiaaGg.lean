/- What each function computes, by the executor: printed by a program (wip/sx2/Gen3.lean). -/
import Derived.Test.YtgbbaegfcmlmiaaUa
import Derived.Test.YtgbbaegfcmlmiaaW1
namespace Go.Proofs.Ytgbbaegfcmlmiaa
open Go Go.Sx
set_option maxRecDepth 1000000
set_option maxHeartbeats 100000000
/-- outrigger/axis.value -/
noncomputable def f21 (a0 : Int) : Bool := !(f41 a0).snd
noncomputable def g21 (p : Bool) : SV := .bool (.sym p)
noncomputable def S21 : Summ
  | [.v (.int .i64 a0)] => some (g21 (f21 a0.val))
  | _ => none
theorem S21_ok : SummFn Go.Proofs.Try.prog 21 S21 := by
  have ev : ∀ (a0 : Int), (symCall ⟨Go.Proofs.Try.prog, [(41, S41), (61, S61)], 3, 88, true, [], []⟩ 30 21 [.int .i64 (.sym a0)] []).out = ((g21 (f21 a0)).toV) := by
    intro a0
    kernel_rfl
  intro fs r h w vs hv
  unfold S21 at h
  split at h
  · rename_i a0
    cases h
    exact sx_calls (envOkU' (S := [(41, S41), (61, S61)]) (HS := []) (US := []) (j := true) ⟨S41_ok, S61_ok, trivial⟩ trivial trivial) 30 21 [.int .i64 (.sym a0.val)] vs (symifyL_rel _ _ (SArels_v (xs := [.int .i64 a0]) hv)) (by kernel_rfl) rfl (ev a0.val) w
  · cases h
/-- outrigger/axis.within -/
noncomputable def f22 (a0 : Int) : Bool := decide (a0 ≥ 4096) && decide (a0 ≤ 4503599627370496)
noncomputable def g22 (p : Bool) : SV := .bool (.sym p)
noncomputable def S22 : Summ
  | [.v (.int .i64 a0)] => some (g22 (f22 a0.val))
  | _ => none
theorem S22_ok : SummFn Go.Proofs.Try.prog 22 S22 := by
  have ev : ∀ (a0 : Int), (symCall ⟨Go.Proofs.Try.prog, [], 3, 88, true, [], []⟩ 30 22 [.int .i64 (.sym a0)] []).out = ((g22 (f22 a0)).toV) := by
    intro a0
    kernel_rfl
  intro fs r h w vs hv
  unfold S22 at h
  split at h
  · rename_i a0
    cases h
    exact sx_calls (envOkU' (S := []) (HS := []) (US := []) (j := true) trivial trivial trivial) 30 22 [.int .i64 (.sym a0.val)] vs (symifyL_rel _ _ (SArels_v (xs := [.int .i64 a0]) hv)) (by kernel_rfl) rfl (ev a0.val) w
  · cases h
/-- outrigger/axis.Sane -/
noncomputable def f13 (a0_0 : Int) (a0_1 : Int) (a0_2 : Int) (a0_3 : Int) (a0_4 : Int) (a0_5 : Bool) : Bool := f21 a0_0 && f21 a0_1 && f21 a0_3 && f22 a0_2 && f22 a0_4
noncomputable def g13 (p : Bool) : SV := .bool (.sym p)
noncomputable def S13 : Summ
  | [.v (.agg [.int .i64 a0_0, .int .i64 a0_1, .int .i64 a0_2, .int .i64 a0_3, .int .i64 a0_4, .bool a0_5])] => some (g13 (f13 a0_0.val a0_1.val a0_2.val a0_3.val a0_4.val a0_5.val))
  | _ => none
theorem S13_ok : SummFn Go.Proofs.Try.prog 13 S13 := by
  have ev : ∀ (a0_0 : Int) (a0_1 : Int) (a0_2 : Int) (a0_3 : Int) (a0_4 : Int) (a0_5 : Bool), (symCall ⟨Go.Proofs.Try.prog, [(21, S21), (22, S22), (41, S41), (61, S61)], 3, 88, true, [], []⟩ 30 13 [.agg [.int .i64 (.sym a0_0), .int .i64 (.sym a0_1), .int .i64 (.sym a0_2), .int .i64 (.sym a0_3), .int .i64 (.sym a0_4), .bool (.sym a0_5)]] []).out = ((g13 (f13 a0_0 a0_1 a0_2 a0_3 a0_4 a0_5)).toV) := by
    intro a0_0 a0_1 a0_2 a0_3 a0_4 a0_5
    kernel_rfl
  intro fs r h w vs hv
  unfold S13 at h
  split at h
  · rename_i a0_0 a0_1 a0_2 a0_3 a0_4 a0_5
    cases h
    exact sx_calls (envOkU' (S := [(21, S21), (22, S22), (41, S41), (61, S61)]) (HS := []) (US := []) (j := true) ⟨S21_ok, S22_ok, S41_ok, S61_ok, trivial⟩ trivial trivial) 30 13 [.agg [.int .i64 (.sym a0_0.val), .int .i64 (.sym a0_1.val), .int .i64 (.sym a0_2.val), .int .i64 (.sym a0_3.val), .int .i64 (.sym a0_4.val), .bool (.sym a0_5.val)]] vs (symifyL_rel _ _ (SArels_v (xs := [.agg [.int .i64 a0_0, .int .i64 a0_1, .int .i64 a0_2, .int .i64 a0_3, .int .i64 a0_4, .bool a0_5]]) hv)) (by kernel_rfl) rfl (ev a0_0.val a0_1.val a0_2.val a0_3.val a0_4.val a0_5.val) w
  · cases h
/-- outrigger/axis.Start -/
noncomputable def f15 (a0 : Int) (a1 : Int) : Int × Int × Int × Int × Int × Bool := ((f41 a0).fst, (f41 a1).fst, 17592186044416, 0, 17592186044416, (f41 a0).snd || (f41 a1).snd)
noncomputable def g15 (p : Int × Int × Int × Int × Int × Bool) : SV := .agg [.int .i64 (.sym p.1), .int .i64 (.sym p.2.1), .int .i64 (.sym p.2.2.1), .int .i64 (.sym p.2.2.2.1), .int .i64 (.sym p.2.2.2.2.1), .bool (.sym p.2.2.2.2.2)]
noncomputable def S15 : Summ
  | [.v (.int .i64 a0), .v (.int .i64 a1)] => some (g15 (f15 a0.val a1.val))
  | _ => none
theorem S15_ok : SummFn Go.Proofs.Try.prog 15 S15 := by
  have ev : ∀ (a0 : Int) (a1 : Int), (symCall ⟨Go.Proofs.Try.prog, [(41, S41), (61, S61)], 3, 88, true, [], []⟩ 30 15 [.int .i64 (.sym a0), .int .i64 (.sym a1)] []).out = ((g15 (f15 a0 a1)).toV) := by
    intro a0 a1
    kernel_rfl
  intro fs r h w vs hv
  unfold S15 at h
  split at h
  · rename_i a0 a1
    cases h
    exact sx_calls (envOkU' (S := [(41, S41), (61, S61)]) (HS := []) (US := []) (j := true) ⟨S41_ok, S61_ok, trivial⟩ trivial trivial) 30 15 [.int .i64 (.sym a0.val), .int .i64 (.sym a1.val)] vs (symifyL_rel _ _ (SArels_v (xs := [.int .i64 a0, .int .i64 a1]) hv)) (by kernel_rfl) rfl (ev a0.val a1.val) w
  · cases h
/-- outrigger/root.Sqrt -/
noncomputable def f26 (a0 : Int) : Int × Bool := let x1 : Int × Bool := f47 (f48 a0 4294967296).fst (f48 a0 4294967296).snd; (x1.fst, (f41 a0).snd || x1.snd)
noncomputable def g26 (p : Int × Bool) : SV := .tuple [.int .i64 (.sym p.1), .bool (.sym p.2)]
noncomputable def S26 : Summ
  | [.v (.int .i64 a0)] => some (g26 (f26 a0.val))
  | _ => none
theorem S26_ok : SummFn Go.Proofs.Try.prog 26 S26 := by
  have ev : ∀ (a0 : Int), (symCall ⟨Go.Proofs.Try.prog, [(19, S19), (41, S41), (43, S43), (47, S47), (48, S48), (61, S61), (62, S62), (63, S63), (64, S64), (65, S65), (66, S66), (67, S67), (81, S81), (82, S82), (83, S83), (85, S85)], 3, 88, true, [], []⟩ 30 26 [.int .i64 (.sym a0)] []).out = ((g26 (f26 a0)).toV) := by
    intro a0
    kernel_rfl
  intro fs r h w vs hv
  unfold S26 at h
  split at h
  · rename_i a0
    cases h
    exact sx_calls (envOkU' (S := [(19, S19), (41, S41), (43, S43), (47, S47), (48, S48), (61, S61), (62, S62), (63, S63), (64, S64), (65, S65), (66, S66), (67, S67), (81, S81), (82, S82), (83, S83), (85, S85)]) (HS := []) (US := []) (j := true) ⟨S19_ok, S41_ok, S43_ok, S47_ok, S48_ok, S61_ok, S62_ok, S63_ok, S64_ok, S65_ok, S66_ok, S67_ok, S81_ok, S82_ok, S83_ok, S85_ok, trivial⟩ trivial trivial) 30 26 [.int .i64 (.sym a0.val)] vs (symifyL_rel _ _ (SArels_v (xs := [.int .i64 a0]) hv)) (by kernel_rfl) rfl (ev a0.val) w
  · cases h
end Go.Proofs.Ytgbbaegfcmlmiaa
