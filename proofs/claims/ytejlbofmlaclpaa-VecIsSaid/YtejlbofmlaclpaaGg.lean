/- What each function computes, by the executor: printed by a program (wip/sx2/Gen3.lean). -/
import Derived.Test.YtejlbofmlaclpaaW3
import Derived.Test.YtejlbofmlaclpaaNa
import Derived.Test.YtejlbofmlaclpaaGd
namespace Go.Proofs.Ytejlbofmlaclpaa
open Go Go.Sx
set_option maxRecDepth 1000000
set_option maxHeartbeats 100000000
/-- outrigger/fix.Add -/
noncomputable def f28 (a0 : Int) (a1 : Int) : Int × Bool := let x1 : Int × Bool := f25 (IntKind.i64.wrap (f67 a0 + f67 a1)); (x1.fst, x1.snd || f67 a0 != a0 || f67 a1 != a1)
noncomputable def g28 (p : Int × Bool) : SV := .tuple [.int .i64 (.sym p.1), .bool (.sym p.2)]
noncomputable def S28 : Summ
  | [.v (.int .i64 a0), .v (.int .i64 a1)] => some (g28 (f28 a0.val a1.val))
  | _ => none
theorem S28_ok : SummFn Go.Proofs.Try.prog 28 S28 := by
  have ev : ∀ (a0 : Int) (a1 : Int), (symCall ⟨Go.Proofs.Try.prog, [(25, S25), (67, S67), (68, S68)], 3, 110, true, [], [], []⟩ 30 28 [.int .i64 (.sym a0), .int .i64 (.sym a1)] []).out = ((g28 (f28 a0 a1)).toV) := by
    intro a0 a1
    kernel_rfl
  intro fs r h w vs hv
  unfold S28 at h
  split at h
  · rename_i a0 a1
    cases h
    exact sx_calls (envOkU' (S := [(25, S25), (67, S67), (68, S68)]) (HS := []) (US := []) (NS := []) (j := true) ⟨S25_ok, S67_ok, S68_ok, trivial⟩ trivial trivial trivial) 30 28 [.int .i64 (.sym a0.val), .int .i64 (.sym a1.val)] vs (symifyL_rel _ _ (SArels_v (xs := [.int .i64 a0, .int .i64 a1]) hv)) (by kernel_rfl) rfl (ev a0.val a1.val) w
  · cases h
/-- outrigger/outriggerref01.Sub -/
noncomputable def f65 (a0 : Int) (a1 : Int) : Int × Bool := let x1 : Int × Bool := f63 (IntKind.i64.wrap ((f63 a0).fst - (f63 a1).fst)); (x1.fst, (f63 a0).snd || (f63 a1).snd || x1.snd)
noncomputable def g65 (p : Int × Bool) : SV := .tuple [.int .i64 (.sym p.1), .bool (.sym p.2)]
noncomputable def S65 : Summ
  | [.v (.int .i64 a0), .v (.int .i64 a1)] => some (g65 (f65 a0.val a1.val))
  | _ => none
theorem S65_ok : SummFn Go.Proofs.Try.prog 65 S65 := by
  have ev : ∀ (a0 : Int) (a1 : Int), (symCall ⟨Go.Proofs.Try.prog, [(63, S63)], 3, 110, true, [], [], []⟩ 30 65 [.int .i64 (.sym a0), .int .i64 (.sym a1)] []).out = ((g65 (f65 a0 a1)).toV) := by
    intro a0 a1
    kernel_rfl
  intro fs r h w vs hv
  unfold S65 at h
  split at h
  · rename_i a0 a1
    cases h
    exact sx_calls (envOkU' (S := [(63, S63)]) (HS := []) (US := []) (NS := []) (j := true) ⟨S63_ok, trivial⟩ trivial trivial trivial) 30 65 [.int .i64 (.sym a0.val), .int .i64 (.sym a1.val)] vs (symifyL_rel _ _ (SArels_v (xs := [.int .i64 a0, .int .i64 a1]) hv)) (by kernel_rfl) rfl (ev a0.val a1.val) w
  · cases h
/-- outrigger/outriggerref01.Add -/
noncomputable def f66 (a0 : Int) (a1 : Int) : Int × Bool := let x1 : Int × Bool := f63 (IntKind.i64.wrap ((f63 a0).fst + (f63 a1).fst)); (x1.fst, (f63 a0).snd || (f63 a1).snd || x1.snd)
noncomputable def g66 (p : Int × Bool) : SV := .tuple [.int .i64 (.sym p.1), .bool (.sym p.2)]
noncomputable def S66 : Summ
  | [.v (.int .i64 a0), .v (.int .i64 a1)] => some (g66 (f66 a0.val a1.val))
  | _ => none
theorem S66_ok : SummFn Go.Proofs.Try.prog 66 S66 := by
  have ev : ∀ (a0 : Int) (a1 : Int), (symCall ⟨Go.Proofs.Try.prog, [(63, S63)], 3, 110, true, [], [], []⟩ 30 66 [.int .i64 (.sym a0), .int .i64 (.sym a1)] []).out = ((g66 (f66 a0 a1)).toV) := by
    intro a0 a1
    kernel_rfl
  intro fs r h w vs hv
  unfold S66 at h
  split at h
  · rename_i a0 a1
    cases h
    exact sx_calls (envOkU' (S := [(63, S63)]) (HS := []) (US := []) (NS := []) (j := true) ⟨S63_ok, trivial⟩ trivial trivial trivial) 30 66 [.int .i64 (.sym a0.val), .int .i64 (.sym a1.val)] vs (symifyL_rel _ _ (SArels_v (xs := [.int .i64 a0, .int .i64 a1]) hv)) (by kernel_rfl) rfl (ev a0.val a1.val) w
  · cases h
/-- outrigger/vec.Len -/
noncomputable def f35 (a0_0 : Int) (a0_1 : Int) (a0_2 : Int) : Int × Bool := let x1 : Int × Int := addL [((f29 a0_0 a0_0).fst, (f29 a0_0 a0_0).snd), ((f29 a0_1 a0_1).fst, (f29 a0_1 a0_1).snd), ((f29 a0_2 a0_2).fst, (f29 a0_2 a0_2).snd)]; let x2 : Int × Bool := f91 x1.fst x1.snd; (x2.fst, x2.snd || anyB [(f25 a0_0).snd, (f25 a0_1).snd, (f25 a0_2).snd])
noncomputable def g35 (p : Int × Bool) : SV := .tuple [.int .i64 (.sym p.1), .bool (.sym p.2)]
noncomputable def S35 : Summ
  | [.v (.agg [.int .i64 a0_0, .int .i64 a0_1, .int .i64 a0_2])] => some (g35 (f35 a0_0.val a0_1.val a0_2.val))
  | _ => none
theorem S35_ok : SummFn Go.Proofs.Try.prog 35 S35 := by
  have ev : ∀ (a0_0 : Int) (a0_1 : Int) (a0_2 : Int), (symCall ⟨Go.Proofs.Try.prog, [(24, S24), (25, S25), (29, S29), (30, S30), (31, S31), (32, S32), (51, S51), (67, S67), (68, S68), (69, S69), (70, S70), (71, S71), (72, S72), (73, S73), (89, S89), (91, S91)], 3, 110, true, [(92, H92), (94, H94), (78, H78), (82, H82)], [], []⟩ 30 35 [.agg [.int .i64 (.sym a0_0), .int .i64 (.sym a0_1), .int .i64 (.sym a0_2)]] []).out = ((g35 (f35 a0_0 a0_1 a0_2)).toV) := by
    intro a0_0 a0_1 a0_2
    kernel_rfl
  intro fs r h w vs hv
  unfold S35 at h
  split at h
  · rename_i a0_0 a0_1 a0_2
    cases h
    exact sx_calls (envOkU' (S := [(24, S24), (25, S25), (29, S29), (30, S30), (31, S31), (32, S32), (51, S51), (67, S67), (68, S68), (69, S69), (70, S70), (71, S71), (72, S72), (73, S73), (89, S89), (91, S91)]) (HS := [(92, H92), (94, H94), (78, H78), (82, H82)]) (US := []) (NS := []) (j := true) ⟨S24_ok, S25_ok, S29_ok, S30_ok, S31_ok, S32_ok, S51_ok, S67_ok, S68_ok, S69_ok, S70_ok, S71_ok, S72_ok, S73_ok, S89_ok, S91_ok, trivial⟩ ⟨H92_ok, H94_ok, H78_ok, H82_ok, trivial⟩ trivial trivial) 30 35 [.agg [.int .i64 (.sym a0_0.val), .int .i64 (.sym a0_1.val), .int .i64 (.sym a0_2.val)]] vs (symifyL_rel _ _ (SArels_v (xs := [.agg [.int .i64 a0_0, .int .i64 a0_1, .int .i64 a0_2]]) hv)) (by kernel_rfl) rfl (ev a0_0.val a0_1.val a0_2.val) w
  · cases h
/-- outrigger/vec.Unit -/
noncomputable def f36 (a0_0 : Int) (a0_1 : Int) (a0_2 : Int) : Int × Int × Int × Bool := let x1 : Bool := (f35 a0_0 a0_1 a0_2).fst == 0; let x2 : Int × Bool := f20 a0_0 (f35 a0_0 a0_1 a0_2).fst; let x3 : Int × Bool := f20 a0_1 (f35 a0_0 a0_1 a0_2).fst; let x4 : Int × Bool := f20 a0_2 (f35 a0_0 a0_1 a0_2).fst; (bif x1 then 0 else x2.fst, bif x1 then 0 else x3.fst, bif x1 then 0 else x4.fst, x1 || ((f35 a0_0 a0_1 a0_2).snd || (x2.snd || x3.snd || x4.snd)))
noncomputable def g36 (p : Int × Int × Int × Bool) : SV := .tuple [.agg [.int .i64 (.sym p.1), .int .i64 (.sym p.2.1), .int .i64 (.sym p.2.2.1)], .bool (.sym p.2.2.2)]
noncomputable def S36 : Summ
  | [.v (.agg [.int .i64 a0_0, .int .i64 a0_1, .int .i64 a0_2])] => some (g36 (f36 a0_0.val a0_1.val a0_2.val))
  | _ => none
theorem S36_ok : SummFn Go.Proofs.Try.prog 36 S36 := by
  have ev : ∀ (a0_0 : Int) (a0_1 : Int) (a0_2 : Int), (symCall ⟨Go.Proofs.Try.prog, [(20, S20), (24, S24), (25, S25), (29, S29), (30, S30), (31, S31), (32, S32), (35, S35), (51, S51), (56, S56), (59, S59), (67, S67), (68, S68), (69, S69), (70, S70), (71, S71), (72, S72), (73, S73), (89, S89), (91, S91)], 3, 110, true, [(92, H92), (94, H94), (78, H78), (82, H82)], [], []⟩ 30 36 [.agg [.int .i64 (.sym a0_0), .int .i64 (.sym a0_1), .int .i64 (.sym a0_2)]] []).out = ((g36 (f36 a0_0 a0_1 a0_2)).toV) := by
    intro a0_0 a0_1 a0_2
    kernel_rfl
  intro fs r h w vs hv
  unfold S36 at h
  split at h
  · rename_i a0_0 a0_1 a0_2
    cases h
    exact sx_calls (envOkU' (S := [(20, S20), (24, S24), (25, S25), (29, S29), (30, S30), (31, S31), (32, S32), (35, S35), (51, S51), (56, S56), (59, S59), (67, S67), (68, S68), (69, S69), (70, S70), (71, S71), (72, S72), (73, S73), (89, S89), (91, S91)]) (HS := [(92, H92), (94, H94), (78, H78), (82, H82)]) (US := []) (NS := []) (j := true) ⟨S20_ok, S24_ok, S25_ok, S29_ok, S30_ok, S31_ok, S32_ok, S35_ok, S51_ok, S56_ok, S59_ok, S67_ok, S68_ok, S69_ok, S70_ok, S71_ok, S72_ok, S73_ok, S89_ok, S91_ok, trivial⟩ ⟨H92_ok, H94_ok, H78_ok, H82_ok, trivial⟩ trivial trivial) 30 36 [.agg [.int .i64 (.sym a0_0.val), .int .i64 (.sym a0_1.val), .int .i64 (.sym a0_2.val)]] vs (symifyL_rel _ _ (SArels_v (xs := [.agg [.int .i64 a0_0, .int .i64 a0_1, .int .i64 a0_2]]) hv)) (by kernel_rfl) rfl (ev a0_0.val a0_1.val a0_2.val) w
  · cases h
/-- outrigger/vec.Cross -/
noncomputable def f37 (a0_0 : Int) (a0_1 : Int) (a0_2 : Int) (a1_0 : Int) (a1_1 : Int) (a1_2 : Int) : Int × Int × Int × Bool := let x1 : Int × Int := addL [((f29 a0_1 a1_2).fst, (f29 a0_1 a1_2).snd), ((f29 a0_2 (f27 a1_1)).fst, (f29 a0_2 (f27 a1_1)).snd)]; let x2 : Int × Bool := f16 x1.fst x1.snd; let x3 : Int × Int := addL [((f29 a0_2 a1_0).fst, (f29 a0_2 a1_0).snd), ((f29 a0_0 (f27 a1_2)).fst, (f29 a0_0 (f27 a1_2)).snd)]; let x4 : Int × Bool := f16 x3.fst x3.snd; let x5 : Int × Int := addL [((f29 a0_0 a1_1).fst, (f29 a0_0 a1_1).snd), ((f29 a0_1 (f27 a1_0)).fst, (f29 a0_1 (f27 a1_0)).snd)]; let x6 : Int × Bool := f16 x5.fst x5.snd; (x2.fst, x4.fst, x6.fst, (f25 a1_1).snd || (x2.snd || anyB [(f25 a0_1).snd, (f25 a0_2).snd] || anyB [(f25 a1_2).snd, (f25 (f27 a1_1)).snd]) || ((f25 a1_2).snd || (x4.snd || anyB [(f25 a0_2).snd, (f25 a0_0).snd] || anyB [(f25 a1_0).snd, (f25 (f27 a1_2)).snd])) || ((f25 a1_0).snd || (x6.snd || anyB [(f25 a0_0).snd, (f25 a0_1).snd] || anyB [(f25 a1_1).snd, (f25 (f27 a1_0)).snd])))
noncomputable def g37 (p : Int × Int × Int × Bool) : SV := .tuple [.agg [.int .i64 (.sym p.1), .int .i64 (.sym p.2.1), .int .i64 (.sym p.2.2.1)], .bool (.sym p.2.2.2)]
noncomputable def S37 : Summ
  | [.v (.agg [.int .i64 a0_0, .int .i64 a0_1, .int .i64 a0_2]), .v (.agg [.int .i64 a1_0, .int .i64 a1_1, .int .i64 a1_2])] => some (g37 (f37 a0_0.val a0_1.val a0_2.val a1_0.val a1_1.val a1_2.val))
  | _ => none
theorem S37_ok : SummFn Go.Proofs.Try.prog 37 S37 := by
  have ev : ∀ (a0_0 : Int) (a0_1 : Int) (a0_2 : Int) (a1_0 : Int) (a1_1 : Int) (a1_2 : Int), (symCall ⟨Go.Proofs.Try.prog, [(16, S16), (24, S24), (25, S25), (27, S27), (29, S29), (30, S30), (31, S31), (49, S49), (51, S51), (67, S67), (68, S68), (69, S69), (70, S70), (71, S71)], 3, 110, true, [(92, H92), (94, H94), (78, H78), (82, H82)], [], []⟩ 30 37 [.agg [.int .i64 (.sym a0_0), .int .i64 (.sym a0_1), .int .i64 (.sym a0_2)], .agg [.int .i64 (.sym a1_0), .int .i64 (.sym a1_1), .int .i64 (.sym a1_2)]] []).out = ((g37 (f37 a0_0 a0_1 a0_2 a1_0 a1_1 a1_2)).toV) := by
    intro a0_0 a0_1 a0_2 a1_0 a1_1 a1_2
    kernel_rfl
  intro fs r h w vs hv
  unfold S37 at h
  split at h
  · rename_i a0_0 a0_1 a0_2 a1_0 a1_1 a1_2
    cases h
    exact sx_calls (envOkU' (S := [(16, S16), (24, S24), (25, S25), (27, S27), (29, S29), (30, S30), (31, S31), (49, S49), (51, S51), (67, S67), (68, S68), (69, S69), (70, S70), (71, S71)]) (HS := [(92, H92), (94, H94), (78, H78), (82, H82)]) (US := []) (NS := []) (j := true) ⟨S16_ok, S24_ok, S25_ok, S27_ok, S29_ok, S30_ok, S31_ok, S49_ok, S51_ok, S67_ok, S68_ok, S69_ok, S70_ok, S71_ok, trivial⟩ ⟨H92_ok, H94_ok, H78_ok, H82_ok, trivial⟩ trivial trivial) 30 37 [.agg [.int .i64 (.sym a0_0.val), .int .i64 (.sym a0_1.val), .int .i64 (.sym a0_2.val)], .agg [.int .i64 (.sym a1_0.val), .int .i64 (.sym a1_1.val), .int .i64 (.sym a1_2.val)]] vs (symifyL_rel _ _ (SArels_v (xs := [.agg [.int .i64 a0_0, .int .i64 a0_1, .int .i64 a0_2], .agg [.int .i64 a1_0, .int .i64 a1_1, .int .i64 a1_2]]) hv)) (by kernel_rfl) rfl (ev a0_0.val a0_1.val a0_2.val a1_0.val a1_1.val a1_2.val) w
  · cases h
/-- outrigger/vec.Scale -/
noncomputable def f38 (a0_0 : Int) (a0_1 : Int) (a0_2 : Int) (a1 : Int) : Int × Int × Int × Bool := ((f18 a0_0 a1).fst, (f18 a0_1 a1).fst, (f18 a0_2 a1).fst, (f18 a0_0 a1).snd || (f18 a0_1 a1).snd || (f18 a0_2 a1).snd)
noncomputable def g38 (p : Int × Int × Int × Bool) : SV := .tuple [.agg [.int .i64 (.sym p.1), .int .i64 (.sym p.2.1), .int .i64 (.sym p.2.2.1)], .bool (.sym p.2.2.2)]
noncomputable def S38 : Summ
  | [.v (.agg [.int .i64 a0_0, .int .i64 a0_1, .int .i64 a0_2]), .v (.int .i64 a1)] => some (g38 (f38 a0_0.val a0_1.val a0_2.val a1.val))
  | _ => none
theorem S38_ok : SummFn Go.Proofs.Try.prog 38 S38 := by
  have ev : ∀ (a0_0 : Int) (a0_1 : Int) (a0_2 : Int) (a1 : Int), (symCall ⟨Go.Proofs.Try.prog, [(16, S16), (18, S18), (24, S24), (25, S25), (29, S29), (30, S30), (31, S31), (49, S49), (51, S51), (56, S56), (67, S67), (68, S68), (69, S69), (70, S70), (71, S71)], 3, 110, true, [], [], []⟩ 30 38 [.agg [.int .i64 (.sym a0_0), .int .i64 (.sym a0_1), .int .i64 (.sym a0_2)], .int .i64 (.sym a1)] []).out = ((g38 (f38 a0_0 a0_1 a0_2 a1)).toV) := by
    intro a0_0 a0_1 a0_2 a1
    kernel_rfl
  intro fs r h w vs hv
  unfold S38 at h
  split at h
  · rename_i a0_0 a0_1 a0_2 a1
    cases h
    exact sx_calls (envOkU' (S := [(16, S16), (18, S18), (24, S24), (25, S25), (29, S29), (30, S30), (31, S31), (49, S49), (51, S51), (56, S56), (67, S67), (68, S68), (69, S69), (70, S70), (71, S71)]) (HS := []) (US := []) (NS := []) (j := true) ⟨S16_ok, S18_ok, S24_ok, S25_ok, S29_ok, S30_ok, S31_ok, S49_ok, S51_ok, S56_ok, S67_ok, S68_ok, S69_ok, S70_ok, S71_ok, trivial⟩ trivial trivial trivial) 30 38 [.agg [.int .i64 (.sym a0_0.val), .int .i64 (.sym a0_1.val), .int .i64 (.sym a0_2.val)], .int .i64 (.sym a1.val)] vs (symifyL_rel _ _ (SArels_v (xs := [.agg [.int .i64 a0_0, .int .i64 a0_1, .int .i64 a0_2], .int .i64 a1]) hv)) (by kernel_rfl) rfl (ev a0_0.val a0_1.val a0_2.val a1.val) w
  · cases h
/-- outrigger/vec.Dot -/
noncomputable def f40 (a0_0 : Int) (a0_1 : Int) (a0_2 : Int) (a1_0 : Int) (a1_1 : Int) (a1_2 : Int) : Int × Bool := let x1 : Int × Int := addL [((f29 a0_0 a1_0).fst, (f29 a0_0 a1_0).snd), ((f29 a0_1 a1_1).fst, (f29 a0_1 a1_1).snd), ((f29 a0_2 a1_2).fst, (f29 a0_2 a1_2).snd)]; let x2 : Int × Bool := f16 x1.fst x1.snd; (x2.fst, x2.snd || anyB [(f25 a0_0).snd, (f25 a0_1).snd, (f25 a0_2).snd] || anyB [(f25 a1_0).snd, (f25 a1_1).snd, (f25 a1_2).snd])
noncomputable def g40 (p : Int × Bool) : SV := .tuple [.int .i64 (.sym p.1), .bool (.sym p.2)]
noncomputable def S40 : Summ
  | [.v (.agg [.int .i64 a0_0, .int .i64 a0_1, .int .i64 a0_2]), .v (.agg [.int .i64 a1_0, .int .i64 a1_1, .int .i64 a1_2])] => some (g40 (f40 a0_0.val a0_1.val a0_2.val a1_0.val a1_1.val a1_2.val))
  | _ => none
theorem S40_ok : SummFn Go.Proofs.Try.prog 40 S40 := by
  have ev : ∀ (a0_0 : Int) (a0_1 : Int) (a0_2 : Int) (a1_0 : Int) (a1_1 : Int) (a1_2 : Int), (symCall ⟨Go.Proofs.Try.prog, [(16, S16), (24, S24), (25, S25), (29, S29), (30, S30), (31, S31), (49, S49), (51, S51), (67, S67), (68, S68), (69, S69), (70, S70), (71, S71)], 3, 110, true, [(92, H92), (94, H94), (78, H78), (82, H82)], [], []⟩ 30 40 [.agg [.int .i64 (.sym a0_0), .int .i64 (.sym a0_1), .int .i64 (.sym a0_2)], .agg [.int .i64 (.sym a1_0), .int .i64 (.sym a1_1), .int .i64 (.sym a1_2)]] []).out = ((g40 (f40 a0_0 a0_1 a0_2 a1_0 a1_1 a1_2)).toV) := by
    intro a0_0 a0_1 a0_2 a1_0 a1_1 a1_2
    kernel_rfl
  intro fs r h w vs hv
  unfold S40 at h
  split at h
  · rename_i a0_0 a0_1 a0_2 a1_0 a1_1 a1_2
    cases h
    exact sx_calls (envOkU' (S := [(16, S16), (24, S24), (25, S25), (29, S29), (30, S30), (31, S31), (49, S49), (51, S51), (67, S67), (68, S68), (69, S69), (70, S70), (71, S71)]) (HS := [(92, H92), (94, H94), (78, H78), (82, H82)]) (US := []) (NS := []) (j := true) ⟨S16_ok, S24_ok, S25_ok, S29_ok, S30_ok, S31_ok, S49_ok, S51_ok, S67_ok, S68_ok, S69_ok, S70_ok, S71_ok, trivial⟩ ⟨H92_ok, H94_ok, H78_ok, H82_ok, trivial⟩ trivial trivial) 30 40 [.agg [.int .i64 (.sym a0_0.val), .int .i64 (.sym a0_1.val), .int .i64 (.sym a0_2.val)], .agg [.int .i64 (.sym a1_0.val), .int .i64 (.sym a1_1.val), .int .i64 (.sym a1_2.val)]] vs (symifyL_rel _ _ (SArels_v (xs := [.agg [.int .i64 a0_0, .int .i64 a0_1, .int .i64 a0_2], .agg [.int .i64 a1_0, .int .i64 a1_1, .int .i64 a1_2]]) hv)) (by kernel_rfl) rfl (ev a0_0.val a0_1.val a0_2.val a1_0.val a1_1.val a1_2.val) w
  · cases h
/-- outrigger/outriggerlaw07.awake -/
noncomputable def f34 : Bool := let x1 : Int × Int × Int × Bool := f37 4294967296 0 0 0 4294967296 0; let x2 : Int × Int × Bool := x1.snd; let x3 : Int × Bool := x2.snd; let x4 : Int × Int × Int × Bool := f36 0 3 4; let x5 : Int × Int × Bool := x4.snd; let x6 : Int × Bool := x5.snd; let x7 : Int × Int × Int × Bool := f38 2 4 6 2147483648; let x8 : Int × Int × Bool := x7.snd; x1.fst == 0 && (x2.fst == 0 && x3.fst == 4294967296) && !x3.snd && !x6.snd && x4.fst == 0 && x5.fst == 2576980378 && x6.fst == 3435973837 && (f36 0 0 0).snd.snd.snd && (f40 4294967296 2 3 4294967296 0 0).fst == 4294967296 && (x7.fst == 1 && (x8.fst == 2 && x8.snd.fst == 3))
noncomputable def g34 (p : Bool) : SV := .bool (.sym p)
noncomputable def S34 : Summ
  | [] => some (g34 (f34))
  | _ => none
theorem S34_ok : SummFn Go.Proofs.Try.prog 34 S34 := by
  have ev : (symCall ⟨Go.Proofs.Try.prog, [(16, S16), (18, S18), (20, S20), (24, S24), (25, S25), (27, S27), (29, S29), (30, S30), (31, S31), (32, S32), (35, S35), (36, S36), (37, S37), (38, S38), (40, S40), (49, S49), (51, S51), (56, S56), (59, S59), (67, S67), (68, S68), (69, S69), (70, S70), (71, S71), (72, S72), (73, S73), (89, S89), (91, S91)], 3, 110, true, [(92, H92), (94, H94), (78, H78), (82, H82)], [], []⟩ 30 34 [] []).out = ((g34 (f34)).toV) := by
    kernel_rfl
  intro fs r h w vs hv
  unfold S34 at h
  split at h
  · cases h
    exact sx_calls (envOkU' (S := [(16, S16), (18, S18), (20, S20), (24, S24), (25, S25), (27, S27), (29, S29), (30, S30), (31, S31), (32, S32), (35, S35), (36, S36), (37, S37), (38, S38), (40, S40), (49, S49), (51, S51), (56, S56), (59, S59), (67, S67), (68, S68), (69, S69), (70, S70), (71, S71), (72, S72), (73, S73), (89, S89), (91, S91)]) (HS := [(92, H92), (94, H94), (78, H78), (82, H82)]) (US := []) (NS := []) (j := true) ⟨S16_ok, S18_ok, S20_ok, S24_ok, S25_ok, S27_ok, S29_ok, S30_ok, S31_ok, S32_ok, S35_ok, S36_ok, S37_ok, S38_ok, S40_ok, S49_ok, S51_ok, S56_ok, S59_ok, S67_ok, S68_ok, S69_ok, S70_ok, S71_ok, S72_ok, S73_ok, S89_ok, S91_ok, trivial⟩ ⟨H92_ok, H94_ok, H78_ok, H82_ok, trivial⟩ trivial trivial) 30 34 [] vs (symifyL_rel _ _ (SArels_v (xs := []) hv)) (by kernel_rfl) rfl (ev) w
  · cases h
/-- outrigger/vec.Add -/
noncomputable def f39 (a0_0 : Int) (a0_1 : Int) (a0_2 : Int) (a1_0 : Int) (a1_1 : Int) (a1_2 : Int) : Int × Int × Int × Bool := ((f28 a0_0 a1_0).fst, (f28 a0_1 a1_1).fst, (f28 a0_2 a1_2).fst, (f28 a0_0 a1_0).snd || (f28 a0_1 a1_1).snd || (f28 a0_2 a1_2).snd)
noncomputable def g39 (p : Int × Int × Int × Bool) : SV := .tuple [.agg [.int .i64 (.sym p.1), .int .i64 (.sym p.2.1), .int .i64 (.sym p.2.2.1)], .bool (.sym p.2.2.2)]
noncomputable def S39 : Summ
  | [.v (.agg [.int .i64 a0_0, .int .i64 a0_1, .int .i64 a0_2]), .v (.agg [.int .i64 a1_0, .int .i64 a1_1, .int .i64 a1_2])] => some (g39 (f39 a0_0.val a0_1.val a0_2.val a1_0.val a1_1.val a1_2.val))
  | _ => none
theorem S39_ok : SummFn Go.Proofs.Try.prog 39 S39 := by
  have ev : ∀ (a0_0 : Int) (a0_1 : Int) (a0_2 : Int) (a1_0 : Int) (a1_1 : Int) (a1_2 : Int), (symCall ⟨Go.Proofs.Try.prog, [(25, S25), (28, S28), (67, S67), (68, S68)], 3, 110, true, [], [], []⟩ 30 39 [.agg [.int .i64 (.sym a0_0), .int .i64 (.sym a0_1), .int .i64 (.sym a0_2)], .agg [.int .i64 (.sym a1_0), .int .i64 (.sym a1_1), .int .i64 (.sym a1_2)]] []).out = ((g39 (f39 a0_0 a0_1 a0_2 a1_0 a1_1 a1_2)).toV) := by
    intro a0_0 a0_1 a0_2 a1_0 a1_1 a1_2
    kernel_rfl
  intro fs r h w vs hv
  unfold S39 at h
  split at h
  · rename_i a0_0 a0_1 a0_2 a1_0 a1_1 a1_2
    cases h
    exact sx_calls (envOkU' (S := [(25, S25), (28, S28), (67, S67), (68, S68)]) (HS := []) (US := []) (NS := []) (j := true) ⟨S25_ok, S28_ok, S67_ok, S68_ok, trivial⟩ trivial trivial trivial) 30 39 [.agg [.int .i64 (.sym a0_0.val), .int .i64 (.sym a0_1.val), .int .i64 (.sym a0_2.val)], .agg [.int .i64 (.sym a1_0.val), .int .i64 (.sym a1_1.val), .int .i64 (.sym a1_2.val)]] vs (symifyL_rel _ _ (SArels_v (xs := [.agg [.int .i64 a0_0, .int .i64 a0_1, .int .i64 a0_2], .agg [.int .i64 a1_0, .int .i64 a1_1, .int .i64 a1_2]]) hv)) (by kernel_rfl) rfl (ev a0_0.val a0_1.val a0_2.val a1_0.val a1_1.val a1_2.val) w
  · cases h
/-- outrigger/outriggerref07.Add -/
noncomputable def f41 (a0_0 : Int) (a0_1 : Int) (a0_2 : Int) (a1_0 : Int) (a1_1 : Int) (a1_2 : Int) : Int × Int × Int × Bool := ((f66 a0_0 a1_0).fst, (f66 a0_1 a1_1).fst, (f66 a0_2 a1_2).fst, (f66 a0_0 a1_0).snd || (f66 a0_1 a1_1).snd || (f66 a0_2 a1_2).snd)
noncomputable def g41 (p : Int × Int × Int × Bool) : SV := .tuple [.agg [.int .i64 (.sym p.1), .int .i64 (.sym p.2.1), .int .i64 (.sym p.2.2.1)], .bool (.sym p.2.2.2)]
noncomputable def S41 : Summ
  | [.v (.agg [.int .i64 a0_0, .int .i64 a0_1, .int .i64 a0_2]), .v (.agg [.int .i64 a1_0, .int .i64 a1_1, .int .i64 a1_2])] => some (g41 (f41 a0_0.val a0_1.val a0_2.val a1_0.val a1_1.val a1_2.val))
  | _ => none
theorem S41_ok : SummFn Go.Proofs.Try.prog 41 S41 := by
  have ev : ∀ (a0_0 : Int) (a0_1 : Int) (a0_2 : Int) (a1_0 : Int) (a1_1 : Int) (a1_2 : Int), (symCall ⟨Go.Proofs.Try.prog, [(63, S63), (66, S66)], 3, 110, true, [], [], []⟩ 30 41 [.agg [.int .i64 (.sym a0_0), .int .i64 (.sym a0_1), .int .i64 (.sym a0_2)], .agg [.int .i64 (.sym a1_0), .int .i64 (.sym a1_1), .int .i64 (.sym a1_2)]] []).out = ((g41 (f41 a0_0 a0_1 a0_2 a1_0 a1_1 a1_2)).toV) := by
    intro a0_0 a0_1 a0_2 a1_0 a1_1 a1_2
    kernel_rfl
  intro fs r h w vs hv
  unfold S41 at h
  split at h
  · rename_i a0_0 a0_1 a0_2 a1_0 a1_1 a1_2
    cases h
    exact sx_calls (envOkU' (S := [(63, S63), (66, S66)]) (HS := []) (US := []) (NS := []) (j := true) ⟨S63_ok, S66_ok, trivial⟩ trivial trivial trivial) 30 41 [.agg [.int .i64 (.sym a0_0.val), .int .i64 (.sym a0_1.val), .int .i64 (.sym a0_2.val)], .agg [.int .i64 (.sym a1_0.val), .int .i64 (.sym a1_1.val), .int .i64 (.sym a1_2.val)]] vs (symifyL_rel _ _ (SArels_v (xs := [.agg [.int .i64 a0_0, .int .i64 a0_1, .int .i64 a0_2], .agg [.int .i64 a1_0, .int .i64 a1_1, .int .i64 a1_2]]) hv)) (by kernel_rfl) rfl (ev a0_0.val a0_1.val a0_2.val a1_0.val a1_1.val a1_2.val) w
  · cases h
/-- outrigger/vec.Sub -/
noncomputable def f42 (a0_0 : Int) (a0_1 : Int) (a0_2 : Int) (a1_0 : Int) (a1_1 : Int) (a1_2 : Int) : Int × Int × Int × Bool := ((f64 a0_0 a1_0).fst, (f64 a0_1 a1_1).fst, (f64 a0_2 a1_2).fst, (f64 a0_0 a1_0).snd || (f64 a0_1 a1_1).snd || (f64 a0_2 a1_2).snd)
noncomputable def g42 (p : Int × Int × Int × Bool) : SV := .tuple [.agg [.int .i64 (.sym p.1), .int .i64 (.sym p.2.1), .int .i64 (.sym p.2.2.1)], .bool (.sym p.2.2.2)]
noncomputable def S42 : Summ
  | [.v (.agg [.int .i64 a0_0, .int .i64 a0_1, .int .i64 a0_2]), .v (.agg [.int .i64 a1_0, .int .i64 a1_1, .int .i64 a1_2])] => some (g42 (f42 a0_0.val a0_1.val a0_2.val a1_0.val a1_1.val a1_2.val))
  | _ => none
theorem S42_ok : SummFn Go.Proofs.Try.prog 42 S42 := by
  have ev : ∀ (a0_0 : Int) (a0_1 : Int) (a0_2 : Int) (a1_0 : Int) (a1_1 : Int) (a1_2 : Int), (symCall ⟨Go.Proofs.Try.prog, [(25, S25), (64, S64), (67, S67), (68, S68)], 3, 110, true, [], [], []⟩ 30 42 [.agg [.int .i64 (.sym a0_0), .int .i64 (.sym a0_1), .int .i64 (.sym a0_2)], .agg [.int .i64 (.sym a1_0), .int .i64 (.sym a1_1), .int .i64 (.sym a1_2)]] []).out = ((g42 (f42 a0_0 a0_1 a0_2 a1_0 a1_1 a1_2)).toV) := by
    intro a0_0 a0_1 a0_2 a1_0 a1_1 a1_2
    kernel_rfl
  intro fs r h w vs hv
  unfold S42 at h
  split at h
  · rename_i a0_0 a0_1 a0_2 a1_0 a1_1 a1_2
    cases h
    exact sx_calls (envOkU' (S := [(25, S25), (64, S64), (67, S67), (68, S68)]) (HS := []) (US := []) (NS := []) (j := true) ⟨S25_ok, S64_ok, S67_ok, S68_ok, trivial⟩ trivial trivial trivial) 30 42 [.agg [.int .i64 (.sym a0_0.val), .int .i64 (.sym a0_1.val), .int .i64 (.sym a0_2.val)], .agg [.int .i64 (.sym a1_0.val), .int .i64 (.sym a1_1.val), .int .i64 (.sym a1_2.val)]] vs (symifyL_rel _ _ (SArels_v (xs := [.agg [.int .i64 a0_0, .int .i64 a0_1, .int .i64 a0_2], .agg [.int .i64 a1_0, .int .i64 a1_1, .int .i64 a1_2]]) hv)) (by kernel_rfl) rfl (ev a0_0.val a0_1.val a0_2.val a1_0.val a1_1.val a1_2.val) w
  · cases h
/-- outrigger/outriggerref07.Sub -/
noncomputable def f43 (a0_0 : Int) (a0_1 : Int) (a0_2 : Int) (a1_0 : Int) (a1_1 : Int) (a1_2 : Int) : Int × Int × Int × Bool := ((f65 a0_0 a1_0).fst, (f65 a0_1 a1_1).fst, (f65 a0_2 a1_2).fst, (f65 a0_0 a1_0).snd || (f65 a0_1 a1_1).snd || (f65 a0_2 a1_2).snd)
noncomputable def g43 (p : Int × Int × Int × Bool) : SV := .tuple [.agg [.int .i64 (.sym p.1), .int .i64 (.sym p.2.1), .int .i64 (.sym p.2.2.1)], .bool (.sym p.2.2.2)]
noncomputable def S43 : Summ
  | [.v (.agg [.int .i64 a0_0, .int .i64 a0_1, .int .i64 a0_2]), .v (.agg [.int .i64 a1_0, .int .i64 a1_1, .int .i64 a1_2])] => some (g43 (f43 a0_0.val a0_1.val a0_2.val a1_0.val a1_1.val a1_2.val))
  | _ => none
theorem S43_ok : SummFn Go.Proofs.Try.prog 43 S43 := by
  have ev : ∀ (a0_0 : Int) (a0_1 : Int) (a0_2 : Int) (a1_0 : Int) (a1_1 : Int) (a1_2 : Int), (symCall ⟨Go.Proofs.Try.prog, [(63, S63), (65, S65)], 3, 110, true, [], [], []⟩ 30 43 [.agg [.int .i64 (.sym a0_0), .int .i64 (.sym a0_1), .int .i64 (.sym a0_2)], .agg [.int .i64 (.sym a1_0), .int .i64 (.sym a1_1), .int .i64 (.sym a1_2)]] []).out = ((g43 (f43 a0_0 a0_1 a0_2 a1_0 a1_1 a1_2)).toV) := by
    intro a0_0 a0_1 a0_2 a1_0 a1_1 a1_2
    kernel_rfl
  intro fs r h w vs hv
  unfold S43 at h
  split at h
  · rename_i a0_0 a0_1 a0_2 a1_0 a1_1 a1_2
    cases h
    exact sx_calls (envOkU' (S := [(63, S63), (65, S65)]) (HS := []) (US := []) (NS := []) (j := true) ⟨S63_ok, S65_ok, trivial⟩ trivial trivial trivial) 30 43 [.agg [.int .i64 (.sym a0_0.val), .int .i64 (.sym a0_1.val), .int .i64 (.sym a0_2.val)], .agg [.int .i64 (.sym a1_0.val), .int .i64 (.sym a1_1.val), .int .i64 (.sym a1_2.val)]] vs (symifyL_rel _ _ (SArels_v (xs := [.agg [.int .i64 a0_0, .int .i64 a0_1, .int .i64 a0_2], .agg [.int .i64 a1_0, .int .i64 a1_1, .int .i64 a1_2]]) hv)) (by kernel_rfl) rfl (ev a0_0.val a0_1.val a0_2.val a1_0.val a1_1.val a1_2.val) w
  · cases h
/-- outrigger/outriggerref07.Scale -/
noncomputable def f44 (a0_0 : Int) (a0_1 : Int) (a0_2 : Int) (a1 : Int) : Int × Int × Int × Bool := ((f19 a0_0 a1).fst, (f19 a0_1 a1).fst, (f19 a0_2 a1).fst, (f19 a0_0 a1).snd || (f19 a0_1 a1).snd || (f19 a0_2 a1).snd)
noncomputable def g44 (p : Int × Int × Int × Bool) : SV := .tuple [.agg [.int .i64 (.sym p.1), .int .i64 (.sym p.2.1), .int .i64 (.sym p.2.2.1)], .bool (.sym p.2.2.2)]
noncomputable def S44 : Summ
  | [.v (.agg [.int .i64 a0_0, .int .i64 a0_1, .int .i64 a0_2]), .v (.int .i64 a1)] => some (g44 (f44 a0_0.val a0_1.val a0_2.val a1.val))
  | _ => none
theorem S44_ok : SummFn Go.Proofs.Try.prog 44 S44 := by
  have ev : ∀ (a0_0 : Int) (a0_1 : Int) (a0_2 : Int) (a1 : Int), (symCall ⟨Go.Proofs.Try.prog, [(17, S17), (19, S19), (52, S52), (53, S53), (54, S54), (55, S55), (57, S57), (58, S58), (60, S60), (62, S62), (63, S63), (86, S86), (87, S87)], 3, 110, true, [], [], []⟩ 30 44 [.agg [.int .i64 (.sym a0_0), .int .i64 (.sym a0_1), .int .i64 (.sym a0_2)], .int .i64 (.sym a1)] []).out = ((g44 (f44 a0_0 a0_1 a0_2 a1)).toV) := by
    intro a0_0 a0_1 a0_2 a1
    kernel_rfl
  intro fs r h w vs hv
  unfold S44 at h
  split at h
  · rename_i a0_0 a0_1 a0_2 a1
    cases h
    exact sx_calls (envOkU' (S := [(17, S17), (19, S19), (52, S52), (53, S53), (54, S54), (55, S55), (57, S57), (58, S58), (60, S60), (62, S62), (63, S63), (86, S86), (87, S87)]) (HS := []) (US := []) (NS := []) (j := true) ⟨S17_ok, S19_ok, S52_ok, S53_ok, S54_ok, S55_ok, S57_ok, S58_ok, S60_ok, S62_ok, S63_ok, S86_ok, S87_ok, trivial⟩ trivial trivial trivial) 30 44 [.agg [.int .i64 (.sym a0_0.val), .int .i64 (.sym a0_1.val), .int .i64 (.sym a0_2.val)], .int .i64 (.sym a1.val)] vs (symifyL_rel _ _ (SArels_v (xs := [.agg [.int .i64 a0_0, .int .i64 a0_1, .int .i64 a0_2], .int .i64 a1]) hv)) (by kernel_rfl) rfl (ev a0_0.val a0_1.val a0_2.val a1.val) w
  · cases h
/-- outrigger/outriggerref07.Dot -/
noncomputable def f45 (a0_0 : Int) (a0_1 : Int) (a0_2 : Int) (a1_0 : Int) (a1_1 : Int) (a1_2 : Int) : Int × Bool := let x1 : Int × Int := f57 (f63 a0_0).fst (f63 a1_0).fst; let x2 : Int × Int × Bool := f52 0 0 x1.fst x1.snd; let x3 : Int × Int := f57 (f63 a0_1).fst (f63 a1_1).fst; let x4 : Int × Int × Bool := f52 x2.fst x2.snd.fst x3.fst x3.snd; let x5 : Int × Int := f57 (f63 a0_2).fst (f63 a1_2).fst; let x6 : Int × Int × Bool := f52 x4.fst x4.snd.fst x5.fst x5.snd; let x7 : Int × Bool := f17 x6.fst x6.snd.fst; (x7.fst, (f63 a0_0).snd || (f63 a0_1).snd || (f63 a0_2).snd || ((f63 a1_0).snd || (f63 a1_1).snd || (f63 a1_2).snd) || x7.snd)
noncomputable def g45 (p : Int × Bool) : SV := .tuple [.int .i64 (.sym p.1), .bool (.sym p.2)]
noncomputable def S45 : Summ
  | [.v (.agg [.int .i64 a0_0, .int .i64 a0_1, .int .i64 a0_2]), .v (.agg [.int .i64 a1_0, .int .i64 a1_1, .int .i64 a1_2])] => some (g45 (f45 a0_0.val a0_1.val a0_2.val a1_0.val a1_1.val a1_2.val))
  | _ => none
theorem S45_ok : SummFn Go.Proofs.Try.prog 45 S45 := by
  have ev : ∀ (a0_0 : Int) (a0_1 : Int) (a0_2 : Int) (a1_0 : Int) (a1_1 : Int) (a1_2 : Int), (symCall ⟨Go.Proofs.Try.prog, [(17, S17), (52, S52), (53, S53), (54, S54), (55, S55), (57, S57), (60, S60), (62, S62), (63, S63), (86, S86), (87, S87)], 3, 110, true, [(92, H92), (94, H94), (78, H78), (82, H82)], [], [(83, N83)]⟩ 30 45 [.agg [.int .i64 (.sym a0_0), .int .i64 (.sym a0_1), .int .i64 (.sym a0_2)], .agg [.int .i64 (.sym a1_0), .int .i64 (.sym a1_1), .int .i64 (.sym a1_2)]] []).out = ((g45 (f45 a0_0 a0_1 a0_2 a1_0 a1_1 a1_2)).toV) := by
    intro a0_0 a0_1 a0_2 a1_0 a1_1 a1_2
    kernel_rfl
  intro fs r h w vs hv
  unfold S45 at h
  split at h
  · rename_i a0_0 a0_1 a0_2 a1_0 a1_1 a1_2
    cases h
    exact sx_calls (envOkU' (S := [(17, S17), (52, S52), (53, S53), (54, S54), (55, S55), (57, S57), (60, S60), (62, S62), (63, S63), (86, S86), (87, S87)]) (HS := [(92, H92), (94, H94), (78, H78), (82, H82)]) (US := []) (NS := [(83, N83)]) (j := true) ⟨S17_ok, S52_ok, S53_ok, S54_ok, S55_ok, S57_ok, S60_ok, S62_ok, S63_ok, S86_ok, S87_ok, trivial⟩ ⟨H92_ok, H94_ok, H78_ok, H82_ok, trivial⟩ trivial ⟨N83_ok, trivial⟩) 30 45 [.agg [.int .i64 (.sym a0_0.val), .int .i64 (.sym a0_1.val), .int .i64 (.sym a0_2.val)], .agg [.int .i64 (.sym a1_0.val), .int .i64 (.sym a1_1.val), .int .i64 (.sym a1_2.val)]] vs (symifyL_rel _ _ (SArels_v (xs := [.agg [.int .i64 a0_0, .int .i64 a0_1, .int .i64 a0_2], .agg [.int .i64 a1_0, .int .i64 a1_1, .int .i64 a1_2]]) hv)) (by kernel_rfl) rfl (ev a0_0.val a0_1.val a0_2.val a1_0.val a1_1.val a1_2.val) w
  · cases h
/-- outrigger/outriggerref07.part -/
noncomputable def f84 (a0 : Int) (a1 : Int) (a2 : Int) (a3 : Int) : Int × Bool := let x1 : Int × Int := f57 (f63 a0).fst (f63 a2).fst; let x2 : Int × Int × Bool := f52 0 0 x1.fst x1.snd; let x3 : Int × Int := f57 (f63 a1).fst (f63 (f97 a3)).fst; let x4 : Int × Int × Bool := f52 x2.fst x2.snd.fst x3.fst x3.snd; let x5 : Int × Bool := f17 x4.fst x4.snd.fst; (x5.fst, (f63 a3).snd || ((f63 a0).snd || (f63 a1).snd || ((f63 a2).snd || (f63 (f97 a3)).snd) || x5.snd))
noncomputable def g84 (p : Int × Bool) : SV := .tuple [.int .i64 (.sym p.1), .bool (.sym p.2)]
noncomputable def S84 : Summ
  | [.v (.int .i64 a0), .v (.int .i64 a1), .v (.int .i64 a2), .v (.int .i64 a3)] => some (g84 (f84 a0.val a1.val a2.val a3.val))
  | _ => none
theorem S84_ok : SummFn Go.Proofs.Try.prog 84 S84 := by
  have ev : ∀ (a0 : Int) (a1 : Int) (a2 : Int) (a3 : Int), (symCall ⟨Go.Proofs.Try.prog, [(17, S17), (52, S52), (53, S53), (54, S54), (55, S55), (57, S57), (60, S60), (62, S62), (63, S63), (86, S86), (87, S87), (97, S97)], 3, 110, true, [(92, H92), (94, H94), (78, H78), (82, H82)], [], []⟩ 30 84 [.int .i64 (.sym a0), .int .i64 (.sym a1), .int .i64 (.sym a2), .int .i64 (.sym a3)] []).out = ((g84 (f84 a0 a1 a2 a3)).toV) := by
    intro a0 a1 a2 a3
    kernel_rfl
  intro fs r h w vs hv
  unfold S84 at h
  split at h
  · rename_i a0 a1 a2 a3
    cases h
    exact sx_calls (envOkU' (S := [(17, S17), (52, S52), (53, S53), (54, S54), (55, S55), (57, S57), (60, S60), (62, S62), (63, S63), (86, S86), (87, S87), (97, S97)]) (HS := [(92, H92), (94, H94), (78, H78), (82, H82)]) (US := []) (NS := []) (j := true) ⟨S17_ok, S52_ok, S53_ok, S54_ok, S55_ok, S57_ok, S60_ok, S62_ok, S63_ok, S86_ok, S87_ok, S97_ok, trivial⟩ ⟨H92_ok, H94_ok, H78_ok, H82_ok, trivial⟩ trivial trivial) 30 84 [.int .i64 (.sym a0.val), .int .i64 (.sym a1.val), .int .i64 (.sym a2.val), .int .i64 (.sym a3.val)] vs (symifyL_rel _ _ (SArels_v (xs := [.int .i64 a0, .int .i64 a1, .int .i64 a2, .int .i64 a3]) hv)) (by kernel_rfl) rfl (ev a0.val a1.val a2.val a3.val) w
  · cases h
/-- outrigger/outriggerref07.Cross -/
noncomputable def f46 (a0_0 : Int) (a0_1 : Int) (a0_2 : Int) (a1_0 : Int) (a1_1 : Int) (a1_2 : Int) : Int × Int × Int × Bool := ((f84 a0_1 a0_2 a1_2 a1_1).fst, (f84 a0_2 a0_0 a1_0 a1_2).fst, (f84 a0_0 a0_1 a1_1 a1_0).fst, (f84 a0_1 a0_2 a1_2 a1_1).snd || (f84 a0_2 a0_0 a1_0 a1_2).snd || (f84 a0_0 a0_1 a1_1 a1_0).snd)
noncomputable def g46 (p : Int × Int × Int × Bool) : SV := .tuple [.agg [.int .i64 (.sym p.1), .int .i64 (.sym p.2.1), .int .i64 (.sym p.2.2.1)], .bool (.sym p.2.2.2)]
noncomputable def S46 : Summ
  | [.v (.agg [.int .i64 a0_0, .int .i64 a0_1, .int .i64 a0_2]), .v (.agg [.int .i64 a1_0, .int .i64 a1_1, .int .i64 a1_2])] => some (g46 (f46 a0_0.val a0_1.val a0_2.val a1_0.val a1_1.val a1_2.val))
  | _ => none
theorem S46_ok : SummFn Go.Proofs.Try.prog 46 S46 := by
  have ev : ∀ (a0_0 : Int) (a0_1 : Int) (a0_2 : Int) (a1_0 : Int) (a1_1 : Int) (a1_2 : Int), (symCall ⟨Go.Proofs.Try.prog, [(17, S17), (52, S52), (53, S53), (54, S54), (55, S55), (57, S57), (60, S60), (62, S62), (63, S63), (84, S84), (86, S86), (87, S87), (97, S97)], 3, 110, true, [(92, H92), (94, H94), (78, H78), (82, H82)], [], []⟩ 30 46 [.agg [.int .i64 (.sym a0_0), .int .i64 (.sym a0_1), .int .i64 (.sym a0_2)], .agg [.int .i64 (.sym a1_0), .int .i64 (.sym a1_1), .int .i64 (.sym a1_2)]] []).out = ((g46 (f46 a0_0 a0_1 a0_2 a1_0 a1_1 a1_2)).toV) := by
    intro a0_0 a0_1 a0_2 a1_0 a1_1 a1_2
    kernel_rfl
  intro fs r h w vs hv
  unfold S46 at h
  split at h
  · rename_i a0_0 a0_1 a0_2 a1_0 a1_1 a1_2
    cases h
    exact sx_calls (envOkU' (S := [(17, S17), (52, S52), (53, S53), (54, S54), (55, S55), (57, S57), (60, S60), (62, S62), (63, S63), (84, S84), (86, S86), (87, S87), (97, S97)]) (HS := [(92, H92), (94, H94), (78, H78), (82, H82)]) (US := []) (NS := []) (j := true) ⟨S17_ok, S52_ok, S53_ok, S54_ok, S55_ok, S57_ok, S60_ok, S62_ok, S63_ok, S84_ok, S86_ok, S87_ok, S97_ok, trivial⟩ ⟨H92_ok, H94_ok, H78_ok, H82_ok, trivial⟩ trivial trivial) 30 46 [.agg [.int .i64 (.sym a0_0.val), .int .i64 (.sym a0_1.val), .int .i64 (.sym a0_2.val)], .agg [.int .i64 (.sym a1_0.val), .int .i64 (.sym a1_1.val), .int .i64 (.sym a1_2.val)]] vs (symifyL_rel _ _ (SArels_v (xs := [.agg [.int .i64 a0_0, .int .i64 a0_1, .int .i64 a0_2], .agg [.int .i64 a1_0, .int .i64 a1_1, .int .i64 a1_2]]) hv)) (by kernel_rfl) rfl (ev a0_0.val a0_1.val a0_2.val a1_0.val a1_1.val a1_2.val) w
  · cases h
/-- outrigger/outriggerref07.Len -/
noncomputable def f47 (a0_0 : Int) (a0_1 : Int) (a0_2 : Int) : Int × Bool := let x1 : Int × Int := f57 (f63 a0_0).fst (f63 a0_0).fst; let x2 : Int × Int × Bool := f52 0 0 x1.fst x1.snd; let x3 : Int × Int := f57 (f63 a0_1).fst (f63 a0_1).fst; let x4 : Int × Int × Bool := f52 x2.fst x2.snd.fst x3.fst x3.snd; let x5 : Int × Int := f57 (f63 a0_2).fst (f63 a0_2).fst; let x6 : Int × Int × Bool := f52 x4.fst x4.snd.fst x5.fst x5.snd; let x7 : Int × Bool := f98 x6.fst x6.snd.fst; (x7.fst, (f63 a0_0).snd || (f63 a0_1).snd || (f63 a0_2).snd || x7.snd)
noncomputable def g47 (p : Int × Bool) : SV := .tuple [.int .i64 (.sym p.1), .bool (.sym p.2)]
noncomputable def S47 : Summ
  | [.v (.agg [.int .i64 a0_0, .int .i64 a0_1, .int .i64 a0_2])] => some (g47 (f47 a0_0.val a0_1.val a0_2.val))
  | _ => none
theorem S47_ok : SummFn Go.Proofs.Try.prog 47 S47 := by
  have ev : ∀ (a0_0 : Int) (a0_1 : Int) (a0_2 : Int), (symCall ⟨Go.Proofs.Try.prog, [(52, S52), (55, S55), (57, S57), (60, S60), (62, S62), (63, S63), (86, S86), (87, S87), (98, S98), (104, S104), (106, S106)], 3, 110, true, [], [], [(83, N83)]⟩ 30 47 [.agg [.int .i64 (.sym a0_0), .int .i64 (.sym a0_1), .int .i64 (.sym a0_2)]] []).out = ((g47 (f47 a0_0 a0_1 a0_2)).toV) := by
    intro a0_0 a0_1 a0_2
    kernel_rfl
  intro fs r h w vs hv
  unfold S47 at h
  split at h
  · rename_i a0_0 a0_1 a0_2
    cases h
    exact sx_calls (envOkU' (S := [(52, S52), (55, S55), (57, S57), (60, S60), (62, S62), (63, S63), (86, S86), (87, S87), (98, S98), (104, S104), (106, S106)]) (HS := []) (US := []) (NS := [(83, N83)]) (j := true) ⟨S52_ok, S55_ok, S57_ok, S60_ok, S62_ok, S63_ok, S86_ok, S87_ok, S98_ok, S104_ok, S106_ok, trivial⟩ trivial trivial ⟨N83_ok, trivial⟩) 30 47 [.agg [.int .i64 (.sym a0_0.val), .int .i64 (.sym a0_1.val), .int .i64 (.sym a0_2.val)]] vs (symifyL_rel _ _ (SArels_v (xs := [.agg [.int .i64 a0_0, .int .i64 a0_1, .int .i64 a0_2]]) hv)) (by kernel_rfl) rfl (ev a0_0.val a0_1.val a0_2.val) w
  · cases h
/-- outrigger/outriggerref07.Unit -/
noncomputable def f48 (a0_0 : Int) (a0_1 : Int) (a0_2 : Int) : Int × Int × Int × Bool := let x1 : Bool := (f47 a0_0 a0_1 a0_2).fst == 0; let x2 : Int × Bool := f21 a0_0 (f47 a0_0 a0_1 a0_2).fst; let x3 : Int × Bool := f21 a0_1 (f47 a0_0 a0_1 a0_2).fst; let x4 : Int × Bool := f21 a0_2 (f47 a0_0 a0_1 a0_2).fst; (bif x1 then 0 else x2.fst, bif x1 then 0 else x3.fst, bif x1 then 0 else x4.fst, x1 || ((f47 a0_0 a0_1 a0_2).snd || x2.snd || x3.snd || x4.snd))
noncomputable def g48 (p : Int × Int × Int × Bool) : SV := .tuple [.agg [.int .i64 (.sym p.1), .int .i64 (.sym p.2.1), .int .i64 (.sym p.2.2.1)], .bool (.sym p.2.2.2)]
noncomputable def S48 : Summ
  | [.v (.agg [.int .i64 a0_0, .int .i64 a0_1, .int .i64 a0_2])] => some (g48 (f48 a0_0.val a0_1.val a0_2.val))
  | _ => none
theorem S48_ok : SummFn Go.Proofs.Try.prog 48 S48 := by
  have ev : ∀ (a0_0 : Int) (a0_1 : Int) (a0_2 : Int), (symCall ⟨Go.Proofs.Try.prog, [(21, S21), (47, S47), (52, S52), (55, S55), (57, S57), (58, S58), (60, S60), (61, S61), (62, S62), (63, S63), (86, S86), (87, S87), (98, S98), (104, S104), (106, S106)], 3, 110, true, [], [], [(83, N83)]⟩ 30 48 [.agg [.int .i64 (.sym a0_0), .int .i64 (.sym a0_1), .int .i64 (.sym a0_2)]] []).out = ((g48 (f48 a0_0 a0_1 a0_2)).toV) := by
    intro a0_0 a0_1 a0_2
    kernel_rfl
  intro fs r h w vs hv
  unfold S48 at h
  split at h
  · rename_i a0_0 a0_1 a0_2
    cases h
    exact sx_calls (envOkU' (S := [(21, S21), (47, S47), (52, S52), (55, S55), (57, S57), (58, S58), (60, S60), (61, S61), (62, S62), (63, S63), (86, S86), (87, S87), (98, S98), (104, S104), (106, S106)]) (HS := []) (US := []) (NS := [(83, N83)]) (j := true) ⟨S21_ok, S47_ok, S52_ok, S55_ok, S57_ok, S58_ok, S60_ok, S61_ok, S62_ok, S63_ok, S86_ok, S87_ok, S98_ok, S104_ok, S106_ok, trivial⟩ trivial trivial ⟨N83_ok, trivial⟩) 30 48 [.agg [.int .i64 (.sym a0_0.val), .int .i64 (.sym a0_1.val), .int .i64 (.sym a0_2.val)]] vs (symifyL_rel _ _ (SArels_v (xs := [.agg [.int .i64 a0_0, .int .i64 a0_1, .int .i64 a0_2]]) hv)) (by kernel_rfl) rfl (ev a0_0.val a0_1.val a0_2.val) w
  · cases h
/-- outrigger/outriggerlaw07.VecIs -/
noncomputable def f13 (a0_0 : Int) (a0_1 : Int) (a0_2 : Int) (a1_0 : Int) (a1_1 : Int) (a1_2 : Int) (a2 : Int) : Bool := let x1 : Int × Int × Bool := (f39 a0_0 a0_1 a0_2 a1_0 a1_1 a1_2).snd; let x2 : Int × Int × Bool := (f41 a0_0 a0_1 a0_2 a1_0 a1_1 a1_2).snd; let x3 : Int × Bool := x1.snd; let x4 : Int × Bool := x2.snd; let x5 : Int × Int × Bool := (f42 a0_0 a0_1 a0_2 a1_0 a1_1 a1_2).snd; let x6 : Int × Int × Bool := (f43 a0_0 a0_1 a0_2 a1_0 a1_1 a1_2).snd; let x7 : Int × Bool := x5.snd; let x8 : Int × Bool := x6.snd; let x9 : Int × Int × Bool := (f38 a0_0 a0_1 a0_2 a2).snd; let x10 : Int × Int × Bool := (f44 a0_0 a0_1 a0_2 a2).snd; let x11 : Int × Bool := x9.snd; let x12 : Int × Bool := x10.snd; let x13 : Int × Int × Bool := (f37 a0_0 a0_1 a0_2 a1_0 a1_1 a1_2).snd; let x14 : Int × Int × Bool := (f46 a0_0 a0_1 a0_2 a1_0 a1_1 a1_2).snd; let x15 : Int × Bool := x13.snd; let x16 : Int × Bool := x14.snd; let x17 : Int × Int × Bool := (f36 a0_0 a0_1 a0_2).snd; let x18 : Int × Int × Bool := (f48 a0_0 a0_1 a0_2).snd; let x19 : Int × Bool := x17.snd; let x20 : Int × Bool := x18.snd; !(!((f39 a0_0 a0_1 a0_2 a1_0 a1_1 a1_2).fst == (f41 a0_0 a0_1 a0_2 a1_0 a1_1 a1_2).fst && (x1.fst == x2.fst && x3.fst == x4.fst)) || !x3.snd == x4.snd || !((f42 a0_0 a0_1 a0_2 a1_0 a1_1 a1_2).fst == (f43 a0_0 a0_1 a0_2 a1_0 a1_1 a1_2).fst && (x5.fst == x6.fst && x7.fst == x8.fst)) || !x7.snd == x8.snd || !((f38 a0_0 a0_1 a0_2 a2).fst == (f44 a0_0 a0_1 a0_2 a2).fst && (x9.fst == x10.fst && x11.fst == x12.fst)) || !x11.snd == x12.snd) && (f34 && (f40 a0_0 a0_1 a0_2 a1_0 a1_1 a1_2).fst == (f45 a0_0 a0_1 a0_2 a1_0 a1_1 a1_2).fst && (f40 a0_0 a0_1 a0_2 a1_0 a1_1 a1_2).snd == (f45 a0_0 a0_1 a0_2 a1_0 a1_1 a1_2).snd && ((f37 a0_0 a0_1 a0_2 a1_0 a1_1 a1_2).fst == (f46 a0_0 a0_1 a0_2 a1_0 a1_1 a1_2).fst && (x13.fst == x14.fst && x15.fst == x16.fst)) && x15.snd == x16.snd && (f35 a0_0 a0_1 a0_2).fst == (f47 a0_0 a0_1 a0_2).fst && (f35 a0_0 a0_1 a0_2).snd == (f47 a0_0 a0_1 a0_2).snd && ((f36 a0_0 a0_1 a0_2).fst == (f48 a0_0 a0_1 a0_2).fst && (x17.fst == x18.fst && x19.fst == x20.fst)) && x19.snd == x20.snd)
noncomputable def g13 (p : Bool) : SV := .bool (.sym p)
noncomputable def S13 : Summ
  | [.v (.agg [.int .i64 a0_0, .int .i64 a0_1, .int .i64 a0_2]), .v (.agg [.int .i64 a1_0, .int .i64 a1_1, .int .i64 a1_2]), .v (.int .i64 a2)] => some (g13 (f13 a0_0.val a0_1.val a0_2.val a1_0.val a1_1.val a1_2.val a2.val))
  | _ => none
theorem S13_ok : SummFn Go.Proofs.Try.prog 13 S13 := by
  have ev : ∀ (a0_0 : Int) (a0_1 : Int) (a0_2 : Int) (a1_0 : Int) (a1_1 : Int) (a1_2 : Int) (a2 : Int), (symCall ⟨Go.Proofs.Try.prog, [(16, S16), (17, S17), (18, S18), (19, S19), (20, S20), (21, S21), (24, S24), (25, S25), (27, S27), (28, S28), (29, S29), (30, S30), (31, S31), (32, S32), (34, S34), (35, S35), (36, S36), (37, S37), (38, S38), (39, S39), (40, S40), (41, S41), (42, S42), (43, S43), (44, S44), (45, S45), (46, S46), (47, S47), (48, S48), (49, S49), (51, S51), (52, S52), (53, S53), (54, S54), (55, S55), (56, S56), (57, S57), (58, S58), (59, S59), (60, S60), (61, S61), (62, S62), (63, S63), (64, S64), (65, S65), (66, S66), (67, S67), (68, S68), (69, S69), (70, S70), (71, S71), (72, S72), (73, S73), (84, S84), (86, S86), (87, S87), (89, S89), (91, S91), (97, S97), (98, S98), (104, S104), (106, S106)], 3, 110, true, [(92, H92), (94, H94), (78, H78), (82, H82)], [], [(83, N83)]⟩ 30 13 [.agg [.int .i64 (.sym a0_0), .int .i64 (.sym a0_1), .int .i64 (.sym a0_2)], .agg [.int .i64 (.sym a1_0), .int .i64 (.sym a1_1), .int .i64 (.sym a1_2)], .int .i64 (.sym a2)] []).out = ((g13 (f13 a0_0 a0_1 a0_2 a1_0 a1_1 a1_2 a2)).toV) := by
    intro a0_0 a0_1 a0_2 a1_0 a1_1 a1_2 a2
    kernel_rfl
  intro fs r h w vs hv
  unfold S13 at h
  split at h
  · rename_i a0_0 a0_1 a0_2 a1_0 a1_1 a1_2 a2
    cases h
    exact sx_calls (envOkU' (S := [(16, S16), (17, S17), (18, S18), (19, S19), (20, S20), (21, S21), (24, S24), (25, S25), (27, S27), (28, S28), (29, S29), (30, S30), (31, S31), (32, S32), (34, S34), (35, S35), (36, S36), (37, S37), (38, S38), (39, S39), (40, S40), (41, S41), (42, S42), (43, S43), (44, S44), (45, S45), (46, S46), (47, S47), (48, S48), (49, S49), (51, S51), (52, S52), (53, S53), (54, S54), (55, S55), (56, S56), (57, S57), (58, S58), (59, S59), (60, S60), (61, S61), (62, S62), (63, S63), (64, S64), (65, S65), (66, S66), (67, S67), (68, S68), (69, S69), (70, S70), (71, S71), (72, S72), (73, S73), (84, S84), (86, S86), (87, S87), (89, S89), (91, S91), (97, S97), (98, S98), (104, S104), (106, S106)]) (HS := [(92, H92), (94, H94), (78, H78), (82, H82)]) (US := []) (NS := [(83, N83)]) (j := true) ⟨S16_ok, S17_ok, S18_ok, S19_ok, S20_ok, S21_ok, S24_ok, S25_ok, S27_ok, S28_ok, S29_ok, S30_ok, S31_ok, S32_ok, S34_ok, S35_ok, S36_ok, S37_ok, S38_ok, S39_ok, S40_ok, S41_ok, S42_ok, S43_ok, S44_ok, S45_ok, S46_ok, S47_ok, S48_ok, S49_ok, S51_ok, S52_ok, S53_ok, S54_ok, S55_ok, S56_ok, S57_ok, S58_ok, S59_ok, S60_ok, S61_ok, S62_ok, S63_ok, S64_ok, S65_ok, S66_ok, S67_ok, S68_ok, S69_ok, S70_ok, S71_ok, S72_ok, S73_ok, S84_ok, S86_ok, S87_ok, S89_ok, S91_ok, S97_ok, S98_ok, S104_ok, S106_ok, trivial⟩ ⟨H92_ok, H94_ok, H78_ok, H82_ok, trivial⟩ trivial ⟨N83_ok, trivial⟩) 30 13 [.agg [.int .i64 (.sym a0_0.val), .int .i64 (.sym a0_1.val), .int .i64 (.sym a0_2.val)], .agg [.int .i64 (.sym a1_0.val), .int .i64 (.sym a1_1.val), .int .i64 (.sym a1_2.val)], .int .i64 (.sym a2.val)] vs (symifyL_rel _ _ (SArels_v (xs := [.agg [.int .i64 a0_0, .int .i64 a0_1, .int .i64 a0_2], .agg [.int .i64 a1_0, .int .i64 a1_1, .int .i64 a1_2], .int .i64 a2]) hv)) (by kernel_rfl) rfl (ev a0_0.val a0_1.val a0_2.val a1_0.val a1_1.val a1_2.val a2.val) w
  · cases h
end Go.Proofs.Ytejlbofmlaclpaa
