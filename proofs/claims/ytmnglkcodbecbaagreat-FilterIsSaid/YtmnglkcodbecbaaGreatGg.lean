/- What each function computes, by the executor: printed by a program (wip/sx2/Gen3.lean). -/
import Derived.Test.YtmnglkcodbecbaaGreatNa
import Derived.Test.YtmnglkcodbecbaaGreatW1
namespace Go.Proofs.YtmnglkcodbecbaaGreat
open Go Go.Sx
set_option linter.unusedVariables false
set_option linter.unusedSimpArgs false
set_option maxRecDepth 1000000
set_option maxHeartbeats 100000000
/-- (outrigger/quat.turn).w -/
noncomputable def f147 (a0_0 : Int) (a0_1 : Int) (a0_2 : Int) (a0_3 : Int) : Int := a0_0
noncomputable def g147 (p : Int) : SV := .int .i64 (.sym p)
noncomputable def S147 : Summ
  | [.v (.agg [.int .i64 a0_0, .int .i64 a0_1, .int .i64 a0_2, .int .i64 a0_3])] => some (g147 (f147 a0_0.val a0_1.val a0_2.val a0_3.val))
  | _ => none
theorem S147_ok : SummFn Go.Proofs.Tryz.prog 147 S147 := by
  have ev : ∀ (a0_0 : Int) (a0_1 : Int) (a0_2 : Int) (a0_3 : Int), (symCall ⟨Go.Proofs.Tryz.prog, [], 3, 215, true, [], [], []⟩ 30 147 [.agg [.int .i64 (.sym a0_0), .int .i64 (.sym a0_1), .int .i64 (.sym a0_2), .int .i64 (.sym a0_3)]] []).out = ((g147 (f147 a0_0 a0_1 a0_2 a0_3)).toV) := by
    intro a0_0 a0_1 a0_2 a0_3
    kernel_rfl
  intro fs r h w vs hv
  unfold S147 at h
  split at h
  · rename_i a0_0 a0_1 a0_2 a0_3
    cases h
    exact sx_calls (envOkU' (S := []) (HS := []) (US := []) (NS := []) (j := true) trivial trivial trivial trivial) 30 147 [.agg [.int .i64 (.sym a0_0.val), .int .i64 (.sym a0_1.val), .int .i64 (.sym a0_2.val), .int .i64 (.sym a0_3.val)]] vs (symifyL_rel _ _ (SArels_v (xs := [.agg [.int .i64 a0_0, .int .i64 a0_1, .int .i64 a0_2, .int .i64 a0_3]]) hv)) (by kernel_rfl) rfl (ev a0_0.val a0_1.val a0_2.val a0_3.val) w
  · cases h
/-- (outrigger/quat.turn).x -/
noncomputable def f149 (a0_0 : Int) (a0_1 : Int) (a0_2 : Int) (a0_3 : Int) : Int := a0_1
noncomputable def g149 (p : Int) : SV := .int .i64 (.sym p)
noncomputable def S149 : Summ
  | [.v (.agg [.int .i64 a0_0, .int .i64 a0_1, .int .i64 a0_2, .int .i64 a0_3])] => some (g149 (f149 a0_0.val a0_1.val a0_2.val a0_3.val))
  | _ => none
theorem S149_ok : SummFn Go.Proofs.Tryz.prog 149 S149 := by
  have ev : ∀ (a0_0 : Int) (a0_1 : Int) (a0_2 : Int) (a0_3 : Int), (symCall ⟨Go.Proofs.Tryz.prog, [], 3, 215, true, [], [], []⟩ 30 149 [.agg [.int .i64 (.sym a0_0), .int .i64 (.sym a0_1), .int .i64 (.sym a0_2), .int .i64 (.sym a0_3)]] []).out = ((g149 (f149 a0_0 a0_1 a0_2 a0_3)).toV) := by
    intro a0_0 a0_1 a0_2 a0_3
    kernel_rfl
  intro fs r h w vs hv
  unfold S149 at h
  split at h
  · rename_i a0_0 a0_1 a0_2 a0_3
    cases h
    exact sx_calls (envOkU' (S := []) (HS := []) (US := []) (NS := []) (j := true) trivial trivial trivial trivial) 30 149 [.agg [.int .i64 (.sym a0_0.val), .int .i64 (.sym a0_1.val), .int .i64 (.sym a0_2.val), .int .i64 (.sym a0_3.val)]] vs (symifyL_rel _ _ (SArels_v (xs := [.agg [.int .i64 a0_0, .int .i64 a0_1, .int .i64 a0_2, .int .i64 a0_3]]) hv)) (by kernel_rfl) rfl (ev a0_0.val a0_1.val a0_2.val a0_3.val) w
  · cases h
/-- (outrigger/quat.turn).y -/
noncomputable def f150 (a0_0 : Int) (a0_1 : Int) (a0_2 : Int) (a0_3 : Int) : Int := a0_2
noncomputable def g150 (p : Int) : SV := .int .i64 (.sym p)
noncomputable def S150 : Summ
  | [.v (.agg [.int .i64 a0_0, .int .i64 a0_1, .int .i64 a0_2, .int .i64 a0_3])] => some (g150 (f150 a0_0.val a0_1.val a0_2.val a0_3.val))
  | _ => none
theorem S150_ok : SummFn Go.Proofs.Tryz.prog 150 S150 := by
  have ev : ∀ (a0_0 : Int) (a0_1 : Int) (a0_2 : Int) (a0_3 : Int), (symCall ⟨Go.Proofs.Tryz.prog, [], 3, 215, true, [], [], []⟩ 30 150 [.agg [.int .i64 (.sym a0_0), .int .i64 (.sym a0_1), .int .i64 (.sym a0_2), .int .i64 (.sym a0_3)]] []).out = ((g150 (f150 a0_0 a0_1 a0_2 a0_3)).toV) := by
    intro a0_0 a0_1 a0_2 a0_3
    kernel_rfl
  intro fs r h w vs hv
  unfold S150 at h
  split at h
  · rename_i a0_0 a0_1 a0_2 a0_3
    cases h
    exact sx_calls (envOkU' (S := []) (HS := []) (US := []) (NS := []) (j := true) trivial trivial trivial trivial) 30 150 [.agg [.int .i64 (.sym a0_0.val), .int .i64 (.sym a0_1.val), .int .i64 (.sym a0_2.val), .int .i64 (.sym a0_3.val)]] vs (symifyL_rel _ _ (SArels_v (xs := [.agg [.int .i64 a0_0, .int .i64 a0_1, .int .i64 a0_2, .int .i64 a0_3]]) hv)) (by kernel_rfl) rfl (ev a0_0.val a0_1.val a0_2.val a0_3.val) w
  · cases h
/-- (outrigger/quat.turn).z -/
noncomputable def f151 (a0_0 : Int) (a0_1 : Int) (a0_2 : Int) (a0_3 : Int) : Int := a0_3
noncomputable def g151 (p : Int) : SV := .int .i64 (.sym p)
noncomputable def S151 : Summ
  | [.v (.agg [.int .i64 a0_0, .int .i64 a0_1, .int .i64 a0_2, .int .i64 a0_3])] => some (g151 (f151 a0_0.val a0_1.val a0_2.val a0_3.val))
  | _ => none
theorem S151_ok : SummFn Go.Proofs.Tryz.prog 151 S151 := by
  have ev : ∀ (a0_0 : Int) (a0_1 : Int) (a0_2 : Int) (a0_3 : Int), (symCall ⟨Go.Proofs.Tryz.prog, [], 3, 215, true, [], [], []⟩ 30 151 [.agg [.int .i64 (.sym a0_0), .int .i64 (.sym a0_1), .int .i64 (.sym a0_2), .int .i64 (.sym a0_3)]] []).out = ((g151 (f151 a0_0 a0_1 a0_2 a0_3)).toV) := by
    intro a0_0 a0_1 a0_2 a0_3
    kernel_rfl
  intro fs r h w vs hv
  unfold S151 at h
  split at h
  · rename_i a0_0 a0_1 a0_2 a0_3
    cases h
    exact sx_calls (envOkU' (S := []) (HS := []) (US := []) (NS := []) (j := true) trivial trivial trivial trivial) 30 151 [.agg [.int .i64 (.sym a0_0.val), .int .i64 (.sym a0_1.val), .int .i64 (.sym a0_2.val), .int .i64 (.sym a0_3.val)]] vs (symifyL_rel _ _ (SArels_v (xs := [.agg [.int .i64 a0_0, .int .i64 a0_1, .int .i64 a0_2, .int .i64 a0_3]]) hv)) (by kernel_rfl) rfl (ev a0_0.val a0_1.val a0_2.val a0_3.val) w
  · cases h
/-- outrigger/quat.Mul -/
noncomputable def f85 (a0_0 : Int) (a0_1 : Int) (a0_2 : Int) (a0_3 : Int) (a1_0 : Int) (a1_1 : Int) (a1_2 : Int) (a1_3 : Int) : Int × Int × Int × Int × Bool := let x1 : Int × Int := f158 a0_1 (f86 (f149 a1_0 a1_1 a1_2 a1_3)); let x2 : Int × Int := f158 a0_2 (f86 (f150 a1_0 a1_1 a1_2 a1_3)); let x3 : Int × Int := f158 a0_3 (f86 (f151 a1_0 a1_1 a1_2 a1_3)); let x4 : Int × Int := addL [((f158 a0_0 (f147 a1_0 a1_1 a1_2 a1_3)).fst, (f158 a0_0 (f147 a1_0 a1_1 a1_2 a1_3)).snd), (x1.fst, x1.snd), (x2.fst, x2.snd), (x3.fst, x3.snd)]; let x5 : Int × Bool := f157 x4.fst x4.snd; let x6 : Int × Int := f158 a0_3 (f86 (f150 a1_0 a1_1 a1_2 a1_3)); let x7 : Int × Int := addL [((f158 a0_0 (f149 a1_0 a1_1 a1_2 a1_3)).fst, (f158 a0_0 (f149 a1_0 a1_1 a1_2 a1_3)).snd), ((f158 a0_1 (f147 a1_0 a1_1 a1_2 a1_3)).fst, (f158 a0_1 (f147 a1_0 a1_1 a1_2 a1_3)).snd), ((f158 a0_2 (f151 a1_0 a1_1 a1_2 a1_3)).fst, (f158 a0_2 (f151 a1_0 a1_1 a1_2 a1_3)).snd), (x6.fst, x6.snd)]; let x8 : Int × Bool := f157 x7.fst x7.snd; let x9 : Int × Int := f158 a0_1 (f86 (f151 a1_0 a1_1 a1_2 a1_3)); let x10 : Int × Int := addL [((f158 a0_0 (f150 a1_0 a1_1 a1_2 a1_3)).fst, (f158 a0_0 (f150 a1_0 a1_1 a1_2 a1_3)).snd), (x9.fst, x9.snd), ((f158 a0_2 (f147 a1_0 a1_1 a1_2 a1_3)).fst, (f158 a0_2 (f147 a1_0 a1_1 a1_2 a1_3)).snd), ((f158 a0_3 (f149 a1_0 a1_1 a1_2 a1_3)).fst, (f158 a0_3 (f149 a1_0 a1_1 a1_2 a1_3)).snd)]; let x11 : Int × Bool := f157 x10.fst x10.snd; let x12 : Int × Int := f158 a0_2 (f86 (f149 a1_0 a1_1 a1_2 a1_3)); let x13 : Int × Int := addL [((f158 a0_0 (f151 a1_0 a1_1 a1_2 a1_3)).fst, (f158 a0_0 (f151 a1_0 a1_1 a1_2 a1_3)).snd), ((f158 a0_1 (f150 a1_0 a1_1 a1_2 a1_3)).fst, (f158 a0_1 (f150 a1_0 a1_1 a1_2 a1_3)).snd), (x12.fst, x12.snd), ((f158 a0_3 (f147 a1_0 a1_1 a1_2 a1_3)).fst, (f158 a0_3 (f147 a1_0 a1_1 a1_2 a1_3)).snd)]; let x14 : Int × Bool := f157 x13.fst x13.snd; let x15 : Int := IntKind.i64.wrap (0 + 1); let x16 : Int := IntKind.i64.wrap (x15 + 1); let x17 : Int := IntKind.i64.wrap (x16 + 1); let x18 : Int := bif (f82 a0_0).snd then 0 else bif (f82 a0_1).snd then x15 else bif (f82 a0_2).snd then x16 else bif (f82 a0_3).snd then x17 else -1; let x19 : Int := bif (f82 a1_0).snd then 0 else bif (f82 a1_1).snd then x15 else bif (f82 a1_2).snd then x16 else bif (f82 a1_3).snd then x17 else -1; let x20 : Bool := anyB [(f82 a0_0).snd, (f82 a0_1).snd, (f82 a0_2).snd, (f82 a0_3).snd]; let x21 : Bool := (f82 (f147 a1_0 a1_1 a1_2 a1_3)).snd; let x22 : Bool := (f82 (f86 (f149 a1_0 a1_1 a1_2 a1_3))).snd; let x23 : Bool := (f82 (f86 (f150 a1_0 a1_1 a1_2 a1_3))).snd; let x24 : Bool := (f82 (f86 (f151 a1_0 a1_1 a1_2 a1_3))).snd; let x25 : Bool := (f82 (f149 a1_0 a1_1 a1_2 a1_3)).snd; let x26 : Bool := (f82 (f151 a1_0 a1_1 a1_2 a1_3)).snd; let x27 : Bool := (f82 (f150 a1_0 a1_1 a1_2 a1_3)).snd; (x5.fst, x8.fst, x11.fst, x14.fst, decide (x18 ≥ 0) || decide (x19 ≥ 0) || (x5.snd || x20 || anyB [x21, x22, x23, x24]) || (x8.snd || x20 || anyB [x25, x21, x26, x23]) || (x11.snd || x20 || anyB [x27, x24, x21, x25]) || (x14.snd || x20 || anyB [x26, x27, x22, x21]))
noncomputable def g85 (p : Int × Int × Int × Int × Bool) : SV := .tuple [.agg [.int .i64 (.sym p.1), .int .i64 (.sym p.2.1), .int .i64 (.sym p.2.2.1), .int .i64 (.sym p.2.2.2.1)], .bool (.sym p.2.2.2.2)]
noncomputable def S85 : Summ
  | [.v (.agg [.int .i64 a0_0, .int .i64 a0_1, .int .i64 a0_2, .int .i64 a0_3]), .v (.agg [.int .i64 a1_0, .int .i64 a1_1, .int .i64 a1_2, .int .i64 a1_3])] => some (g85 (f85 a0_0.val a0_1.val a0_2.val a0_3.val a1_0.val a1_1.val a1_2.val a1_3.val))
  | _ => none
theorem S85_ok : SummFn Go.Proofs.Tryz.prog 85 S85 := by
  have ev : ∀ (a0_0 : Int) (a0_1 : Int) (a0_2 : Int) (a0_3 : Int) (a1_0 : Int) (a1_1 : Int) (a1_2 : Int) (a1_3 : Int), (symCall ⟨Go.Proofs.Tryz.prog, [(82, S82), (147, S147), (149, S149), (150, S150), (151, S151), (86, S86), (142, S142), (157, S157), (163, S163), (158, S158), (153, S153), (178, S178), (179, S179), (192, S192), (176, S176), (194, S194), (195, S195), (203, S203)], 3, 215, true, [(152, H152), (138, H138), (140, H140), (107, H107), (155, H155)], [], [(148, N148)]⟩ 30 85 [.agg [.int .i64 (.sym a0_0), .int .i64 (.sym a0_1), .int .i64 (.sym a0_2), .int .i64 (.sym a0_3)], .agg [.int .i64 (.sym a1_0), .int .i64 (.sym a1_1), .int .i64 (.sym a1_2), .int .i64 (.sym a1_3)]] []).out = ((g85 (f85 a0_0 a0_1 a0_2 a0_3 a1_0 a1_1 a1_2 a1_3)).toV) := by
    intro a0_0 a0_1 a0_2 a0_3 a1_0 a1_1 a1_2 a1_3
    kernel_rfl
  intro fs r h w vs hv
  unfold S85 at h
  split at h
  · rename_i a0_0 a0_1 a0_2 a0_3 a1_0 a1_1 a1_2 a1_3
    cases h
    exact sx_calls (envOkU' (S := [(82, S82), (147, S147), (149, S149), (150, S150), (151, S151), (86, S86), (142, S142), (157, S157), (163, S163), (158, S158), (153, S153), (178, S178), (179, S179), (192, S192), (176, S176), (194, S194), (195, S195), (203, S203)]) (HS := [(152, H152), (138, H138), (140, H140), (107, H107), (155, H155)]) (US := []) (NS := [(148, N148)]) (j := true) ⟨S82_ok, S147_ok, S149_ok, S150_ok, S151_ok, S86_ok, S142_ok, S157_ok, S163_ok, S158_ok, S153_ok, S178_ok, S179_ok, S192_ok, S176_ok, S194_ok, S195_ok, S203_ok, trivial⟩ ⟨H152_ok, H138_ok, H140_ok, H107_ok, H155_ok, trivial⟩ trivial ⟨N148_ok, trivial⟩) 30 85 [.agg [.int .i64 (.sym a0_0.val), .int .i64 (.sym a0_1.val), .int .i64 (.sym a0_2.val), .int .i64 (.sym a0_3.val)], .agg [.int .i64 (.sym a1_0.val), .int .i64 (.sym a1_1.val), .int .i64 (.sym a1_2.val), .int .i64 (.sym a1_3.val)]] vs (symifyL_rel _ _ (SArels_v (xs := [.agg [.int .i64 a0_0, .int .i64 a0_1, .int .i64 a0_2, .int .i64 a0_3], .agg [.int .i64 a1_0, .int .i64 a1_1, .int .i64 a1_2, .int .i64 a1_3]]) hv)) (by kernel_rfl) rfl (ev a0_0.val a0_1.val a0_2.val a0_3.val a1_0.val a1_1.val a1_2.val a1_3.val) w
  · cases h
/-- outrigger/quat.Norm -/
noncomputable def f34 (a0_0 : Int) (a0_1 : Int) (a0_2 : Int) (a0_3 : Int) : Int × Bool := let x1 : Int × Int := addL [((f158 a0_0 a0_0).fst, (f158 a0_0 a0_0).snd), ((f158 a0_1 a0_1).fst, (f158 a0_1 a0_1).snd), ((f158 a0_2 a0_2).fst, (f158 a0_2 a0_2).snd), ((f158 a0_3 a0_3).fst, (f158 a0_3 a0_3).snd)]; let x2 : Int × Bool := f137 x1.fst x1.snd; (x2.fst, x2.snd || anyB [(f82 a0_0).snd, (f82 a0_1).snd, (f82 a0_2).snd, (f82 a0_3).snd])
noncomputable def g34 (p : Int × Bool) : SV := .tuple [.int .i64 (.sym p.1), .bool (.sym p.2)]
noncomputable def S34 : Summ
  | [.v (.agg [.int .i64 a0_0, .int .i64 a0_1, .int .i64 a0_2, .int .i64 a0_3])] => some (g34 (f34 a0_0.val a0_1.val a0_2.val a0_3.val))
  | _ => none
theorem S34_ok : SummFn Go.Proofs.Tryz.prog 34 S34 := by
  have ev : ∀ (a0_0 : Int) (a0_1 : Int) (a0_2 : Int) (a0_3 : Int), (symCall ⟨Go.Proofs.Tryz.prog, [(82, S82), (142, S142), (137, S137), (163, S163), (158, S158), (153, S153), (178, S178), (179, S179), (176, S176), (177, S177), (194, S194), (195, S195), (203, S203), (204, S204), (205, S205), (213, S213)], 3, 215, true, [(152, H152), (138, H138), (140, H140), (107, H107), (155, H155)], [], []⟩ 30 34 [.agg [.int .i64 (.sym a0_0), .int .i64 (.sym a0_1), .int .i64 (.sym a0_2), .int .i64 (.sym a0_3)]] []).out = ((g34 (f34 a0_0 a0_1 a0_2 a0_3)).toV) := by
    intro a0_0 a0_1 a0_2 a0_3
    kernel_rfl
  intro fs r h w vs hv
  unfold S34 at h
  split at h
  · rename_i a0_0 a0_1 a0_2 a0_3
    cases h
    exact sx_calls (envOkU' (S := [(82, S82), (142, S142), (137, S137), (163, S163), (158, S158), (153, S153), (178, S178), (179, S179), (176, S176), (177, S177), (194, S194), (195, S195), (203, S203), (204, S204), (205, S205), (213, S213)]) (HS := [(152, H152), (138, H138), (140, H140), (107, H107), (155, H155)]) (US := []) (NS := []) (j := true) ⟨S82_ok, S142_ok, S137_ok, S163_ok, S158_ok, S153_ok, S178_ok, S179_ok, S176_ok, S177_ok, S194_ok, S195_ok, S203_ok, S204_ok, S205_ok, S213_ok, trivial⟩ ⟨H152_ok, H138_ok, H140_ok, H107_ok, H155_ok, trivial⟩ trivial trivial) 30 34 [.agg [.int .i64 (.sym a0_0.val), .int .i64 (.sym a0_1.val), .int .i64 (.sym a0_2.val), .int .i64 (.sym a0_3.val)]] vs (symifyL_rel _ _ (SArels_v (xs := [.agg [.int .i64 a0_0, .int .i64 a0_1, .int .i64 a0_2, .int .i64 a0_3]]) hv)) (by kernel_rfl) rfl (ev a0_0.val a0_1.val a0_2.val a0_3.val) w
  · cases h
/-- outrigger/quat.One -/
noncomputable def f40 : Int × Int × Int × Int := (4294967296, 0, 0, 0)
noncomputable def g40 (p : Int × Int × Int × Int) : SV := .agg [.int .i64 (.sym p.1), .int .i64 (.sym p.2.1), .int .i64 (.sym p.2.2.1), .int .i64 (.sym p.2.2.2)]
noncomputable def S40 : Summ
  | [] => some (g40 (f40))
  | _ => none
theorem S40_ok : SummFn Go.Proofs.Tryz.prog 40 S40 := by
  have ev : (symCall ⟨Go.Proofs.Tryz.prog, [], 3, 215, true, [], [], []⟩ 30 40 [] []).out = ((g40 (f40)).toV) := by
    kernel_rfl
  intro fs r h w vs hv
  unfold S40 at h
  split at h
  · cases h
    exact sx_calls (envOkU' (S := []) (HS := []) (US := []) (NS := []) (j := true) trivial trivial trivial trivial) 30 40 [] vs (symifyL_rel _ _ (SArels_v (xs := []) hv)) (by kernel_rfl) rfl (ev) w
  · cases h
/-- outrigger/quat.Unit -/
noncomputable def f93 (a0_0 : Int) (a0_1 : Int) (a0_2 : Int) (a0_3 : Int) : Int × Int × Int × Int × Bool := let x1 : Int := (f34 a0_0 a0_1 a0_2 a0_3).fst; let x2 : Bool := x1 == 0; let x3 : Int × Bool := f105 a0_0 x1; let x4 : Int × Int × Int := f40.snd; let x5 : Int × Bool := f105 a0_1 x1; let x6 : Int × Int := x4.snd; let x7 : Int × Bool := f105 a0_2 x1; let x8 : Int × Bool := f105 a0_3 x1; (bif x2 then f40.fst else x3.fst, bif x2 then x4.fst else x5.fst, bif x2 then x6.fst else x7.fst, bif x2 then x6.snd else x8.fst, x2 || ((f34 a0_0 a0_1 a0_2 a0_3).snd || x3.snd || x5.snd || x7.snd || x8.snd))
noncomputable def g93 (p : Int × Int × Int × Int × Bool) : SV := .tuple [.agg [.int .i64 (.sym p.1), .int .i64 (.sym p.2.1), .int .i64 (.sym p.2.2.1), .int .i64 (.sym p.2.2.2.1)], .bool (.sym p.2.2.2.2)]
noncomputable def S93 : Summ
  | [.v (.agg [.int .i64 a0_0, .int .i64 a0_1, .int .i64 a0_2, .int .i64 a0_3])] => some (g93 (f93 a0_0.val a0_1.val a0_2.val a0_3.val))
  | _ => none
theorem S93_ok : SummFn Go.Proofs.Tryz.prog 93 S93 := by
  have ev : ∀ (a0_0 : Int) (a0_1 : Int) (a0_2 : Int) (a0_3 : Int), (symCall ⟨Go.Proofs.Tryz.prog, [(34, S34), (40, S40), (82, S82), (105, S105), (142, S142), (137, S137), (159, S159), (163, S163), (164, S164), (158, S158), (153, S153), (178, S178), (179, S179), (176, S176), (177, S177), (194, S194), (195, S195), (203, S203), (204, S204), (205, S205), (213, S213)], 3, 215, true, [(152, H152), (138, H138), (140, H140), (107, H107), (155, H155)], [], []⟩ 30 93 [.agg [.int .i64 (.sym a0_0), .int .i64 (.sym a0_1), .int .i64 (.sym a0_2), .int .i64 (.sym a0_3)]] []).out = ((g93 (f93 a0_0 a0_1 a0_2 a0_3)).toV) := by
    intro a0_0 a0_1 a0_2 a0_3
    kernel_rfl
  intro fs r h w vs hv
  unfold S93 at h
  split at h
  · rename_i a0_0 a0_1 a0_2 a0_3
    cases h
    exact sx_calls (envOkU' (S := [(34, S34), (40, S40), (82, S82), (105, S105), (142, S142), (137, S137), (159, S159), (163, S163), (164, S164), (158, S158), (153, S153), (178, S178), (179, S179), (176, S176), (177, S177), (194, S194), (195, S195), (203, S203), (204, S204), (205, S205), (213, S213)]) (HS := [(152, H152), (138, H138), (140, H140), (107, H107), (155, H155)]) (US := []) (NS := []) (j := true) ⟨S34_ok, S40_ok, S82_ok, S105_ok, S142_ok, S137_ok, S159_ok, S163_ok, S164_ok, S158_ok, S153_ok, S178_ok, S179_ok, S176_ok, S177_ok, S194_ok, S195_ok, S203_ok, S204_ok, S205_ok, S213_ok, trivial⟩ ⟨H152_ok, H138_ok, H140_ok, H107_ok, H155_ok, trivial⟩ trivial trivial) 30 93 [.agg [.int .i64 (.sym a0_0.val), .int .i64 (.sym a0_1.val), .int .i64 (.sym a0_2.val), .int .i64 (.sym a0_3.val)]] vs (symifyL_rel _ _ (SArels_v (xs := [.agg [.int .i64 a0_0, .int .i64 a0_1, .int .i64 a0_2, .int .i64 a0_3]]) hv)) (by kernel_rfl) rfl (ev a0_0.val a0_1.val a0_2.val a0_3.val) w
  · cases h
/-- outrigger/quat.Back -/
noncomputable def f43 (a0_0 : Int) (a0_1 : Int) (a0_2 : Int) (a0_3 : Int) : Int × Int × Int × Int := ((f82 a0_0).fst, f86 a0_1, f86 a0_2, f86 a0_3)
noncomputable def g43 (p : Int × Int × Int × Int) : SV := .agg [.int .i64 (.sym p.1), .int .i64 (.sym p.2.1), .int .i64 (.sym p.2.2.1), .int .i64 (.sym p.2.2.2)]
noncomputable def S43 : Summ
  | [.v (.agg [.int .i64 a0_0, .int .i64 a0_1, .int .i64 a0_2, .int .i64 a0_3])] => some (g43 (f43 a0_0.val a0_1.val a0_2.val a0_3.val))
  | _ => none
theorem S43_ok : SummFn Go.Proofs.Tryz.prog 43 S43 := by
  have ev : ∀ (a0_0 : Int) (a0_1 : Int) (a0_2 : Int) (a0_3 : Int), (symCall ⟨Go.Proofs.Tryz.prog, [(82, S82), (86, S86), (142, S142), (153, S153)], 3, 215, true, [], [], []⟩ 30 43 [.agg [.int .i64 (.sym a0_0), .int .i64 (.sym a0_1), .int .i64 (.sym a0_2), .int .i64 (.sym a0_3)]] []).out = ((g43 (f43 a0_0 a0_1 a0_2 a0_3)).toV) := by
    intro a0_0 a0_1 a0_2 a0_3
    kernel_rfl
  intro fs r h w vs hv
  unfold S43 at h
  split at h
  · rename_i a0_0 a0_1 a0_2 a0_3
    cases h
    exact sx_calls (envOkU' (S := [(82, S82), (86, S86), (142, S142), (153, S153)]) (HS := []) (US := []) (NS := []) (j := true) ⟨S82_ok, S86_ok, S142_ok, S153_ok, trivial⟩ trivial trivial trivial) 30 43 [.agg [.int .i64 (.sym a0_0.val), .int .i64 (.sym a0_1.val), .int .i64 (.sym a0_2.val), .int .i64 (.sym a0_3.val)]] vs (symifyL_rel _ _ (SArels_v (xs := [.agg [.int .i64 a0_0, .int .i64 a0_1, .int .i64 a0_2, .int .i64 a0_3]]) hv)) (by kernel_rfl) rfl (ev a0_0.val a0_1.val a0_2.val a0_3.val) w
  · cases h
end Go.Proofs.YtmnglkcodbecbaaGreat
