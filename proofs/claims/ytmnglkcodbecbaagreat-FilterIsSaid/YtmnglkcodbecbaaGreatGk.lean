/- What each function computes, by the executor: printed by a program (wip/sx2/Gen3.lean). -/
import Derived.Test.YtmnglkcodbecbaaGreatGh
import Derived.Test.YtmnglkcodbecbaaGreatUa
import Derived.Test.YtmnglkcodbecbaaGreatNa
namespace Go.Proofs.YtmnglkcodbecbaaGreat
open Go Go.Sx
set_option linter.unusedVariables false
set_option linter.unusedSimpArgs false
set_option maxRecDepth 1000000
set_option maxHeartbeats 100000000
/-- outrigger/turn.Sane -/
noncomputable def f13 (a0_0 : Int) (a0_1 : Int) (a0_2 : Int) (a0_3 : Int) (a0_4 : Int) (a0_5 : Int) (a0_6 : Int) (a0_7 : Bool) : Bool := let x1 : Int := (f34 a0_0 a0_1 a0_2 a0_3).fst; let x2 : Int := IntKind.i64.wrap (0 + 1); let x3 : Int := bif (f82 a0_4).snd then 0 else bif (f82 a0_5).snd then x2 else bif (f82 a0_6).snd then IntKind.i64.wrap (x2 + 1) else -1; !(f34 a0_0 a0_1 a0_2 a0_3).snd && decide (x1 ≥ 4294967040) && decide (x1 ≤ 4294967552) && !decide (x3 ≥ 0)
noncomputable def g13 (p : Bool) : SV := .bool (.sym p)
noncomputable def S13 : Summ
  | [.v (.agg [.int .i64 a0_0, .int .i64 a0_1, .int .i64 a0_2, .int .i64 a0_3, .int .i64 a0_4, .int .i64 a0_5, .int .i64 a0_6, .bool a0_7])] => some (g13 (f13 a0_0.val a0_1.val a0_2.val a0_3.val a0_4.val a0_5.val a0_6.val a0_7.val))
  | _ => none
theorem S13_ok : SummFn Go.Proofs.Tryz.prog 13 S13 := by
  have ev : ∀ (a0_0 : Int) (a0_1 : Int) (a0_2 : Int) (a0_3 : Int) (a0_4 : Int) (a0_5 : Int) (a0_6 : Int) (a0_7 : Bool), (symCall ⟨Go.Proofs.Tryz.prog, [(34, S34), (82, S82), (142, S142), (137, S137), (163, S163), (158, S158), (153, S153), (178, S178), (179, S179), (176, S176), (177, S177), (194, S194), (195, S195), (203, S203), (204, S204), (205, S205), (213, S213)], 3, 215, true, [(152, H152), (138, H138), (140, H140), (107, H107), (155, H155)], [], []⟩ 30 13 [.agg [.int .i64 (.sym a0_0), .int .i64 (.sym a0_1), .int .i64 (.sym a0_2), .int .i64 (.sym a0_3), .int .i64 (.sym a0_4), .int .i64 (.sym a0_5), .int .i64 (.sym a0_6), .bool (.sym a0_7)]] []).out = ((g13 (f13 a0_0 a0_1 a0_2 a0_3 a0_4 a0_5 a0_6 a0_7)).toV) := by
    intro a0_0 a0_1 a0_2 a0_3 a0_4 a0_5 a0_6 a0_7
    kernel_rfl
  intro fs r h w vs hv
  unfold S13 at h
  split at h
  · rename_i a0_0 a0_1 a0_2 a0_3 a0_4 a0_5 a0_6 a0_7
    cases h
    exact sx_calls (envOkU' (S := [(34, S34), (82, S82), (142, S142), (137, S137), (163, S163), (158, S158), (153, S153), (178, S178), (179, S179), (176, S176), (177, S177), (194, S194), (195, S195), (203, S203), (204, S204), (205, S205), (213, S213)]) (HS := [(152, H152), (138, H138), (140, H140), (107, H107), (155, H155)]) (US := []) (NS := []) (j := true) ⟨S34_ok, S82_ok, S142_ok, S137_ok, S163_ok, S158_ok, S153_ok, S178_ok, S179_ok, S176_ok, S177_ok, S194_ok, S195_ok, S203_ok, S204_ok, S205_ok, S213_ok, trivial⟩ ⟨H152_ok, H138_ok, H140_ok, H107_ok, H155_ok, trivial⟩ trivial trivial) 30 13 [.agg [.int .i64 (.sym a0_0.val), .int .i64 (.sym a0_1.val), .int .i64 (.sym a0_2.val), .int .i64 (.sym a0_3.val), .int .i64 (.sym a0_4.val), .int .i64 (.sym a0_5.val), .int .i64 (.sym a0_6.val), .bool (.sym a0_7.val)]] vs (symifyL_rel _ _ (SArels_v (xs := [.agg [.int .i64 a0_0, .int .i64 a0_1, .int .i64 a0_2, .int .i64 a0_3, .int .i64 a0_4, .int .i64 a0_5, .int .i64 a0_6, .bool a0_7]]) hv)) (by kernel_rfl) rfl (ev a0_0.val a0_1.val a0_2.val a0_3.val a0_4.val a0_5.val a0_6.val a0_7.val) w
  · cases h
/-- outrigger/turn.Start -/
noncomputable def f15 : Int × Int × Int × Int × Int × Int × Int × Bool := let x1 : Int × Int × Int := f40.snd; let x2 : Int × Int := x1.snd; (f40.fst, x1.fst, x2.fst, x2.snd, 0, 0, 0, false)
noncomputable def g15 (p : Int × Int × Int × Int × Int × Int × Int × Bool) : SV := .agg [.int .i64 (.sym p.1), .int .i64 (.sym p.2.1), .int .i64 (.sym p.2.2.1), .int .i64 (.sym p.2.2.2.1), .int .i64 (.sym p.2.2.2.2.1), .int .i64 (.sym p.2.2.2.2.2.1), .int .i64 (.sym p.2.2.2.2.2.2.1), .bool (.sym p.2.2.2.2.2.2.2)]
noncomputable def S15 : Summ
  | [] => some (g15 (f15))
  | _ => none
theorem S15_ok : SummFn Go.Proofs.Tryz.prog 15 S15 := by
  have ev : (symCall ⟨Go.Proofs.Tryz.prog, [(40, S40)], 3, 215, true, [], [], []⟩ 30 15 [] []).out = ((g15 (f15)).toV) := by
    kernel_rfl
  intro fs r h w vs hv
  unfold S15 at h
  split at h
  · cases h
    exact sx_calls (envOkU' (S := [(40, S40)]) (HS := []) (US := []) (NS := []) (j := true) ⟨S40_ok, trivial⟩ trivial trivial trivial) 30 15 [] vs (symifyL_rel _ _ (SArels_v (xs := []) hv)) (by kernel_rfl) rfl (ev) w
  · cases h
/-- outrigger/turn.known -/
noncomputable def f44 (a0_0 : Int) (a0_1 : Int) (a0_2 : Int) (a0_3 : Int) (a0_4 : Int) (a0_5 : Int) (a0_6 : Int) (a0_7 : Bool) : Int × Int × Int × Int × Int × Int × Int × Bool := let x1 : Bool := f13 a0_0 a0_1 a0_2 a0_3 a0_4 a0_5 a0_6 a0_7; let x2 : Int × Int × Int × Int × Int × Int × Bool := f15.snd; let x3 : Int × Int × Int × Int × Int × Bool := x2.snd; let x4 : Int × Int × Int × Int × Bool := x3.snd; let x5 : Int × Int × Int × Bool := x4.snd; let x6 : Int × Int × Bool := x5.snd; (bif x1 then a0_0 else f15.fst, bif x1 then a0_1 else x2.fst, bif x1 then a0_2 else x3.fst, bif x1 then a0_3 else x4.fst, bif x1 then a0_4 else x5.fst, bif x1 then a0_5 else x6.fst, bif x1 then a0_6 else x6.snd.fst, !x1 || a0_7)
noncomputable def g44 (p : Int × Int × Int × Int × Int × Int × Int × Bool) : SV := .agg [.int .i64 (.sym p.1), .int .i64 (.sym p.2.1), .int .i64 (.sym p.2.2.1), .int .i64 (.sym p.2.2.2.1), .int .i64 (.sym p.2.2.2.2.1), .int .i64 (.sym p.2.2.2.2.2.1), .int .i64 (.sym p.2.2.2.2.2.2.1), .bool (.sym p.2.2.2.2.2.2.2)]
noncomputable def S44 : Summ
  | [.v (.agg [.int .i64 a0_0, .int .i64 a0_1, .int .i64 a0_2, .int .i64 a0_3, .int .i64 a0_4, .int .i64 a0_5, .int .i64 a0_6, .bool a0_7])] => some (g44 (f44 a0_0.val a0_1.val a0_2.val a0_3.val a0_4.val a0_5.val a0_6.val a0_7.val))
  | _ => none
theorem S44_ok : SummFn Go.Proofs.Tryz.prog 44 S44 := by
  have ev : ∀ (a0_0 : Int) (a0_1 : Int) (a0_2 : Int) (a0_3 : Int) (a0_4 : Int) (a0_5 : Int) (a0_6 : Int) (a0_7 : Bool), (symCall ⟨Go.Proofs.Tryz.prog, [(34, S34), (40, S40), (82, S82), (13, S13), (15, S15), (142, S142), (137, S137), (163, S163), (158, S158), (153, S153), (178, S178), (179, S179), (176, S176), (177, S177), (194, S194), (195, S195), (203, S203), (204, S204), (205, S205), (213, S213)], 3, 215, true, [(152, H152), (138, H138), (140, H140), (107, H107), (155, H155)], [], []⟩ 30 44 [.agg [.int .i64 (.sym a0_0), .int .i64 (.sym a0_1), .int .i64 (.sym a0_2), .int .i64 (.sym a0_3), .int .i64 (.sym a0_4), .int .i64 (.sym a0_5), .int .i64 (.sym a0_6), .bool (.sym a0_7)]] []).out = ((g44 (f44 a0_0 a0_1 a0_2 a0_3 a0_4 a0_5 a0_6 a0_7)).toV) := by
    intro a0_0 a0_1 a0_2 a0_3 a0_4 a0_5 a0_6 a0_7
    kernel_rfl
  intro fs r h w vs hv
  unfold S44 at h
  split at h
  · rename_i a0_0 a0_1 a0_2 a0_3 a0_4 a0_5 a0_6 a0_7
    cases h
    exact sx_calls (envOkU' (S := [(34, S34), (40, S40), (82, S82), (13, S13), (15, S15), (142, S142), (137, S137), (163, S163), (158, S158), (153, S153), (178, S178), (179, S179), (176, S176), (177, S177), (194, S194), (195, S195), (203, S203), (204, S204), (205, S205), (213, S213)]) (HS := [(152, H152), (138, H138), (140, H140), (107, H107), (155, H155)]) (US := []) (NS := []) (j := true) ⟨S34_ok, S40_ok, S82_ok, S13_ok, S15_ok, S142_ok, S137_ok, S163_ok, S158_ok, S153_ok, S178_ok, S179_ok, S176_ok, S177_ok, S194_ok, S195_ok, S203_ok, S204_ok, S205_ok, S213_ok, trivial⟩ ⟨H152_ok, H138_ok, H140_ok, H107_ok, H155_ok, trivial⟩ trivial trivial) 30 44 [.agg [.int .i64 (.sym a0_0.val), .int .i64 (.sym a0_1.val), .int .i64 (.sym a0_2.val), .int .i64 (.sym a0_3.val), .int .i64 (.sym a0_4.val), .int .i64 (.sym a0_5.val), .int .i64 (.sym a0_6.val), .bool (.sym a0_7.val)]] vs (symifyL_rel _ _ (SArels_v (xs := [.agg [.int .i64 a0_0, .int .i64 a0_1, .int .i64 a0_2, .int .i64 a0_3, .int .i64 a0_4, .int .i64 a0_5, .int .i64 a0_6, .bool a0_7]]) hv)) (by kernel_rfl) rfl (ev a0_0.val a0_1.val a0_2.val a0_3.val a0_4.val a0_5.val a0_6.val a0_7.val) w
  · cases h
/-- outrigger/vec.Scale -/
noncomputable def f51 (a0_0 : Int) (a0_1 : Int) (a0_2 : Int) (a1 : Int) : Int × Int × Int × Bool := ((f96 a0_0 a1).fst, (f96 a0_1 a1).fst, (f96 a0_2 a1).fst, (f96 a0_0 a1).snd || (f96 a0_1 a1).snd || (f96 a0_2 a1).snd)
noncomputable def g51 (p : Int × Int × Int × Bool) : SV := .tuple [.agg [.int .i64 (.sym p.1), .int .i64 (.sym p.2.1), .int .i64 (.sym p.2.2.1)], .bool (.sym p.2.2.2)]
noncomputable def S51 : Summ
  | [.v (.agg [.int .i64 a0_0, .int .i64 a0_1, .int .i64 a0_2]), .v (.int .i64 a1)] => some (g51 (f51 a0_0.val a0_1.val a0_2.val a1.val))
  | _ => none
theorem S51_ok : SummFn Go.Proofs.Tryz.prog 51 S51 := by
  have ev : ∀ (a0_0 : Int) (a0_1 : Int) (a0_2 : Int) (a1 : Int), (symCall ⟨Go.Proofs.Tryz.prog, [(82, S82), (96, S96), (142, S142), (157, S157), (159, S159), (163, S163), (158, S158), (153, S153), (178, S178), (179, S179), (192, S192), (176, S176), (194, S194), (195, S195), (203, S203)], 3, 215, true, [], [], []⟩ 30 51 [.agg [.int .i64 (.sym a0_0), .int .i64 (.sym a0_1), .int .i64 (.sym a0_2)], .int .i64 (.sym a1)] []).out = ((g51 (f51 a0_0 a0_1 a0_2 a1)).toV) := by
    intro a0_0 a0_1 a0_2 a1
    kernel_rfl
  intro fs r h w vs hv
  unfold S51 at h
  split at h
  · rename_i a0_0 a0_1 a0_2 a1
    cases h
    exact sx_calls (envOkU' (S := [(82, S82), (96, S96), (142, S142), (157, S157), (159, S159), (163, S163), (158, S158), (153, S153), (178, S178), (179, S179), (192, S192), (176, S176), (194, S194), (195, S195), (203, S203)]) (HS := []) (US := []) (NS := []) (j := true) ⟨S82_ok, S96_ok, S142_ok, S157_ok, S159_ok, S163_ok, S158_ok, S153_ok, S178_ok, S179_ok, S192_ok, S176_ok, S194_ok, S195_ok, S203_ok, trivial⟩ trivial trivial trivial) 30 51 [.agg [.int .i64 (.sym a0_0.val), .int .i64 (.sym a0_1.val), .int .i64 (.sym a0_2.val)], .int .i64 (.sym a1.val)] vs (symifyL_rel _ _ (SArels_v (xs := [.agg [.int .i64 a0_0, .int .i64 a0_1, .int .i64 a0_2], .int .i64 a1]) hv)) (by kernel_rfl) rfl (ev a0_0.val a0_1.val a0_2.val a1.val) w
  · cases h
/-- outrigger/vec.Sub -/
noncomputable def f52 (a0_0 : Int) (a0_1 : Int) (a0_2 : Int) (a1_0 : Int) (a1_1 : Int) (a1_2 : Int) : Int × Int × Int × Bool := ((f98 a0_0 a1_0).fst, (f98 a0_1 a1_1).fst, (f98 a0_2 a1_2).fst, (f98 a0_0 a1_0).snd || (f98 a0_1 a1_1).snd || (f98 a0_2 a1_2).snd)
noncomputable def g52 (p : Int × Int × Int × Bool) : SV := .tuple [.agg [.int .i64 (.sym p.1), .int .i64 (.sym p.2.1), .int .i64 (.sym p.2.2.1)], .bool (.sym p.2.2.2)]
noncomputable def S52 : Summ
  | [.v (.agg [.int .i64 a0_0, .int .i64 a0_1, .int .i64 a0_2]), .v (.agg [.int .i64 a1_0, .int .i64 a1_1, .int .i64 a1_2])] => some (g52 (f52 a0_0.val a0_1.val a0_2.val a1_0.val a1_1.val a1_2.val))
  | _ => none
theorem S52_ok : SummFn Go.Proofs.Tryz.prog 52 S52 := by
  have ev : ∀ (a0_0 : Int) (a0_1 : Int) (a0_2 : Int) (a1_0 : Int) (a1_1 : Int) (a1_2 : Int), (symCall ⟨Go.Proofs.Tryz.prog, [(82, S82), (142, S142), (153, S153), (98, S98)], 3, 215, true, [], [], []⟩ 30 52 [.agg [.int .i64 (.sym a0_0), .int .i64 (.sym a0_1), .int .i64 (.sym a0_2)], .agg [.int .i64 (.sym a1_0), .int .i64 (.sym a1_1), .int .i64 (.sym a1_2)]] []).out = ((g52 (f52 a0_0 a0_1 a0_2 a1_0 a1_1 a1_2)).toV) := by
    intro a0_0 a0_1 a0_2 a1_0 a1_1 a1_2
    kernel_rfl
  intro fs r h w vs hv
  unfold S52 at h
  split at h
  · rename_i a0_0 a0_1 a0_2 a1_0 a1_1 a1_2
    cases h
    exact sx_calls (envOkU' (S := [(82, S82), (142, S142), (153, S153), (98, S98)]) (HS := []) (US := []) (NS := []) (j := true) ⟨S82_ok, S142_ok, S153_ok, S98_ok, trivial⟩ trivial trivial trivial) 30 52 [.agg [.int .i64 (.sym a0_0.val), .int .i64 (.sym a0_1.val), .int .i64 (.sym a0_2.val)], .agg [.int .i64 (.sym a1_0.val), .int .i64 (.sym a1_1.val), .int .i64 (.sym a1_2.val)]] vs (symifyL_rel _ _ (SArels_v (xs := [.agg [.int .i64 a0_0, .int .i64 a0_1, .int .i64 a0_2], .agg [.int .i64 a1_0, .int .i64 a1_1, .int .i64 a1_2]]) hv)) (by kernel_rfl) rfl (ev a0_0.val a0_1.val a0_2.val a1_0.val a1_1.val a1_2.val) w
  · cases h
/-- outrigger/turn.Move -/
noncomputable def f19 (a0_0 : Int) (a0_1 : Int) (a0_2 : Int) (a0_3 : Int) (a0_4 : Int) (a0_5 : Int) (a0_6 : Int) (a0_7 : Bool) (a1_0 : Int) (a1_1 : Int) (a1_2 : Int) (a2 : Int) : Int × Int × Int × Int × Int × Int × Int × Bool := let x1 : Int := IntKind.i64.wrap (0 + 1); let x2 : Int := bif (f82 a1_0).snd then 0 else bif (f82 a1_1).snd then x1 else bif (f82 a1_2).snd then IntKind.i64.wrap (x1 + 1) else -1; let x3 : Bool := !!decide (x2 ≥ 0) || decide (a2 < 0) || decide (a2 > 68719476736); let x4 : Int × Int × Int × Int × Int × Int × Int × Bool := f44 a0_0 a0_1 a0_2 a0_3 a0_4 a0_5 a0_6 a0_7; let x5 : Int := x4.fst; let x6 : Int × Int × Int × Int × Int × Int × Bool := x4.snd; let x7 : Int := x6.fst; let x8 : Int × Int × Int × Int × Int × Bool := x6.snd; let x9 : Int := x8.fst; let x10 : Int × Int × Int × Int × Bool := x8.snd; let x11 : Int := x10.fst; let x12 : Int × Int × Int × Bool := x10.snd; let x13 : Int := x12.fst; let x14 : Int × Int × Bool := x12.snd; let x15 : Int := x14.fst; let x16 : Int × Bool := x14.snd; let x17 : Int := x16.fst; let x18 : Int × Int × Int × Bool := f52 a1_0 a1_1 a1_2 x13 x15 x17; let x19 : Int × Int × Bool := x18.snd; let x20 : Int × Bool := x19.snd; let x21 : Int × Int × Int × Bool := f51 x18.fst x19.fst x20.fst a2; let x22 : Int × Int × Bool := x21.snd; let x23 : Int × Bool := x22.snd; let x24 : Int × Int × Int × Int × Bool := f92 x21.fst x22.fst x23.fst; let x25 : Int × Int × Int × Bool := x24.snd; let x26 : Int × Int × Bool := x25.snd; let x27 : Int × Bool := x26.snd; let x28 : Int × Int × Int × Int × Bool := f85 x5 x7 x9 x11 x24.fst x25.fst x26.fst x27.fst; let x29 : Int × Int × Int × Bool := x28.snd; let x30 : Int × Int × Bool := x29.snd; let x31 : Int × Bool := x30.snd; let x32 : Int × Int × Int × Int × Bool := f93 x28.fst x29.fst x30.fst x31.fst; let x33 : Int × Int × Int × Bool := x32.snd; let x34 : Int × Int × Bool := x33.snd; let x35 : Int × Bool := x34.snd; (bif x3 then x5 else x32.fst, bif x3 then x7 else x33.fst, bif x3 then x9 else x34.fst, bif x3 then x11 else x35.fst, bif x3 then x13 else x13, bif x3 then x15 else x15, bif x3 then x17 else x17, x3 || (x16.snd || x20.snd || x23.snd || x27.snd || x31.snd || x35.snd))
noncomputable def g19 (p : Int × Int × Int × Int × Int × Int × Int × Bool) : SV := .agg [.int .i64 (.sym p.1), .int .i64 (.sym p.2.1), .int .i64 (.sym p.2.2.1), .int .i64 (.sym p.2.2.2.1), .int .i64 (.sym p.2.2.2.2.1), .int .i64 (.sym p.2.2.2.2.2.1), .int .i64 (.sym p.2.2.2.2.2.2.1), .bool (.sym p.2.2.2.2.2.2.2)]
noncomputable def S19 : Summ
  | [.v (.agg [.int .i64 a0_0, .int .i64 a0_1, .int .i64 a0_2, .int .i64 a0_3, .int .i64 a0_4, .int .i64 a0_5, .int .i64 a0_6, .bool a0_7]), .v (.agg [.int .i64 a1_0, .int .i64 a1_1, .int .i64 a1_2]), .v (.int .i64 a2)] => some (g19 (f19 a0_0.val a0_1.val a0_2.val a0_3.val a0_4.val a0_5.val a0_6.val a0_7.val a1_0.val a1_1.val a1_2.val a2.val))
  | _ => none
theorem S19_ok : SummFn Go.Proofs.Tryz.prog 19 S19 := by
  have ev : ∀ (a0_0 : Int) (a0_1 : Int) (a0_2 : Int) (a0_3 : Int) (a0_4 : Int) (a0_5 : Int) (a0_6 : Int) (a0_7 : Bool) (a1_0 : Int) (a1_1 : Int) (a1_2 : Int) (a2 : Int), (symCall ⟨Go.Proofs.Tryz.prog, [(85, S85), (34, S34), (93, S93), (92, S92), (40, S40), (82, S82), (13, S13), (15, S15), (147, S147), (149, S149), (150, S150), (151, S151), (105, S105), (96, S96), (86, S86), (142, S142), (51, S51), (52, S52), (44, S44), (157, S157), (137, S137), (159, S159), (163, S163), (164, S164), (158, S158), (153, S153), (98, S98), (178, S178), (179, S179), (192, S192), (176, S176), (177, S177), (194, S194), (195, S195), (203, S203), (204, S204), (205, S205), (213, S213)], 3, 215, true, [(152, H152), (138, H138), (140, H140), (107, H107), (155, H155)], [(50, U50), (91, U91), (49, U49)], [(148, N148)]⟩ 30 19 [.agg [.int .i64 (.sym a0_0), .int .i64 (.sym a0_1), .int .i64 (.sym a0_2), .int .i64 (.sym a0_3), .int .i64 (.sym a0_4), .int .i64 (.sym a0_5), .int .i64 (.sym a0_6), .bool (.sym a0_7)], .agg [.int .i64 (.sym a1_0), .int .i64 (.sym a1_1), .int .i64 (.sym a1_2)], .int .i64 (.sym a2)] []).out = ((g19 (f19 a0_0 a0_1 a0_2 a0_3 a0_4 a0_5 a0_6 a0_7 a1_0 a1_1 a1_2 a2)).toV) := by
    intro a0_0 a0_1 a0_2 a0_3 a0_4 a0_5 a0_6 a0_7 a1_0 a1_1 a1_2 a2
    kernel_rfl
  intro fs r h w vs hv
  unfold S19 at h
  split at h
  · rename_i a0_0 a0_1 a0_2 a0_3 a0_4 a0_5 a0_6 a0_7 a1_0 a1_1 a1_2 a2
    cases h
    exact sx_calls (envOkU' (S := [(85, S85), (34, S34), (93, S93), (92, S92), (40, S40), (82, S82), (13, S13), (15, S15), (147, S147), (149, S149), (150, S150), (151, S151), (105, S105), (96, S96), (86, S86), (142, S142), (51, S51), (52, S52), (44, S44), (157, S157), (137, S137), (159, S159), (163, S163), (164, S164), (158, S158), (153, S153), (98, S98), (178, S178), (179, S179), (192, S192), (176, S176), (177, S177), (194, S194), (195, S195), (203, S203), (204, S204), (205, S205), (213, S213)]) (HS := [(152, H152), (138, H138), (140, H140), (107, H107), (155, H155)]) (US := [(50, U50), (91, U91), (49, U49)]) (NS := [(148, N148)]) (j := true) ⟨S85_ok, S34_ok, S93_ok, S92_ok, S40_ok, S82_ok, S13_ok, S15_ok, S147_ok, S149_ok, S150_ok, S151_ok, S105_ok, S96_ok, S86_ok, S142_ok, S51_ok, S52_ok, S44_ok, S157_ok, S137_ok, S159_ok, S163_ok, S164_ok, S158_ok, S153_ok, S98_ok, S178_ok, S179_ok, S192_ok, S176_ok, S177_ok, S194_ok, S195_ok, S203_ok, S204_ok, S205_ok, S213_ok, trivial⟩ ⟨H152_ok, H138_ok, H140_ok, H107_ok, H155_ok, trivial⟩ ⟨U50_ok, U91_ok, U49_ok, trivial⟩ ⟨N148_ok, trivial⟩) 30 19 [.agg [.int .i64 (.sym a0_0.val), .int .i64 (.sym a0_1.val), .int .i64 (.sym a0_2.val), .int .i64 (.sym a0_3.val), .int .i64 (.sym a0_4.val), .int .i64 (.sym a0_5.val), .int .i64 (.sym a0_6.val), .bool (.sym a0_7.val)], .agg [.int .i64 (.sym a1_0.val), .int .i64 (.sym a1_1.val), .int .i64 (.sym a1_2.val)], .int .i64 (.sym a2.val)] vs (symifyL_rel _ _ (SArels_v (xs := [.agg [.int .i64 a0_0, .int .i64 a0_1, .int .i64 a0_2, .int .i64 a0_3, .int .i64 a0_4, .int .i64 a0_5, .int .i64 a0_6, .bool a0_7], .agg [.int .i64 a1_0, .int .i64 a1_1, .int .i64 a1_2], .int .i64 a2]) hv)) (by kernel_rfl) rfl (ev a0_0.val a0_1.val a0_2.val a0_3.val a0_4.val a0_5.val a0_6.val a0_7.val a1_0.val a1_1.val a1_2.val a2.val) w
  · cases h
/-- outrigger/turn.Up -/
noncomputable def f17 (a0_0 : Int) (a0_1 : Int) (a0_2 : Int) (a0_3 : Int) (a0_4 : Int) (a0_5 : Int) (a0_6 : Int) (a0_7 : Bool) : Int × Int × Int := let x1 : Int × Int × Int × Int × Int × Int × Int × Bool := f44 a0_0 a0_1 a0_2 a0_3 a0_4 a0_5 a0_6 a0_7; let x2 : Int × Int × Int × Int × Int × Int × Bool := x1.snd; let x3 : Int × Int × Int × Int × Int × Bool := x2.snd; let x4 : Int × Int × Int × Int := f43 x1.fst x2.fst x3.fst x3.snd.fst; let x5 : Int × Int × Int := x4.snd; let x6 : Int × Int := x5.snd; let x7 : Int × Int × Int × Bool := f42 x4.fst x5.fst x6.fst x6.snd 0 0 4294967296; let x8 : Int × Int × Bool := x7.snd; (x7.fst, x8.fst, x8.snd.fst)
noncomputable def g17 (p : Int × Int × Int) : SV := .agg [.int .i64 (.sym p.1), .int .i64 (.sym p.2.1), .int .i64 (.sym p.2.2)]
noncomputable def S17 : Summ
  | [.v (.agg [.int .i64 a0_0, .int .i64 a0_1, .int .i64 a0_2, .int .i64 a0_3, .int .i64 a0_4, .int .i64 a0_5, .int .i64 a0_6, .bool a0_7])] => some (g17 (f17 a0_0.val a0_1.val a0_2.val a0_3.val a0_4.val a0_5.val a0_6.val a0_7.val))
  | _ => none
theorem S17_ok : SummFn Go.Proofs.Tryz.prog 17 S17 := by
  have ev : ∀ (a0_0 : Int) (a0_1 : Int) (a0_2 : Int) (a0_3 : Int) (a0_4 : Int) (a0_5 : Int) (a0_6 : Int) (a0_7 : Bool), (symCall ⟨Go.Proofs.Tryz.prog, [(85, S85), (34, S34), (42, S42), (43, S43), (40, S40), (82, S82), (13, S13), (15, S15), (147, S147), (149, S149), (150, S150), (151, S151), (86, S86), (142, S142), (44, S44), (157, S157), (137, S137), (163, S163), (158, S158), (153, S153), (178, S178), (179, S179), (192, S192), (176, S176), (177, S177), (194, S194), (195, S195), (203, S203), (204, S204), (205, S205), (213, S213)], 3, 215, true, [(152, H152), (138, H138), (140, H140), (107, H107), (155, H155)], [], [(148, N148)]⟩ 30 17 [.agg [.int .i64 (.sym a0_0), .int .i64 (.sym a0_1), .int .i64 (.sym a0_2), .int .i64 (.sym a0_3), .int .i64 (.sym a0_4), .int .i64 (.sym a0_5), .int .i64 (.sym a0_6), .bool (.sym a0_7)]] []).out = ((g17 (f17 a0_0 a0_1 a0_2 a0_3 a0_4 a0_5 a0_6 a0_7)).toV) := by
    intro a0_0 a0_1 a0_2 a0_3 a0_4 a0_5 a0_6 a0_7
    kernel_rfl
  intro fs r h w vs hv
  unfold S17 at h
  split at h
  · rename_i a0_0 a0_1 a0_2 a0_3 a0_4 a0_5 a0_6 a0_7
    cases h
    exact sx_calls (envOkU' (S := [(85, S85), (34, S34), (42, S42), (43, S43), (40, S40), (82, S82), (13, S13), (15, S15), (147, S147), (149, S149), (150, S150), (151, S151), (86, S86), (142, S142), (44, S44), (157, S157), (137, S137), (163, S163), (158, S158), (153, S153), (178, S178), (179, S179), (192, S192), (176, S176), (177, S177), (194, S194), (195, S195), (203, S203), (204, S204), (205, S205), (213, S213)]) (HS := [(152, H152), (138, H138), (140, H140), (107, H107), (155, H155)]) (US := []) (NS := [(148, N148)]) (j := true) ⟨S85_ok, S34_ok, S42_ok, S43_ok, S40_ok, S82_ok, S13_ok, S15_ok, S147_ok, S149_ok, S150_ok, S151_ok, S86_ok, S142_ok, S44_ok, S157_ok, S137_ok, S163_ok, S158_ok, S153_ok, S178_ok, S179_ok, S192_ok, S176_ok, S177_ok, S194_ok, S195_ok, S203_ok, S204_ok, S205_ok, S213_ok, trivial⟩ ⟨H152_ok, H138_ok, H140_ok, H107_ok, H155_ok, trivial⟩ trivial ⟨N148_ok, trivial⟩) 30 17 [.agg [.int .i64 (.sym a0_0.val), .int .i64 (.sym a0_1.val), .int .i64 (.sym a0_2.val), .int .i64 (.sym a0_3.val), .int .i64 (.sym a0_4.val), .int .i64 (.sym a0_5.val), .int .i64 (.sym a0_6.val), .bool (.sym a0_7.val)]] vs (symifyL_rel _ _ (SArels_v (xs := [.agg [.int .i64 a0_0, .int .i64 a0_1, .int .i64 a0_2, .int .i64 a0_3, .int .i64 a0_4, .int .i64 a0_5, .int .i64 a0_6, .bool a0_7]]) hv)) (by kernel_rfl) rfl (ev a0_0.val a0_1.val a0_2.val a0_3.val a0_4.val a0_5.val a0_6.val a0_7.val) w
  · cases h
/-- outrigger/vec.Len -/
noncomputable def f103 (a0_0 : Int) (a0_1 : Int) (a0_2 : Int) : Int × Bool := let x1 : Int × Int := addL [((f158 a0_0 a0_0).fst, (f158 a0_0 a0_0).snd), ((f158 a0_1 a0_1).fst, (f158 a0_1 a0_1).snd), ((f158 a0_2 a0_2).fst, (f158 a0_2 a0_2).snd)]; let x2 : Int × Bool := f137 x1.fst x1.snd; (x2.fst, x2.snd || anyB [(f82 a0_0).snd, (f82 a0_1).snd, (f82 a0_2).snd])
noncomputable def g103 (p : Int × Bool) : SV := .tuple [.int .i64 (.sym p.1), .bool (.sym p.2)]
noncomputable def S103 : Summ
  | [.v (.agg [.int .i64 a0_0, .int .i64 a0_1, .int .i64 a0_2])] => some (g103 (f103 a0_0.val a0_1.val a0_2.val))
  | _ => none
theorem S103_ok : SummFn Go.Proofs.Tryz.prog 103 S103 := by
  have ev : ∀ (a0_0 : Int) (a0_1 : Int) (a0_2 : Int), (symCall ⟨Go.Proofs.Tryz.prog, [(82, S82), (142, S142), (137, S137), (163, S163), (158, S158), (153, S153), (178, S178), (179, S179), (176, S176), (177, S177), (194, S194), (195, S195), (203, S203), (204, S204), (205, S205), (213, S213)], 3, 215, true, [(152, H152), (138, H138), (140, H140), (107, H107), (155, H155)], [], []⟩ 30 103 [.agg [.int .i64 (.sym a0_0), .int .i64 (.sym a0_1), .int .i64 (.sym a0_2)]] []).out = ((g103 (f103 a0_0 a0_1 a0_2)).toV) := by
    intro a0_0 a0_1 a0_2
    kernel_rfl
  intro fs r h w vs hv
  unfold S103 at h
  split at h
  · rename_i a0_0 a0_1 a0_2
    cases h
    exact sx_calls (envOkU' (S := [(82, S82), (142, S142), (137, S137), (163, S163), (158, S158), (153, S153), (178, S178), (179, S179), (176, S176), (177, S177), (194, S194), (195, S195), (203, S203), (204, S204), (205, S205), (213, S213)]) (HS := [(152, H152), (138, H138), (140, H140), (107, H107), (155, H155)]) (US := []) (NS := []) (j := true) ⟨S82_ok, S142_ok, S137_ok, S163_ok, S158_ok, S153_ok, S178_ok, S179_ok, S176_ok, S177_ok, S194_ok, S195_ok, S203_ok, S204_ok, S205_ok, S213_ok, trivial⟩ ⟨H152_ok, H138_ok, H140_ok, H107_ok, H155_ok, trivial⟩ trivial trivial) 30 103 [.agg [.int .i64 (.sym a0_0.val), .int .i64 (.sym a0_1.val), .int .i64 (.sym a0_2.val)]] vs (symifyL_rel _ _ (SArels_v (xs := [.agg [.int .i64 a0_0, .int .i64 a0_1, .int .i64 a0_2]]) hv)) (by kernel_rfl) rfl (ev a0_0.val a0_1.val a0_2.val) w
  · cases h
/-- outrigger/vec.Unit -/
noncomputable def f56 (a0_0 : Int) (a0_1 : Int) (a0_2 : Int) : Int × Int × Int × Bool := let x1 : Bool := (f103 a0_0 a0_1 a0_2).fst == 0; let x2 : Int × Bool := f105 a0_0 (f103 a0_0 a0_1 a0_2).fst; let x3 : Int × Bool := f105 a0_1 (f103 a0_0 a0_1 a0_2).fst; let x4 : Int × Bool := f105 a0_2 (f103 a0_0 a0_1 a0_2).fst; (bif x1 then 0 else x2.fst, bif x1 then 0 else x3.fst, bif x1 then 0 else x4.fst, x1 || ((f103 a0_0 a0_1 a0_2).snd || (x2.snd || x3.snd || x4.snd)))
noncomputable def g56 (p : Int × Int × Int × Bool) : SV := .tuple [.agg [.int .i64 (.sym p.1), .int .i64 (.sym p.2.1), .int .i64 (.sym p.2.2.1)], .bool (.sym p.2.2.2)]
noncomputable def S56 : Summ
  | [.v (.agg [.int .i64 a0_0, .int .i64 a0_1, .int .i64 a0_2])] => some (g56 (f56 a0_0.val a0_1.val a0_2.val))
  | _ => none
theorem S56_ok : SummFn Go.Proofs.Tryz.prog 56 S56 := by
  have ev : ∀ (a0_0 : Int) (a0_1 : Int) (a0_2 : Int), (symCall ⟨Go.Proofs.Tryz.prog, [(82, S82), (103, S103), (105, S105), (142, S142), (137, S137), (159, S159), (163, S163), (164, S164), (158, S158), (153, S153), (178, S178), (179, S179), (176, S176), (177, S177), (194, S194), (195, S195), (203, S203), (204, S204), (205, S205), (213, S213)], 3, 215, true, [(152, H152), (138, H138), (140, H140), (107, H107), (155, H155)], [], []⟩ 30 56 [.agg [.int .i64 (.sym a0_0), .int .i64 (.sym a0_1), .int .i64 (.sym a0_2)]] []).out = ((g56 (f56 a0_0 a0_1 a0_2)).toV) := by
    intro a0_0 a0_1 a0_2
    kernel_rfl
  intro fs r h w vs hv
  unfold S56 at h
  split at h
  · rename_i a0_0 a0_1 a0_2
    cases h
    exact sx_calls (envOkU' (S := [(82, S82), (103, S103), (105, S105), (142, S142), (137, S137), (159, S159), (163, S163), (164, S164), (158, S158), (153, S153), (178, S178), (179, S179), (176, S176), (177, S177), (194, S194), (195, S195), (203, S203), (204, S204), (205, S205), (213, S213)]) (HS := [(152, H152), (138, H138), (140, H140), (107, H107), (155, H155)]) (US := []) (NS := []) (j := true) ⟨S82_ok, S103_ok, S105_ok, S142_ok, S137_ok, S159_ok, S163_ok, S164_ok, S158_ok, S153_ok, S178_ok, S179_ok, S176_ok, S177_ok, S194_ok, S195_ok, S203_ok, S204_ok, S205_ok, S213_ok, trivial⟩ ⟨H152_ok, H138_ok, H140_ok, H107_ok, H155_ok, trivial⟩ trivial trivial) 30 56 [.agg [.int .i64 (.sym a0_0.val), .int .i64 (.sym a0_1.val), .int .i64 (.sym a0_2.val)]] vs (symifyL_rel _ _ (SArels_v (xs := [.agg [.int .i64 a0_0, .int .i64 a0_1, .int .i64 a0_2]]) hv)) (by kernel_rfl) rfl (ev a0_0.val a0_1.val a0_2.val) w
  · cases h
/-- outrigger/vec.Cross -/
noncomputable def f57 (a0_0 : Int) (a0_1 : Int) (a0_2 : Int) (a1_0 : Int) (a1_1 : Int) (a1_2 : Int) : Int × Int × Int × Bool := let x1 : Int × Int := addL [((f158 a0_1 a1_2).fst, (f158 a0_1 a1_2).snd), ((f158 a0_2 (f86 a1_1)).fst, (f158 a0_2 (f86 a1_1)).snd)]; let x2 : Int × Bool := f157 x1.fst x1.snd; let x3 : Int × Int := addL [((f158 a0_2 a1_0).fst, (f158 a0_2 a1_0).snd), ((f158 a0_0 (f86 a1_2)).fst, (f158 a0_0 (f86 a1_2)).snd)]; let x4 : Int × Bool := f157 x3.fst x3.snd; let x5 : Int × Int := addL [((f158 a0_0 a1_1).fst, (f158 a0_0 a1_1).snd), ((f158 a0_1 (f86 a1_0)).fst, (f158 a0_1 (f86 a1_0)).snd)]; let x6 : Int × Bool := f157 x5.fst x5.snd; (x2.fst, x4.fst, x6.fst, (f82 a1_1).snd || (x2.snd || anyB [(f82 a0_1).snd, (f82 a0_2).snd] || anyB [(f82 a1_2).snd, (f82 (f86 a1_1)).snd]) || ((f82 a1_2).snd || (x4.snd || anyB [(f82 a0_2).snd, (f82 a0_0).snd] || anyB [(f82 a1_0).snd, (f82 (f86 a1_2)).snd])) || ((f82 a1_0).snd || (x6.snd || anyB [(f82 a0_0).snd, (f82 a0_1).snd] || anyB [(f82 a1_1).snd, (f82 (f86 a1_0)).snd])))
noncomputable def g57 (p : Int × Int × Int × Bool) : SV := .tuple [.agg [.int .i64 (.sym p.1), .int .i64 (.sym p.2.1), .int .i64 (.sym p.2.2.1)], .bool (.sym p.2.2.2)]
noncomputable def S57 : Summ
  | [.v (.agg [.int .i64 a0_0, .int .i64 a0_1, .int .i64 a0_2]), .v (.agg [.int .i64 a1_0, .int .i64 a1_1, .int .i64 a1_2])] => some (g57 (f57 a0_0.val a0_1.val a0_2.val a1_0.val a1_1.val a1_2.val))
  | _ => none
theorem S57_ok : SummFn Go.Proofs.Tryz.prog 57 S57 := by
  have ev : ∀ (a0_0 : Int) (a0_1 : Int) (a0_2 : Int) (a1_0 : Int) (a1_1 : Int) (a1_2 : Int), (symCall ⟨Go.Proofs.Tryz.prog, [(82, S82), (86, S86), (142, S142), (157, S157), (163, S163), (158, S158), (153, S153), (178, S178), (179, S179), (192, S192), (176, S176), (194, S194), (195, S195), (203, S203)], 3, 215, true, [(152, H152), (138, H138), (140, H140), (107, H107), (155, H155)], [], []⟩ 30 57 [.agg [.int .i64 (.sym a0_0), .int .i64 (.sym a0_1), .int .i64 (.sym a0_2)], .agg [.int .i64 (.sym a1_0), .int .i64 (.sym a1_1), .int .i64 (.sym a1_2)]] []).out = ((g57 (f57 a0_0 a0_1 a0_2 a1_0 a1_1 a1_2)).toV) := by
    intro a0_0 a0_1 a0_2 a1_0 a1_1 a1_2
    kernel_rfl
  intro fs r h w vs hv
  unfold S57 at h
  split at h
  · rename_i a0_0 a0_1 a0_2 a1_0 a1_1 a1_2
    cases h
    exact sx_calls (envOkU' (S := [(82, S82), (86, S86), (142, S142), (157, S157), (163, S163), (158, S158), (153, S153), (178, S178), (179, S179), (192, S192), (176, S176), (194, S194), (195, S195), (203, S203)]) (HS := [(152, H152), (138, H138), (140, H140), (107, H107), (155, H155)]) (US := []) (NS := []) (j := true) ⟨S82_ok, S86_ok, S142_ok, S157_ok, S163_ok, S158_ok, S153_ok, S178_ok, S179_ok, S192_ok, S176_ok, S194_ok, S195_ok, S203_ok, trivial⟩ ⟨H152_ok, H138_ok, H140_ok, H107_ok, H155_ok, trivial⟩ trivial trivial) 30 57 [.agg [.int .i64 (.sym a0_0.val), .int .i64 (.sym a0_1.val), .int .i64 (.sym a0_2.val)], .agg [.int .i64 (.sym a1_0.val), .int .i64 (.sym a1_1.val), .int .i64 (.sym a1_2.val)]] vs (symifyL_rel _ _ (SArels_v (xs := [.agg [.int .i64 a0_0, .int .i64 a0_1, .int .i64 a0_2], .agg [.int .i64 a1_0, .int .i64 a1_1, .int .i64 a1_2]]) hv)) (by kernel_rfl) rfl (ev a0_0.val a0_1.val a0_2.val a1_0.val a1_1.val a1_2.val) w
  · cases h
/-- outrigger/turn.Level -/
noncomputable def f21 (a0_0 : Int) (a0_1 : Int) (a0_2 : Int) (a0_3 : Int) (a0_4 : Int) (a0_5 : Int) (a0_6 : Int) (a0_7 : Bool) (a1_0 : Int) (a1_1 : Int) (a1_2 : Int) (a2 : Int) : Int × Int × Int × Int × Int × Int × Int × Bool := let x1 : Int := IntKind.i64.wrap (0 + 1); let x2 : Int := bif (f82 a1_0).snd then 0 else bif (f82 a1_1).snd then x1 else bif (f82 a1_2).snd then IntKind.i64.wrap (x1 + 1) else -1; let x3 : Bool := !!decide (x2 ≥ 0) || decide (a2 < 0) || decide (a2 > 4294967296); let x4 : Int × Int × Int × Int × Int × Int × Int × Bool := f44 a0_0 a0_1 a0_2 a0_3 a0_4 a0_5 a0_6 a0_7; let x5 : Int := x4.fst; let x6 : Int × Int × Bool := (f56 a1_0 a1_1 a1_2).snd; let x7 : Int × Bool := x6.snd; let x8 : Bool := x7.snd; let x9 : Int × Int × Int × Int × Int × Int × Bool := x4.snd; let x10 : Int := x9.fst; let x11 : Int × Int × Int × Int × Int × Bool := x9.snd; let x12 : Int := x11.fst; let x13 : Int × Int × Int × Int × Bool := x11.snd; let x14 : Int := x13.fst; let x15 : Int × Int × Int × Bool := x13.snd; let x16 : Int := x15.fst; let x17 : Int × Int × Bool := x15.snd; let x18 : Int := x17.fst; let x19 : Int × Bool := x17.snd; let x20 : Int := x19.fst; let x21 : Bool := x19.snd; let x22 : Int × Int × Int := f17 x5 x10 x12 x14 x16 x18 x20 x21; let x23 : Int × Int := x22.snd; let x24 : Int × Int × Int × Bool := f57 (f56 a1_0 a1_1 a1_2).fst x6.fst x7.fst x22.fst x23.fst x23.snd; let x25 : Int × Int × Bool := x24.snd; let x26 : Int × Bool := x25.snd; let x27 : Int × Int × Int × Bool := f51 x24.fst x25.fst x26.fst a2; let x28 : Int := x27.fst; let x29 : Int × Int × Bool := x27.snd; let x30 : Int := x29.fst; let x31 : Int × Bool := x29.snd; let x32 : Int := x31.fst; let x33 : Int × Int × Int × Int × Bool := f92 x28 x30 x32; let x34 : Int × Int × Int × Bool := x33.snd; let x35 : Int × Int × Bool := x34.snd; let x36 : Int × Bool := x35.snd; let x37 : Int × Int × Int × Int × Bool := f85 x5 x10 x12 x14 x33.fst x34.fst x35.fst x36.fst; let x38 : Int × Int × Int × Bool := x37.snd; let x39 : Int × Int × Bool := x38.snd; let x40 : Int × Bool := x39.snd; let x41 : Int × Int × Int × Int × Bool := f93 x37.fst x38.fst x39.fst x40.fst; let x42 : Int × Int × Int × Bool := x41.snd; let x43 : Int × Int × Bool := x42.snd; let x44 : Int × Bool := x43.snd; let x45 : Int × Int × Int × Bool := f51 x28 x30 x32 268435456; let x46 : Int × Int × Bool := x45.snd; let x47 : Int × Bool := x46.snd; let x48 : Int × Int × Int × Bool := f52 x16 x18 x20 x45.fst x46.fst x47.fst; let x49 : Int × Int × Bool := x48.snd; let x50 : Int × Bool := x49.snd; (bif x3 then x5 else bif x8 then x5 else x41.fst, bif x3 then x10 else bif x8 then x10 else x42.fst, bif x3 then x12 else bif x8 then x12 else x43.fst, bif x3 then x14 else bif x8 then x14 else x44.fst, bif x3 then x16 else bif x8 then x16 else x48.fst, bif x3 then x18 else bif x8 then x18 else x49.fst, bif x3 then x20 else bif x8 then x20 else x50.fst, x3 || bif x8 then x21 else x21 || x26.snd || x31.snd || x47.snd || x50.snd || x36.snd || x40.snd || x44.snd)
noncomputable def g21 (p : Int × Int × Int × Int × Int × Int × Int × Bool) : SV := .agg [.int .i64 (.sym p.1), .int .i64 (.sym p.2.1), .int .i64 (.sym p.2.2.1), .int .i64 (.sym p.2.2.2.1), .int .i64 (.sym p.2.2.2.2.1), .int .i64 (.sym p.2.2.2.2.2.1), .int .i64 (.sym p.2.2.2.2.2.2.1), .bool (.sym p.2.2.2.2.2.2.2)]
noncomputable def S21 : Summ
  | [.v (.agg [.int .i64 a0_0, .int .i64 a0_1, .int .i64 a0_2, .int .i64 a0_3, .int .i64 a0_4, .int .i64 a0_5, .int .i64 a0_6, .bool a0_7]), .v (.agg [.int .i64 a1_0, .int .i64 a1_1, .int .i64 a1_2]), .v (.int .i64 a2)] => some (g21 (f21 a0_0.val a0_1.val a0_2.val a0_3.val a0_4.val a0_5.val a0_6.val a0_7.val a1_0.val a1_1.val a1_2.val a2.val))
  | _ => none
theorem S21_ok : SummFn Go.Proofs.Tryz.prog 21 S21 := by
  have ev : ∀ (a0_0 : Int) (a0_1 : Int) (a0_2 : Int) (a0_3 : Int) (a0_4 : Int) (a0_5 : Int) (a0_6 : Int) (a0_7 : Bool) (a1_0 : Int) (a1_1 : Int) (a1_2 : Int) (a2 : Int), (symCall ⟨Go.Proofs.Tryz.prog, [(85, S85), (34, S34), (93, S93), (92, S92), (42, S42), (43, S43), (40, S40), (82, S82), (13, S13), (15, S15), (103, S103), (17, S17), (56, S56), (147, S147), (149, S149), (150, S150), (151, S151), (105, S105), (96, S96), (86, S86), (142, S142), (51, S51), (52, S52), (57, S57), (44, S44), (157, S157), (137, S137), (159, S159), (163, S163), (164, S164), (158, S158), (153, S153), (98, S98), (178, S178), (179, S179), (192, S192), (176, S176), (177, S177), (194, S194), (195, S195), (203, S203), (204, S204), (205, S205), (213, S213)], 3, 215, true, [(152, H152), (138, H138), (140, H140), (107, H107), (155, H155)], [(50, U50), (91, U91), (49, U49)], [(148, N148)]⟩ 30 21 [.agg [.int .i64 (.sym a0_0), .int .i64 (.sym a0_1), .int .i64 (.sym a0_2), .int .i64 (.sym a0_3), .int .i64 (.sym a0_4), .int .i64 (.sym a0_5), .int .i64 (.sym a0_6), .bool (.sym a0_7)], .agg [.int .i64 (.sym a1_0), .int .i64 (.sym a1_1), .int .i64 (.sym a1_2)], .int .i64 (.sym a2)] []).out = ((g21 (f21 a0_0 a0_1 a0_2 a0_3 a0_4 a0_5 a0_6 a0_7 a1_0 a1_1 a1_2 a2)).toV) := by
    intro a0_0 a0_1 a0_2 a0_3 a0_4 a0_5 a0_6 a0_7 a1_0 a1_1 a1_2 a2
    kernel_rfl
  intro fs r h w vs hv
  unfold S21 at h
  split at h
  · rename_i a0_0 a0_1 a0_2 a0_3 a0_4 a0_5 a0_6 a0_7 a1_0 a1_1 a1_2 a2
    cases h
    exact sx_calls (envOkU' (S := [(85, S85), (34, S34), (93, S93), (92, S92), (42, S42), (43, S43), (40, S40), (82, S82), (13, S13), (15, S15), (103, S103), (17, S17), (56, S56), (147, S147), (149, S149), (150, S150), (151, S151), (105, S105), (96, S96), (86, S86), (142, S142), (51, S51), (52, S52), (57, S57), (44, S44), (157, S157), (137, S137), (159, S159), (163, S163), (164, S164), (158, S158), (153, S153), (98, S98), (178, S178), (179, S179), (192, S192), (176, S176), (177, S177), (194, S194), (195, S195), (203, S203), (204, S204), (205, S205), (213, S213)]) (HS := [(152, H152), (138, H138), (140, H140), (107, H107), (155, H155)]) (US := [(50, U50), (91, U91), (49, U49)]) (NS := [(148, N148)]) (j := true) ⟨S85_ok, S34_ok, S93_ok, S92_ok, S42_ok, S43_ok, S40_ok, S82_ok, S13_ok, S15_ok, S103_ok, S17_ok, S56_ok, S147_ok, S149_ok, S150_ok, S151_ok, S105_ok, S96_ok, S86_ok, S142_ok, S51_ok, S52_ok, S57_ok, S44_ok, S157_ok, S137_ok, S159_ok, S163_ok, S164_ok, S158_ok, S153_ok, S98_ok, S178_ok, S179_ok, S192_ok, S176_ok, S177_ok, S194_ok, S195_ok, S203_ok, S204_ok, S205_ok, S213_ok, trivial⟩ ⟨H152_ok, H138_ok, H140_ok, H107_ok, H155_ok, trivial⟩ ⟨U50_ok, U91_ok, U49_ok, trivial⟩ ⟨N148_ok, trivial⟩) 30 21 [.agg [.int .i64 (.sym a0_0.val), .int .i64 (.sym a0_1.val), .int .i64 (.sym a0_2.val), .int .i64 (.sym a0_3.val), .int .i64 (.sym a0_4.val), .int .i64 (.sym a0_5.val), .int .i64 (.sym a0_6.val), .bool (.sym a0_7.val)], .agg [.int .i64 (.sym a1_0.val), .int .i64 (.sym a1_1.val), .int .i64 (.sym a1_2.val)], .int .i64 (.sym a2.val)] vs (symifyL_rel _ _ (SArels_v (xs := [.agg [.int .i64 a0_0, .int .i64 a0_1, .int .i64 a0_2, .int .i64 a0_3, .int .i64 a0_4, .int .i64 a0_5, .int .i64 a0_6, .bool a0_7], .agg [.int .i64 a1_0, .int .i64 a1_1, .int .i64 a1_2], .int .i64 a2]) hv)) (by kernel_rfl) rfl (ev a0_0.val a0_1.val a0_2.val a0_3.val a0_4.val a0_5.val a0_6.val a0_7.val a1_0.val a1_1.val a1_2.val a2.val) w
  · cases h
end Go.Proofs.YtmnglkcodbecbaaGreat
