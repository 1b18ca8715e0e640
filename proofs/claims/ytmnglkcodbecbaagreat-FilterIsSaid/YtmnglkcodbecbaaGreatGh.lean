/- What each function computes, by the executor: printed by a program (wip/sx2/Gen3.lean). -/
import Derived.Test.YtmnglkcodbecbaaGreatGg
namespace Go.Proofs.YtmnglkcodbecbaaGreat
open Go Go.Sx
set_option maxRecDepth 1000000
set_option maxHeartbeats 100000000
/-- outrigger/quat.Small -/
noncomputable def f92 (a0_0 : Int) (a0_1 : Int) (a0_2 : Int) : Int × Int × Int × Int × Bool := let x1 : Int × Int × Int × Int × Bool := f93 f40.fst (f96 a0_0 2147483648).fst (f96 a0_1 2147483648).fst (f96 a0_2 2147483648).fst; let x2 : Int × Int × Int × Bool := x1.snd; let x3 : Int × Int × Bool := x2.snd; let x4 : Int × Bool := x3.snd; (x1.fst, x2.fst, x3.fst, x4.fst, (f96 a0_0 2147483648).snd || (f96 a0_1 2147483648).snd || (f96 a0_2 2147483648).snd || x4.snd)
noncomputable def g92 (p : Int × Int × Int × Int × Bool) : SV := .tuple [.agg [.int .i64 (.sym p.1), .int .i64 (.sym p.2.1), .int .i64 (.sym p.2.2.1), .int .i64 (.sym p.2.2.2.1)], .bool (.sym p.2.2.2.2)]
noncomputable def S92 : Summ
  | [.v (.agg [.int .i64 a0_0, .int .i64 a0_1, .int .i64 a0_2])] => some (g92 (f92 a0_0.val a0_1.val a0_2.val))
  | _ => none
theorem S92_ok : SummFn Go.Proofs.Tryz.prog 92 S92 := by
  have ev : ∀ (a0_0 : Int) (a0_1 : Int) (a0_2 : Int), (symCall ⟨Go.Proofs.Tryz.prog, [(34, S34), (93, S93), (40, S40), (82, S82), (105, S105), (96, S96), (142, S142), (157, S157), (137, S137), (159, S159), (163, S163), (164, S164), (158, S158), (153, S153), (178, S178), (179, S179), (192, S192), (176, S176), (177, S177), (194, S194), (195, S195), (203, S203), (204, S204), (205, S205), (213, S213)], 3, 215, true, [(152, H152), (138, H138), (140, H140), (107, H107), (155, H155)], [], []⟩ 30 92 [.agg [.int .i64 (.sym a0_0), .int .i64 (.sym a0_1), .int .i64 (.sym a0_2)]] []).out = ((g92 (f92 a0_0 a0_1 a0_2)).toV) := by
    intro a0_0 a0_1 a0_2
    kernel_rfl
  intro fs r h w vs hv
  unfold S92 at h
  split at h
  · rename_i a0_0 a0_1 a0_2
    cases h
    exact sx_calls (envOkU' (S := [(34, S34), (93, S93), (40, S40), (82, S82), (105, S105), (96, S96), (142, S142), (157, S157), (137, S137), (159, S159), (163, S163), (164, S164), (158, S158), (153, S153), (178, S178), (179, S179), (192, S192), (176, S176), (177, S177), (194, S194), (195, S195), (203, S203), (204, S204), (205, S205), (213, S213)]) (HS := [(152, H152), (138, H138), (140, H140), (107, H107), (155, H155)]) (US := []) (NS := []) (j := true) ⟨S34_ok, S93_ok, S40_ok, S82_ok, S105_ok, S96_ok, S142_ok, S157_ok, S137_ok, S159_ok, S163_ok, S164_ok, S158_ok, S153_ok, S178_ok, S179_ok, S192_ok, S176_ok, S177_ok, S194_ok, S195_ok, S203_ok, S204_ok, S205_ok, S213_ok, trivial⟩ ⟨H152_ok, H138_ok, H140_ok, H107_ok, H155_ok, trivial⟩ trivial trivial) 30 92 [.agg [.int .i64 (.sym a0_0.val), .int .i64 (.sym a0_1.val), .int .i64 (.sym a0_2.val)]] vs (symifyL_rel _ _ (SArels_v (xs := [.agg [.int .i64 a0_0, .int .i64 a0_1, .int .i64 a0_2]]) hv)) (by kernel_rfl) rfl (ev a0_0.val a0_1.val a0_2.val) w
  · cases h
/-- outrigger/quat.Rotate -/
noncomputable def f42 (a0_0 : Int) (a0_1 : Int) (a0_2 : Int) (a0_3 : Int) (a1_0 : Int) (a1_1 : Int) (a1_2 : Int) : Int × Int × Int × Bool := let x1 : Int × Int × Int × Int × Bool := f85 a0_0 a0_1 a0_2 a0_3 0 a1_0 a1_1 a1_2; let x2 : Int × Int × Int × Bool := x1.snd; let x3 : Int × Int × Bool := x2.snd; let x4 : Int × Bool := x3.snd; let x5 : Int × Int × Int := (f43 a0_0 a0_1 a0_2 a0_3).snd; let x6 : Int × Int := x5.snd; let x7 : Int × Int × Int × Bool := (f85 x1.fst x2.fst x3.fst x4.fst (f43 a0_0 a0_1 a0_2 a0_3).fst x5.fst x6.fst x6.snd).snd; let x8 : Int × Int × Bool := x7.snd; let x9 : Int × Bool := x8.snd; (x7.fst, x8.fst, x9.fst, x4.snd || x9.snd)
noncomputable def g42 (p : Int × Int × Int × Bool) : SV := .tuple [.agg [.int .i64 (.sym p.1), .int .i64 (.sym p.2.1), .int .i64 (.sym p.2.2.1)], .bool (.sym p.2.2.2)]
noncomputable def S42 : Summ
  | [.v (.agg [.int .i64 a0_0, .int .i64 a0_1, .int .i64 a0_2, .int .i64 a0_3]), .v (.agg [.int .i64 a1_0, .int .i64 a1_1, .int .i64 a1_2])] => some (g42 (f42 a0_0.val a0_1.val a0_2.val a0_3.val a1_0.val a1_1.val a1_2.val))
  | _ => none
theorem S42_ok : SummFn Go.Proofs.Tryz.prog 42 S42 := by
  have ev : ∀ (a0_0 : Int) (a0_1 : Int) (a0_2 : Int) (a0_3 : Int) (a1_0 : Int) (a1_1 : Int) (a1_2 : Int), (symCall ⟨Go.Proofs.Tryz.prog, [(85, S85), (43, S43), (82, S82), (147, S147), (149, S149), (150, S150), (151, S151), (86, S86), (142, S142), (157, S157), (163, S163), (158, S158), (153, S153), (178, S178), (179, S179), (192, S192), (176, S176), (194, S194), (195, S195), (203, S203)], 3, 215, true, [(152, H152), (138, H138), (140, H140), (107, H107), (155, H155)], [], [(148, N148)]⟩ 30 42 [.agg [.int .i64 (.sym a0_0), .int .i64 (.sym a0_1), .int .i64 (.sym a0_2), .int .i64 (.sym a0_3)], .agg [.int .i64 (.sym a1_0), .int .i64 (.sym a1_1), .int .i64 (.sym a1_2)]] []).out = ((g42 (f42 a0_0 a0_1 a0_2 a0_3 a1_0 a1_1 a1_2)).toV) := by
    intro a0_0 a0_1 a0_2 a0_3 a1_0 a1_1 a1_2
    kernel_rfl
  intro fs r h w vs hv
  unfold S42 at h
  split at h
  · rename_i a0_0 a0_1 a0_2 a0_3 a1_0 a1_1 a1_2
    cases h
    exact sx_calls (envOkU' (S := [(85, S85), (43, S43), (82, S82), (147, S147), (149, S149), (150, S150), (151, S151), (86, S86), (142, S142), (157, S157), (163, S163), (158, S158), (153, S153), (178, S178), (179, S179), (192, S192), (176, S176), (194, S194), (195, S195), (203, S203)]) (HS := [(152, H152), (138, H138), (140, H140), (107, H107), (155, H155)]) (US := []) (NS := [(148, N148)]) (j := true) ⟨S85_ok, S43_ok, S82_ok, S147_ok, S149_ok, S150_ok, S151_ok, S86_ok, S142_ok, S157_ok, S163_ok, S158_ok, S153_ok, S178_ok, S179_ok, S192_ok, S176_ok, S194_ok, S195_ok, S203_ok, trivial⟩ ⟨H152_ok, H138_ok, H140_ok, H107_ok, H155_ok, trivial⟩ trivial ⟨N148_ok, trivial⟩) 30 42 [.agg [.int .i64 (.sym a0_0.val), .int .i64 (.sym a0_1.val), .int .i64 (.sym a0_2.val), .int .i64 (.sym a0_3.val)], .agg [.int .i64 (.sym a1_0.val), .int .i64 (.sym a1_1.val), .int .i64 (.sym a1_2.val)]] vs (symifyL_rel _ _ (SArels_v (xs := [.agg [.int .i64 a0_0, .int .i64 a0_1, .int .i64 a0_2, .int .i64 a0_3], .agg [.int .i64 a1_0, .int .i64 a1_1, .int .i64 a1_2]]) hv)) (by kernel_rfl) rfl (ev a0_0.val a0_1.val a0_2.val a0_3.val a1_0.val a1_1.val a1_2.val) w
  · cases h
end Go.Proofs.YtmnglkcodbecbaaGreat
