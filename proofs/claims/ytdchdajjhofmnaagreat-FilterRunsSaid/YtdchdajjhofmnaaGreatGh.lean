/- What each function computes, by the executor: printed by a program (wip/sx2/Gen3.lean). -/
import Derived.Test.YtdchdajjhofmnaaGreatGg
namespace Go.Proofs.YtdchdajjhofmnaaGreat
open Go Go.Sx
set_option maxRecDepth 1000000
set_option maxHeartbeats 100000000
noncomputable def f308 (I0 I1 I2 : Int) : Int × Int × Int × Int × Bool := let x1 := f309 f98.fst (f206 I0 2147483648).fst (f206 I1 2147483648).fst (f206 I2 2147483648).fst; let x2 := x1.snd; let x3 := x2.snd; let x4 := x3.snd; (x1.fst, x2.fst, x3.fst, x4.fst, (f206 I0 2147483648).snd || (f206 I1 2147483648).snd || (f206 I2 2147483648).snd || x4.snd)
noncomputable def g308 (p : Int × Int × Int × Int × Bool) : SV := .tuple [.agg [iv p.1, iv p.2.1, iv p.2.2.1, iv p.2.2.2.1], bv p.2.2.2.2]
noncomputable def S308 : Summ
 | [.v (.agg [.int .i64 I0, .int .i64 I1, .int .i64 I2])] => some (g308 (f308 I0.val I1.val I2.val))
 | _ => none
theorem S308_ok : SummFn Go.Proofs.Tryz.prog 308 S308 := by
 have ev : ∀ (I0 I1 I2 : Int), (symCall ⟨Go.Proofs.Tryz.prog, [(140, S140), (309, S309), (98, S98), (99, S99), (312, S312), (206, S206), (149, S149), (258, S258), (231, S231), (260, S260), (303, S303), (326, S326), (259, S259), (257, S257), (284, S284), (285, S285), (300, S300), (282, S282), (283, S283), (302, S302), (304, S304), (317, S317), (184, S184), (185, S185), (229, S229)], 3, 336, true, [(254, H254), (232, H232), (234, H234), (255, H255), (215, H215)], [], [], []⟩ 30 308 [.agg [iv I0, iv I1, iv I2]] []).out = ((g308 (f308 I0 I1 I2)).toV) := by
  intro I0 I1 I2
  kernel_rfl
 intro fs r h w vs hv
 unfold S308 at h
 split at h
 ·rename_i I0 I1 I2
  cases h
  refine sx_calls ?_ 30 308 _ vs (symifyL_rel _ _ (SArels_v (xs := [.agg [.int .i64 I0, .int .i64 I1, .int .i64 I2]]) hv)) (by kernel_rfl) rfl (ev I0.val I1.val I2.val) w
  exact envOkU' ⟨S140_ok, S309_ok, S98_ok, S99_ok, S312_ok, S206_ok, S149_ok, S258_ok, S231_ok, S260_ok, S303_ok, S326_ok, S259_ok, S257_ok, S284_ok, S285_ok, S300_ok, S282_ok, S283_ok, S302_ok, S304_ok, S317_ok, S184_ok, S185_ok, S229_ok, trivial⟩ ⟨H254_ok, H232_ok, H234_ok, H255_ok, H215_ok, trivial⟩ trivial trivial
 ·cases h
noncomputable def f151 (I0 I1 I2 I3 Z0 Z1 Z2 : Int) : Int × Int × Int × Bool := let x1 := f200 I0 I1 I2 I3 0 Z0 Z1 Z2; let x2 := x1.snd; let x3 := x2.snd; let x4 := x3.snd; let x5 := (f201 I0 I1 I2 I3).snd; let x6 := x5.snd; let x7 := (f200 x1.fst x2.fst x3.fst x4.fst (f201 I0 I1 I2 I3).fst x5.fst x6.fst x6.snd).snd; let x8 := x7.snd; let x9 := x8.snd; (x7.fst, x8.fst, x9.fst, x4.snd || x9.snd)
noncomputable def g151 (p : Int × Int × Int × Bool) : SV := .tuple [.agg [iv p.1, iv p.2.1, iv p.2.2.1], bv p.2.2.2]
noncomputable def S151 : Summ
 | [.v (.agg [.int .i64 I0, .int .i64 I1, .int .i64 I2, .int .i64 I3]), .v (.agg [.int .i64 Z0, .int .i64 Z1, .int .i64 Z2])] => some (g151 (f151 I0.val I1.val I2.val I3.val Z0.val Z1.val Z2.val))
 | _ => none
theorem S151_ok : SummFn Go.Proofs.Tryz.prog 151 S151 := by
 have ev : ∀ (I0 I1 I2 I3 Z0 Z1 Z2 : Int), (symCall ⟨Go.Proofs.Tryz.prog, [(200, S200), (201, S201), (99, S99), (249, S249), (251, S251), (252, S252), (253, S253), (256, S256), (149, S149), (258, S258), (303, S303), (259, S259), (257, S257), (284, S284), (285, S285), (300, S300), (282, S282), (302, S302), (304, S304), (317, S317)], 3, 336, true, [(254, H254), (232, H232), (234, H234), (255, H255), (215, H215)], [], [(250, N250)], []⟩ 30 151 [.agg [iv I0, iv I1, iv I2, iv I3], .agg [iv Z0, iv Z1, iv Z2]] []).out = ((g151 (f151 I0 I1 I2 I3 Z0 Z1 Z2)).toV) := by
  intro I0 I1 I2 I3 Z0 Z1 Z2
  kernel_rfl
 intro fs r h w vs hv
 unfold S151 at h
 split at h
 ·rename_i I0 I1 I2 I3 Z0 Z1 Z2
  cases h
  refine sx_calls ?_ 30 151 _ vs (symifyL_rel _ _ (SArels_v (xs := [.agg [.int .i64 I0, .int .i64 I1, .int .i64 I2, .int .i64 I3], .agg [.int .i64 Z0, .int .i64 Z1, .int .i64 Z2]]) hv)) (by kernel_rfl) rfl (ev I0.val I1.val I2.val I3.val Z0.val Z1.val Z2.val) w
  exact envOkU' ⟨S200_ok, S201_ok, S99_ok, S249_ok, S251_ok, S252_ok, S253_ok, S256_ok, S149_ok, S258_ok, S303_ok, S259_ok, S257_ok, S284_ok, S285_ok, S300_ok, S282_ok, S302_ok, S304_ok, S317_ok, trivial⟩ ⟨H254_ok, H232_ok, H234_ok, H255_ok, H215_ok, trivial⟩ trivial ⟨N250_ok, trivial⟩
 ·cases h
end Go.Proofs.YtdchdajjhofmnaaGreat
