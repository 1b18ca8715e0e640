/- What each function computes, by the executor: printed by a program (wip/sx2/Gen3.lean). -/
import Derived.Test.YtdchdajjhofmnaaGreatGh
import Derived.Test.YtdchdajjhofmnaaGreatUa
import Derived.Test.YtdchdajjhofmnaaGreatNa
namespace Go.Proofs.YtdchdajjhofmnaaGreat
open Go Go.Sx
set_option linter.unusedVariables false
set_option linter.unusedSimpArgs false
set_option maxRecDepth 1000000
set_option maxHeartbeats 100000000
noncomputable def f13 (I0 I1 I2 I3 I4 I5 I6 : Int) (I7 : Bool) : Bool := let x1 := (f140 I0 I1 I2 I3).fst; let x2 := IntKind.i64.wrap (0 + 1); let x3 := bif (f99 I4).snd then 0 else bif (f99 I5).snd then x2 else bif (f99 I6).snd then IntKind.i64.wrap (x2 + 1) else -1; !(f140 I0 I1 I2 I3).snd && decide (x1 ≥ 4294967040) && decide (x1 ≤ 4294967552) && !decide (x3 ≥ 0)
noncomputable def g13 (p : Bool) : SV := bv p
noncomputable def S13 : Summ
 | [.v (.agg [.int .i64 I0, .int .i64 I1, .int .i64 I2, .int .i64 I3, .int .i64 I4, .int .i64 I5, .int .i64 I6, .bool I7])] => some (g13 (f13 I0.val I1.val I2.val I3.val I4.val I5.val I6.val I7.val))
 | _ => none
theorem S13_ok : SummFn Go.Proofs.Tryz.prog 93 S13 := by
 have ev : ∀ (I0 I1 I2 I3 I4 I5 I6 : Int) (I7 : Bool), (symCall ⟨Go.Proofs.Tryz.prog, [(140, S140), (99, S99), (149, S149), (231, S231), (303, S303), (259, S259), (257, S257), (284, S284), (285, S285), (282, S282), (283, S283), (302, S302), (304, S304), (317, S317), (184, S184), (185, S185), (229, S229)], 3, 336, true, [(254, H254), (232, H232), (234, H234), (255, H255), (215, H215)], [], [], []⟩ 30 93 [.agg [iv I0, iv I1, iv I2, iv I3, iv I4, iv I5, iv I6, bv I7]] []).out = ((g13 (f13 I0 I1 I2 I3 I4 I5 I6 I7)).toV) := by
  intro I0 I1 I2 I3 I4 I5 I6 I7
  kernel_rfl
 intro fs r h w vs hv
 unfold S13 at h
 split at h
 ·rename_i I0 I1 I2 I3 I4 I5 I6 I7
  cases h
  refine sx_calls ?_ 30 93 _ vs (symifyL_rel _ _ (SArels_v (xs := [.agg [.int .i64 I0, .int .i64 I1, .int .i64 I2, .int .i64 I3, .int .i64 I4, .int .i64 I5, .int .i64 I6, .bool I7]]) hv)) (by kernel_rfl) rfl (ev I0.val I1.val I2.val I3.val I4.val I5.val I6.val I7.val) w
  exact envOkU' ⟨S140_ok, S99_ok, S149_ok, S231_ok, S303_ok, S259_ok, S257_ok, S284_ok, S285_ok, S282_ok, S283_ok, S302_ok, S304_ok, S317_ok, S184_ok, S185_ok, S229_ok, trivial⟩ ⟨H254_ok, H232_ok, H234_ok, H255_ok, H215_ok, trivial⟩ trivial trivial
 ·cases h
noncomputable def f52 : Int × Int × Int × Int × Int × Int × Int × Bool := let x1 := f98.snd; let x2 := x1.snd; (f98.fst, x1.fst, x2.fst, x2.snd, 0, 0, 0, false)
noncomputable def g52 (p : Int × Int × Int × Int × Int × Int × Int × Bool) : SV := .agg [iv p.1, iv p.2.1, iv p.2.2.1, iv p.2.2.2.1, iv p.2.2.2.2.1, iv p.2.2.2.2.2.1, iv p.2.2.2.2.2.2.1, bv p.2.2.2.2.2.2.2]
noncomputable def S52 : Summ
 | [] => some (g52 (f52))
 | _ => none
theorem S52_ok : SummFn Go.Proofs.Tryz.prog 52 S52 := by
 have ev : (symCall ⟨Go.Proofs.Tryz.prog, [(98, S98)], 3, 336, true, [], [], [], []⟩ 30 52 [] []).out = ((g52 (f52)).toV) := by
  kernel_rfl
 intro fs r h w vs hv
 unfold S52 at h
 split at h
 ·cases h
  refine sx_calls ?_ 30 52 _ vs (symifyL_rel _ _ (SArels_v (xs := []) hv)) (by kernel_rfl) rfl (ev) w
  exact envOkU' ⟨S98_ok, trivial⟩ trivial trivial trivial
 ·cases h
noncomputable def f305 (I0 I1 I2 I3 I4 I5 I6 : Int) (I7 : Bool) : Int × Int × Int × Int × Int × Int × Int × Bool := let x1 := f13 I0 I1 I2 I3 I4 I5 I6 I7; let x2 := f52.snd; let x3 := x2.snd; let x4 := x3.snd; let x5 := x4.snd; let x6 := x5.snd; (bif x1 then I0 else f52.fst, bif x1 then I1 else x2.fst, bif x1 then I2 else x3.fst, bif x1 then I3 else x4.fst, bif x1 then I4 else x5.fst, bif x1 then I5 else x6.fst, bif x1 then I6 else x6.snd.fst, !x1 || I7)
noncomputable def g305 (p : Int × Int × Int × Int × Int × Int × Int × Bool) : SV := .agg [iv p.1, iv p.2.1, iv p.2.2.1, iv p.2.2.2.1, iv p.2.2.2.2.1, iv p.2.2.2.2.2.1, iv p.2.2.2.2.2.2.1, bv p.2.2.2.2.2.2.2]
noncomputable def S305 : Summ
 | [.v (.agg [.int .i64 I0, .int .i64 I1, .int .i64 I2, .int .i64 I3, .int .i64 I4, .int .i64 I5, .int .i64 I6, .bool I7])] => some (g305 (f305 I0.val I1.val I2.val I3.val I4.val I5.val I6.val I7.val))
 | _ => none
theorem S305_ok : SummFn Go.Proofs.Tryz.prog 305 S305 := by
 have ev : ∀ (I0 I1 I2 I3 I4 I5 I6 : Int) (I7 : Bool), (symCall ⟨Go.Proofs.Tryz.prog, [(140, S140), (98, S98), (99, S99), (93, S13), (52, S52), (149, S149), (231, S231), (303, S303), (259, S259), (257, S257), (284, S284), (285, S285), (282, S282), (283, S283), (302, S302), (304, S304), (317, S317), (184, S184), (185, S185), (229, S229)], 3, 336, true, [(254, H254), (232, H232), (234, H234), (255, H255), (215, H215)], [], [], []⟩ 30 305 [.agg [iv I0, iv I1, iv I2, iv I3, iv I4, iv I5, iv I6, bv I7]] []).out = ((g305 (f305 I0 I1 I2 I3 I4 I5 I6 I7)).toV) := by
  intro I0 I1 I2 I3 I4 I5 I6 I7
  kernel_rfl
 intro fs r h w vs hv
 unfold S305 at h
 split at h
 ·rename_i I0 I1 I2 I3 I4 I5 I6 I7
  cases h
  refine sx_calls ?_ 30 305 _ vs (symifyL_rel _ _ (SArels_v (xs := [.agg [.int .i64 I0, .int .i64 I1, .int .i64 I2, .int .i64 I3, .int .i64 I4, .int .i64 I5, .int .i64 I6, .bool I7]]) hv)) (by kernel_rfl) rfl (ev I0.val I1.val I2.val I3.val I4.val I5.val I6.val I7.val) w
  exact envOkU' ⟨S140_ok, S98_ok, S99_ok, S13_ok, S52_ok, S149_ok, S231_ok, S303_ok, S259_ok, S257_ok, S284_ok, S285_ok, S282_ok, S283_ok, S302_ok, S304_ok, S317_ok, S184_ok, S185_ok, S229_ok, trivial⟩ ⟨H254_ok, H232_ok, H234_ok, H255_ok, H215_ok, trivial⟩ trivial trivial
 ·cases h
noncomputable def f197 (I0 I1 I2 a1 : Int) : Int × Int × Int × Bool := ((f206 I0 a1).fst, (f206 I1 a1).fst, (f206 I2 a1).fst, (f206 I0 a1).snd || (f206 I1 a1).snd || (f206 I2 a1).snd)
noncomputable def g197 (p : Int × Int × Int × Bool) : SV := .tuple [.agg [iv p.1, iv p.2.1, iv p.2.2.1], bv p.2.2.2]
noncomputable def S197 : Summ
 | [.v (.agg [.int .i64 I0, .int .i64 I1, .int .i64 I2]), .v (.int .i64 a1)] => some (g197 (f197 I0.val I1.val I2.val a1.val))
 | _ => none
theorem S197_ok : SummFn Go.Proofs.Tryz.prog 197 S197 := by
 have ev : ∀ (I0 I1 I2 a1 : Int), (symCall ⟨Go.Proofs.Tryz.prog, [(99, S99), (206, S206), (149, S149), (258, S258), (260, S260), (303, S303), (259, S259), (257, S257), (284, S284), (285, S285), (300, S300), (282, S282), (302, S302), (304, S304), (317, S317)], 3, 336, true, [], [], [], []⟩ 30 197 [.agg [iv I0, iv I1, iv I2], iv a1] []).out = ((g197 (f197 I0 I1 I2 a1)).toV) := by
  intro I0 I1 I2 a1
  kernel_rfl
 intro fs r h w vs hv
 unfold S197 at h
 split at h
 ·rename_i I0 I1 I2 a1
  cases h
  refine sx_calls ?_ 30 197 _ vs (symifyL_rel _ _ (SArels_v (xs := [.agg [.int .i64 I0, .int .i64 I1, .int .i64 I2], .int .i64 a1]) hv)) (by kernel_rfl) rfl (ev I0.val I1.val I2.val a1.val) w
  exact envOkU' ⟨S99_ok, S206_ok, S149_ok, S258_ok, S260_ok, S303_ok, S259_ok, S257_ok, S284_ok, S285_ok, S300_ok, S282_ok, S302_ok, S304_ok, S317_ok, trivial⟩ trivial trivial trivial
 ·cases h
noncomputable def f152 (I0 I1 I2 Z0 Z1 Z2 : Int) : Int × Int × Int × Bool := ((f204 I0 Z0).fst, (f204 I1 Z1).fst, (f204 I2 Z2).fst, (f204 I0 Z0).snd || (f204 I1 Z1).snd || (f204 I2 Z2).snd)
noncomputable def g152 (p : Int × Int × Int × Bool) : SV := .tuple [.agg [iv p.1, iv p.2.1, iv p.2.2.1], bv p.2.2.2]
noncomputable def S152 : Summ
 | [.v (.agg [.int .i64 I0, .int .i64 I1, .int .i64 I2]), .v (.agg [.int .i64 Z0, .int .i64 Z1, .int .i64 Z2])] => some (g152 (f152 I0.val I1.val I2.val Z0.val Z1.val Z2.val))
 | _ => none
theorem S152_ok : SummFn Go.Proofs.Tryz.prog 152 S152 := by
 have ev : ∀ (I0 I1 I2 Z0 Z1 Z2 : Int), (symCall ⟨Go.Proofs.Tryz.prog, [(99, S99), (149, S149), (257, S257), (204, S204)], 3, 336, true, [], [], [], []⟩ 30 152 [.agg [iv I0, iv I1, iv I2], .agg [iv Z0, iv Z1, iv Z2]] []).out = ((g152 (f152 I0 I1 I2 Z0 Z1 Z2)).toV) := by
  intro I0 I1 I2 Z0 Z1 Z2
  kernel_rfl
 intro fs r h w vs hv
 unfold S152 at h
 split at h
 ·rename_i I0 I1 I2 Z0 Z1 Z2
  cases h
  refine sx_calls ?_ 30 152 _ vs (symifyL_rel _ _ (SArels_v (xs := [.agg [.int .i64 I0, .int .i64 I1, .int .i64 I2], .agg [.int .i64 Z0, .int .i64 Z1, .int .i64 Z2]]) hv)) (by kernel_rfl) rfl (ev I0.val I1.val I2.val Z0.val Z1.val Z2.val) w
  exact envOkU' ⟨S99_ok, S149_ok, S257_ok, S204_ok, trivial⟩ trivial trivial trivial
 ·cases h
noncomputable def f208 (I0 I1 I2 I3 I4 I5 I6 : Int) (I7 : Bool) (Z0 Z1 Z2 a2 : Int) : Int × Int × Int × Int × Int × Int × Int × Bool := let x1 := IntKind.i64.wrap (0 + 1); let x2 := bif (f99 Z0).snd then 0 else bif (f99 Z1).snd then x1 else bif (f99 Z2).snd then IntKind.i64.wrap (x1 + 1) else -1; let x3 := !!decide (x2 ≥ 0) || decide (a2 < 0) || decide (a2 > 68719476736); let x4 := f305 I0 I1 I2 I3 I4 I5 I6 I7; let x5 := x4.fst; let x6 := x4.snd; let x7 := x6.fst; let x8 := x6.snd; let x9 := x8.fst; let x10 := x8.snd; let x11 := x10.fst; let x12 := x10.snd; let x13 := x12.fst; let x14 := x12.snd; let x15 := x14.fst; let x16 := x14.snd; let x17 := x16.fst; let x18 := f152 Z0 Z1 Z2 x13 x15 x17; let x19 := x18.snd; let x20 := x19.snd; let x21 := f197 x18.fst x19.fst x20.fst a2; let x22 := x21.snd; let x23 := x22.snd; let x24 := f308 x21.fst x22.fst x23.fst; let x25 := x24.snd; let x26 := x25.snd; let x27 := x26.snd; let x28 := f200 x5 x7 x9 x11 x24.fst x25.fst x26.fst x27.fst; let x29 := x28.snd; let x30 := x29.snd; let x31 := x30.snd; let x32 := f309 x28.fst x29.fst x30.fst x31.fst; let x33 := x32.snd; let x34 := x33.snd; let x35 := x34.snd; (bif x3 then x5 else x32.fst, bif x3 then x7 else x33.fst, bif x3 then x9 else x34.fst, bif x3 then x11 else x35.fst, bif x3 then x13 else x13, bif x3 then x15 else x15, bif x3 then x17 else x17, x3 || (x16.snd || x20.snd || x23.snd || x27.snd || x31.snd || x35.snd))
noncomputable def g208 (p : Int × Int × Int × Int × Int × Int × Int × Bool) : SV := .agg [iv p.1, iv p.2.1, iv p.2.2.1, iv p.2.2.2.1, iv p.2.2.2.2.1, iv p.2.2.2.2.2.1, iv p.2.2.2.2.2.2.1, bv p.2.2.2.2.2.2.2]
noncomputable def S208 : Summ
 | [.v (.agg [.int .i64 I0, .int .i64 I1, .int .i64 I2, .int .i64 I3, .int .i64 I4, .int .i64 I5, .int .i64 I6, .bool I7]), .v (.agg [.int .i64 Z0, .int .i64 Z1, .int .i64 Z2]), .v (.int .i64 a2)] => some (g208 (f208 I0.val I1.val I2.val I3.val I4.val I5.val I6.val I7.val Z0.val Z1.val Z2.val a2.val))
 | _ => none
theorem S208_ok : SummFn Go.Proofs.Tryz.prog 208 S208 := by
 have ev : ∀ (I0 I1 I2 I3 I4 I5 I6 : Int) (I7 : Bool) (Z0 Z1 Z2 a2 : Int), (symCall ⟨Go.Proofs.Tryz.prog, [(200, S200), (140, S140), (309, S309), (308, S308), (98, S98), (99, S99), (93, S13), (52, S52), (249, S249), (251, S251), (252, S252), (253, S253), (312, S312), (206, S206), (256, S256), (149, S149), (197, S197), (152, S152), (305, S305), (258, S258), (231, S231), (260, S260), (303, S303), (326, S326), (259, S259), (257, S257), (204, S204), (284, S284), (285, S285), (300, S300), (282, S282), (283, S283), (302, S302), (304, S304), (317, S317), (184, S184), (185, S185), (229, S229)], 3, 336, true, [(254, H254), (232, H232), (234, H234), (255, H255), (215, H215)], [(263, U263), (307, U307), (262, U262)], [(250, N250)], []⟩ 30 208 [.agg [iv I0, iv I1, iv I2, iv I3, iv I4, iv I5, iv I6, bv I7], .agg [iv Z0, iv Z1, iv Z2], iv a2] []).out = ((g208 (f208 I0 I1 I2 I3 I4 I5 I6 I7 Z0 Z1 Z2 a2)).toV) := by
  intro I0 I1 I2 I3 I4 I5 I6 I7 Z0 Z1 Z2 a2
  kernel_rfl
 intro fs r h w vs hv
 unfold S208 at h
 split at h
 ·rename_i I0 I1 I2 I3 I4 I5 I6 I7 Z0 Z1 Z2 a2
  cases h
  refine sx_calls ?_ 30 208 _ vs (symifyL_rel _ _ (SArels_v (xs := [.agg [.int .i64 I0, .int .i64 I1, .int .i64 I2, .int .i64 I3, .int .i64 I4, .int .i64 I5, .int .i64 I6, .bool I7], .agg [.int .i64 Z0, .int .i64 Z1, .int .i64 Z2], .int .i64 a2]) hv)) (by kernel_rfl) rfl (ev I0.val I1.val I2.val I3.val I4.val I5.val I6.val I7.val Z0.val Z1.val Z2.val a2.val) w
  exact envOkU' ⟨S200_ok, S140_ok, S309_ok, S308_ok, S98_ok, S99_ok, S13_ok, S52_ok, S249_ok, S251_ok, S252_ok, S253_ok, S312_ok, S206_ok, S256_ok, S149_ok, S197_ok, S152_ok, S305_ok, S258_ok, S231_ok, S260_ok, S303_ok, S326_ok, S259_ok, S257_ok, S204_ok, S284_ok, S285_ok, S300_ok, S282_ok, S283_ok, S302_ok, S304_ok, S317_ok, S184_ok, S185_ok, S229_ok, trivial⟩ ⟨H254_ok, H232_ok, H234_ok, H255_ok, H215_ok, trivial⟩ ⟨U263_ok, U307_ok, U262_ok, trivial⟩ ⟨N250_ok, trivial⟩
 ·cases h
noncomputable def f266 (I0 I1 I2 I3 I4 I5 I6 : Int) (I7 : Bool) : Int × Int × Int := let x1 := f305 I0 I1 I2 I3 I4 I5 I6 I7; let x2 := x1.snd; let x3 := x2.snd; let x4 := f201 x1.fst x2.fst x3.fst x3.snd.fst; let x5 := x4.snd; let x6 := x5.snd; let x7 := f151 x4.fst x5.fst x6.fst x6.snd 0 0 4294967296; let x8 := x7.snd; (x7.fst, x8.fst, x8.snd.fst)
noncomputable def g266 (p : Int × Int × Int) : SV := .agg [iv p.1, iv p.2.1, iv p.2.2]
noncomputable def S266 : Summ
 | [.v (.agg [.int .i64 I0, .int .i64 I1, .int .i64 I2, .int .i64 I3, .int .i64 I4, .int .i64 I5, .int .i64 I6, .bool I7])] => some (g266 (f266 I0.val I1.val I2.val I3.val I4.val I5.val I6.val I7.val))
 | _ => none
theorem S266_ok : SummFn Go.Proofs.Tryz.prog 266 S266 := by
 have ev : ∀ (I0 I1 I2 I3 I4 I5 I6 : Int) (I7 : Bool), (symCall ⟨Go.Proofs.Tryz.prog, [(200, S200), (140, S140), (151, S151), (201, S201), (98, S98), (99, S99), (93, S13), (52, S52), (249, S249), (251, S251), (252, S252), (253, S253), (256, S256), (149, S149), (305, S305), (258, S258), (231, S231), (303, S303), (259, S259), (257, S257), (284, S284), (285, S285), (300, S300), (282, S282), (283, S283), (302, S302), (304, S304), (317, S317), (184, S184), (185, S185), (229, S229)], 3, 336, true, [(254, H254), (232, H232), (234, H234), (255, H255), (215, H215)], [], [(250, N250)], []⟩ 30 266 [.agg [iv I0, iv I1, iv I2, iv I3, iv I4, iv I5, iv I6, bv I7]] []).out = ((g266 (f266 I0 I1 I2 I3 I4 I5 I6 I7)).toV) := by
  intro I0 I1 I2 I3 I4 I5 I6 I7
  kernel_rfl
 intro fs r h w vs hv
 unfold S266 at h
 split at h
 ·rename_i I0 I1 I2 I3 I4 I5 I6 I7
  cases h
  refine sx_calls ?_ 30 266 _ vs (symifyL_rel _ _ (SArels_v (xs := [.agg [.int .i64 I0, .int .i64 I1, .int .i64 I2, .int .i64 I3, .int .i64 I4, .int .i64 I5, .int .i64 I6, .bool I7]]) hv)) (by kernel_rfl) rfl (ev I0.val I1.val I2.val I3.val I4.val I5.val I6.val I7.val) w
  exact envOkU' ⟨S200_ok, S140_ok, S151_ok, S201_ok, S98_ok, S99_ok, S13_ok, S52_ok, S249_ok, S251_ok, S252_ok, S253_ok, S256_ok, S149_ok, S305_ok, S258_ok, S231_ok, S303_ok, S259_ok, S257_ok, S284_ok, S285_ok, S300_ok, S282_ok, S283_ok, S302_ok, S304_ok, S317_ok, S184_ok, S185_ok, S229_ok, trivial⟩ ⟨H254_ok, H232_ok, H234_ok, H255_ok, H215_ok, trivial⟩ trivial ⟨N250_ok, trivial⟩
 ·cases h
noncomputable def f310 (I0 I1 I2 : Int) : Int × Bool := let x1 := addL [((f259 I0 I0).fst, (f259 I0 I0).snd), ((f259 I1 I1).fst, (f259 I1 I1).snd), ((f259 I2 I2).fst, (f259 I2 I2).snd)]; let x2 := f231 x1.fst x1.snd; (x2.fst, x2.snd || anyB [(f99 I0).snd, (f99 I1).snd, (f99 I2).snd])
noncomputable def g310 (p : Int × Bool) : SV := .tuple [iv p.1, bv p.2]
noncomputable def S310 : Summ
 | [.v (.agg [.int .i64 I0, .int .i64 I1, .int .i64 I2])] => some (g310 (f310 I0.val I1.val I2.val))
 | _ => none
theorem S310_ok : SummFn Go.Proofs.Tryz.prog 310 S310 := by
 have ev : ∀ (I0 I1 I2 : Int), (symCall ⟨Go.Proofs.Tryz.prog, [(99, S99), (149, S149), (231, S231), (303, S303), (259, S259), (257, S257), (284, S284), (285, S285), (282, S282), (283, S283), (302, S302), (304, S304), (317, S317), (184, S184), (185, S185), (229, S229)], 3, 336, true, [(254, H254), (232, H232), (234, H234), (255, H255), (215, H215)], [], [], []⟩ 30 310 [.agg [iv I0, iv I1, iv I2]] []).out = ((g310 (f310 I0 I1 I2)).toV) := by
  intro I0 I1 I2
  kernel_rfl
 intro fs r h w vs hv
 unfold S310 at h
 split at h
 ·rename_i I0 I1 I2
  cases h
  refine sx_calls ?_ 30 310 _ vs (symifyL_rel _ _ (SArels_v (xs := [.agg [.int .i64 I0, .int .i64 I1, .int .i64 I2]]) hv)) (by kernel_rfl) rfl (ev I0.val I1.val I2.val) w
  exact envOkU' ⟨S99_ok, S149_ok, S231_ok, S303_ok, S259_ok, S257_ok, S284_ok, S285_ok, S282_ok, S283_ok, S302_ok, S304_ok, S317_ok, S184_ok, S185_ok, S229_ok, trivial⟩ ⟨H254_ok, H232_ok, H234_ok, H255_ok, H215_ok, trivial⟩ trivial trivial
 ·cases h
noncomputable def f264 (I0 I1 I2 : Int) : Int × Int × Int × Bool := let x1 := (f310 I0 I1 I2).fst == 0; let x2 := f312 I0 (f310 I0 I1 I2).fst; let x3 := f312 I1 (f310 I0 I1 I2).fst; let x4 := f312 I2 (f310 I0 I1 I2).fst; (bif x1 then 0 else x2.fst, bif x1 then 0 else x3.fst, bif x1 then 0 else x4.fst, x1 || ((f310 I0 I1 I2).snd || (x2.snd || x3.snd || x4.snd)))
noncomputable def g264 (p : Int × Int × Int × Bool) : SV := .tuple [.agg [iv p.1, iv p.2.1, iv p.2.2.1], bv p.2.2.2]
noncomputable def S264 : Summ
 | [.v (.agg [.int .i64 I0, .int .i64 I1, .int .i64 I2])] => some (g264 (f264 I0.val I1.val I2.val))
 | _ => none
theorem S264_ok : SummFn Go.Proofs.Tryz.prog 264 S264 := by
 have ev : ∀ (I0 I1 I2 : Int), (symCall ⟨Go.Proofs.Tryz.prog, [(99, S99), (310, S310), (312, S312), (149, S149), (231, S231), (260, S260), (303, S303), (326, S326), (259, S259), (257, S257), (284, S284), (285, S285), (282, S282), (283, S283), (302, S302), (304, S304), (317, S317), (184, S184), (185, S185), (229, S229)], 3, 336, true, [(254, H254), (232, H232), (234, H234), (255, H255), (215, H215)], [], [], []⟩ 30 264 [.agg [iv I0, iv I1, iv I2]] []).out = ((g264 (f264 I0 I1 I2)).toV) := by
  intro I0 I1 I2
  kernel_rfl
 intro fs r h w vs hv
 unfold S264 at h
 split at h
 ·rename_i I0 I1 I2
  cases h
  refine sx_calls ?_ 30 264 _ vs (symifyL_rel _ _ (SArels_v (xs := [.agg [.int .i64 I0, .int .i64 I1, .int .i64 I2]]) hv)) (by kernel_rfl) rfl (ev I0.val I1.val I2.val) w
  exact envOkU' ⟨S99_ok, S310_ok, S312_ok, S149_ok, S231_ok, S260_ok, S303_ok, S326_ok, S259_ok, S257_ok, S284_ok, S285_ok, S282_ok, S283_ok, S302_ok, S304_ok, S317_ok, S184_ok, S185_ok, S229_ok, trivial⟩ ⟨H254_ok, H232_ok, H234_ok, H255_ok, H215_ok, trivial⟩ trivial trivial
 ·cases h
noncomputable def f265 (I0 I1 I2 Z0 Z1 Z2 : Int) : Int × Int × Int × Bool := let x1 := addL [((f259 I1 Z2).fst, (f259 I1 Z2).snd), ((f259 I2 (f256 Z1)).fst, (f259 I2 (f256 Z1)).snd)]; let x2 := f258 x1.fst x1.snd; let x3 := addL [((f259 I2 Z0).fst, (f259 I2 Z0).snd), ((f259 I0 (f256 Z2)).fst, (f259 I0 (f256 Z2)).snd)]; let x4 := f258 x3.fst x3.snd; let x5 := addL [((f259 I0 Z1).fst, (f259 I0 Z1).snd), ((f259 I1 (f256 Z0)).fst, (f259 I1 (f256 Z0)).snd)]; let x6 := f258 x5.fst x5.snd; (x2.fst, x4.fst, x6.fst, (f99 Z1).snd || (x2.snd || anyB [(f99 I1).snd, (f99 I2).snd] || anyB [(f99 Z2).snd, (f99 (f256 Z1)).snd]) || ((f99 Z2).snd || (x4.snd || anyB [(f99 I2).snd, (f99 I0).snd] || anyB [(f99 Z0).snd, (f99 (f256 Z2)).snd])) || ((f99 Z0).snd || (x6.snd || anyB [(f99 I0).snd, (f99 I1).snd] || anyB [(f99 Z1).snd, (f99 (f256 Z0)).snd])))
noncomputable def g265 (p : Int × Int × Int × Bool) : SV := .tuple [.agg [iv p.1, iv p.2.1, iv p.2.2.1], bv p.2.2.2]
noncomputable def S265 : Summ
 | [.v (.agg [.int .i64 I0, .int .i64 I1, .int .i64 I2]), .v (.agg [.int .i64 Z0, .int .i64 Z1, .int .i64 Z2])] => some (g265 (f265 I0.val I1.val I2.val Z0.val Z1.val Z2.val))
 | _ => none
theorem S265_ok : SummFn Go.Proofs.Tryz.prog 265 S265 := by
 have ev : ∀ (I0 I1 I2 Z0 Z1 Z2 : Int), (symCall ⟨Go.Proofs.Tryz.prog, [(99, S99), (256, S256), (149, S149), (258, S258), (303, S303), (259, S259), (257, S257), (284, S284), (285, S285), (300, S300), (282, S282), (302, S302), (304, S304), (317, S317)], 3, 336, true, [(254, H254), (232, H232), (234, H234), (255, H255), (215, H215)], [], [], []⟩ 30 265 [.agg [iv I0, iv I1, iv I2], .agg [iv Z0, iv Z1, iv Z2]] []).out = ((g265 (f265 I0 I1 I2 Z0 Z1 Z2)).toV) := by
  intro I0 I1 I2 Z0 Z1 Z2
  kernel_rfl
 intro fs r h w vs hv
 unfold S265 at h
 split at h
 ·rename_i I0 I1 I2 Z0 Z1 Z2
  cases h
  refine sx_calls ?_ 30 265 _ vs (symifyL_rel _ _ (SArels_v (xs := [.agg [.int .i64 I0, .int .i64 I1, .int .i64 I2], .agg [.int .i64 Z0, .int .i64 Z1, .int .i64 Z2]]) hv)) (by kernel_rfl) rfl (ev I0.val I1.val I2.val Z0.val Z1.val Z2.val) w
  exact envOkU' ⟨S99_ok, S256_ok, S149_ok, S258_ok, S303_ok, S259_ok, S257_ok, S284_ok, S285_ok, S300_ok, S282_ok, S302_ok, S304_ok, S317_ok, trivial⟩ ⟨H254_ok, H232_ok, H234_ok, H255_ok, H215_ok, trivial⟩ trivial trivial
 ·cases h
noncomputable def f209 (I0 I1 I2 I3 I4 I5 I6 : Int) (I7 : Bool) (Z0 Z1 Z2 a2 : Int) : Int × Int × Int × Int × Int × Int × Int × Bool := let x1 := IntKind.i64.wrap (0 + 1); let x2 := bif (f99 Z0).snd then 0 else bif (f99 Z1).snd then x1 else bif (f99 Z2).snd then IntKind.i64.wrap (x1 + 1) else -1; let x3 := !!decide (x2 ≥ 0) || decide (a2 < 0) || decide (a2 > 4294967296); let x4 := f305 I0 I1 I2 I3 I4 I5 I6 I7; let x5 := x4.fst; let x6 := (f264 Z0 Z1 Z2).snd; let x7 := x6.snd; let x8 := x7.snd; let x9 := x4.snd; let x10 := x9.fst; let x11 := x9.snd; let x12 := x11.fst; let x13 := x11.snd; let x14 := x13.fst; let x15 := x13.snd; let x16 := x15.fst; let x17 := x15.snd; let x18 := x17.fst; let x19 := x17.snd; let x20 := x19.fst; let x21 := x19.snd; let x22 := f266 x5 x10 x12 x14 x16 x18 x20 x21; let x23 := x22.snd; let x24 := f265 (f264 Z0 Z1 Z2).fst x6.fst x7.fst x22.fst x23.fst x23.snd; let x25 := x24.snd; let x26 := x25.snd; let x27 := f197 x24.fst x25.fst x26.fst a2; let x28 := x27.fst; let x29 := x27.snd; let x30 := x29.fst; let x31 := x29.snd; let x32 := x31.fst; let x33 := f308 x28 x30 x32; let x34 := x33.snd; let x35 := x34.snd; let x36 := x35.snd; let x37 := f200 x5 x10 x12 x14 x33.fst x34.fst x35.fst x36.fst; let x38 := x37.snd; let x39 := x38.snd; let x40 := x39.snd; let x41 := f309 x37.fst x38.fst x39.fst x40.fst; let x42 := x41.snd; let x43 := x42.snd; let x44 := x43.snd; let x45 := f197 x28 x30 x32 268435456; let x46 := x45.snd; let x47 := x46.snd; let x48 := f152 x16 x18 x20 x45.fst x46.fst x47.fst; let x49 := x48.snd; let x50 := x49.snd; (bif x3 then x5 else bif x8 then x5 else x41.fst, bif x3 then x10 else bif x8 then x10 else x42.fst, bif x3 then x12 else bif x8 then x12 else x43.fst, bif x3 then x14 else bif x8 then x14 else x44.fst, bif x3 then x16 else bif x8 then x16 else x48.fst, bif x3 then x18 else bif x8 then x18 else x49.fst, bif x3 then x20 else bif x8 then x20 else x50.fst, x3 || bif x8 then x21 else x21 || x26.snd || x31.snd || x47.snd || x50.snd || x36.snd || x40.snd || x44.snd)
noncomputable def g209 (p : Int × Int × Int × Int × Int × Int × Int × Bool) : SV := .agg [iv p.1, iv p.2.1, iv p.2.2.1, iv p.2.2.2.1, iv p.2.2.2.2.1, iv p.2.2.2.2.2.1, iv p.2.2.2.2.2.2.1, bv p.2.2.2.2.2.2.2]
noncomputable def S209 : Summ
 | [.v (.agg [.int .i64 I0, .int .i64 I1, .int .i64 I2, .int .i64 I3, .int .i64 I4, .int .i64 I5, .int .i64 I6, .bool I7]), .v (.agg [.int .i64 Z0, .int .i64 Z1, .int .i64 Z2]), .v (.int .i64 a2)] => some (g209 (f209 I0.val I1.val I2.val I3.val I4.val I5.val I6.val I7.val Z0.val Z1.val Z2.val a2.val))
 | _ => none
theorem S209_ok : SummFn Go.Proofs.Tryz.prog 209 S209 := by
 have ev : ∀ (I0 I1 I2 I3 I4 I5 I6 : Int) (I7 : Bool) (Z0 Z1 Z2 a2 : Int), (symCall ⟨Go.Proofs.Tryz.prog, [(200, S200), (140, S140), (309, S309), (308, S308), (151, S151), (201, S201), (98, S98), (99, S99), (93, S13), (52, S52), (310, S310), (266, S266), (264, S264), (249, S249), (251, S251), (252, S252), (253, S253), (312, S312), (206, S206), (256, S256), (149, S149), (197, S197), (152, S152), (265, S265), (305, S305), (258, S258), (231, S231), (260, S260), (303, S303), (326, S326), (259, S259), (257, S257), (204, S204), (284, S284), (285, S285), (300, S300), (282, S282), (283, S283), (302, S302), (304, S304), (317, S317), (184, S184), (185, S185), (229, S229)], 3, 336, true, [(254, H254), (232, H232), (234, H234), (255, H255), (215, H215)], [(263, U263), (307, U307), (262, U262)], [(250, N250)], []⟩ 30 209 [.agg [iv I0, iv I1, iv I2, iv I3, iv I4, iv I5, iv I6, bv I7], .agg [iv Z0, iv Z1, iv Z2], iv a2] []).out = ((g209 (f209 I0 I1 I2 I3 I4 I5 I6 I7 Z0 Z1 Z2 a2)).toV) := by
  intro I0 I1 I2 I3 I4 I5 I6 I7 Z0 Z1 Z2 a2
  kernel_rfl
 intro fs r h w vs hv
 unfold S209 at h
 split at h
 ·rename_i I0 I1 I2 I3 I4 I5 I6 I7 Z0 Z1 Z2 a2
  cases h
  refine sx_calls ?_ 30 209 _ vs (symifyL_rel _ _ (SArels_v (xs := [.agg [.int .i64 I0, .int .i64 I1, .int .i64 I2, .int .i64 I3, .int .i64 I4, .int .i64 I5, .int .i64 I6, .bool I7], .agg [.int .i64 Z0, .int .i64 Z1, .int .i64 Z2], .int .i64 a2]) hv)) (by kernel_rfl) rfl (ev I0.val I1.val I2.val I3.val I4.val I5.val I6.val I7.val Z0.val Z1.val Z2.val a2.val) w
  exact envOkU' ⟨S200_ok, S140_ok, S309_ok, S308_ok, S151_ok, S201_ok, S98_ok, S99_ok, S13_ok, S52_ok, S310_ok, S266_ok, S264_ok, S249_ok, S251_ok, S252_ok, S253_ok, S312_ok, S206_ok, S256_ok, S149_ok, S197_ok, S152_ok, S265_ok, S305_ok, S258_ok, S231_ok, S260_ok, S303_ok, S326_ok, S259_ok, S257_ok, S204_ok, S284_ok, S285_ok, S300_ok, S282_ok, S283_ok, S302_ok, S304_ok, S317_ok, S184_ok, S185_ok, S229_ok, trivial⟩ ⟨H254_ok, H232_ok, H234_ok, H255_ok, H215_ok, trivial⟩ ⟨U263_ok, U307_ok, U262_ok, trivial⟩ ⟨N250_ok, trivial⟩
 ·cases h
end Go.Proofs.YtdchdajjhofmnaaGreat
