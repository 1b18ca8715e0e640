/- What each function computes, by the executor: printed by a program (wip/sx2/Gen3.lean). -/
import Derived.Test.YtdchdajjhofmnaaGreatGk
import Derived.Test.YtdchdajjhofmnaaGreatGj
namespace Go.Proofs.YtdchdajjhofmnaaGreat
open Go Go.Sx
set_option linter.unusedVariables false
set_option linter.unusedSimpArgs false
set_option maxRecDepth 1000000
set_option maxHeartbeats 100000000
noncomputable def f218 (a0 : Int) : Bool := !(f182 a0).snd
noncomputable def g218 (p : Bool) : SV := bv p
noncomputable def S218 : Summ
 | [.v (.int .i64 a0)] => some (g218 (f218 a0.val))
 | _ => none
theorem S218_ok : SummFn Go.Proofs.Tryz.prog 218 S218 := by
 have ev : ∀ (a0 : Int), (symCall ⟨Go.Proofs.Tryz.prog, [(182, S182)], 3, 336, true, [], [], [], []⟩ 30 218 [iv a0] []).out = ((g218 (f218 a0)).toV) := by
  intro a0
  kernel_rfl
 intro fs r h w vs hv
 unfold S218 at h
 split at h
 ·rename_i a0
  cases h
  refine sx_calls ?_ 30 218 _ vs (symifyL_rel _ _ (SArels_v (xs := [.int .i64 a0]) hv)) (by kernel_rfl) rfl (ev a0.val) w
  exact envOkU' ⟨S182_ok, trivial⟩ trivial trivial trivial
 ·cases h
noncomputable def f172 (I0 I1 I2 : Int) : Bool := f218 I0 && f218 I1 && f218 I2
noncomputable def g172 (p : Bool) : SV := bv p
noncomputable def S172 : Summ
 | [.v (.agg [.int .i64 I0, .int .i64 I1, .int .i64 I2])] => some (g172 (f172 I0.val I1.val I2.val))
 | _ => none
theorem S172_ok : SummFn Go.Proofs.Tryz.prog 172 S172 := by
 have ev : ∀ (I0 I1 I2 : Int), (symCall ⟨Go.Proofs.Tryz.prog, [(218, S218), (182, S182)], 3, 336, true, [], [], [], []⟩ 30 172 [.agg [iv I0, iv I1, iv I2]] []).out = ((g172 (f172 I0 I1 I2)).toV) := by
  intro I0 I1 I2
  kernel_rfl
 intro fs r h w vs hv
 unfold S172 at h
 split at h
 ·rename_i I0 I1 I2
  cases h
  refine sx_calls ?_ 30 172 _ vs (symifyL_rel _ _ (SArels_v (xs := [.agg [.int .i64 I0, .int .i64 I1, .int .i64 I2]]) hv)) (by kernel_rfl) rfl (ev I0.val I1.val I2.val) w
  exact envOkU' ⟨S218_ok, S182_ok, trivial⟩ trivial trivial trivial
 ·cases h
noncomputable def f14 (I0 I1 I2 I3 I4 I5 I6 : Int) (I7 : Bool) : Bool := let x1 := (f183 I0 I1 I2 I3).fst; f172 I4 I5 I6 && !(f183 I0 I1 I2 I3).snd && decide (x1 ≥ 4294967040) && decide (x1 ≤ 4294967552)
noncomputable def g14 (p : Bool) : SV := bv p
noncomputable def S14 : Summ
 | [.v (.agg [.int .i64 I0, .int .i64 I1, .int .i64 I2, .int .i64 I3, .int .i64 I4, .int .i64 I5, .int .i64 I6, .bool I7])] => some (g14 (f14 I0.val I1.val I2.val I3.val I4.val I5.val I6.val I7.val))
 | _ => none
theorem S14_ok : SummFn Go.Proofs.Tryz.prog 128 S14 := by
 have ev : ∀ (I0 I1 I2 I3 I4 I5 I6 : Int) (I7 : Bool), (symCall ⟨Go.Proofs.Tryz.prog, [(183, S183), (172, S172), (218, S218), (114, S114), (180, S180), (224, S224), (182, S182), (225, S225), (273, S273), (274, S274), (275, S275), (276, S276), (278, S278), (279, S279)], 3, 336, true, [], [], [], []⟩ 30 128 [.agg [iv I0, iv I1, iv I2, iv I3, iv I4, iv I5, iv I6, bv I7]] []).out = ((g14 (f14 I0 I1 I2 I3 I4 I5 I6 I7)).toV) := by
  intro I0 I1 I2 I3 I4 I5 I6 I7
  kernel_rfl
 intro fs r h w vs hv
 unfold S14 at h
 split at h
 ·rename_i I0 I1 I2 I3 I4 I5 I6 I7
  cases h
  refine sx_calls ?_ 30 128 _ vs (symifyL_rel _ _ (SArels_v (xs := [.agg [.int .i64 I0, .int .i64 I1, .int .i64 I2, .int .i64 I3, .int .i64 I4, .int .i64 I5, .int .i64 I6, .bool I7]]) hv)) (by kernel_rfl) rfl (ev I0.val I1.val I2.val I3.val I4.val I5.val I6.val I7.val) w
  exact envOkU' ⟨S183_ok, S172_ok, S218_ok, S114_ok, S180_ok, S224_ok, S182_ok, S225_ok, S273_ok, S274_ok, S275_ok, S276_ok, S278_ok, S279_ok, trivial⟩ trivial trivial trivial
 ·cases h
noncomputable def f63 : Int × Int × Int × Int × Int × Int × Int × Bool := let x1 := f116.snd; let x2 := x1.snd; (f116.fst, x1.fst, x2.fst, x2.snd, 0, 0, 0, false)
noncomputable def g63 (p : Int × Int × Int × Int × Int × Int × Int × Bool) : SV := .agg [iv p.1, iv p.2.1, iv p.2.2.1, iv p.2.2.2.1, iv p.2.2.2.2.1, iv p.2.2.2.2.2.1, iv p.2.2.2.2.2.2.1, bv p.2.2.2.2.2.2.2]
noncomputable def S63 : Summ
 | [] => some (g63 (f63))
 | _ => none
theorem S63_ok : SummFn Go.Proofs.Tryz.prog 63 S63 := by
 have ev : (symCall ⟨Go.Proofs.Tryz.prog, [(116, S116)], 3, 336, true, [], [], [], []⟩ 30 63 [] []).out = ((g63 (f63)).toV) := by
  kernel_rfl
 intro fs r h w vs hv
 unfold S63 at h
 split at h
 ·cases h
  refine sx_calls ?_ 30 63 _ vs (symifyL_rel _ _ (SArels_v (xs := []) hv)) (by kernel_rfl) rfl (ev) w
  exact envOkU' ⟨S116_ok, trivial⟩ trivial trivial trivial
 ·cases h
noncomputable def f171 (I0 I1 I2 I3 I4 I5 I6 : Int) (I7 : Bool) : Int × Int × Int × Int × Int × Int × Int × Bool := let x1 := !f14 I0 I1 I2 I3 I4 I5 I6 I7; let x2 := f116.snd; let x3 := x2.snd; (bif x1 then f116.fst else I0, bif x1 then x2.fst else I1, bif x1 then x3.fst else I2, bif x1 then x3.snd else I3, bif x1 then 0 else I4, bif x1 then 0 else I5, bif x1 then 0 else I6, x1 || I7)
noncomputable def g171 (p : Int × Int × Int × Int × Int × Int × Int × Bool) : SV := .agg [iv p.1, iv p.2.1, iv p.2.2.1, iv p.2.2.2.1, iv p.2.2.2.2.1, iv p.2.2.2.2.2.1, iv p.2.2.2.2.2.2.1, bv p.2.2.2.2.2.2.2]
noncomputable def S171 : Summ
 | [.v (.agg [.int .i64 I0, .int .i64 I1, .int .i64 I2, .int .i64 I3, .int .i64 I4, .int .i64 I5, .int .i64 I6, .bool I7])] => some (g171 (f171 I0.val I1.val I2.val I3.val I4.val I5.val I6.val I7.val))
 | _ => none
theorem S171_ok : SummFn Go.Proofs.Tryz.prog 171 S171 := by
 have ev : ∀ (I0 I1 I2 I3 I4 I5 I6 : Int) (I7 : Bool), (symCall ⟨Go.Proofs.Tryz.prog, [(128, S14), (183, S183), (172, S172), (116, S116), (218, S218), (114, S114), (180, S180), (224, S224), (182, S182), (225, S225), (273, S273), (274, S274), (275, S275), (276, S276), (278, S278), (279, S279)], 3, 336, true, [], [], [], []⟩ 30 171 [.agg [iv I0, iv I1, iv I2, iv I3, iv I4, iv I5, iv I6, bv I7]] []).out = ((g171 (f171 I0 I1 I2 I3 I4 I5 I6 I7)).toV) := by
  intro I0 I1 I2 I3 I4 I5 I6 I7
  kernel_rfl
 intro fs r h w vs hv
 unfold S171 at h
 split at h
 ·rename_i I0 I1 I2 I3 I4 I5 I6 I7
  cases h
  refine sx_calls ?_ 30 171 _ vs (symifyL_rel _ _ (SArels_v (xs := [.agg [.int .i64 I0, .int .i64 I1, .int .i64 I2, .int .i64 I3, .int .i64 I4, .int .i64 I5, .int .i64 I6, .bool I7]]) hv)) (by kernel_rfl) rfl (ev I0.val I1.val I2.val I3.val I4.val I5.val I6.val I7.val) w
  exact envOkU' ⟨S14_ok, S183_ok, S172_ok, S116_ok, S218_ok, S114_ok, S180_ok, S224_ok, S182_ok, S225_ok, S273_ok, S274_ok, S275_ok, S276_ok, S278_ok, S279_ok, trivial⟩ trivial trivial trivial
 ·cases h
noncomputable def f176 (I0 I1 I2 I3 I4 I5 I6 : Int) (I7 : Bool) : Int × Int × Int := let x1 := f171 I0 I1 I2 I3 I4 I5 I6 I7; let x2 := x1.snd; let x3 := x2.snd; let x4 := f165 x1.fst x2.fst x3.fst x3.snd.fst; let x5 := x4.snd; let x6 := x5.snd; let x7 := f107 x4.fst x5.fst x6.fst x6.snd 0 0 4294967296; let x8 := x7.snd; (x7.fst, x8.fst, x8.snd.fst)
noncomputable def g176 (p : Int × Int × Int) : SV := .agg [iv p.1, iv p.2.1, iv p.2.2]
noncomputable def S176 : Summ
 | [.v (.agg [.int .i64 I0, .int .i64 I1, .int .i64 I2, .int .i64 I3, .int .i64 I4, .int .i64 I5, .int .i64 I6, .bool I7])] => some (g176 (f176 I0.val I1.val I2.val I3.val I4.val I5.val I6.val I7.val))
 | _ => none
theorem S176_ok : SummFn Go.Proofs.Tryz.prog 176 S176 := by
 have ev : ∀ (I0 I1 I2 I3 I4 I5 I6 : Int) (I7 : Bool), (symCall ⟨Go.Proofs.Tryz.prog, [(128, S14), (183, S183), (172, S172), (116, S116), (107, S107), (165, S165), (171, S171), (218, S218), (164, S164), (114, S114), (213, S213), (180, S180), (224, S224), (182, S182), (214, S214), (268, S268), (226, S226), (225, S225), (273, S273), (274, S274), (275, S275), (276, S276), (278, S278), (280, S280), (281, S281), (279, S279)], 3, 336, true, [(254, H254), (232, H232), (234, H234), (255, H255), (215, H215)], [], [], []⟩ 30 176 [.agg [iv I0, iv I1, iv I2, iv I3, iv I4, iv I5, iv I6, bv I7]] []).out = ((g176 (f176 I0 I1 I2 I3 I4 I5 I6 I7)).toV) := by
  intro I0 I1 I2 I3 I4 I5 I6 I7
  kernel_rfl
 intro fs r h w vs hv
 unfold S176 at h
 split at h
 ·rename_i I0 I1 I2 I3 I4 I5 I6 I7
  cases h
  refine sx_calls ?_ 30 176 _ vs (symifyL_rel _ _ (SArels_v (xs := [.agg [.int .i64 I0, .int .i64 I1, .int .i64 I2, .int .i64 I3, .int .i64 I4, .int .i64 I5, .int .i64 I6, .bool I7]]) hv)) (by kernel_rfl) rfl (ev I0.val I1.val I2.val I3.val I4.val I5.val I6.val I7.val) w
  exact envOkU' ⟨S14_ok, S183_ok, S172_ok, S116_ok, S107_ok, S165_ok, S171_ok, S218_ok, S164_ok, S114_ok, S213_ok, S180_ok, S224_ok, S182_ok, S214_ok, S268_ok, S226_ok, S225_ok, S273_ok, S274_ok, S275_ok, S276_ok, S278_ok, S280_ok, S281_ok, S279_ok, trivial⟩ ⟨H254_ok, H232_ok, H234_ok, H255_ok, H215_ok, trivial⟩ trivial trivial
 ·cases h
noncomputable def f166 (a0 a1 : Int) : Int × Bool := let x1 := f182 (IntKind.i64.wrap ((f182 a0).fst - (f182 a1).fst)); (x1.fst, (f182 a0).snd || (f182 a1).snd || x1.snd)
noncomputable def g166 (p : Int × Bool) : SV := .tuple [iv p.1, bv p.2]
noncomputable def S166 : Summ
 | [.v (.int .i64 a0), .v (.int .i64 a1)] => some (g166 (f166 a0.val a1.val))
 | _ => none
theorem S166_ok : SummFn Go.Proofs.Tryz.prog 166 S166 := by
 have ev : ∀ (a0 a1 : Int), (symCall ⟨Go.Proofs.Tryz.prog, [(182, S182)], 3, 336, true, [], [], [], []⟩ 30 166 [iv a0, iv a1] []).out = ((g166 (f166 a0 a1)).toV) := by
  intro a0 a1
  kernel_rfl
 intro fs r h w vs hv
 unfold S166 at h
 split at h
 ·rename_i a0 a1
  cases h
  refine sx_calls ?_ 30 166 _ vs (symifyL_rel _ _ (SArels_v (xs := [.int .i64 a0, .int .i64 a1]) hv)) (by kernel_rfl) rfl (ev a0.val a1.val) w
  exact envOkU' ⟨S182_ok, trivial⟩ trivial trivial trivial
 ·cases h
noncomputable def f108 (I0 I1 I2 Z0 Z1 Z2 : Int) : Int × Int × Int × Bool := ((f166 I0 Z0).fst, (f166 I1 Z1).fst, (f166 I2 Z2).fst, (f166 I0 Z0).snd || (f166 I1 Z1).snd || (f166 I2 Z2).snd)
noncomputable def g108 (p : Int × Int × Int × Bool) : SV := .tuple [.agg [iv p.1, iv p.2.1, iv p.2.2.1], bv p.2.2.2]
noncomputable def S108 : Summ
 | [.v (.agg [.int .i64 I0, .int .i64 I1, .int .i64 I2]), .v (.agg [.int .i64 Z0, .int .i64 Z1, .int .i64 Z2])] => some (g108 (f108 I0.val I1.val I2.val Z0.val Z1.val Z2.val))
 | _ => none
theorem S108_ok : SummFn Go.Proofs.Tryz.prog 108 S108 := by
 have ev : ∀ (I0 I1 I2 Z0 Z1 Z2 : Int), (symCall ⟨Go.Proofs.Tryz.prog, [(166, S166), (182, S182)], 3, 336, true, [], [], [], []⟩ 30 108 [.agg [iv I0, iv I1, iv I2], .agg [iv Z0, iv Z1, iv Z2]] []).out = ((g108 (f108 I0 I1 I2 Z0 Z1 Z2)).toV) := by
  intro I0 I1 I2 Z0 Z1 Z2
  kernel_rfl
 intro fs r h w vs hv
 unfold S108 at h
 split at h
 ·rename_i I0 I1 I2 Z0 Z1 Z2
  cases h
  refine sx_calls ?_ 30 108 _ vs (symifyL_rel _ _ (SArels_v (xs := [.agg [.int .i64 I0, .int .i64 I1, .int .i64 I2], .agg [.int .i64 Z0, .int .i64 Z1, .int .i64 Z2]]) hv)) (by kernel_rfl) rfl (ev I0.val I1.val I2.val Z0.val Z1.val Z2.val) w
  exact envOkU' ⟨S166_ok, S182_ok, trivial⟩ trivial trivial trivial
 ·cases h
noncomputable def f162 (I0 I1 I2 a1 : Int) : Int × Int × Int × Bool := ((f179 I0 a1).fst, (f179 I1 a1).fst, (f179 I2 a1).fst, (f179 I0 a1).snd || (f179 I1 a1).snd || (f179 I2 a1).snd)
noncomputable def g162 (p : Int × Int × Int × Bool) : SV := .tuple [.agg [iv p.1, iv p.2.1, iv p.2.2.1], bv p.2.2.2]
noncomputable def S162 : Summ
 | [.v (.agg [.int .i64 I0, .int .i64 I1, .int .i64 I2]), .v (.int .i64 a1)] => some (g162 (f162 I0.val I1.val I2.val a1.val))
 | _ => none
theorem S162_ok : SummFn Go.Proofs.Tryz.prog 162 S162 := by
 have ev : ∀ (I0 I1 I2 a1 : Int), (symCall ⟨Go.Proofs.Tryz.prog, [(114, S114), (179, S179), (180, S180), (182, S182), (226, S226), (225, S225), (227, S227), (273, S273), (275, S275), (276, S276), (280, S280), (281, S281), (279, S279)], 3, 336, true, [], [], [], []⟩ 30 162 [.agg [iv I0, iv I1, iv I2], iv a1] []).out = ((g162 (f162 I0 I1 I2 a1)).toV) := by
  intro I0 I1 I2 a1
  kernel_rfl
 intro fs r h w vs hv
 unfold S162 at h
 split at h
 ·rename_i I0 I1 I2 a1
  cases h
  refine sx_calls ?_ 30 162 _ vs (symifyL_rel _ _ (SArels_v (xs := [.agg [.int .i64 I0, .int .i64 I1, .int .i64 I2], .int .i64 a1]) hv)) (by kernel_rfl) rfl (ev I0.val I1.val I2.val a1.val) w
  exact envOkU' ⟨S114_ok, S179_ok, S180_ok, S182_ok, S226_ok, S225_ok, S227_ok, S273_ok, S275_ok, S276_ok, S280_ok, S281_ok, S279_ok, trivial⟩ trivial trivial trivial
 ·cases h
noncomputable def f173 (I0 I1 I2 I3 I4 I5 I6 : Int) (I7 : Bool) (Z0 Z1 Z2 : Int) : Int × Int × Int × Int × Int × Int × Int × Bool := let x1 := (f219 Z0 Z1 Z2).snd; let x2 := x1.snd; let x3 := x2.snd; let x4 := f164 I0 I1 I2 I3 (f219 Z0 Z1 Z2).fst x1.fst x2.fst x3.fst; let x5 := x4.snd; let x6 := x5.snd; let x7 := x6.snd; let x8 := f220 x4.fst x5.fst x6.fst x7.fst; let x9 := x8.snd; let x10 := x9.snd; let x11 := x10.snd; (x8.fst, x9.fst, x10.fst, x11.fst, I4, I5, I6, I7 || x3.snd || x7.snd || x11.snd)
noncomputable def g173 (p : Int × Int × Int × Int × Int × Int × Int × Bool) : SV := .agg [iv p.1, iv p.2.1, iv p.2.2.1, iv p.2.2.2.1, iv p.2.2.2.2.1, iv p.2.2.2.2.2.1, iv p.2.2.2.2.2.2.1, bv p.2.2.2.2.2.2.2]
noncomputable def S173 : Summ
 | [.v (.agg [.int .i64 I0, .int .i64 I1, .int .i64 I2, .int .i64 I3, .int .i64 I4, .int .i64 I5, .int .i64 I6, .bool I7]), .v (.agg [.int .i64 Z0, .int .i64 Z1, .int .i64 Z2])] => some (g173 (f173 I0.val I1.val I2.val I3.val I4.val I5.val I6.val I7.val Z0.val Z1.val Z2.val))
 | _ => none
theorem S173_ok : SummFn Go.Proofs.Tryz.prog 173 S173 := by
 have ev : ∀ (I0 I1 I2 I3 I4 I5 I6 : Int) (I7 : Bool) (Z0 Z1 Z2 : Int), (symCall ⟨Go.Proofs.Tryz.prog, [(183, S183), (116, S116), (164, S164), (114, S114), (213, S213), (179, S179), (219, S219), (220, S220), (222, S222), (180, S180), (224, S224), (182, S182), (214, S214), (268, S268), (226, S226), (225, S225), (227, S227), (272, S272), (273, S273), (274, S274), (275, S275), (276, S276), (278, S278), (280, S280), (281, S281), (279, S279)], 3, 336, true, [(254, H254), (232, H232), (234, H234), (255, H255), (215, H215)], [], [], []⟩ 30 173 [.agg [iv I0, iv I1, iv I2, iv I3, iv I4, iv I5, iv I6, bv I7], .agg [iv Z0, iv Z1, iv Z2]] []).out = ((g173 (f173 I0 I1 I2 I3 I4 I5 I6 I7 Z0 Z1 Z2)).toV) := by
  intro I0 I1 I2 I3 I4 I5 I6 I7 Z0 Z1 Z2
  kernel_rfl
 intro fs r h w vs hv
 unfold S173 at h
 split at h
 ·rename_i I0 I1 I2 I3 I4 I5 I6 I7 Z0 Z1 Z2
  cases h
  refine sx_calls ?_ 30 173 _ vs (symifyL_rel _ _ (SArels_v (xs := [.agg [.int .i64 I0, .int .i64 I1, .int .i64 I2, .int .i64 I3, .int .i64 I4, .int .i64 I5, .int .i64 I6, .bool I7], .agg [.int .i64 Z0, .int .i64 Z1, .int .i64 Z2]]) hv)) (by kernel_rfl) rfl (ev I0.val I1.val I2.val I3.val I4.val I5.val I6.val I7.val Z0.val Z1.val Z2.val) w
  exact envOkU' ⟨S183_ok, S116_ok, S164_ok, S114_ok, S213_ok, S179_ok, S219_ok, S220_ok, S222_ok, S180_ok, S224_ok, S182_ok, S214_ok, S268_ok, S226_ok, S225_ok, S227_ok, S272_ok, S273_ok, S274_ok, S275_ok, S276_ok, S278_ok, S280_ok, S281_ok, S279_ok, trivial⟩ ⟨H254_ok, H232_ok, H234_ok, H255_ok, H215_ok, trivial⟩ trivial trivial
 ·cases h
noncomputable def f110 (I0 I1 I2 I3 I4 I5 I6 : Int) (I7 : Bool) (Z0 Z1 Z2 a2 : Int) : Int × Int × Int × Int × Int × Int × Int × Bool := let x1 := !f172 Z0 Z1 Z2 || decide (a2 < 0) || decide (a2 > 68719476736); let x2 := f171 I0 I1 I2 I3 I4 I5 I6 I7; let x3 := x2.fst; let x4 := x2.snd; let x5 := x4.fst; let x6 := x4.snd; let x7 := x6.fst; let x8 := x6.snd; let x9 := x8.fst; let x10 := x8.snd; let x11 := x10.fst; let x12 := x10.snd; let x13 := x12.fst; let x14 := x12.snd; let x15 := x14.fst; let x16 := f108 Z0 Z1 Z2 x11 x13 x15; let x17 := x16.snd; let x18 := x17.snd; let x19 := f162 x16.fst x17.fst x18.fst a2; let x20 := x19.snd; let x21 := x20.snd; let x22 := f173 x3 x5 x7 x9 x11 x13 x15 (x14.snd || x18.snd || x21.snd) x19.fst x20.fst x21.fst; let x23 := x22.snd; let x24 := x23.snd; let x25 := x24.snd; let x26 := x25.snd; let x27 := x26.snd; let x28 := x27.snd; (bif x1 then x3 else x22.fst, bif x1 then x5 else x23.fst, bif x1 then x7 else x24.fst, bif x1 then x9 else x25.fst, bif x1 then x11 else x26.fst, bif x1 then x13 else x27.fst, bif x1 then x15 else x28.fst, x1 || x28.snd)
noncomputable def g110 (p : Int × Int × Int × Int × Int × Int × Int × Bool) : SV := .agg [iv p.1, iv p.2.1, iv p.2.2.1, iv p.2.2.2.1, iv p.2.2.2.2.1, iv p.2.2.2.2.2.1, iv p.2.2.2.2.2.2.1, bv p.2.2.2.2.2.2.2]
noncomputable def S110 : Summ
 | [.v (.agg [.int .i64 I0, .int .i64 I1, .int .i64 I2, .int .i64 I3, .int .i64 I4, .int .i64 I5, .int .i64 I6, .bool I7]), .v (.agg [.int .i64 Z0, .int .i64 Z1, .int .i64 Z2]), .v (.int .i64 a2)] => some (g110 (f110 I0.val I1.val I2.val I3.val I4.val I5.val I6.val I7.val Z0.val Z1.val Z2.val a2.val))
 | _ => none
theorem S110_ok : SummFn Go.Proofs.Tryz.prog 110 S110 := by
 have ev : ∀ (I0 I1 I2 I3 I4 I5 I6 : Int) (I7 : Bool) (Z0 Z1 Z2 a2 : Int), (symCall ⟨Go.Proofs.Tryz.prog, [(128, S14), (183, S183), (172, S172), (116, S116), (171, S171), (108, S108), (162, S162), (173, S173), (218, S218), (164, S164), (114, S114), (213, S213), (166, S166), (179, S179), (219, S219), (220, S220), (222, S222), (180, S180), (224, S224), (182, S182), (214, S214), (268, S268), (226, S226), (225, S225), (227, S227), (272, S272), (273, S273), (274, S274), (275, S275), (276, S276), (278, S278), (280, S280), (281, S281), (279, S279)], 3, 336, true, [(254, H254), (232, H232), (234, H234), (255, H255), (215, H215)], [], [], []⟩ 30 110 [.agg [iv I0, iv I1, iv I2, iv I3, iv I4, iv I5, iv I6, bv I7], .agg [iv Z0, iv Z1, iv Z2], iv a2] []).out = ((g110 (f110 I0 I1 I2 I3 I4 I5 I6 I7 Z0 Z1 Z2 a2)).toV) := by
  intro I0 I1 I2 I3 I4 I5 I6 I7 Z0 Z1 Z2 a2
  kernel_rfl
 intro fs r h w vs hv
 unfold S110 at h
 split at h
 ·rename_i I0 I1 I2 I3 I4 I5 I6 I7 Z0 Z1 Z2 a2
  cases h
  refine sx_calls ?_ 30 110 _ vs (symifyL_rel _ _ (SArels_v (xs := [.agg [.int .i64 I0, .int .i64 I1, .int .i64 I2, .int .i64 I3, .int .i64 I4, .int .i64 I5, .int .i64 I6, .bool I7], .agg [.int .i64 Z0, .int .i64 Z1, .int .i64 Z2], .int .i64 a2]) hv)) (by kernel_rfl) rfl (ev I0.val I1.val I2.val I3.val I4.val I5.val I6.val I7.val Z0.val Z1.val Z2.val a2.val) w
  exact envOkU' ⟨S14_ok, S183_ok, S172_ok, S116_ok, S171_ok, S108_ok, S162_ok, S173_ok, S218_ok, S164_ok, S114_ok, S213_ok, S166_ok, S179_ok, S219_ok, S220_ok, S222_ok, S180_ok, S224_ok, S182_ok, S214_ok, S268_ok, S226_ok, S225_ok, S227_ok, S272_ok, S273_ok, S274_ok, S275_ok, S276_ok, S278_ok, S280_ok, S281_ok, S279_ok, trivial⟩ ⟨H254_ok, H232_ok, H234_ok, H255_ok, H215_ok, trivial⟩ trivial trivial
 ·cases h
noncomputable def f221 (I0 I1 I2 : Int) : Int × Bool := let x1 := f225 (f182 I0).fst (f182 I0).fst; let x2 := f276 0 0 x1.fst x1.snd; let x3 := f225 (f182 I1).fst (f182 I1).fst; let x4 := f276 x2.fst x2.snd.fst x3.fst x3.snd; let x5 := f225 (f182 I2).fst (f182 I2).fst; let x6 := f276 x4.fst x4.snd.fst x5.fst x5.snd; let x7 := f224 x6.fst x6.snd.fst; (x7.fst, (f182 I0).snd || (f182 I1).snd || (f182 I2).snd || x7.snd)
noncomputable def g221 (p : Int × Bool) : SV := .tuple [iv p.1, bv p.2]
noncomputable def S221 : Summ
 | [.v (.agg [.int .i64 I0, .int .i64 I1, .int .i64 I2])] => some (g221 (f221 I0.val I1.val I2.val))
 | _ => none
theorem S221_ok : SummFn Go.Proofs.Tryz.prog 221 S221 := by
 have ev : ∀ (I0 I1 I2 : Int), (symCall ⟨Go.Proofs.Tryz.prog, [(114, S114), (180, S180), (224, S224), (182, S182), (225, S225), (273, S273), (274, S274), (275, S275), (276, S276), (278, S278), (279, S279)], 3, 336, true, [], [], [], []⟩ 30 221 [.agg [iv I0, iv I1, iv I2]] []).out = ((g221 (f221 I0 I1 I2)).toV) := by
  intro I0 I1 I2
  kernel_rfl
 intro fs r h w vs hv
 unfold S221 at h
 split at h
 ·rename_i I0 I1 I2
  cases h
  refine sx_calls ?_ 30 221 _ vs (symifyL_rel _ _ (SArels_v (xs := [.agg [.int .i64 I0, .int .i64 I1, .int .i64 I2]]) hv)) (by kernel_rfl) rfl (ev I0.val I1.val I2.val) w
  exact envOkU' ⟨S114_ok, S180_ok, S224_ok, S182_ok, S225_ok, S273_ok, S274_ok, S275_ok, S276_ok, S278_ok, S279_ok, trivial⟩ trivial trivial trivial
 ·cases h
noncomputable def f174 (I0 I1 I2 : Int) : Int × Int × Int × Bool := let x1 := (f221 I0 I1 I2).fst == 0; let x2 := f222 I0 (f221 I0 I1 I2).fst; let x3 := f222 I1 (f221 I0 I1 I2).fst; let x4 := f222 I2 (f221 I0 I1 I2).fst; (bif x1 then 0 else x2.fst, bif x1 then 0 else x3.fst, bif x1 then 0 else x4.fst, x1 || ((f221 I0 I1 I2).snd || x2.snd || x3.snd || x4.snd))
noncomputable def g174 (p : Int × Int × Int × Bool) : SV := .tuple [.agg [iv p.1, iv p.2.1, iv p.2.2.1], bv p.2.2.2]
noncomputable def S174 : Summ
 | [.v (.agg [.int .i64 I0, .int .i64 I1, .int .i64 I2])] => some (g174 (f174 I0.val I1.val I2.val))
 | _ => none
theorem S174_ok : SummFn Go.Proofs.Tryz.prog 174 S174 := by
 have ev : ∀ (I0 I1 I2 : Int), (symCall ⟨Go.Proofs.Tryz.prog, [(114, S114), (221, S221), (222, S222), (180, S180), (224, S224), (182, S182), (225, S225), (227, S227), (272, S272), (273, S273), (274, S274), (275, S275), (276, S276), (278, S278), (279, S279)], 3, 336, true, [], [], [], []⟩ 30 174 [.agg [iv I0, iv I1, iv I2]] []).out = ((g174 (f174 I0 I1 I2)).toV) := by
  intro I0 I1 I2
  kernel_rfl
 intro fs r h w vs hv
 unfold S174 at h
 split at h
 ·rename_i I0 I1 I2
  cases h
  refine sx_calls ?_ 30 174 _ vs (symifyL_rel _ _ (SArels_v (xs := [.agg [.int .i64 I0, .int .i64 I1, .int .i64 I2]]) hv)) (by kernel_rfl) rfl (ev I0.val I1.val I2.val) w
  exact envOkU' ⟨S114_ok, S221_ok, S222_ok, S180_ok, S224_ok, S182_ok, S225_ok, S227_ok, S272_ok, S273_ok, S274_ok, S275_ok, S276_ok, S278_ok, S279_ok, trivial⟩ trivial trivial trivial
 ·cases h
noncomputable def f223 (a0 a1 a2 a3 : Int) : Int × Bool := let x1 := f225 (f182 a0).fst (f182 a2).fst; let x2 := f276 0 0 x1.fst x1.snd; let x3 := f225 (f182 a1).fst (f182 (f268 a3)).fst; let x4 := f276 x2.fst x2.snd.fst x3.fst x3.snd; let x5 := f226 x4.fst x4.snd.fst; (x5.fst, (f182 a3).snd || ((f182 a0).snd || (f182 a1).snd || ((f182 a2).snd || (f182 (f268 a3)).snd) || x5.snd))
noncomputable def g223 (p : Int × Bool) : SV := .tuple [iv p.1, bv p.2]
noncomputable def S223 : Summ
 | [.v (.int .i64 a0), .v (.int .i64 a1), .v (.int .i64 a2), .v (.int .i64 a3)] => some (g223 (f223 a0.val a1.val a2.val a3.val))
 | _ => none
theorem S223_ok : SummFn Go.Proofs.Tryz.prog 223 S223 := by
 have ev : ∀ (a0 a1 a2 a3 : Int), (symCall ⟨Go.Proofs.Tryz.prog, [(114, S114), (180, S180), (182, S182), (268, S268), (226, S226), (225, S225), (273, S273), (275, S275), (276, S276), (280, S280), (281, S281), (279, S279)], 3, 336, true, [(254, H254), (232, H232), (234, H234), (255, H255), (215, H215)], [], [], []⟩ 30 223 [iv a0, iv a1, iv a2, iv a3] []).out = ((g223 (f223 a0 a1 a2 a3)).toV) := by
  intro a0 a1 a2 a3
  kernel_rfl
 intro fs r h w vs hv
 unfold S223 at h
 split at h
 ·rename_i a0 a1 a2 a3
  cases h
  refine sx_calls ?_ 30 223 _ vs (symifyL_rel _ _ (SArels_v (xs := [.int .i64 a0, .int .i64 a1, .int .i64 a2, .int .i64 a3]) hv)) (by kernel_rfl) rfl (ev a0.val a1.val a2.val a3.val) w
  exact envOkU' ⟨S114_ok, S180_ok, S182_ok, S268_ok, S226_ok, S225_ok, S273_ok, S275_ok, S276_ok, S280_ok, S281_ok, S279_ok, trivial⟩ ⟨H254_ok, H232_ok, H234_ok, H255_ok, H215_ok, trivial⟩ trivial trivial
 ·cases h
noncomputable def f175 (I0 I1 I2 Z0 Z1 Z2 : Int) : Int × Int × Int × Bool := ((f223 I1 I2 Z2 Z1).fst, (f223 I2 I0 Z0 Z2).fst, (f223 I0 I1 Z1 Z0).fst, (f223 I1 I2 Z2 Z1).snd || (f223 I2 I0 Z0 Z2).snd || (f223 I0 I1 Z1 Z0).snd)
noncomputable def g175 (p : Int × Int × Int × Bool) : SV := .tuple [.agg [iv p.1, iv p.2.1, iv p.2.2.1], bv p.2.2.2]
noncomputable def S175 : Summ
 | [.v (.agg [.int .i64 I0, .int .i64 I1, .int .i64 I2]), .v (.agg [.int .i64 Z0, .int .i64 Z1, .int .i64 Z2])] => some (g175 (f175 I0.val I1.val I2.val Z0.val Z1.val Z2.val))
 | _ => none
theorem S175_ok : SummFn Go.Proofs.Tryz.prog 175 S175 := by
 have ev : ∀ (I0 I1 I2 Z0 Z1 Z2 : Int), (symCall ⟨Go.Proofs.Tryz.prog, [(114, S114), (223, S223), (180, S180), (182, S182), (268, S268), (226, S226), (225, S225), (273, S273), (275, S275), (276, S276), (280, S280), (281, S281), (279, S279)], 3, 336, true, [(254, H254), (232, H232), (234, H234), (255, H255), (215, H215)], [], [], []⟩ 30 175 [.agg [iv I0, iv I1, iv I2], .agg [iv Z0, iv Z1, iv Z2]] []).out = ((g175 (f175 I0 I1 I2 Z0 Z1 Z2)).toV) := by
  intro I0 I1 I2 Z0 Z1 Z2
  kernel_rfl
 intro fs r h w vs hv
 unfold S175 at h
 split at h
 ·rename_i I0 I1 I2 Z0 Z1 Z2
  cases h
  refine sx_calls ?_ 30 175 _ vs (symifyL_rel _ _ (SArels_v (xs := [.agg [.int .i64 I0, .int .i64 I1, .int .i64 I2], .agg [.int .i64 Z0, .int .i64 Z1, .int .i64 Z2]]) hv)) (by kernel_rfl) rfl (ev I0.val I1.val I2.val Z0.val Z1.val Z2.val) w
  exact envOkU' ⟨S114_ok, S223_ok, S180_ok, S182_ok, S268_ok, S226_ok, S225_ok, S273_ok, S275_ok, S276_ok, S280_ok, S281_ok, S279_ok, trivial⟩ ⟨H254_ok, H232_ok, H234_ok, H255_ok, H215_ok, trivial⟩ trivial trivial
 ·cases h
noncomputable def f111 (I0 I1 I2 I3 I4 I5 I6 : Int) (I7 : Bool) (Z0 Z1 Z2 a2 : Int) : Int × Int × Int × Int × Int × Int × Int × Bool := let x1 := !f172 Z0 Z1 Z2 || decide (a2 < 0) || decide (a2 > 4294967296); let x2 := f171 I0 I1 I2 I3 I4 I5 I6 I7; let x3 := x2.fst; let x4 := (f174 Z0 Z1 Z2).snd; let x5 := x4.snd; let x6 := x5.snd; let x7 := x2.snd; let x8 := x7.fst; let x9 := x7.snd; let x10 := x9.fst; let x11 := x9.snd; let x12 := x11.fst; let x13 := x11.snd; let x14 := x13.fst; let x15 := x13.snd; let x16 := x15.fst; let x17 := x15.snd; let x18 := x17.fst; let x19 := x17.snd; let x20 := f176 x3 x8 x10 x12 x14 x16 x18 x19; let x21 := x20.snd; let x22 := f175 (f174 Z0 Z1 Z2).fst x4.fst x5.fst x20.fst x21.fst x21.snd; let x23 := x22.snd; let x24 := x23.snd; let x25 := f162 x22.fst x23.fst x24.fst a2; let x26 := x25.fst; let x27 := x25.snd; let x28 := x27.fst; let x29 := x27.snd; let x30 := x29.fst; let x31 := f173 x3 x8 x10 x12 x14 x16 x18 x19 x26 x28 x30; let x32 := x31.snd; let x33 := x32.snd; let x34 := x33.snd; let x35 := f162 x26 x28 x30 268435456; let x36 := x35.snd; let x37 := x36.snd; let x38 := f108 x14 x16 x18 x35.fst x36.fst x37.fst; let x39 := x38.snd; let x40 := x39.snd; (bif x1 then x3 else bif x6 then x3 else x31.fst, bif x1 then x8 else bif x6 then x8 else x32.fst, bif x1 then x10 else bif x6 then x10 else x33.fst, bif x1 then x12 else bif x6 then x12 else x34.fst, bif x1 then x14 else bif x6 then x14 else x38.fst, bif x1 then x16 else bif x6 then x16 else x39.fst, bif x1 then x18 else bif x6 then x18 else x40.fst, x1 || bif x6 then x19 else x34.snd.snd.snd.snd || x24.snd || x29.snd || x37.snd || x40.snd)
noncomputable def g111 (p : Int × Int × Int × Int × Int × Int × Int × Bool) : SV := .agg [iv p.1, iv p.2.1, iv p.2.2.1, iv p.2.2.2.1, iv p.2.2.2.2.1, iv p.2.2.2.2.2.1, iv p.2.2.2.2.2.2.1, bv p.2.2.2.2.2.2.2]
noncomputable def S111 : Summ
 | [.v (.agg [.int .i64 I0, .int .i64 I1, .int .i64 I2, .int .i64 I3, .int .i64 I4, .int .i64 I5, .int .i64 I6, .bool I7]), .v (.agg [.int .i64 Z0, .int .i64 Z1, .int .i64 Z2]), .v (.int .i64 a2)] => some (g111 (f111 I0.val I1.val I2.val I3.val I4.val I5.val I6.val I7.val Z0.val Z1.val Z2.val a2.val))
 | _ => none
theorem S111_ok : SummFn Go.Proofs.Tryz.prog 111 S111 := by
 have ev : ∀ (I0 I1 I2 I3 I4 I5 I6 : Int) (I7 : Bool) (Z0 Z1 Z2 a2 : Int), (symCall ⟨Go.Proofs.Tryz.prog, [(128, S14), (176, S176), (183, S183), (172, S172), (116, S116), (107, S107), (165, S165), (171, S171), (108, S108), (162, S162), (173, S173), (174, S174), (175, S175), (218, S218), (164, S164), (114, S114), (213, S213), (166, S166), (179, S179), (219, S219), (220, S220), (221, S221), (222, S222), (223, S223), (180, S180), (224, S224), (182, S182), (214, S214), (268, S268), (226, S226), (225, S225), (227, S227), (272, S272), (273, S273), (274, S274), (275, S275), (276, S276), (278, S278), (280, S280), (281, S281), (279, S279)], 3, 336, true, [(254, H254), (232, H232), (234, H234), (255, H255), (215, H215)], [], [], []⟩ 30 111 [.agg [iv I0, iv I1, iv I2, iv I3, iv I4, iv I5, iv I6, bv I7], .agg [iv Z0, iv Z1, iv Z2], iv a2] []).out = ((g111 (f111 I0 I1 I2 I3 I4 I5 I6 I7 Z0 Z1 Z2 a2)).toV) := by
  intro I0 I1 I2 I3 I4 I5 I6 I7 Z0 Z1 Z2 a2
  kernel_rfl
 intro fs r h w vs hv
 unfold S111 at h
 split at h
 ·rename_i I0 I1 I2 I3 I4 I5 I6 I7 Z0 Z1 Z2 a2
  cases h
  refine sx_calls ?_ 30 111 _ vs (symifyL_rel _ _ (SArels_v (xs := [.agg [.int .i64 I0, .int .i64 I1, .int .i64 I2, .int .i64 I3, .int .i64 I4, .int .i64 I5, .int .i64 I6, .bool I7], .agg [.int .i64 Z0, .int .i64 Z1, .int .i64 Z2], .int .i64 a2]) hv)) (by kernel_rfl) rfl (ev I0.val I1.val I2.val I3.val I4.val I5.val I6.val I7.val Z0.val Z1.val Z2.val a2.val) w
  exact envOkU' ⟨S14_ok, S176_ok, S183_ok, S172_ok, S116_ok, S107_ok, S165_ok, S171_ok, S108_ok, S162_ok, S173_ok, S174_ok, S175_ok, S218_ok, S164_ok, S114_ok, S213_ok, S166_ok, S179_ok, S219_ok, S220_ok, S221_ok, S222_ok, S223_ok, S180_ok, S224_ok, S182_ok, S214_ok, S268_ok, S226_ok, S225_ok, S227_ok, S272_ok, S273_ok, S274_ok, S275_ok, S276_ok, S278_ok, S280_ok, S281_ok, S279_ok, trivial⟩ ⟨H254_ok, H232_ok, H234_ok, H255_ok, H215_ok, trivial⟩ trivial trivial
 ·cases h
noncomputable def f138 (a0 : Int) : Bool := !(f99 a0).snd
noncomputable def g138 (p : Bool) : SV := bv p
noncomputable def S138 : Summ
 | [.v (.int .i64 a0)] => some (g138 (f138 a0.val))
 | _ => none
theorem S138_ok : SummFn Go.Proofs.Tryz.prog 138 S138 := by
 have ev : ∀ (a0 : Int), (symCall ⟨Go.Proofs.Tryz.prog, [(99, S99), (149, S149)], 3, 336, true, [], [], [], []⟩ 30 138 [iv a0] []).out = ((g138 (f138 a0)).toV) := by
  intro a0
  kernel_rfl
 intro fs r h w vs hv
 unfold S138 at h
 split at h
 ·rename_i a0
  cases h
  refine sx_calls ?_ 30 138 _ vs (symifyL_rel _ _ (SArels_v (xs := [.int .i64 a0]) hv)) (by kernel_rfl) rfl (ev a0.val) w
  exact envOkU' ⟨S99_ok, S149_ok, trivial⟩ trivial trivial trivial
 ·cases h
noncomputable def f139 (a0 : Int) : Bool := decide (a0 ≥ 4096) && decide (a0 ≤ 4503599627370496)
noncomputable def g139 (p : Bool) : SV := bv p
noncomputable def S139 : Summ
 | [.v (.int .i64 a0)] => some (g139 (f139 a0.val))
 | _ => none
theorem S139_ok : SummFn Go.Proofs.Tryz.prog 139 S139 := by
 have ev : ∀ (a0 : Int), (symCall ⟨Go.Proofs.Tryz.prog, [], 3, 336, true, [], [], [], []⟩ 30 139 [iv a0] []).out = ((g139 (f139 a0)).toV) := by
  intro a0
  kernel_rfl
 intro fs r h w vs hv
 unfold S139 at h
 split at h
 ·rename_i a0
  cases h
  refine sx_calls ?_ 30 139 _ vs (symifyL_rel _ _ (SArels_v (xs := [.int .i64 a0]) hv)) (by kernel_rfl) rfl (ev a0.val) w
  exact envOkU' trivial trivial trivial trivial
 ·cases h
noncomputable def f91 (I0 I1 I2 I3 I4 : Int) (I5 : Bool) : Bool := f138 I0 && f138 I1 && f138 I3 && f139 I2 && f139 I4
noncomputable def g91 (p : Bool) : SV := bv p
noncomputable def S91 : Summ
 | [.v (.agg [.int .i64 I0, .int .i64 I1, .int .i64 I2, .int .i64 I3, .int .i64 I4, .bool I5])] => some (g91 (f91 I0.val I1.val I2.val I3.val I4.val I5.val))
 | _ => none
theorem S91_ok : SummFn Go.Proofs.Tryz.prog 91 S91 := by
 have ev : ∀ (I0 I1 I2 I3 I4 : Int) (I5 : Bool), (symCall ⟨Go.Proofs.Tryz.prog, [(99, S99), (138, S138), (139, S139), (149, S149)], 3, 336, true, [], [], [], []⟩ 30 91 [.agg [iv I0, iv I1, iv I2, iv I3, iv I4, bv I5]] []).out = ((g91 (f91 I0 I1 I2 I3 I4 I5)).toV) := by
  intro I0 I1 I2 I3 I4 I5
  kernel_rfl
 intro fs r h w vs hv
 unfold S91 at h
 split at h
 ·rename_i I0 I1 I2 I3 I4 I5
  cases h
  refine sx_calls ?_ 30 91 _ vs (symifyL_rel _ _ (SArels_v (xs := [.agg [.int .i64 I0, .int .i64 I1, .int .i64 I2, .int .i64 I3, .int .i64 I4, .bool I5]]) hv)) (by kernel_rfl) rfl (ev I0.val I1.val I2.val I3.val I4.val I5.val) w
  exact envOkU' ⟨S99_ok, S138_ok, S139_ok, S149_ok, trivial⟩ trivial trivial trivial
 ·cases h
noncomputable def f92 (a0 : Int) : Bool := decide (a0 ≥ 0) && decide (a0 ≤ 1099511627776)
noncomputable def g92 (p : Bool) : SV := bv p
noncomputable def S92 : Summ
 | [.v (.int .i64 a0)] => some (g92 (f92 a0.val))
 | _ => none
theorem S92_ok : SummFn Go.Proofs.Tryz.prog 92 S92 := by
 have ev : ∀ (a0 : Int), (symCall ⟨Go.Proofs.Tryz.prog, [], 3, 336, true, [], [], [], []⟩ 30 92 [iv a0] []).out = ((g92 (f92 a0)).toV) := by
  intro a0
  kernel_rfl
 intro fs r h w vs hv
 unfold S92 at h
 split at h
 ·rename_i a0
  cases h
  refine sx_calls ?_ 30 92 _ vs (symifyL_rel _ _ (SArels_v (xs := [.int .i64 a0]) hv)) (by kernel_rfl) rfl (ev a0.val) w
  exact envOkU' trivial trivial trivial trivial
 ·cases h
noncomputable def f53 (a0 a1 : Int) : Int × Int × Int × Int × Int × Bool := ((f99 a0).fst, (f99 a1).fst, 17592186044416, 0, 17592186044416, (f99 a0).snd || (f99 a1).snd)
noncomputable def g53 (p : Int × Int × Int × Int × Int × Bool) : SV := .agg [iv p.1, iv p.2.1, iv p.2.2.1, iv p.2.2.2.1, iv p.2.2.2.2.1, bv p.2.2.2.2.2]
noncomputable def S53 : Summ
 | [.v (.int .i64 a0), .v (.int .i64 a1)] => some (g53 (f53 a0.val a1.val))
 | _ => none
theorem S53_ok : SummFn Go.Proofs.Tryz.prog 53 S53 := by
 have ev : ∀ (a0 a1 : Int), (symCall ⟨Go.Proofs.Tryz.prog, [(99, S99), (149, S149)], 3, 336, true, [], [], [], []⟩ 30 53 [iv a0, iv a1] []).out = ((g53 (f53 a0 a1)).toV) := by
  intro a0 a1
  kernel_rfl
 intro fs r h w vs hv
 unfold S53 at h
 split at h
 ·rename_i a0 a1
  cases h
  refine sx_calls ?_ 30 53 _ vs (symifyL_rel _ _ (SArels_v (xs := [.int .i64 a0, .int .i64 a1]) hv)) (by kernel_rfl) rfl (ev a0.val a1.val) w
  exact envOkU' ⟨S99_ok, S149_ok, trivial⟩ trivial trivial trivial
 ·cases h
noncomputable def f49 (I0 I1 I2 I3 I4 : Int) : Bool := !(decide (I2 < -288230376151711744) || decide (I2 > 288230376151711744)) && (!(decide (I3 < -288230376151711744) || decide (I3 > 288230376151711744)) && (!(decide (I4 < -288230376151711744) || decide (I4 > 288230376151711744)) && (decide (I0 ≥ 0) && decide (I0 ≤ 1099511627776) && decide (I1 ≥ 0) && decide (I1 < 4))))
noncomputable def g49 (p : Bool) : SV := bv p
noncomputable def S49 : Summ
 | [.v (.agg [.int .i64 I0, .int .i64 I1, .int .i64 I2, .int .i64 I3, .int .i64 I4])] => some (g49 (f49 I0.val I1.val I2.val I3.val I4.val))
 | _ => none
theorem S49_ok : SummFn Go.Proofs.Tryz.prog 49 S49 := by
 have ev : ∀ (I0 I1 I2 I3 I4 : Int), (symCall ⟨Go.Proofs.Tryz.prog, [], 3, 336, true, [], [], [], []⟩ 30 49 [.agg [iv I0, iv I1, iv I2, iv I3, iv I4]] []).out = ((g49 (f49 I0 I1 I2 I3 I4)).toV) := by
  intro I0 I1 I2 I3 I4
  kernel_rfl
 intro fs r h w vs hv
 unfold S49 at h
 split at h
 ·rename_i I0 I1 I2 I3 I4
  cases h
  refine sx_calls ?_ 30 49 _ vs (symifyL_rel _ _ (SArels_v (xs := [.agg [.int .i64 I0, .int .i64 I1, .int .i64 I2, .int .i64 I3, .int .i64 I4]]) hv)) (by kernel_rfl) rfl (ev I0.val I1.val I2.val I3.val I4.val) w
  exact envOkU' trivial trivial trivial trivial
 ·cases h
noncomputable def f248 (a0 : Int) : Bool := !(f99 a0).snd
noncomputable def g248 (p : Bool) : SV := bv p
noncomputable def S248 : Summ
 | [.v (.int .i64 a0)] => some (g248 (f248 a0.val))
 | _ => none
theorem S248_ok : SummFn Go.Proofs.Tryz.prog 248 S248 := by
 have ev : ∀ (a0 : Int), (symCall ⟨Go.Proofs.Tryz.prog, [(99, S99), (149, S149)], 3, 336, true, [], [], [], []⟩ 30 248 [iv a0] []).out = ((g248 (f248 a0)).toV) := by
  intro a0
  kernel_rfl
 intro fs r h w vs hv
 unfold S248 at h
 split at h
 ·rename_i a0
  cases h
  refine sx_calls ?_ 30 248 _ vs (symifyL_rel _ _ (SArels_v (xs := [.int .i64 a0]) hv)) (by kernel_rfl) rfl (ev a0.val) w
  exact envOkU' ⟨S99_ok, S149_ok, trivial⟩ trivial trivial trivial
 ·cases h
noncomputable def f247 (I0 I1 I2 : Int) : Bool := let x1 := IntKind.i64.wrap (0 + 1); let x2 := bif !f248 I0 then 0 else bif !f248 I1 then x1 else bif !f248 I2 then IntKind.i64.wrap (x1 + 1) else -1; !decide (x2 ≥ 0)
noncomputable def g247 (p : Bool) : SV := bv p
noncomputable def S247 : Summ
 | [.v (.agg [.int .i64 I0, .int .i64 I1, .int .i64 I2])] => some (g247 (f247 I0.val I1.val I2.val))
 | _ => none
theorem S247_ok : SummFn Go.Proofs.Tryz.prog 247 S247 := by
 have ev : ∀ (I0 I1 I2 : Int), (symCall ⟨Go.Proofs.Tryz.prog, [(99, S99), (149, S149), (248, S248)], 3, 336, true, [], [], [], []⟩ 30 247 [.agg [iv I0, iv I1, iv I2]] []).out = ((g247 (f247 I0 I1 I2)).toV) := by
  intro I0 I1 I2
  kernel_rfl
 intro fs r h w vs hv
 unfold S247 at h
 split at h
 ·rename_i I0 I1 I2
  cases h
  refine sx_calls ?_ 30 247 _ vs (symifyL_rel _ _ (SArels_v (xs := [.agg [.int .i64 I0, .int .i64 I1, .int .i64 I2]]) hv)) (by kernel_rfl) rfl (ev I0.val I1.val I2.val) w
  exact envOkU' ⟨S99_ok, S149_ok, S248_ok, trivial⟩ trivial trivial trivial
 ·cases h
noncomputable def f198 (I0 I1 I2 I3 I4 : Int) : Bool := f247 I0 I1 I2 && f248 I3 && decide (I3 > 0) && f248 I4 && decide (I4 ≥ 0)
noncomputable def g198 (p : Bool) : SV := bv p
noncomputable def S198 : Summ
 | [.v (.agg [.int .i64 I0, .int .i64 I1, .int .i64 I2, .int .i64 I3, .int .i64 I4])] => some (g198 (f198 I0.val I1.val I2.val I3.val I4.val))
 | _ => none
theorem S198_ok : SummFn Go.Proofs.Tryz.prog 198 S198 := by
 have ev : ∀ (I0 I1 I2 I3 I4 : Int), (symCall ⟨Go.Proofs.Tryz.prog, [(99, S99), (149, S149), (247, S247), (248, S248)], 3, 336, true, [], [], [], []⟩ 30 198 [.agg [iv I0, iv I1, iv I2, iv I3, iv I4]] []).out = ((g198 (f198 I0 I1 I2 I3 I4)).toV) := by
  intro I0 I1 I2 I3 I4
  kernel_rfl
 intro fs r h w vs hv
 unfold S198 at h
 split at h
 ·rename_i I0 I1 I2 I3 I4
  cases h
  refine sx_calls ?_ 30 198 _ vs (symifyL_rel _ _ (SArels_v (xs := [.agg [.int .i64 I0, .int .i64 I1, .int .i64 I2, .int .i64 I3, .int .i64 I4]]) hv)) (by kernel_rfl) rfl (ev I0.val I1.val I2.val I3.val I4.val) w
  exact envOkU' ⟨S99_ok, S149_ok, S247_ok, S248_ok, trivial⟩ trivial trivial trivial
 ·cases h
noncomputable def f199 (I0 I1 I2 I3 I4 a1 : Int) : Bool := let x1 := IntKind.i64.wrap (0 - I4); decide (a1 > I4) || decide (a1 < x1)
noncomputable def g199 (p : Bool) : SV := bv p
noncomputable def S199 : Summ
 | [.v (.agg [.int .i64 I0, .int .i64 I1, .int .i64 I2, .int .i64 I3, .int .i64 I4]), .v (.int .i64 a1)] => some (g199 (f199 I0.val I1.val I2.val I3.val I4.val a1.val))
 | _ => none
theorem S199_ok : SummFn Go.Proofs.Tryz.prog 199 S199 := by
 have ev : ∀ (I0 I1 I2 I3 I4 a1 : Int), (symCall ⟨Go.Proofs.Tryz.prog, [], 3, 336, true, [], [], [], []⟩ 30 199 [.agg [iv I0, iv I1, iv I2, iv I3, iv I4], iv a1] []).out = ((g199 (f199 I0 I1 I2 I3 I4 a1)).toV) := by
  intro I0 I1 I2 I3 I4 a1
  kernel_rfl
 intro fs r h w vs hv
 unfold S199 at h
 split at h
 ·rename_i I0 I1 I2 I3 I4 a1
  cases h
  refine sx_calls ?_ 30 199 _ vs (symifyL_rel _ _ (SArels_v (xs := [.agg [.int .i64 I0, .int .i64 I1, .int .i64 I2, .int .i64 I3, .int .i64 I4], .int .i64 a1]) hv)) (by kernel_rfl) rfl (ev I0.val I1.val I2.val I3.val I4.val a1.val) w
  exact envOkU' trivial trivial trivial trivial
 ·cases h
noncomputable def f207 (a0 a1 : Int) : Int × Bool := let x1 := f99 (IntKind.i64.wrap (f257 a0 + f257 a1)); (x1.fst, x1.snd || f257 a0 != a0 || f257 a1 != a1)
noncomputable def g207 (p : Int × Bool) : SV := .tuple [iv p.1, bv p.2]
noncomputable def S207 : Summ
 | [.v (.int .i64 a0), .v (.int .i64 a1)] => some (g207 (f207 a0.val a1.val))
 | _ => none
theorem S207_ok : SummFn Go.Proofs.Tryz.prog 207 S207 := by
 have ev : ∀ (a0 a1 : Int), (symCall ⟨Go.Proofs.Tryz.prog, [(99, S99), (149, S149), (257, S257)], 3, 336, true, [], [], [], []⟩ 30 207 [iv a0, iv a1] []).out = ((g207 (f207 a0 a1)).toV) := by
  intro a0 a1
  kernel_rfl
 intro fs r h w vs hv
 unfold S207 at h
 split at h
 ·rename_i a0 a1
  cases h
  refine sx_calls ?_ 30 207 _ vs (symifyL_rel _ _ (SArels_v (xs := [.int .i64 a0, .int .i64 a1]) hv)) (by kernel_rfl) rfl (ev a0.val a1.val) w
  exact envOkU' ⟨S99_ok, S149_ok, S257_ok, trivial⟩ trivial trivial trivial
 ·cases h
noncomputable def f315 (a0 : Int) : Int × Bool := let x1 := f231 (f259 a0 4294967296).fst (f259 a0 4294967296).snd; (x1.fst, (f99 a0).snd || x1.snd)
noncomputable def g315 (p : Int × Bool) : SV := .tuple [iv p.1, bv p.2]
noncomputable def S315 : Summ
 | [.v (.int .i64 a0)] => some (g315 (f315 a0.val))
 | _ => none
theorem S315_ok : SummFn Go.Proofs.Tryz.prog 315 S315 := by
 have ev : ∀ (a0 : Int), (symCall ⟨Go.Proofs.Tryz.prog, [(99, S99), (231, S231), (149, S149), (257, S257), (259, S259), (303, S303), (282, S282), (283, S283), (284, S284), (285, S285), (302, S302), (304, S304), (317, S317), (184, S184), (185, S185), (229, S229)], 3, 336, true, [], [], [], []⟩ 30 315 [iv a0] []).out = ((g315 (f315 a0)).toV) := by
  intro a0
  kernel_rfl
 intro fs r h w vs hv
 unfold S315 at h
 split at h
 ·rename_i a0
  cases h
  refine sx_calls ?_ 30 315 _ vs (symifyL_rel _ _ (SArels_v (xs := [.int .i64 a0]) hv)) (by kernel_rfl) rfl (ev a0.val) w
  exact envOkU' ⟨S99_ok, S231_ok, S149_ok, S257_ok, S259_ok, S303_ok, S282_ok, S283_ok, S284_ok, S285_ok, S302_ok, S304_ok, S317_ok, S184_ok, S185_ok, S229_ok, trivial⟩ trivial trivial trivial
 ·cases h
noncomputable def f57 : Int × Int × Int × Int × Int × Int × Int × Int × Int × Int × Int × Int × Int × Int × Int × Int × Int × Int × Int × Int := (0, 0, 0, 4294967296, 4503599627370496, 0, 0, 0, 4294967296, 4503599627370496, 0, 0, 0, 4294967296, 4503599627370496, 0, 0, 0, 4294967296, 4503599627370496)
noncomputable def g57 (p : Int × Int × Int × Int × Int × Int × Int × Int × Int × Int × Int × Int × Int × Int × Int × Int × Int × Int × Int × Int) : SV := .agg [iv p.1, iv p.2.1, iv p.2.2.1, iv p.2.2.2.1, iv p.2.2.2.2.1, iv p.2.2.2.2.2.1, iv p.2.2.2.2.2.2.1, iv p.2.2.2.2.2.2.2.1, iv p.2.2.2.2.2.2.2.2.1, iv p.2.2.2.2.2.2.2.2.2.1, iv p.2.2.2.2.2.2.2.2.2.2.1, iv p.2.2.2.2.2.2.2.2.2.2.2.1, iv p.2.2.2.2.2.2.2.2.2.2.2.2.1, iv p.2.2.2.2.2.2.2.2.2.2.2.2.2.1, iv p.2.2.2.2.2.2.2.2.2.2.2.2.2.2.1, iv p.2.2.2.2.2.2.2.2.2.2.2.2.2.2.2.1, iv p.2.2.2.2.2.2.2.2.2.2.2.2.2.2.2.2.1, iv p.2.2.2.2.2.2.2.2.2.2.2.2.2.2.2.2.2.1, iv p.2.2.2.2.2.2.2.2.2.2.2.2.2.2.2.2.2.2.1, iv p.2.2.2.2.2.2.2.2.2.2.2.2.2.2.2.2.2.2.2]
noncomputable def S57 : Summ
 | [] => some (g57 (f57))
 | _ => none
theorem S57_ok : SummFn Go.Proofs.Tryz.prog 57 S57 := by
 have ev : (symCall ⟨Go.Proofs.Tryz.prog, [], 3, 336, true, [], [], [], []⟩ 30 57 [] []).out = ((g57 (f57)).toV) := by
  kernel_rfl
 intro fs r h w vs hv
 unfold S57 at h
 split at h
 ·cases h
  refine sx_calls ?_ 30 57 _ vs (symifyL_rel _ _ (SArels_v (xs := []) hv)) (by kernel_rfl) rfl (ev) w
  exact envOkU' trivial trivial trivial trivial
 ·cases h
noncomputable def f115 (a0 : Int) : Bool := !(f182 a0).snd
noncomputable def g115 (p : Bool) : SV := bv p
noncomputable def S115 : Summ
 | [.v (.int .i64 a0)] => some (g115 (f115 a0.val))
 | _ => none
theorem S115_ok : SummFn Go.Proofs.Tryz.prog 115 S115 := by
 have ev : ∀ (a0 : Int), (symCall ⟨Go.Proofs.Tryz.prog, [(182, S182)], 3, 336, true, [], [], [], []⟩ 30 115 [iv a0] []).out = ((g115 (f115 a0)).toV) := by
  intro a0
  kernel_rfl
 intro fs r h w vs hv
 unfold S115 at h
 split at h
 ·rename_i a0
  cases h
  refine sx_calls ?_ 30 115 _ vs (symifyL_rel _ _ (SArels_v (xs := [.int .i64 a0]) hv)) (by kernel_rfl) rfl (ev a0.val) w
  exact envOkU' ⟨S182_ok, trivial⟩ trivial trivial trivial
 ·cases h
noncomputable def f127 (I0 I1 I2 I3 I4 : Int) (I5 : Bool) : Bool := f115 I0 && f115 I1 && f115 I3 && decide (I2 ≥ 4096) && decide (I2 ≤ 4503599627370496) && decide (I4 ≥ 4096) && decide (I4 ≤ 4503599627370496)
noncomputable def g127 (p : Bool) : SV := bv p
noncomputable def S127 : Summ
 | [.v (.agg [.int .i64 I0, .int .i64 I1, .int .i64 I2, .int .i64 I3, .int .i64 I4, .bool I5])] => some (g127 (f127 I0.val I1.val I2.val I3.val I4.val I5.val))
 | _ => none
theorem S127_ok : SummFn Go.Proofs.Tryz.prog 127 S127 := by
 have ev : ∀ (I0 I1 I2 I3 I4 : Int) (I5 : Bool), (symCall ⟨Go.Proofs.Tryz.prog, [(115, S115), (182, S182)], 3, 336, true, [], [], [], []⟩ 30 127 [.agg [iv I0, iv I1, iv I2, iv I3, iv I4, bv I5]] []).out = ((g127 (f127 I0 I1 I2 I3 I4 I5)).toV) := by
  intro I0 I1 I2 I3 I4 I5
  kernel_rfl
 intro fs r h w vs hv
 unfold S127 at h
 split at h
 ·rename_i I0 I1 I2 I3 I4 I5
  cases h
  refine sx_calls ?_ 30 127 _ vs (symifyL_rel _ _ (SArels_v (xs := [.agg [.int .i64 I0, .int .i64 I1, .int .i64 I2, .int .i64 I3, .int .i64 I4, .bool I5]]) hv)) (by kernel_rfl) rfl (ev I0.val I1.val I2.val I3.val I4.val I5.val) w
  exact envOkU' ⟨S115_ok, S182_ok, trivial⟩ trivial trivial trivial
 ·cases h
noncomputable def f62 (a0 a1 : Int) : Int × Int × Int × Int × Int × Bool := (f114 a0, f114 a1, 17592186044416, 0, 17592186044416, !f115 a0 || !f115 a1)
noncomputable def g62 (p : Int × Int × Int × Int × Int × Bool) : SV := .agg [iv p.1, iv p.2.1, iv p.2.2.1, iv p.2.2.2.1, iv p.2.2.2.2.1, bv p.2.2.2.2.2]
noncomputable def S62 : Summ
 | [.v (.int .i64 a0), .v (.int .i64 a1)] => some (g62 (f62 a0.val a1.val))
 | _ => none
theorem S62_ok : SummFn Go.Proofs.Tryz.prog 62 S62 := by
 have ev : ∀ (a0 a1 : Int), (symCall ⟨Go.Proofs.Tryz.prog, [(114, S114), (115, S115), (182, S182)], 3, 336, true, [], [], [], []⟩ 30 62 [iv a0, iv a1] []).out = ((g62 (f62 a0 a1)).toV) := by
  intro a0 a1
  kernel_rfl
 intro fs r h w vs hv
 unfold S62 at h
 split at h
 ·rename_i a0 a1
  cases h
  refine sx_calls ?_ 30 62 _ vs (symifyL_rel _ _ (SArels_v (xs := [.int .i64 a0, .int .i64 a1]) hv)) (by kernel_rfl) rfl (ev a0.val a1.val) w
  exact envOkU' ⟨S114_ok, S115_ok, S182_ok, trivial⟩ trivial trivial trivial
 ·cases h
noncomputable def f212 (a0 : Int) : Bool := !(f182 a0).snd
noncomputable def g212 (p : Bool) : SV := bv p
noncomputable def S212 : Summ
 | [.v (.int .i64 a0)] => some (g212 (f212 a0.val))
 | _ => none
theorem S212_ok : SummFn Go.Proofs.Tryz.prog 212 S212 := by
 have ev : ∀ (a0 : Int), (symCall ⟨Go.Proofs.Tryz.prog, [(182, S182)], 3, 336, true, [], [], [], []⟩ 30 212 [iv a0] []).out = ((g212 (f212 a0)).toV) := by
  intro a0
  kernel_rfl
 intro fs r h w vs hv
 unfold S212 at h
 split at h
 ·rename_i a0
  cases h
  refine sx_calls ?_ 30 212 _ vs (symifyL_rel _ _ (SArels_v (xs := [.int .i64 a0]) hv)) (by kernel_rfl) rfl (ev a0.val) w
  exact envOkU' ⟨S182_ok, trivial⟩ trivial trivial trivial
 ·cases h
noncomputable def f211 (I0 I1 I2 : Int) : Bool := f212 I0 && f212 I1 && f212 I2
noncomputable def g211 (p : Bool) : SV := bv p
noncomputable def S211 : Summ
 | [.v (.agg [.int .i64 I0, .int .i64 I1, .int .i64 I2])] => some (g211 (f211 I0.val I1.val I2.val))
 | _ => none
theorem S211_ok : SummFn Go.Proofs.Tryz.prog 211 S211 := by
 have ev : ∀ (I0 I1 I2 : Int), (symCall ⟨Go.Proofs.Tryz.prog, [(182, S182), (212, S212)], 3, 336, true, [], [], [], []⟩ 30 211 [.agg [iv I0, iv I1, iv I2]] []).out = ((g211 (f211 I0 I1 I2)).toV) := by
  intro I0 I1 I2
  kernel_rfl
 intro fs r h w vs hv
 unfold S211 at h
 split at h
 ·rename_i I0 I1 I2
  cases h
  refine sx_calls ?_ 30 211 _ vs (symifyL_rel _ _ (SArels_v (xs := [.agg [.int .i64 I0, .int .i64 I1, .int .i64 I2]]) hv)) (by kernel_rfl) rfl (ev I0.val I1.val I2.val) w
  exact envOkU' ⟨S182_ok, S212_ok, trivial⟩ trivial trivial trivial
 ·cases h
noncomputable def f163 (I0 I1 I2 I3 I4 : Int) : Bool := f211 I0 I1 I2 && f212 I3 && decide (I3 ≥ 1) && f212 I4 && decide (I4 ≥ 0)
noncomputable def g163 (p : Bool) : SV := bv p
noncomputable def S163 : Summ
 | [.v (.agg [.int .i64 I0, .int .i64 I1, .int .i64 I2, .int .i64 I3, .int .i64 I4])] => some (g163 (f163 I0.val I1.val I2.val I3.val I4.val))
 | _ => none
theorem S163_ok : SummFn Go.Proofs.Tryz.prog 163 S163 := by
 have ev : ∀ (I0 I1 I2 I3 I4 : Int), (symCall ⟨Go.Proofs.Tryz.prog, [(182, S182), (211, S211), (212, S212)], 3, 336, true, [], [], [], []⟩ 30 163 [.agg [iv I0, iv I1, iv I2, iv I3, iv I4]] []).out = ((g163 (f163 I0 I1 I2 I3 I4)).toV) := by
  intro I0 I1 I2 I3 I4
  kernel_rfl
 intro fs r h w vs hv
 unfold S163 at h
 split at h
 ·rename_i I0 I1 I2 I3 I4
  cases h
  refine sx_calls ?_ 30 163 _ vs (symifyL_rel _ _ (SArels_v (xs := [.agg [.int .i64 I0, .int .i64 I1, .int .i64 I2, .int .i64 I3, .int .i64 I4]]) hv)) (by kernel_rfl) rfl (ev I0.val I1.val I2.val I3.val I4.val) w
  exact envOkU' ⟨S182_ok, S211_ok, S212_ok, trivial⟩ trivial trivial trivial
 ·cases h
noncomputable def f106 (I0 I1 I2 I3 I4 Z0 Z1 Z2 : Int) : Int × Int × Int × Bool := let x1 := (f108 Z0 Z1 Z2 I0 I1 I2).snd; let x2 := x1.snd; let x3 := f162 (f108 Z0 Z1 Z2 I0 I1 I2).fst x1.fst x2.fst I3; let x4 := x3.snd; let x5 := x4.snd; let x6 := !f163 I0 I1 I2 I3 I4 || x2.snd || x5.snd; let x7 := x3.fst; let x8 := IntKind.i64.wrap (0 - I4); let x9 := decide (x7 > I4) || decide (x7 < x8); let x10 := x4.fst; let x11 := decide (x10 > I4) || decide (x10 < x8); let x12 := x5.fst; let x13 := decide (x12 > I4) || decide (x12 < x8); (bif x6 then 0 else bif x9 then 0 else bif x11 then 0 else bif x13 then 0 else x7, bif x6 then 0 else bif x9 then 0 else bif x11 then 0 else bif x13 then 0 else x10, bif x6 then 0 else bif x9 then 0 else bif x11 then 0 else bif x13 then 0 else x12, !x6 && (!x9 && (!x11 && !x13)))
noncomputable def g106 (p : Int × Int × Int × Bool) : SV := .tuple [.agg [iv p.1, iv p.2.1, iv p.2.2.1], bv p.2.2.2]
noncomputable def S106 : Summ
 | [.v (.agg [.int .i64 I0, .int .i64 I1, .int .i64 I2, .int .i64 I3, .int .i64 I4]), .v (.agg [.int .i64 Z0, .int .i64 Z1, .int .i64 Z2])] => some (g106 (f106 I0.val I1.val I2.val I3.val I4.val Z0.val Z1.val Z2.val))
 | _ => none
theorem S106_ok : SummFn Go.Proofs.Tryz.prog 106 S106 := by
 have ev : ∀ (I0 I1 I2 I3 I4 Z0 Z1 Z2 : Int), (symCall ⟨Go.Proofs.Tryz.prog, [(108, S108), (162, S162), (114, S114), (166, S166), (179, S179), (163, S163), (180, S180), (182, S182), (226, S226), (225, S225), (227, S227), (211, S211), (212, S212), (273, S273), (275, S275), (276, S276), (280, S280), (281, S281), (279, S279)], 3, 336, true, [], [], [], []⟩ 30 106 [.agg [iv I0, iv I1, iv I2, iv I3, iv I4], .agg [iv Z0, iv Z1, iv Z2]] []).out = ((g106 (f106 I0 I1 I2 I3 I4 Z0 Z1 Z2)).toV) := by
  intro I0 I1 I2 I3 I4 Z0 Z1 Z2
  kernel_rfl
 intro fs r h w vs hv
 unfold S106 at h
 split at h
 ·rename_i I0 I1 I2 I3 I4 Z0 Z1 Z2
  cases h
  refine sx_calls ?_ 30 106 _ vs (symifyL_rel _ _ (SArels_v (xs := [.agg [.int .i64 I0, .int .i64 I1, .int .i64 I2, .int .i64 I3, .int .i64 I4], .agg [.int .i64 Z0, .int .i64 Z1, .int .i64 Z2]]) hv)) (by kernel_rfl) rfl (ev I0.val I1.val I2.val I3.val I4.val Z0.val Z1.val Z2.val) w
  exact envOkU' ⟨S108_ok, S162_ok, S114_ok, S166_ok, S179_ok, S163_ok, S180_ok, S182_ok, S226_ok, S225_ok, S227_ok, S211_ok, S212_ok, S273_ok, S275_ok, S276_ok, S280_ok, S281_ok, S279_ok, trivial⟩ trivial trivial trivial
 ·cases h
noncomputable def f125 (I0 I1 I2 I3 I4 : Int) : Bool := !(decide (I2 < -288230376151711744) || decide (I2 > 288230376151711744)) && (!(decide (I3 < -288230376151711744) || decide (I3 > 288230376151711744)) && (!(decide (I4 < -288230376151711744) || decide (I4 > 288230376151711744)) && (decide (I0 ≥ 0) && decide (I0 ≤ 1099511627776) && decide (I1 ≥ 0) && decide (I1 ≤ 3))))
noncomputable def g125 (p : Bool) : SV := bv p
noncomputable def S125 : Summ
 | [.v (.agg [.int .i64 I0, .int .i64 I1, .int .i64 I2, .int .i64 I3, .int .i64 I4])] => some (g125 (f125 I0.val I1.val I2.val I3.val I4.val))
 | _ => none
theorem S125_ok : SummFn Go.Proofs.Tryz.prog 125 S125 := by
 have ev : ∀ (I0 I1 I2 I3 I4 : Int), (symCall ⟨Go.Proofs.Tryz.prog, [], 3, 336, true, [], [], [], []⟩ 30 125 [.agg [iv I0, iv I1, iv I2, iv I3, iv I4]] []).out = ((g125 (f125 I0 I1 I2 I3 I4)).toV) := by
  intro I0 I1 I2 I3 I4
  kernel_rfl
 intro fs r h w vs hv
 unfold S125 at h
 split at h
 ·rename_i I0 I1 I2 I3 I4
  cases h
  refine sx_calls ?_ 30 125 _ vs (symifyL_rel _ _ (SArels_v (xs := [.agg [.int .i64 I0, .int .i64 I1, .int .i64 I2, .int .i64 I3, .int .i64 I4]]) hv)) (by kernel_rfl) rfl (ev I0.val I1.val I2.val I3.val I4.val) w
  exact envOkU' trivial trivial trivial trivial
 ·cases h
noncomputable def f167 (I0 I1 I2 I3 I4 : Int) (I5 : Bool) : Int × Int × Int × Int × Int × Bool := let x1 := !f127 I0 I1 I2 I3 I4 I5; (bif x1 then 0 else I0, bif x1 then 0 else I1, bif x1 then 17592186044416 else I2, bif x1 then 0 else I3, bif x1 then 17592186044416 else I4, x1 || I5)
noncomputable def g167 (p : Int × Int × Int × Int × Int × Bool) : SV := .agg [iv p.1, iv p.2.1, iv p.2.2.1, iv p.2.2.2.1, iv p.2.2.2.2.1, bv p.2.2.2.2.2]
noncomputable def S167 : Summ
 | [.v (.agg [.int .i64 I0, .int .i64 I1, .int .i64 I2, .int .i64 I3, .int .i64 I4, .bool I5])] => some (g167 (f167 I0.val I1.val I2.val I3.val I4.val I5.val))
 | _ => none
theorem S167_ok : SummFn Go.Proofs.Tryz.prog 167 S167 := by
 have ev : ∀ (I0 I1 I2 I3 I4 : Int) (I5 : Bool), (symCall ⟨Go.Proofs.Tryz.prog, [(127, S127), (115, S115), (182, S182)], 3, 336, true, [], [], [], []⟩ 30 167 [.agg [iv I0, iv I1, iv I2, iv I3, iv I4, bv I5]] []).out = ((g167 (f167 I0 I1 I2 I3 I4 I5)).toV) := by
  intro I0 I1 I2 I3 I4 I5
  kernel_rfl
 intro fs r h w vs hv
 unfold S167 at h
 split at h
 ·rename_i I0 I1 I2 I3 I4 I5
  cases h
  refine sx_calls ?_ 30 167 _ vs (symifyL_rel _ _ (SArels_v (xs := [.agg [.int .i64 I0, .int .i64 I1, .int .i64 I2, .int .i64 I3, .int .i64 I4, .bool I5]]) hv)) (by kernel_rfl) rfl (ev I0.val I1.val I2.val I3.val I4.val I5.val) w
  exact envOkU' ⟨S127_ok, S115_ok, S182_ok, trivial⟩ trivial trivial trivial
 ·cases h
noncomputable def f217 (a0 a1 : Int) : Int × Bool := let x1 := f182 (IntKind.i64.wrap ((f182 a0).fst + (f182 a1).fst)); (x1.fst, (f182 a0).snd || (f182 a1).snd || x1.snd)
noncomputable def g217 (p : Int × Bool) : SV := .tuple [iv p.1, bv p.2]
noncomputable def S217 : Summ
 | [.v (.int .i64 a0), .v (.int .i64 a1)] => some (g217 (f217 a0.val a1.val))
 | _ => none
theorem S217_ok : SummFn Go.Proofs.Tryz.prog 217 S217 := by
 have ev : ∀ (a0 a1 : Int), (symCall ⟨Go.Proofs.Tryz.prog, [(182, S182)], 3, 336, true, [], [], [], []⟩ 30 217 [iv a0, iv a1] []).out = ((g217 (f217 a0 a1)).toV) := by
  intro a0 a1
  kernel_rfl
 intro fs r h w vs hv
 unfold S217 at h
 split at h
 ·rename_i a0 a1
  cases h
  refine sx_calls ?_ 30 217 _ vs (symifyL_rel _ _ (SArels_v (xs := [.int .i64 a0, .int .i64 a1]) hv)) (by kernel_rfl) rfl (ev a0.val a1.val) w
  exact envOkU' ⟨S182_ok, trivial⟩ trivial trivial trivial
 ·cases h
noncomputable def f178 (a0 : Int) : Int × Bool := let x1 := f225 (f182 a0).fst 4294967296; let x2 := f224 x1.fst x1.snd; (x2.fst, (f182 a0).snd || x2.snd)
noncomputable def g178 (p : Int × Bool) : SV := .tuple [iv p.1, bv p.2]
noncomputable def S178 : Summ
 | [.v (.int .i64 a0)] => some (g178 (f178 a0.val))
 | _ => none
theorem S178_ok : SummFn Go.Proofs.Tryz.prog 178 S178 := by
 have ev : ∀ (a0 : Int), (symCall ⟨Go.Proofs.Tryz.prog, [(114, S114), (180, S180), (224, S224), (182, S182), (225, S225), (273, S273), (274, S274), (275, S275), (276, S276), (278, S278), (279, S279)], 3, 336, true, [], [], [], []⟩ 30 178 [iv a0] []).out = ((g178 (f178 a0)).toV) := by
  intro a0
  kernel_rfl
 intro fs r h w vs hv
 unfold S178 at h
 split at h
 ·rename_i a0
  cases h
  refine sx_calls ?_ 30 178 _ vs (symifyL_rel _ _ (SArels_v (xs := [.int .i64 a0]) hv)) (by kernel_rfl) rfl (ev a0.val) w
  exact envOkU' ⟨S114_ok, S180_ok, S224_ok, S182_ok, S225_ok, S273_ok, S274_ok, S275_ok, S276_ok, S278_ok, S279_ok, trivial⟩ trivial trivial trivial
 ·cases h
end Go.Proofs.YtdchdajjhofmnaaGreat
