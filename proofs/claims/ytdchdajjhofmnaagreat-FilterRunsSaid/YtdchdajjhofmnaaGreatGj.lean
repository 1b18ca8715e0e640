/- What each function computes, by the executor: printed by a program (wip/sx2/Gen3.lean). -/
import Derived.Test.YtdchdajjhofmnaaGreatGh
import Derived.Test.YtdchdajjhofmnaaGreatW3
import Derived.Test.YtdchdajjhofmnaaGreatNa
namespace Go.Proofs.YtdchdajjhofmnaaGreat
open Go Go.Sx
set_option maxRecDepth 1000000
set_option maxHeartbeats 100000000
noncomputable def f213 (a0 : Int) : Int := f268 a0
noncomputable def g213 (p : Int) : SV := iv p
noncomputable def S213 : Summ
 | [.v (.int .i64 a0)] => some (g213 (f213 a0.val))
 | _ => none
theorem S213_ok : SummFn Go.Proofs.Tryz.prog 213 S213 := by
 have ev : ∀ (a0 : Int), (symCall ⟨Go.Proofs.Tryz.prog, [(114, S114), (268, S268), (182, S182)], 3, 336, true, [], [], [], []⟩ 30 213 [iv a0] []).out = ((g213 (f213 a0)).toV) := by
  intro a0
  kernel_rfl
 intro fs r h w vs hv
 unfold S213 at h
 split at h
 ·rename_i a0
  cases h
  refine sx_calls ?_ 30 213 _ vs (symifyL_rel _ _ (SArels_v (xs := [.int .i64 a0]) hv)) (by kernel_rfl) rfl (ev a0.val) w
  exact envOkU' ⟨S114_ok, S268_ok, S182_ok, trivial⟩ trivial trivial trivial
 ·cases h
noncomputable def f214 (I0 I1 I2 I3 : Int) : Bool := (f182 I0).snd || (f182 I1).snd || (f182 I2).snd || (f182 I3).snd
noncomputable def g214 (p : Bool) : SV := bv p
noncomputable def S214 : Summ
 | [.v (.agg [.int .i64 I0, .int .i64 I1, .int .i64 I2, .int .i64 I3])] => some (g214 (f214 I0.val I1.val I2.val I3.val))
 | _ => none
theorem S214_ok : SummFn Go.Proofs.Tryz.prog 214 S214 := by
 have ev : ∀ (I0 I1 I2 I3 : Int), (symCall ⟨Go.Proofs.Tryz.prog, [(182, S182)], 3, 336, true, [], [], [], []⟩ 30 214 [.agg [iv I0, iv I1, iv I2, iv I3]] []).out = ((g214 (f214 I0 I1 I2 I3)).toV) := by
  intro I0 I1 I2 I3
  kernel_rfl
 intro fs r h w vs hv
 unfold S214 at h
 split at h
 ·rename_i I0 I1 I2 I3
  cases h
  refine sx_calls ?_ 30 214 _ vs (symifyL_rel _ _ (SArels_v (xs := [.agg [.int .i64 I0, .int .i64 I1, .int .i64 I2, .int .i64 I3]]) hv)) (by kernel_rfl) rfl (ev I0.val I1.val I2.val I3.val) w
  exact envOkU' ⟨S182_ok, trivial⟩ trivial trivial trivial
 ·cases h
noncomputable def f164 (I0 I1 I2 I3 Z0 Z1 Z2 Z3 : Int) : Int × Int × Int × Int × Bool := let x1 := f225 (f182 I0).fst (f182 Z0).fst; let x2 := f276 0 0 x1.fst x1.snd; let x3 := f225 (f182 I1).fst (f182 (f213 Z1)).fst; let x4 := f276 x2.fst x2.snd.fst x3.fst x3.snd; let x5 := f225 (f182 I2).fst (f182 (f213 Z2)).fst; let x6 := f276 x4.fst x4.snd.fst x5.fst x5.snd; let x7 := f225 (f182 I3).fst (f182 (f213 Z3)).fst; let x8 := f276 x6.fst x6.snd.fst x7.fst x7.snd; let x9 := f226 x8.fst x8.snd.fst; let x10 := f225 (f182 I0).fst (f182 Z1).fst; let x11 := f276 0 0 x10.fst x10.snd; let x12 := f225 (f182 I1).fst (f182 Z0).fst; let x13 := f276 x11.fst x11.snd.fst x12.fst x12.snd; let x14 := f225 (f182 I2).fst (f182 Z3).fst; let x15 := f276 x13.fst x13.snd.fst x14.fst x14.snd; let x16 := f225 (f182 I3).fst (f182 (f213 Z2)).fst; let x17 := f276 x15.fst x15.snd.fst x16.fst x16.snd; let x18 := f226 x17.fst x17.snd.fst; let x19 := f225 (f182 I0).fst (f182 Z2).fst; let x20 := f276 0 0 x19.fst x19.snd; let x21 := f225 (f182 I1).fst (f182 (f213 Z3)).fst; let x22 := f276 x20.fst x20.snd.fst x21.fst x21.snd; let x23 := f225 (f182 I2).fst (f182 Z0).fst; let x24 := f276 x22.fst x22.snd.fst x23.fst x23.snd; let x25 := f225 (f182 I3).fst (f182 Z1).fst; let x26 := f276 x24.fst x24.snd.fst x25.fst x25.snd; let x27 := f226 x26.fst x26.snd.fst; let x28 := f225 (f182 I0).fst (f182 Z3).fst; let x29 := f276 0 0 x28.fst x28.snd; let x30 := f225 (f182 I1).fst (f182 Z2).fst; let x31 := f276 x29.fst x29.snd.fst x30.fst x30.snd; let x32 := f225 (f182 I2).fst (f182 (f213 Z1)).fst; let x33 := f276 x31.fst x31.snd.fst x32.fst x32.snd; let x34 := f225 (f182 I3).fst (f182 Z0).fst; let x35 := f276 x33.fst x33.snd.fst x34.fst x34.snd; let x36 := f226 x35.fst x35.snd.fst; let x37 := (f182 I0).snd || (f182 I1).snd || (f182 I2).snd || (f182 I3).snd; (x9.fst, x18.fst, x27.fst, x36.fst, f214 I0 I1 I2 I3 || f214 Z0 Z1 Z2 Z3 || (x37 || ((f182 Z0).snd || (f182 (f213 Z1)).snd || (f182 (f213 Z2)).snd || (f182 (f213 Z3)).snd) || x9.snd) || (x37 || ((f182 Z1).snd || (f182 Z0).snd || (f182 Z3).snd || (f182 (f213 Z2)).snd) || x18.snd) || (x37 || ((f182 Z2).snd || (f182 (f213 Z3)).snd || (f182 Z0).snd || (f182 Z1).snd) || x27.snd) || (x37 || ((f182 Z3).snd || (f182 Z2).snd || (f182 (f213 Z1)).snd || (f182 Z0).snd) || x36.snd))
noncomputable def g164 (p : Int × Int × Int × Int × Bool) : SV := .tuple [.agg [iv p.1, iv p.2.1, iv p.2.2.1, iv p.2.2.2.1], bv p.2.2.2.2]
noncomputable def S164 : Summ
 | [.v (.agg [.int .i64 I0, .int .i64 I1, .int .i64 I2, .int .i64 I3]), .v (.agg [.int .i64 Z0, .int .i64 Z1, .int .i64 Z2, .int .i64 Z3])] => some (g164 (f164 I0.val I1.val I2.val I3.val Z0.val Z1.val Z2.val Z3.val))
 | _ => none
theorem S164_ok : SummFn Go.Proofs.Tryz.prog 164 S164 := by
 have ev : ∀ (I0 I1 I2 I3 Z0 Z1 Z2 Z3 : Int), (symCall ⟨Go.Proofs.Tryz.prog, [(213, S213), (214, S214), (114, S114), (268, S268), (182, S182), (226, S226), (180, S180), (225, S225), (276, S276), (280, S280), (281, S281), (275, S275), (273, S273), (279, S279)], 3, 336, true, [(254, H254), (232, H232), (234, H234), (255, H255), (215, H215)], [], [], []⟩ 30 164 [.agg [iv I0, iv I1, iv I2, iv I3], .agg [iv Z0, iv Z1, iv Z2, iv Z3]] []).out = ((g164 (f164 I0 I1 I2 I3 Z0 Z1 Z2 Z3)).toV) := by
  intro I0 I1 I2 I3 Z0 Z1 Z2 Z3
  kernel_rfl
 intro fs r h w vs hv
 unfold S164 at h
 split at h
 ·rename_i I0 I1 I2 I3 Z0 Z1 Z2 Z3
  cases h
  refine sx_calls ?_ 30 164 _ vs (symifyL_rel _ _ (SArels_v (xs := [.agg [.int .i64 I0, .int .i64 I1, .int .i64 I2, .int .i64 I3], .agg [.int .i64 Z0, .int .i64 Z1, .int .i64 Z2, .int .i64 Z3]]) hv)) (by kernel_rfl) rfl (ev I0.val I1.val I2.val I3.val Z0.val Z1.val Z2.val Z3.val) w
  exact envOkU' ⟨S213_ok, S214_ok, S114_ok, S268_ok, S182_ok, S226_ok, S180_ok, S225_ok, S276_ok, S280_ok, S281_ok, S275_ok, S273_ok, S279_ok, trivial⟩ ⟨H254_ok, H232_ok, H234_ok, H255_ok, H215_ok, trivial⟩ trivial trivial
 ·cases h
noncomputable def f183 (I0 I1 I2 I3 : Int) : Int × Bool := let x1 := f225 (f182 I0).fst (f182 I0).fst; let x2 := f276 0 0 x1.fst x1.snd; let x3 := f225 (f182 I1).fst (f182 I1).fst; let x4 := f276 x2.fst x2.snd.fst x3.fst x3.snd; let x5 := f225 (f182 I2).fst (f182 I2).fst; let x6 := f276 x4.fst x4.snd.fst x5.fst x5.snd; let x7 := f225 (f182 I3).fst (f182 I3).fst; let x8 := f276 x6.fst x6.snd.fst x7.fst x7.snd; let x9 := f224 x8.fst x8.snd.fst; (x9.fst, (f182 I0).snd || (f182 I1).snd || (f182 I2).snd || (f182 I3).snd || x9.snd)
noncomputable def g183 (p : Int × Bool) : SV := .tuple [iv p.1, bv p.2]
noncomputable def S183 : Summ
 | [.v (.agg [.int .i64 I0, .int .i64 I1, .int .i64 I2, .int .i64 I3])] => some (g183 (f183 I0.val I1.val I2.val I3.val))
 | _ => none
theorem S183_ok : SummFn Go.Proofs.Tryz.prog 183 S183 := by
 have ev : ∀ (I0 I1 I2 I3 : Int), (symCall ⟨Go.Proofs.Tryz.prog, [(114, S114), (182, S182), (224, S224), (180, S180), (225, S225), (276, S276), (275, S275), (273, S273), (274, S274), (278, S278), (279, S279)], 3, 336, true, [], [], [], []⟩ 30 183 [.agg [iv I0, iv I1, iv I2, iv I3]] []).out = ((g183 (f183 I0 I1 I2 I3)).toV) := by
  intro I0 I1 I2 I3
  kernel_rfl
 intro fs r h w vs hv
 unfold S183 at h
 split at h
 ·rename_i I0 I1 I2 I3
  cases h
  refine sx_calls ?_ 30 183 _ vs (symifyL_rel _ _ (SArels_v (xs := [.agg [.int .i64 I0, .int .i64 I1, .int .i64 I2, .int .i64 I3]]) hv)) (by kernel_rfl) rfl (ev I0.val I1.val I2.val I3.val) w
  exact envOkU' ⟨S114_ok, S182_ok, S224_ok, S180_ok, S225_ok, S276_ok, S275_ok, S273_ok, S274_ok, S278_ok, S279_ok, trivial⟩ trivial trivial trivial
 ·cases h
noncomputable def f116 : Int × Int × Int × Int := (4294967296, 0, 0, 0)
noncomputable def g116 (p : Int × Int × Int × Int) : SV := .agg [iv p.1, iv p.2.1, iv p.2.2.1, iv p.2.2.2]
noncomputable def S116 : Summ
 | [] => some (g116 (f116))
 | _ => none
theorem S116_ok : SummFn Go.Proofs.Tryz.prog 116 S116 := by
 have ev : (symCall ⟨Go.Proofs.Tryz.prog, [], 3, 336, true, [], [], [], []⟩ 30 116 [] []).out = ((g116 (f116)).toV) := by
  kernel_rfl
 intro fs r h w vs hv
 unfold S116 at h
 split at h
 ·cases h
  refine sx_calls ?_ 30 116 _ vs (symifyL_rel _ _ (SArels_v (xs := []) hv)) (by kernel_rfl) rfl (ev) w
  exact envOkU' trivial trivial trivial trivial
 ·cases h
noncomputable def f220 (I0 I1 I2 I3 : Int) : Int × Int × Int × Int × Bool := let x1 := (f183 I0 I1 I2 I3).fst; let x2 := x1 == 0; let x3 := f222 I0 x1; let x4 := f116.snd; let x5 := f222 I1 x1; let x6 := x4.snd; let x7 := f222 I2 x1; let x8 := f222 I3 x1; (bif x2 then f116.fst else x3.fst, bif x2 then x4.fst else x5.fst, bif x2 then x6.fst else x7.fst, bif x2 then x6.snd else x8.fst, x2 || ((f183 I0 I1 I2 I3).snd || x3.snd || x5.snd || x7.snd || x8.snd))
noncomputable def g220 (p : Int × Int × Int × Int × Bool) : SV := .tuple [.agg [iv p.1, iv p.2.1, iv p.2.2.1, iv p.2.2.2.1], bv p.2.2.2.2]
noncomputable def S220 : Summ
 | [.v (.agg [.int .i64 I0, .int .i64 I1, .int .i64 I2, .int .i64 I3])] => some (g220 (f220 I0.val I1.val I2.val I3.val))
 | _ => none
theorem S220_ok : SummFn Go.Proofs.Tryz.prog 220 S220 := by
 have ev : ∀ (I0 I1 I2 I3 : Int), (symCall ⟨Go.Proofs.Tryz.prog, [(183, S183), (116, S116), (222, S222), (114, S114), (182, S182), (224, S224), (272, S272), (180, S180), (227, S227), (225, S225), (276, S276), (275, S275), (273, S273), (274, S274), (278, S278), (279, S279)], 3, 336, true, [], [], [], []⟩ 30 220 [.agg [iv I0, iv I1, iv I2, iv I3]] []).out = ((g220 (f220 I0 I1 I2 I3)).toV) := by
  intro I0 I1 I2 I3
  kernel_rfl
 intro fs r h w vs hv
 unfold S220 at h
 split at h
 ·rename_i I0 I1 I2 I3
  cases h
  refine sx_calls ?_ 30 220 _ vs (symifyL_rel _ _ (SArels_v (xs := [.agg [.int .i64 I0, .int .i64 I1, .int .i64 I2, .int .i64 I3]]) hv)) (by kernel_rfl) rfl (ev I0.val I1.val I2.val I3.val) w
  exact envOkU' ⟨S183_ok, S116_ok, S222_ok, S114_ok, S182_ok, S224_ok, S272_ok, S180_ok, S227_ok, S225_ok, S276_ok, S275_ok, S273_ok, S274_ok, S278_ok, S279_ok, trivial⟩ trivial trivial trivial
 ·cases h
noncomputable def f219 (I0 I1 I2 : Int) : Int × Int × Int × Int × Bool := let x1 := f220 f116.fst (f179 I0 2147483648).fst (f179 I1 2147483648).fst (f179 I2 2147483648).fst; let x2 := x1.snd; let x3 := x2.snd; let x4 := x3.snd; (x1.fst, x2.fst, x3.fst, x4.fst, (f179 I0 2147483648).snd || (f179 I1 2147483648).snd || (f179 I2 2147483648).snd || x4.snd)
noncomputable def g219 (p : Int × Int × Int × Int × Bool) : SV := .tuple [.agg [iv p.1, iv p.2.1, iv p.2.2.1, iv p.2.2.2.1], bv p.2.2.2.2]
noncomputable def S219 : Summ
 | [.v (.agg [.int .i64 I0, .int .i64 I1, .int .i64 I2])] => some (g219 (f219 I0.val I1.val I2.val))
 | _ => none
theorem S219_ok : SummFn Go.Proofs.Tryz.prog 219 S219 := by
 have ev : ∀ (I0 I1 I2 : Int), (symCall ⟨Go.Proofs.Tryz.prog, [(183, S183), (220, S220), (116, S116), (222, S222), (179, S179), (114, S114), (182, S182), (226, S226), (224, S224), (272, S272), (180, S180), (227, S227), (225, S225), (276, S276), (280, S280), (281, S281), (275, S275), (273, S273), (274, S274), (278, S278), (279, S279)], 3, 336, true, [], [], [], []⟩ 30 219 [.agg [iv I0, iv I1, iv I2]] []).out = ((g219 (f219 I0 I1 I2)).toV) := by
  intro I0 I1 I2
  kernel_rfl
 intro fs r h w vs hv
 unfold S219 at h
 split at h
 ·rename_i I0 I1 I2
  cases h
  refine sx_calls ?_ 30 219 _ vs (symifyL_rel _ _ (SArels_v (xs := [.agg [.int .i64 I0, .int .i64 I1, .int .i64 I2]]) hv)) (by kernel_rfl) rfl (ev I0.val I1.val I2.val) w
  exact envOkU' ⟨S183_ok, S220_ok, S116_ok, S222_ok, S179_ok, S114_ok, S182_ok, S226_ok, S224_ok, S272_ok, S180_ok, S227_ok, S225_ok, S276_ok, S280_ok, S281_ok, S275_ok, S273_ok, S274_ok, S278_ok, S279_ok, trivial⟩ trivial trivial trivial
 ·cases h
noncomputable def f165 (I0 I1 I2 I3 : Int) : Int × Int × Int × Int := (f114 I0, f213 I1, f213 I2, f213 I3)
noncomputable def g165 (p : Int × Int × Int × Int) : SV := .agg [iv p.1, iv p.2.1, iv p.2.2.1, iv p.2.2.2]
noncomputable def S165 : Summ
 | [.v (.agg [.int .i64 I0, .int .i64 I1, .int .i64 I2, .int .i64 I3])] => some (g165 (f165 I0.val I1.val I2.val I3.val))
 | _ => none
theorem S165_ok : SummFn Go.Proofs.Tryz.prog 165 S165 := by
 have ev : ∀ (I0 I1 I2 I3 : Int), (symCall ⟨Go.Proofs.Tryz.prog, [(213, S213), (114, S114), (268, S268), (182, S182)], 3, 336, true, [], [], [], []⟩ 30 165 [.agg [iv I0, iv I1, iv I2, iv I3]] []).out = ((g165 (f165 I0 I1 I2 I3)).toV) := by
  intro I0 I1 I2 I3
  kernel_rfl
 intro fs r h w vs hv
 unfold S165 at h
 split at h
 ·rename_i I0 I1 I2 I3
  cases h
  refine sx_calls ?_ 30 165 _ vs (symifyL_rel _ _ (SArels_v (xs := [.agg [.int .i64 I0, .int .i64 I1, .int .i64 I2, .int .i64 I3]]) hv)) (by kernel_rfl) rfl (ev I0.val I1.val I2.val I3.val) w
  exact envOkU' ⟨S213_ok, S114_ok, S268_ok, S182_ok, trivial⟩ trivial trivial trivial
 ·cases h
noncomputable def f107 (I0 I1 I2 I3 Z0 Z1 Z2 : Int) : Int × Int × Int × Bool := let x1 := f164 I0 I1 I2 I3 0 Z0 Z1 Z2; let x2 := x1.snd; let x3 := x2.snd; let x4 := x3.snd; let x5 := (f165 I0 I1 I2 I3).snd; let x6 := x5.snd; let x7 := (f164 x1.fst x2.fst x3.fst x4.fst (f165 I0 I1 I2 I3).fst x5.fst x6.fst x6.snd).snd; let x8 := x7.snd; let x9 := x8.snd; (x7.fst, x8.fst, x9.fst, x4.snd || x9.snd)
noncomputable def g107 (p : Int × Int × Int × Bool) : SV := .tuple [.agg [iv p.1, iv p.2.1, iv p.2.2.1], bv p.2.2.2]
noncomputable def S107 : Summ
 | [.v (.agg [.int .i64 I0, .int .i64 I1, .int .i64 I2, .int .i64 I3]), .v (.agg [.int .i64 Z0, .int .i64 Z1, .int .i64 Z2])] => some (g107 (f107 I0.val I1.val I2.val I3.val Z0.val Z1.val Z2.val))
 | _ => none
theorem S107_ok : SummFn Go.Proofs.Tryz.prog 107 S107 := by
 have ev : ∀ (I0 I1 I2 I3 Z0 Z1 Z2 : Int), (symCall ⟨Go.Proofs.Tryz.prog, [(164, S164), (165, S165), (213, S213), (214, S214), (114, S114), (268, S268), (182, S182), (226, S226), (180, S180), (225, S225), (276, S276), (280, S280), (281, S281), (275, S275), (273, S273), (279, S279)], 3, 336, true, [(254, H254), (232, H232), (234, H234), (255, H255), (215, H215)], [], [], []⟩ 30 107 [.agg [iv I0, iv I1, iv I2, iv I3], .agg [iv Z0, iv Z1, iv Z2]] []).out = ((g107 (f107 I0 I1 I2 I3 Z0 Z1 Z2)).toV) := by
  intro I0 I1 I2 I3 Z0 Z1 Z2
  kernel_rfl
 intro fs r h w vs hv
 unfold S107 at h
 split at h
 ·rename_i I0 I1 I2 I3 Z0 Z1 Z2
  cases h
  refine sx_calls ?_ 30 107 _ vs (symifyL_rel _ _ (SArels_v (xs := [.agg [.int .i64 I0, .int .i64 I1, .int .i64 I2, .int .i64 I3], .agg [.int .i64 Z0, .int .i64 Z1, .int .i64 Z2]]) hv)) (by kernel_rfl) rfl (ev I0.val I1.val I2.val I3.val Z0.val Z1.val Z2.val) w
  exact envOkU' ⟨S164_ok, S165_ok, S213_ok, S214_ok, S114_ok, S268_ok, S182_ok, S226_ok, S180_ok, S225_ok, S276_ok, S280_ok, S281_ok, S275_ok, S273_ok, S279_ok, trivial⟩ ⟨H254_ok, H232_ok, H234_ok, H255_ok, H215_ok, trivial⟩ trivial trivial
 ·cases h
end Go.Proofs.YtdchdajjhofmnaaGreat
