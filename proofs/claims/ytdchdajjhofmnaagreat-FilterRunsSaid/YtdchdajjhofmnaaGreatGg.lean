/- What each function computes, by the executor: printed by a program (wip/sx2/Gen3.lean). -/
import Derived.Test.YtdchdajjhofmnaaGreatNa
import Derived.Test.YtdchdajjhofmnaaGreatW1
namespace Go.Proofs.YtdchdajjhofmnaaGreat
open Go Go.Sx
set_option linter.unusedVariables false
set_option linter.unusedSimpArgs false
set_option maxRecDepth 1000000
set_option maxHeartbeats 100000000
noncomputable def f249 (I0 I1 I2 I3 : Int) : Int := I0
noncomputable def g249 (p : Int) : SV := iv p
noncomputable def S249 : Summ
 | [.v (.agg [.int .i64 I0, .int .i64 I1, .int .i64 I2, .int .i64 I3])] => some (g249 (f249 I0.val I1.val I2.val I3.val))
 | _ => none
theorem S249_ok : SummFn Go.Proofs.Tryz.prog 249 S249 := by
 have ev : ∀ (I0 I1 I2 I3 : Int), (symCall ⟨Go.Proofs.Tryz.prog, [], 3, 336, true, [], [], [], []⟩ 30 249 [.agg [iv I0, iv I1, iv I2, iv I3]] []).out = ((g249 (f249 I0 I1 I2 I3)).toV) := by
  intro I0 I1 I2 I3
  kernel_rfl
 intro fs r h w vs hv
 unfold S249 at h
 split at h
 ·rename_i I0 I1 I2 I3
  cases h
  refine sx_calls ?_ 30 249 _ vs (symifyL_rel _ _ (SArels_v (xs := [.agg [.int .i64 I0, .int .i64 I1, .int .i64 I2, .int .i64 I3]]) hv)) (by kernel_rfl) rfl (ev I0.val I1.val I2.val I3.val) w
  exact envOkU' trivial trivial trivial trivial
 ·cases h
noncomputable def f251 (I0 I1 I2 I3 : Int) : Int := I1
noncomputable def g251 (p : Int) : SV := iv p
noncomputable def S251 : Summ
 | [.v (.agg [.int .i64 I0, .int .i64 I1, .int .i64 I2, .int .i64 I3])] => some (g251 (f251 I0.val I1.val I2.val I3.val))
 | _ => none
theorem S251_ok : SummFn Go.Proofs.Tryz.prog 251 S251 := by
 have ev : ∀ (I0 I1 I2 I3 : Int), (symCall ⟨Go.Proofs.Tryz.prog, [], 3, 336, true, [], [], [], []⟩ 30 251 [.agg [iv I0, iv I1, iv I2, iv I3]] []).out = ((g251 (f251 I0 I1 I2 I3)).toV) := by
  intro I0 I1 I2 I3
  kernel_rfl
 intro fs r h w vs hv
 unfold S251 at h
 split at h
 ·rename_i I0 I1 I2 I3
  cases h
  refine sx_calls ?_ 30 251 _ vs (symifyL_rel _ _ (SArels_v (xs := [.agg [.int .i64 I0, .int .i64 I1, .int .i64 I2, .int .i64 I3]]) hv)) (by kernel_rfl) rfl (ev I0.val I1.val I2.val I3.val) w
  exact envOkU' trivial trivial trivial trivial
 ·cases h
noncomputable def f252 (I0 I1 I2 I3 : Int) : Int := I2
noncomputable def g252 (p : Int) : SV := iv p
noncomputable def S252 : Summ
 | [.v (.agg [.int .i64 I0, .int .i64 I1, .int .i64 I2, .int .i64 I3])] => some (g252 (f252 I0.val I1.val I2.val I3.val))
 | _ => none
theorem S252_ok : SummFn Go.Proofs.Tryz.prog 252 S252 := by
 have ev : ∀ (I0 I1 I2 I3 : Int), (symCall ⟨Go.Proofs.Tryz.prog, [], 3, 336, true, [], [], [], []⟩ 30 252 [.agg [iv I0, iv I1, iv I2, iv I3]] []).out = ((g252 (f252 I0 I1 I2 I3)).toV) := by
  intro I0 I1 I2 I3
  kernel_rfl
 intro fs r h w vs hv
 unfold S252 at h
 split at h
 ·rename_i I0 I1 I2 I3
  cases h
  refine sx_calls ?_ 30 252 _ vs (symifyL_rel _ _ (SArels_v (xs := [.agg [.int .i64 I0, .int .i64 I1, .int .i64 I2, .int .i64 I3]]) hv)) (by kernel_rfl) rfl (ev I0.val I1.val I2.val I3.val) w
  exact envOkU' trivial trivial trivial trivial
 ·cases h
noncomputable def f253 (I0 I1 I2 I3 : Int) : Int := I3
noncomputable def g253 (p : Int) : SV := iv p
noncomputable def S253 : Summ
 | [.v (.agg [.int .i64 I0, .int .i64 I1, .int .i64 I2, .int .i64 I3])] => some (g253 (f253 I0.val I1.val I2.val I3.val))
 | _ => none
theorem S253_ok : SummFn Go.Proofs.Tryz.prog 253 S253 := by
 have ev : ∀ (I0 I1 I2 I3 : Int), (symCall ⟨Go.Proofs.Tryz.prog, [], 3, 336, true, [], [], [], []⟩ 30 253 [.agg [iv I0, iv I1, iv I2, iv I3]] []).out = ((g253 (f253 I0 I1 I2 I3)).toV) := by
  intro I0 I1 I2 I3
  kernel_rfl
 intro fs r h w vs hv
 unfold S253 at h
 split at h
 ·rename_i I0 I1 I2 I3
  cases h
  refine sx_calls ?_ 30 253 _ vs (symifyL_rel _ _ (SArels_v (xs := [.agg [.int .i64 I0, .int .i64 I1, .int .i64 I2, .int .i64 I3]]) hv)) (by kernel_rfl) rfl (ev I0.val I1.val I2.val I3.val) w
  exact envOkU' trivial trivial trivial trivial
 ·cases h
noncomputable def f200 (I0 I1 I2 I3 Z0 Z1 Z2 Z3 : Int) : Int × Int × Int × Int × Bool := let x1 := f259 I1 (f256 (f251 Z0 Z1 Z2 Z3)); let x2 := f259 I2 (f256 (f252 Z0 Z1 Z2 Z3)); let x3 := f259 I3 (f256 (f253 Z0 Z1 Z2 Z3)); let x4 := addL [((f259 I0 (f249 Z0 Z1 Z2 Z3)).fst, (f259 I0 (f249 Z0 Z1 Z2 Z3)).snd), (x1.fst, x1.snd), (x2.fst, x2.snd), (x3.fst, x3.snd)]; let x5 := f258 x4.fst x4.snd; let x6 := f259 I3 (f256 (f252 Z0 Z1 Z2 Z3)); let x7 := addL [((f259 I0 (f251 Z0 Z1 Z2 Z3)).fst, (f259 I0 (f251 Z0 Z1 Z2 Z3)).snd), ((f259 I1 (f249 Z0 Z1 Z2 Z3)).fst, (f259 I1 (f249 Z0 Z1 Z2 Z3)).snd), ((f259 I2 (f253 Z0 Z1 Z2 Z3)).fst, (f259 I2 (f253 Z0 Z1 Z2 Z3)).snd), (x6.fst, x6.snd)]; let x8 := f258 x7.fst x7.snd; let x9 := f259 I1 (f256 (f253 Z0 Z1 Z2 Z3)); let x10 := addL [((f259 I0 (f252 Z0 Z1 Z2 Z3)).fst, (f259 I0 (f252 Z0 Z1 Z2 Z3)).snd), (x9.fst, x9.snd), ((f259 I2 (f249 Z0 Z1 Z2 Z3)).fst, (f259 I2 (f249 Z0 Z1 Z2 Z3)).snd), ((f259 I3 (f251 Z0 Z1 Z2 Z3)).fst, (f259 I3 (f251 Z0 Z1 Z2 Z3)).snd)]; let x11 := f258 x10.fst x10.snd; let x12 := f259 I2 (f256 (f251 Z0 Z1 Z2 Z3)); let x13 := addL [((f259 I0 (f253 Z0 Z1 Z2 Z3)).fst, (f259 I0 (f253 Z0 Z1 Z2 Z3)).snd), ((f259 I1 (f252 Z0 Z1 Z2 Z3)).fst, (f259 I1 (f252 Z0 Z1 Z2 Z3)).snd), (x12.fst, x12.snd), ((f259 I3 (f249 Z0 Z1 Z2 Z3)).fst, (f259 I3 (f249 Z0 Z1 Z2 Z3)).snd)]; let x14 := f258 x13.fst x13.snd; let x15 := IntKind.i64.wrap (0 + 1); let x16 := IntKind.i64.wrap (x15 + 1); let x17 := IntKind.i64.wrap (x16 + 1); let x18 := bif (f99 I0).snd then 0 else bif (f99 I1).snd then x15 else bif (f99 I2).snd then x16 else bif (f99 I3).snd then x17 else -1; let x19 := bif (f99 Z0).snd then 0 else bif (f99 Z1).snd then x15 else bif (f99 Z2).snd then x16 else bif (f99 Z3).snd then x17 else -1; let x20 := anyB [(f99 I0).snd, (f99 I1).snd, (f99 I2).snd, (f99 I3).snd]; let x21 := (f99 (f249 Z0 Z1 Z2 Z3)).snd; let x22 := (f99 (f256 (f251 Z0 Z1 Z2 Z3))).snd; let x23 := (f99 (f256 (f252 Z0 Z1 Z2 Z3))).snd; let x24 := (f99 (f256 (f253 Z0 Z1 Z2 Z3))).snd; let x25 := (f99 (f251 Z0 Z1 Z2 Z3)).snd; let x26 := (f99 (f253 Z0 Z1 Z2 Z3)).snd; let x27 := (f99 (f252 Z0 Z1 Z2 Z3)).snd; (x5.fst, x8.fst, x11.fst, x14.fst, decide (x18 ≥ 0) || decide (x19 ≥ 0) || (x5.snd || x20 || anyB [x21, x22, x23, x24]) || (x8.snd || x20 || anyB [x25, x21, x26, x23]) || (x11.snd || x20 || anyB [x27, x24, x21, x25]) || (x14.snd || x20 || anyB [x26, x27, x22, x21]))
noncomputable def g200 (p : Int × Int × Int × Int × Bool) : SV := .tuple [.agg [iv p.1, iv p.2.1, iv p.2.2.1, iv p.2.2.2.1], bv p.2.2.2.2]
noncomputable def S200 : Summ
 | [.v (.agg [.int .i64 I0, .int .i64 I1, .int .i64 I2, .int .i64 I3]), .v (.agg [.int .i64 Z0, .int .i64 Z1, .int .i64 Z2, .int .i64 Z3])] => some (g200 (f200 I0.val I1.val I2.val I3.val Z0.val Z1.val Z2.val Z3.val))
 | _ => none
theorem S200_ok : SummFn Go.Proofs.Tryz.prog 200 S200 := by
 have ev : ∀ (I0 I1 I2 I3 Z0 Z1 Z2 Z3 : Int), (symCall ⟨Go.Proofs.Tryz.prog, [(99, S99), (249, S249), (251, S251), (252, S252), (253, S253), (256, S256), (149, S149), (258, S258), (303, S303), (259, S259), (257, S257), (284, S284), (285, S285), (300, S300), (282, S282), (302, S302), (304, S304), (317, S317)], 3, 336, true, [(254, H254), (232, H232), (234, H234), (255, H255), (215, H215)], [], [(250, N250)], []⟩ 30 200 [.agg [iv I0, iv I1, iv I2, iv I3], .agg [iv Z0, iv Z1, iv Z2, iv Z3]] []).out = ((g200 (f200 I0 I1 I2 I3 Z0 Z1 Z2 Z3)).toV) := by
  intro I0 I1 I2 I3 Z0 Z1 Z2 Z3
  kernel_rfl
 intro fs r h w vs hv
 unfold S200 at h
 split at h
 ·rename_i I0 I1 I2 I3 Z0 Z1 Z2 Z3
  cases h
  refine sx_calls ?_ 30 200 _ vs (symifyL_rel _ _ (SArels_v (xs := [.agg [.int .i64 I0, .int .i64 I1, .int .i64 I2, .int .i64 I3], .agg [.int .i64 Z0, .int .i64 Z1, .int .i64 Z2, .int .i64 Z3]]) hv)) (by kernel_rfl) rfl (ev I0.val I1.val I2.val I3.val Z0.val Z1.val Z2.val Z3.val) w
  exact envOkU' ⟨S99_ok, S249_ok, S251_ok, S252_ok, S253_ok, S256_ok, S149_ok, S258_ok, S303_ok, S259_ok, S257_ok, S284_ok, S285_ok, S300_ok, S282_ok, S302_ok, S304_ok, S317_ok, trivial⟩ ⟨H254_ok, H232_ok, H234_ok, H255_ok, H215_ok, trivial⟩ trivial ⟨N250_ok, trivial⟩
 ·cases h
noncomputable def f140 (I0 I1 I2 I3 : Int) : Int × Bool := let x1 := addL [((f259 I0 I0).fst, (f259 I0 I0).snd), ((f259 I1 I1).fst, (f259 I1 I1).snd), ((f259 I2 I2).fst, (f259 I2 I2).snd), ((f259 I3 I3).fst, (f259 I3 I3).snd)]; let x2 := f231 x1.fst x1.snd; (x2.fst, x2.snd || anyB [(f99 I0).snd, (f99 I1).snd, (f99 I2).snd, (f99 I3).snd])
noncomputable def g140 (p : Int × Bool) : SV := .tuple [iv p.1, bv p.2]
noncomputable def S140 : Summ
 | [.v (.agg [.int .i64 I0, .int .i64 I1, .int .i64 I2, .int .i64 I3])] => some (g140 (f140 I0.val I1.val I2.val I3.val))
 | _ => none
theorem S140_ok : SummFn Go.Proofs.Tryz.prog 140 S140 := by
 have ev : ∀ (I0 I1 I2 I3 : Int), (symCall ⟨Go.Proofs.Tryz.prog, [(99, S99), (149, S149), (231, S231), (303, S303), (259, S259), (257, S257), (284, S284), (285, S285), (282, S282), (283, S283), (302, S302), (304, S304), (317, S317), (184, S184), (185, S185), (229, S229)], 3, 336, true, [(254, H254), (232, H232), (234, H234), (255, H255), (215, H215)], [], [], []⟩ 30 140 [.agg [iv I0, iv I1, iv I2, iv I3]] []).out = ((g140 (f140 I0 I1 I2 I3)).toV) := by
  intro I0 I1 I2 I3
  kernel_rfl
 intro fs r h w vs hv
 unfold S140 at h
 split at h
 ·rename_i I0 I1 I2 I3
  cases h
  refine sx_calls ?_ 30 140 _ vs (symifyL_rel _ _ (SArels_v (xs := [.agg [.int .i64 I0, .int .i64 I1, .int .i64 I2, .int .i64 I3]]) hv)) (by kernel_rfl) rfl (ev I0.val I1.val I2.val I3.val) w
  exact envOkU' ⟨S99_ok, S149_ok, S231_ok, S303_ok, S259_ok, S257_ok, S284_ok, S285_ok, S282_ok, S283_ok, S302_ok, S304_ok, S317_ok, S184_ok, S185_ok, S229_ok, trivial⟩ ⟨H254_ok, H232_ok, H234_ok, H255_ok, H215_ok, trivial⟩ trivial trivial
 ·cases h
noncomputable def f98 : Int × Int × Int × Int := (4294967296, 0, 0, 0)
noncomputable def g98 (p : Int × Int × Int × Int) : SV := .agg [iv p.1, iv p.2.1, iv p.2.2.1, iv p.2.2.2]
noncomputable def S98 : Summ
 | [] => some (g98 (f98))
 | _ => none
theorem S98_ok : SummFn Go.Proofs.Tryz.prog 98 S98 := by
 have ev : (symCall ⟨Go.Proofs.Tryz.prog, [], 3, 336, true, [], [], [], []⟩ 30 98 [] []).out = ((g98 (f98)).toV) := by
  kernel_rfl
 intro fs r h w vs hv
 unfold S98 at h
 split at h
 ·cases h
  refine sx_calls ?_ 30 98 _ vs (symifyL_rel _ _ (SArels_v (xs := []) hv)) (by kernel_rfl) rfl (ev) w
  exact envOkU' trivial trivial trivial trivial
 ·cases h
noncomputable def f309 (I0 I1 I2 I3 : Int) : Int × Int × Int × Int × Bool := let x1 := (f140 I0 I1 I2 I3).fst; let x2 := x1 == 0; let x3 := f312 I0 x1; let x4 := f98.snd; let x5 := f312 I1 x1; let x6 := x4.snd; let x7 := f312 I2 x1; let x8 := f312 I3 x1; (bif x2 then f98.fst else x3.fst, bif x2 then x4.fst else x5.fst, bif x2 then x6.fst else x7.fst, bif x2 then x6.snd else x8.fst, x2 || ((f140 I0 I1 I2 I3).snd || x3.snd || x5.snd || x7.snd || x8.snd))
noncomputable def g309 (p : Int × Int × Int × Int × Bool) : SV := .tuple [.agg [iv p.1, iv p.2.1, iv p.2.2.1, iv p.2.2.2.1], bv p.2.2.2.2]
noncomputable def S309 : Summ
 | [.v (.agg [.int .i64 I0, .int .i64 I1, .int .i64 I2, .int .i64 I3])] => some (g309 (f309 I0.val I1.val I2.val I3.val))
 | _ => none
theorem S309_ok : SummFn Go.Proofs.Tryz.prog 309 S309 := by
 have ev : ∀ (I0 I1 I2 I3 : Int), (symCall ⟨Go.Proofs.Tryz.prog, [(140, S140), (98, S98), (99, S99), (312, S312), (149, S149), (231, S231), (260, S260), (303, S303), (326, S326), (259, S259), (257, S257), (284, S284), (285, S285), (282, S282), (283, S283), (302, S302), (304, S304), (317, S317), (184, S184), (185, S185), (229, S229)], 3, 336, true, [(254, H254), (232, H232), (234, H234), (255, H255), (215, H215)], [], [], []⟩ 30 309 [.agg [iv I0, iv I1, iv I2, iv I3]] []).out = ((g309 (f309 I0 I1 I2 I3)).toV) := by
  intro I0 I1 I2 I3
  kernel_rfl
 intro fs r h w vs hv
 unfold S309 at h
 split at h
 ·rename_i I0 I1 I2 I3
  cases h
  refine sx_calls ?_ 30 309 _ vs (symifyL_rel _ _ (SArels_v (xs := [.agg [.int .i64 I0, .int .i64 I1, .int .i64 I2, .int .i64 I3]]) hv)) (by kernel_rfl) rfl (ev I0.val I1.val I2.val I3.val) w
  exact envOkU' ⟨S140_ok, S98_ok, S99_ok, S312_ok, S149_ok, S231_ok, S260_ok, S303_ok, S326_ok, S259_ok, S257_ok, S284_ok, S285_ok, S282_ok, S283_ok, S302_ok, S304_ok, S317_ok, S184_ok, S185_ok, S229_ok, trivial⟩ ⟨H254_ok, H232_ok, H234_ok, H255_ok, H215_ok, trivial⟩ trivial trivial
 ·cases h
noncomputable def f201 (I0 I1 I2 I3 : Int) : Int × Int × Int × Int := ((f99 I0).fst, f256 I1, f256 I2, f256 I3)
noncomputable def g201 (p : Int × Int × Int × Int) : SV := .agg [iv p.1, iv p.2.1, iv p.2.2.1, iv p.2.2.2]
noncomputable def S201 : Summ
 | [.v (.agg [.int .i64 I0, .int .i64 I1, .int .i64 I2, .int .i64 I3])] => some (g201 (f201 I0.val I1.val I2.val I3.val))
 | _ => none
theorem S201_ok : SummFn Go.Proofs.Tryz.prog 201 S201 := by
 have ev : ∀ (I0 I1 I2 I3 : Int), (symCall ⟨Go.Proofs.Tryz.prog, [(99, S99), (256, S256), (149, S149), (257, S257)], 3, 336, true, [], [], [], []⟩ 30 201 [.agg [iv I0, iv I1, iv I2, iv I3]] []).out = ((g201 (f201 I0 I1 I2 I3)).toV) := by
  intro I0 I1 I2 I3
  kernel_rfl
 intro fs r h w vs hv
 unfold S201 at h
 split at h
 ·rename_i I0 I1 I2 I3
  cases h
  refine sx_calls ?_ 30 201 _ vs (symifyL_rel _ _ (SArels_v (xs := [.agg [.int .i64 I0, .int .i64 I1, .int .i64 I2, .int .i64 I3]]) hv)) (by kernel_rfl) rfl (ev I0.val I1.val I2.val I3.val) w
  exact envOkU' ⟨S99_ok, S256_ok, S149_ok, S257_ok, trivial⟩ trivial trivial trivial
 ·cases h
end Go.Proofs.YtdchdajjhofmnaaGreat
