/- What each function computes, by the executor: printed by a program (wip/sx2/Gen3.lean). -/
import Derived.Test.YtejlbofmlaclpaaGe
namespace Go.Proofs.Ytejlbofmlaclpaa
open Go Go.Sx
set_option maxRecDepth 1000000
set_option maxHeartbeats 100000000
/-- outrigger/outriggerlaw07.VecUnit -/
noncomputable def f9 (a0_0 : Int) (a0_1 : Int) (a0_2 : Int) : Bool := let x1 : Int := (f36 a0_0 a0_1 a0_2).fst; let x2 : Int × Int × Bool := (f36 a0_0 a0_1 a0_2).snd; let x3 : Int := x2.fst; let x4 : Int × Bool := x2.snd; let x5 : Int := x4.fst; let x6 : Int × Bool := f35 x1 x3 x5; let x7 : Int := x6.fst; bif (f35 a0_0 a0_1 a0_2).snd || decide ((f35 a0_0 a0_1 a0_2).fst < 16777216) || decide ((f35 a0_0 a0_1 a0_2).fst > 4503599627370496) then f34 else !(decide (a0_0 ≥ 0) && decide (x1 < 0) || decide (a0_0 ≤ 0) && decide (x1 > 0)) && (!(decide (a0_1 ≥ 0) && decide (x3 < 0) || decide (a0_1 ≤ 0) && decide (x3 > 0)) && (!(decide (a0_2 ≥ 0) && decide (x5 < 0) || decide (a0_2 ≤ 0) && decide (x5 > 0)) && (f34 && !x4.snd && !x6.snd && decide (x7 ≤ 4294971392) && decide (x7 ≥ 4294963200))))
noncomputable def g9 (p : Bool) : SV := .bool (.sym p)
noncomputable def S9 : Summ
  | [.v (.agg [.int .i64 a0_0, .int .i64 a0_1, .int .i64 a0_2])] => some (g9 (f9 a0_0.val a0_1.val a0_2.val))
  | _ => none
theorem S9_ok : SummFn Go.Proofs.Try.prog 9 S9 := by
  have ev : ∀ (a0_0 : Int) (a0_1 : Int) (a0_2 : Int), (symCall ⟨Go.Proofs.Try.prog, [(16, S16), (18, S18), (20, S20), (24, S24), (25, S25), (27, S27), (29, S29), (30, S30), (31, S31), (32, S32), (34, S34), (35, S35), (36, S36), (37, S37), (38, S38), (40, S40), (49, S49), (51, S51), (56, S56), (59, S59), (67, S67), (68, S68), (69, S69), (70, S70), (71, S71), (72, S72), (73, S73), (89, S89), (91, S91)], 3, 110, true, [(92, H92), (94, H94), (78, H78), (82, H82)]⟩ 30 9 [.agg [.int .i64 (.sym a0_0), .int .i64 (.sym a0_1), .int .i64 (.sym a0_2)]] []).out = ((g9 (f9 a0_0 a0_1 a0_2)).toV) := by
    intro a0_0 a0_1 a0_2
    kernel_rfl
  intro fs r h w vs hv
  unfold S9 at h
  split at h
  · rename_i a0_0 a0_1 a0_2
    cases h
    exact sx_calls (envOkH' (S := [(16, S16), (18, S18), (20, S20), (24, S24), (25, S25), (27, S27), (29, S29), (30, S30), (31, S31), (32, S32), (34, S34), (35, S35), (36, S36), (37, S37), (38, S38), (40, S40), (49, S49), (51, S51), (56, S56), (59, S59), (67, S67), (68, S68), (69, S69), (70, S70), (71, S71), (72, S72), (73, S73), (89, S89), (91, S91)]) (HS := [(92, H92), (94, H94), (78, H78), (82, H82)]) (j := true) ⟨S16_ok, S18_ok, S20_ok, S24_ok, S25_ok, S27_ok, S29_ok, S30_ok, S31_ok, S32_ok, S34_ok, S35_ok, S36_ok, S37_ok, S38_ok, S40_ok, S49_ok, S51_ok, S56_ok, S59_ok, S67_ok, S68_ok, S69_ok, S70_ok, S71_ok, S72_ok, S73_ok, S89_ok, S91_ok, trivial⟩ ⟨H92_ok, H94_ok, H78_ok, H82_ok, trivial⟩) 30 9 [.agg [.int .i64 (.sym a0_0.val), .int .i64 (.sym a0_1.val), .int .i64 (.sym a0_2.val)]] vs (symifyL_rel _ _ (SArels_v (xs := [.agg [.int .i64 a0_0, .int .i64 a0_1, .int .i64 a0_2]]) hv)) (by kernel_rfl) rfl (ev a0_0.val a0_1.val a0_2.val) w
  · cases h
/-- outrigger/outriggerlaw07.VecCross -/
noncomputable def f10 (a0_0 : Int) (a0_1 : Int) (a0_2 : Int) (a1_0 : Int) (a1_1 : Int) (a1_2 : Int) : Bool := let x1 : Int × Int × Bool := (f37 a0_0 a0_1 a0_2 a1_0 a1_1 a1_2).snd; let x2 : Int × Bool := x1.snd; let x3 : Int × Int × Bool := (f37 a1_0 a1_1 a1_2 a0_0 a0_1 a0_2).snd; let x4 : Int × Bool := x3.snd; let x5 : Bool := x2.snd || x4.snd; let x6 : Int × Int × Bool := (f37 a0_0 a0_1 a0_2 a0_0 a0_1 a0_2).snd; let x7 : Int × Bool := x6.snd; let x8 : Bool := f34 && !x7.snd && ((f37 a0_0 a0_1 a0_2 a0_0 a0_1 a0_2).fst == 0 && (x6.fst == 0 && x7.fst == 0)); let x9 : Int := (f28 x2.fst x4.fst).fst; let x10 : Bool := bif x5 then x8 else !(decide (x9 < -1) || decide (x9 > 1)) && x8; let x11 : Int := (f28 x1.fst x3.fst).fst; let x12 : Bool := bif x5 then x10 else !(decide (x11 < -1) || decide (x11 > 1)) && x10; let x13 : Int := (f28 (f37 a0_0 a0_1 a0_2 a1_0 a1_1 a1_2).fst (f37 a1_0 a1_1 a1_2 a0_0 a0_1 a0_2).fst).fst; bif decide (a0_0 > 281474976710656) || decide (a0_0 < -281474976710656) || decide (a1_0 > 281474976710656) || decide (a1_0 < -281474976710656) then f34 else bif decide (a0_1 > 281474976710656) || decide (a0_1 < -281474976710656) || decide (a1_1 > 281474976710656) || decide (a1_1 < -281474976710656) then f34 else bif decide (a0_2 > 281474976710656) || decide (a0_2 < -281474976710656) || decide (a1_2 > 281474976710656) || decide (a1_2 < -281474976710656) then f34 else bif x5 then x12 else !(decide (x13 < -1) || decide (x13 > 1)) && x12
noncomputable def g10 (p : Bool) : SV := .bool (.sym p)
noncomputable def S10 : Summ
  | [.v (.agg [.int .i64 a0_0, .int .i64 a0_1, .int .i64 a0_2]), .v (.agg [.int .i64 a1_0, .int .i64 a1_1, .int .i64 a1_2])] => some (g10 (f10 a0_0.val a0_1.val a0_2.val a1_0.val a1_1.val a1_2.val))
  | _ => none
theorem S10_ok : SummFn Go.Proofs.Try.prog 10 S10 := by
  have ev : ∀ (a0_0 : Int) (a0_1 : Int) (a0_2 : Int) (a1_0 : Int) (a1_1 : Int) (a1_2 : Int), (symCall ⟨Go.Proofs.Try.prog, [(16, S16), (18, S18), (20, S20), (24, S24), (25, S25), (27, S27), (28, S28), (29, S29), (30, S30), (31, S31), (32, S32), (34, S34), (35, S35), (36, S36), (37, S37), (38, S38), (40, S40), (49, S49), (51, S51), (56, S56), (59, S59), (67, S67), (68, S68), (69, S69), (70, S70), (71, S71), (72, S72), (73, S73), (89, S89), (91, S91)], 3, 110, true, [(92, H92), (94, H94), (78, H78), (82, H82)]⟩ 30 10 [.agg [.int .i64 (.sym a0_0), .int .i64 (.sym a0_1), .int .i64 (.sym a0_2)], .agg [.int .i64 (.sym a1_0), .int .i64 (.sym a1_1), .int .i64 (.sym a1_2)]] []).out = ((g10 (f10 a0_0 a0_1 a0_2 a1_0 a1_1 a1_2)).toV) := by
    intro a0_0 a0_1 a0_2 a1_0 a1_1 a1_2
    kernel_rfl
  intro fs r h w vs hv
  unfold S10 at h
  split at h
  · rename_i a0_0 a0_1 a0_2 a1_0 a1_1 a1_2
    cases h
    exact sx_calls (envOkH' (S := [(16, S16), (18, S18), (20, S20), (24, S24), (25, S25), (27, S27), (28, S28), (29, S29), (30, S30), (31, S31), (32, S32), (34, S34), (35, S35), (36, S36), (37, S37), (38, S38), (40, S40), (49, S49), (51, S51), (56, S56), (59, S59), (67, S67), (68, S68), (69, S69), (70, S70), (71, S71), (72, S72), (73, S73), (89, S89), (91, S91)]) (HS := [(92, H92), (94, H94), (78, H78), (82, H82)]) (j := true) ⟨S16_ok, S18_ok, S20_ok, S24_ok, S25_ok, S27_ok, S28_ok, S29_ok, S30_ok, S31_ok, S32_ok, S34_ok, S35_ok, S36_ok, S37_ok, S38_ok, S40_ok, S49_ok, S51_ok, S56_ok, S59_ok, S67_ok, S68_ok, S69_ok, S70_ok, S71_ok, S72_ok, S73_ok, S89_ok, S91_ok, trivial⟩ ⟨H92_ok, H94_ok, H78_ok, H82_ok, trivial⟩) 30 10 [.agg [.int .i64 (.sym a0_0.val), .int .i64 (.sym a0_1.val), .int .i64 (.sym a0_2.val)], .agg [.int .i64 (.sym a1_0.val), .int .i64 (.sym a1_1.val), .int .i64 (.sym a1_2.val)]] vs (symifyL_rel _ _ (SArels_v (xs := [.agg [.int .i64 a0_0, .int .i64 a0_1, .int .i64 a0_2], .agg [.int .i64 a1_0, .int .i64 a1_1, .int .i64 a1_2]]) hv)) (by kernel_rfl) rfl (ev a0_0.val a0_1.val a0_2.val a1_0.val a1_1.val a1_2.val) w
  · cases h
/-- outrigger/outriggerlaw07.VecTwo -/
noncomputable def f11 (a0_0 : Int) (a0_1 : Int) (a0_2 : Int) : Bool := let x1 : Int × Int × Int × Bool := f38 a0_0 a0_1 a0_2 8589934592; let x2 : Int × Int × Bool := x1.snd; let x3 : Int × Bool := x2.snd; let x4 : Int × Int × Bool := (f39 a0_0 a0_1 a0_2 a0_0 a0_1 a0_2).snd; let x5 : Int × Bool := x4.snd; let x6 : Int := x1.fst; let x7 : Int := x2.fst; let x8 : Int := x3.fst; let x9 : Int × Bool := f35 x6 x7 x8; let x10 : Int := x9.fst; let x11 : Int := IntKind.i64.wrap (2 * (f35 a0_0 a0_1 a0_2).fst); bif decide (a0_0 > 17592186044416) || decide (a0_0 < -17592186044416) then f34 else bif decide (a0_1 > 17592186044416) || decide (a0_1 < -17592186044416) then f34 else bif decide (a0_2 > 17592186044416) || decide (a0_2 < -17592186044416) then f34 else f34 && !x3.snd && !x5.snd && !(f35 a0_0 a0_1 a0_2).snd && !x9.snd && (x6 == (f39 a0_0 a0_1 a0_2 a0_0 a0_1 a0_2).fst && (x7 == x4.fst && x8 == x5.fst)) && (x10 == x11 || x10 == IntKind.i64.wrap (x11 + 1))
noncomputable def g11 (p : Bool) : SV := .bool (.sym p)
noncomputable def S11 : Summ
  | [.v (.agg [.int .i64 a0_0, .int .i64 a0_1, .int .i64 a0_2])] => some (g11 (f11 a0_0.val a0_1.val a0_2.val))
  | _ => none
theorem S11_ok : SummFn Go.Proofs.Try.prog 11 S11 := by
  have ev : ∀ (a0_0 : Int) (a0_1 : Int) (a0_2 : Int), (symCall ⟨Go.Proofs.Try.prog, [(16, S16), (18, S18), (20, S20), (24, S24), (25, S25), (27, S27), (28, S28), (29, S29), (30, S30), (31, S31), (32, S32), (34, S34), (35, S35), (36, S36), (37, S37), (38, S38), (39, S39), (40, S40), (49, S49), (51, S51), (56, S56), (59, S59), (67, S67), (68, S68), (69, S69), (70, S70), (71, S71), (72, S72), (73, S73), (89, S89), (91, S91)], 3, 110, true, [(92, H92), (94, H94), (78, H78), (82, H82)]⟩ 30 11 [.agg [.int .i64 (.sym a0_0), .int .i64 (.sym a0_1), .int .i64 (.sym a0_2)]] []).out = ((g11 (f11 a0_0 a0_1 a0_2)).toV) := by
    intro a0_0 a0_1 a0_2
    kernel_rfl
  intro fs r h w vs hv
  unfold S11 at h
  split at h
  · rename_i a0_0 a0_1 a0_2
    cases h
    exact sx_calls (envOkH' (S := [(16, S16), (18, S18), (20, S20), (24, S24), (25, S25), (27, S27), (28, S28), (29, S29), (30, S30), (31, S31), (32, S32), (34, S34), (35, S35), (36, S36), (37, S37), (38, S38), (39, S39), (40, S40), (49, S49), (51, S51), (56, S56), (59, S59), (67, S67), (68, S68), (69, S69), (70, S70), (71, S71), (72, S72), (73, S73), (89, S89), (91, S91)]) (HS := [(92, H92), (94, H94), (78, H78), (82, H82)]) (j := true) ⟨S16_ok, S18_ok, S20_ok, S24_ok, S25_ok, S27_ok, S28_ok, S29_ok, S30_ok, S31_ok, S32_ok, S34_ok, S35_ok, S36_ok, S37_ok, S38_ok, S39_ok, S40_ok, S49_ok, S51_ok, S56_ok, S59_ok, S67_ok, S68_ok, S69_ok, S70_ok, S71_ok, S72_ok, S73_ok, S89_ok, S91_ok, trivial⟩ ⟨H92_ok, H94_ok, H78_ok, H82_ok, trivial⟩) 30 11 [.agg [.int .i64 (.sym a0_0.val), .int .i64 (.sym a0_1.val), .int .i64 (.sym a0_2.val)]] vs (symifyL_rel _ _ (SArels_v (xs := [.agg [.int .i64 a0_0, .int .i64 a0_1, .int .i64 a0_2]]) hv)) (by kernel_rfl) rfl (ev a0_0.val a0_1.val a0_2.val) w
  · cases h
/-- outrigger/outriggerlaw07.VecDots -/
noncomputable def f12 (a0_0 : Int) (a0_1 : Int) (a0_2 : Int) (a1_0 : Int) (a1_1 : Int) (a1_2 : Int) (a2_0 : Int) (a2_1 : Int) (a2_2 : Int) : Bool := let x1 : Int × Int × Bool := (f39 a0_0 a0_1 a0_2 a1_0 a1_1 a1_2).snd; let x2 : Int × Bool := x1.snd; let x3 : Bool := x2.snd; let x4 : Int := (f39 a0_0 a0_1 a0_2 a1_0 a1_1 a1_2).fst; let x5 : Int := x1.fst; let x6 : Int := x2.fst; let x7 : Int × Bool := f40 x4 x5 x6 a2_0 a2_1 a2_2; let x8 : Int × Bool := f28 (f40 a0_0 a0_1 a0_2 a2_0 a2_1 a2_2).fst (f40 a1_0 a1_1 a1_2 a2_0 a2_1 a2_2).fst; let x9 : Int := x7.fst; let x10 : Int := x8.fst; let x11 : Int := IntKind.i64.wrap (x9 - x10); let x12 : Int := IntKind.i64.wrap (x10 - x9); let x13 : Int × Int × Int × Bool := f37 x4 x5 x6 a2_0 a2_1 a2_2; let x14 : Int × Int × Bool := x13.snd; let x15 : Int × Bool := x14.snd; let x16 : Int × Int × Bool := (f37 a0_0 a0_1 a0_2 a2_0 a2_1 a2_2).snd; let x17 : Int × Bool := x16.snd; let x18 : Int × Int × Bool := (f37 a1_0 a1_1 a1_2 a2_0 a2_1 a2_2).snd; let x19 : Int × Bool := x18.snd; let x20 : Int := IntKind.i64.wrap (IntKind.i64.wrap (x13.fst - (f37 a0_0 a0_1 a0_2 a2_0 a2_1 a2_2).fst) - (f37 a1_0 a1_1 a1_2 a2_0 a2_1 a2_2).fst); let x21 : Int := IntKind.i64.wrap (IntKind.i64.wrap (x14.fst - x16.fst) - x18.fst); let x22 : Int := IntKind.i64.wrap (IntKind.i64.wrap (x15.fst - x17.fst) - x19.fst); !(!x3 && !x7.snd && !(f40 a0_0 a0_1 a0_2 a2_0 a2_1 a2_2).snd && !(f40 a1_0 a1_1 a1_2 a2_0 a2_1 a2_2).snd && !x8.snd && (decide (x11 > 1) || decide (x12 > 1))) && bif x3 || x15.snd || x17.snd || x19.snd then f34 else !(decide (x20 > 1) || decide (x20 < -1)) && (!(decide (x21 > 1) || decide (x21 < -1)) && (!(decide (x22 > 1) || decide (x22 < -1)) && f34))
noncomputable def g12 (p : Bool) : SV := .bool (.sym p)
noncomputable def S12 : Summ
  | [.v (.agg [.int .i64 a0_0, .int .i64 a0_1, .int .i64 a0_2]), .v (.agg [.int .i64 a1_0, .int .i64 a1_1, .int .i64 a1_2]), .v (.agg [.int .i64 a2_0, .int .i64 a2_1, .int .i64 a2_2])] => some (g12 (f12 a0_0.val a0_1.val a0_2.val a1_0.val a1_1.val a1_2.val a2_0.val a2_1.val a2_2.val))
  | _ => none
theorem S12_ok : SummFn Go.Proofs.Try.prog 12 S12 := by
  have ev : ∀ (a0_0 : Int) (a0_1 : Int) (a0_2 : Int) (a1_0 : Int) (a1_1 : Int) (a1_2 : Int) (a2_0 : Int) (a2_1 : Int) (a2_2 : Int), (symCall ⟨Go.Proofs.Try.prog, [(16, S16), (18, S18), (20, S20), (24, S24), (25, S25), (27, S27), (28, S28), (29, S29), (30, S30), (31, S31), (32, S32), (34, S34), (35, S35), (36, S36), (37, S37), (38, S38), (39, S39), (40, S40), (49, S49), (51, S51), (56, S56), (59, S59), (67, S67), (68, S68), (69, S69), (70, S70), (71, S71), (72, S72), (73, S73), (89, S89), (91, S91)], 3, 110, true, [(92, H92), (94, H94), (78, H78), (82, H82)]⟩ 30 12 [.agg [.int .i64 (.sym a0_0), .int .i64 (.sym a0_1), .int .i64 (.sym a0_2)], .agg [.int .i64 (.sym a1_0), .int .i64 (.sym a1_1), .int .i64 (.sym a1_2)], .agg [.int .i64 (.sym a2_0), .int .i64 (.sym a2_1), .int .i64 (.sym a2_2)]] []).out = ((g12 (f12 a0_0 a0_1 a0_2 a1_0 a1_1 a1_2 a2_0 a2_1 a2_2)).toV) := by
    intro a0_0 a0_1 a0_2 a1_0 a1_1 a1_2 a2_0 a2_1 a2_2
    kernel_rfl
  intro fs r h w vs hv
  unfold S12 at h
  split at h
  · rename_i a0_0 a0_1 a0_2 a1_0 a1_1 a1_2 a2_0 a2_1 a2_2
    cases h
    exact sx_calls (envOkH' (S := [(16, S16), (18, S18), (20, S20), (24, S24), (25, S25), (27, S27), (28, S28), (29, S29), (30, S30), (31, S31), (32, S32), (34, S34), (35, S35), (36, S36), (37, S37), (38, S38), (39, S39), (40, S40), (49, S49), (51, S51), (56, S56), (59, S59), (67, S67), (68, S68), (69, S69), (70, S70), (71, S71), (72, S72), (73, S73), (89, S89), (91, S91)]) (HS := [(92, H92), (94, H94), (78, H78), (82, H82)]) (j := true) ⟨S16_ok, S18_ok, S20_ok, S24_ok, S25_ok, S27_ok, S28_ok, S29_ok, S30_ok, S31_ok, S32_ok, S34_ok, S35_ok, S36_ok, S37_ok, S38_ok, S39_ok, S40_ok, S49_ok, S51_ok, S56_ok, S59_ok, S67_ok, S68_ok, S69_ok, S70_ok, S71_ok, S72_ok, S73_ok, S89_ok, S91_ok, trivial⟩ ⟨H92_ok, H94_ok, H78_ok, H82_ok, trivial⟩) 30 12 [.agg [.int .i64 (.sym a0_0.val), .int .i64 (.sym a0_1.val), .int .i64 (.sym a0_2.val)], .agg [.int .i64 (.sym a1_0.val), .int .i64 (.sym a1_1.val), .int .i64 (.sym a1_2.val)], .agg [.int .i64 (.sym a2_0.val), .int .i64 (.sym a2_1.val), .int .i64 (.sym a2_2.val)]] vs (symifyL_rel _ _ (SArels_v (xs := [.agg [.int .i64 a0_0, .int .i64 a0_1, .int .i64 a0_2], .agg [.int .i64 a1_0, .int .i64 a1_1, .int .i64 a1_2], .agg [.int .i64 a2_0, .int .i64 a2_1, .int .i64 a2_2]]) hv)) (by kernel_rfl) rfl (ev a0_0.val a0_1.val a0_2.val a1_0.val a1_1.val a1_2.val a2_0.val a2_1.val a2_2.val) w
  · cases h
/-- outrigger/outriggerlaw07.VecTurn -/
noncomputable def f14 (a0_0 : Int) (a0_1 : Int) (a0_2 : Int) (a1_0 : Int) (a1_1 : Int) (a1_2 : Int) : Bool := let x1 : Int := (f39 a0_0 a0_1 a0_2 a1_0 a1_1 a1_2).fst; let x2 : Int × Int × Bool := (f39 a0_0 a0_1 a0_2 a1_0 a1_1 a1_2).snd; let x3 : Int := x2.fst; let x4 : Int × Int × Bool := (f39 a1_0 a1_1 a1_2 a0_0 a0_1 a0_2).snd; let x5 : Int × Bool := x2.snd; let x6 : Int := x5.fst; let x7 : Int × Bool := x4.snd; let x8 : Bool := x5.snd; let x9 : Int × Int × Int × Bool := f42 x1 x3 x6 a1_0 a1_1 a1_2; let x10 : Int × Int × Bool := x9.snd; let x11 : Int × Bool := x10.snd; let x12 : Int × Int × Int × Bool := f38 a0_0 a0_1 a0_2 4294967296; let x13 : Int × Int × Int × Bool := f39 a0_0 a0_1 a0_2 0 0 0; let x14 : Int × Int × Bool := x12.snd; let x15 : Int × Int × Bool := x13.snd; f34 && (x1 == (f39 a1_0 a1_1 a1_2 a0_0 a0_1 a0_2).fst && (x3 == x4.fst && x6 == x7.fst)) && x8 == x7.snd && (x8 || !x11.snd && (x9.fst == a0_0 && (x10.fst == a0_1 && x11.fst == a0_2))) && (f40 a0_0 a0_1 a0_2 a1_0 a1_1 a1_2).fst == (f40 a1_0 a1_1 a1_2 a0_0 a0_1 a0_2).fst && (f40 a0_0 a0_1 a0_2 a1_0 a1_1 a1_2).snd == (f40 a1_0 a1_1 a1_2 a0_0 a0_1 a0_2).snd && (x12.fst == x13.fst && (x14.fst == x15.fst && x14.snd.fst == x15.snd.fst))
noncomputable def g14 (p : Bool) : SV := .bool (.sym p)
noncomputable def S14 : Summ
  | [.v (.agg [.int .i64 a0_0, .int .i64 a0_1, .int .i64 a0_2]), .v (.agg [.int .i64 a1_0, .int .i64 a1_1, .int .i64 a1_2])] => some (g14 (f14 a0_0.val a0_1.val a0_2.val a1_0.val a1_1.val a1_2.val))
  | _ => none
theorem S14_ok : SummFn Go.Proofs.Try.prog 14 S14 := by
  have ev : ∀ (a0_0 : Int) (a0_1 : Int) (a0_2 : Int) (a1_0 : Int) (a1_1 : Int) (a1_2 : Int), (symCall ⟨Go.Proofs.Try.prog, [(16, S16), (18, S18), (20, S20), (24, S24), (25, S25), (27, S27), (28, S28), (29, S29), (30, S30), (31, S31), (32, S32), (34, S34), (35, S35), (36, S36), (37, S37), (38, S38), (39, S39), (40, S40), (42, S42), (49, S49), (51, S51), (56, S56), (59, S59), (64, S64), (67, S67), (68, S68), (69, S69), (70, S70), (71, S71), (72, S72), (73, S73), (89, S89), (91, S91)], 3, 110, true, [(92, H92), (94, H94), (78, H78), (82, H82)]⟩ 30 14 [.agg [.int .i64 (.sym a0_0), .int .i64 (.sym a0_1), .int .i64 (.sym a0_2)], .agg [.int .i64 (.sym a1_0), .int .i64 (.sym a1_1), .int .i64 (.sym a1_2)]] []).out = ((g14 (f14 a0_0 a0_1 a0_2 a1_0 a1_1 a1_2)).toV) := by
    intro a0_0 a0_1 a0_2 a1_0 a1_1 a1_2
    kernel_rfl
  intro fs r h w vs hv
  unfold S14 at h
  split at h
  · rename_i a0_0 a0_1 a0_2 a1_0 a1_1 a1_2
    cases h
    exact sx_calls (envOkH' (S := [(16, S16), (18, S18), (20, S20), (24, S24), (25, S25), (27, S27), (28, S28), (29, S29), (30, S30), (31, S31), (32, S32), (34, S34), (35, S35), (36, S36), (37, S37), (38, S38), (39, S39), (40, S40), (42, S42), (49, S49), (51, S51), (56, S56), (59, S59), (64, S64), (67, S67), (68, S68), (69, S69), (70, S70), (71, S71), (72, S72), (73, S73), (89, S89), (91, S91)]) (HS := [(92, H92), (94, H94), (78, H78), (82, H82)]) (j := true) ⟨S16_ok, S18_ok, S20_ok, S24_ok, S25_ok, S27_ok, S28_ok, S29_ok, S30_ok, S31_ok, S32_ok, S34_ok, S35_ok, S36_ok, S37_ok, S38_ok, S39_ok, S40_ok, S42_ok, S49_ok, S51_ok, S56_ok, S59_ok, S64_ok, S67_ok, S68_ok, S69_ok, S70_ok, S71_ok, S72_ok, S73_ok, S89_ok, S91_ok, trivial⟩ ⟨H92_ok, H94_ok, H78_ok, H82_ok, trivial⟩) 30 14 [.agg [.int .i64 (.sym a0_0.val), .int .i64 (.sym a0_1.val), .int .i64 (.sym a0_2.val)], .agg [.int .i64 (.sym a1_0.val), .int .i64 (.sym a1_1.val), .int .i64 (.sym a1_2.val)]] vs (symifyL_rel _ _ (SArels_v (xs := [.agg [.int .i64 a0_0, .int .i64 a0_1, .int .i64 a0_2], .agg [.int .i64 a1_0, .int .i64 a1_1, .int .i64 a1_2]]) hv)) (by kernel_rfl) rfl (ev a0_0.val a0_1.val a0_2.val a1_0.val a1_1.val a1_2.val) w
  · cases h
end Go.Proofs.Ytejlbofmlaclpaa
