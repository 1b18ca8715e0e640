/- What each function computes, by the executor: printed by a program (wip/sx2/Gen3.lean). -/
import Derived.Test.YtgbbaegfcmlmiaaUb
import Derived.Test.YtgbbaegfcmlmiaaW3
namespace Go.Proofs.Ytgbbaegfcmlmiaa
open Go Go.Sx
set_option maxRecDepth 1000000
set_option maxHeartbeats 100000000
/-- outrigger/outriggerref19.value -/
noncomputable def f32 (a0 : Int) : Bool := !(f52 a0).snd
noncomputable def g32 (p : Bool) : SV := .bool (.sym p)
noncomputable def S32 : Summ
  | [.v (.int .i64 a0)] => some (g32 (f32 a0.val))
  | _ => none
theorem S32_ok : SummFn Go.Proofs.Try.prog 32 S32 := by
  have ev : ∀ (a0 : Int), (symCall ⟨Go.Proofs.Try.prog, [(52, S52)], 3, 88, true, [], []⟩ 30 32 [.int .i64 (.sym a0)] []).out = ((g32 (f32 a0)).toV) := by
    intro a0
    kernel_rfl
  intro fs r h w vs hv
  unfold S32 at h
  split at h
  · rename_i a0
    cases h
    exact sx_calls (envOkU' (S := [(52, S52)]) (HS := []) (US := []) (j := true) ⟨S52_ok, trivial⟩ trivial trivial) 30 32 [.int .i64 (.sym a0.val)] vs (symifyL_rel _ _ (SArels_v (xs := [.int .i64 a0]) hv)) (by kernel_rfl) rfl (ev a0.val) w
  · cases h
/-- outrigger/outriggerref19.Sane -/
noncomputable def f14 (a0_0 : Int) (a0_1 : Int) (a0_2 : Int) (a0_3 : Int) (a0_4 : Int) (a0_5 : Bool) : Bool := f32 a0_0 && f32 a0_1 && f32 a0_3 && decide (a0_2 ≥ 4096) && decide (a0_2 ≤ 4503599627370496) && decide (a0_4 ≥ 4096) && decide (a0_4 ≤ 4503599627370496)
noncomputable def g14 (p : Bool) : SV := .bool (.sym p)
noncomputable def S14 : Summ
  | [.v (.agg [.int .i64 a0_0, .int .i64 a0_1, .int .i64 a0_2, .int .i64 a0_3, .int .i64 a0_4, .bool a0_5])] => some (g14 (f14 a0_0.val a0_1.val a0_2.val a0_3.val a0_4.val a0_5.val))
  | _ => none
theorem S14_ok : SummFn Go.Proofs.Try.prog 14 S14 := by
  have ev : ∀ (a0_0 : Int) (a0_1 : Int) (a0_2 : Int) (a0_3 : Int) (a0_4 : Int) (a0_5 : Bool), (symCall ⟨Go.Proofs.Try.prog, [(32, S32), (52, S52)], 3, 88, true, [], []⟩ 30 14 [.agg [.int .i64 (.sym a0_0), .int .i64 (.sym a0_1), .int .i64 (.sym a0_2), .int .i64 (.sym a0_3), .int .i64 (.sym a0_4), .bool (.sym a0_5)]] []).out = ((g14 (f14 a0_0 a0_1 a0_2 a0_3 a0_4 a0_5)).toV) := by
    intro a0_0 a0_1 a0_2 a0_3 a0_4 a0_5
    kernel_rfl
  intro fs r h w vs hv
  unfold S14 at h
  split at h
  · rename_i a0_0 a0_1 a0_2 a0_3 a0_4 a0_5
    cases h
    exact sx_calls (envOkU' (S := [(32, S32), (52, S52)]) (HS := []) (US := []) (j := true) ⟨S32_ok, S52_ok, trivial⟩ trivial trivial) 30 14 [.agg [.int .i64 (.sym a0_0.val), .int .i64 (.sym a0_1.val), .int .i64 (.sym a0_2.val), .int .i64 (.sym a0_3.val), .int .i64 (.sym a0_4.val), .bool (.sym a0_5.val)]] vs (symifyL_rel _ _ (SArels_v (xs := [.agg [.int .i64 a0_0, .int .i64 a0_1, .int .i64 a0_2, .int .i64 a0_3, .int .i64 a0_4, .bool a0_5]]) hv)) (by kernel_rfl) rfl (ev a0_0.val a0_1.val a0_2.val a0_3.val a0_4.val a0_5.val) w
  · cases h
/-- outrigger/outriggerref19.As -/
noncomputable def f31 (a0_0 : Int) (a0_1 : Int) (a0_2 : Int) (a0_3 : Int) (a0_4 : Int) (a0_5 : Bool) : Int × Int × Int × Int × Int × Bool := let x1 : Bool := !f14 a0_0 a0_1 a0_2 a0_3 a0_4 a0_5; (bif x1 then 0 else a0_0, bif x1 then 0 else a0_1, bif x1 then 17592186044416 else a0_2, bif x1 then 0 else a0_3, bif x1 then 17592186044416 else a0_4, x1 || a0_5)
noncomputable def g31 (p : Int × Int × Int × Int × Int × Bool) : SV := .agg [.int .i64 (.sym p.1), .int .i64 (.sym p.2.1), .int .i64 (.sym p.2.2.1), .int .i64 (.sym p.2.2.2.1), .int .i64 (.sym p.2.2.2.2.1), .bool (.sym p.2.2.2.2.2)]
noncomputable def S31 : Summ
  | [.v (.agg [.int .i64 a0_0, .int .i64 a0_1, .int .i64 a0_2, .int .i64 a0_3, .int .i64 a0_4, .bool a0_5])] => some (g31 (f31 a0_0.val a0_1.val a0_2.val a0_3.val a0_4.val a0_5.val))
  | _ => none
theorem S31_ok : SummFn Go.Proofs.Try.prog 31 S31 := by
  have ev : ∀ (a0_0 : Int) (a0_1 : Int) (a0_2 : Int) (a0_3 : Int) (a0_4 : Int) (a0_5 : Bool), (symCall ⟨Go.Proofs.Try.prog, [(14, S14), (32, S32), (52, S52)], 3, 88, true, [], []⟩ 30 31 [.agg [.int .i64 (.sym a0_0), .int .i64 (.sym a0_1), .int .i64 (.sym a0_2), .int .i64 (.sym a0_3), .int .i64 (.sym a0_4), .bool (.sym a0_5)]] []).out = ((g31 (f31 a0_0 a0_1 a0_2 a0_3 a0_4 a0_5)).toV) := by
    intro a0_0 a0_1 a0_2 a0_3 a0_4 a0_5
    kernel_rfl
  intro fs r h w vs hv
  unfold S31 at h
  split at h
  · rename_i a0_0 a0_1 a0_2 a0_3 a0_4 a0_5
    cases h
    exact sx_calls (envOkU' (S := [(14, S14), (32, S32), (52, S52)]) (HS := []) (US := []) (j := true) ⟨S14_ok, S32_ok, S52_ok, trivial⟩ trivial trivial) 30 31 [.agg [.int .i64 (.sym a0_0.val), .int .i64 (.sym a0_1.val), .int .i64 (.sym a0_2.val), .int .i64 (.sym a0_3.val), .int .i64 (.sym a0_4.val), .bool (.sym a0_5.val)]] vs (symifyL_rel _ _ (SArels_v (xs := [.agg [.int .i64 a0_0, .int .i64 a0_1, .int .i64 a0_2, .int .i64 a0_3, .int .i64 a0_4, .bool a0_5]]) hv)) (by kernel_rfl) rfl (ev a0_0.val a0_1.val a0_2.val a0_3.val a0_4.val a0_5.val) w
  · cases h
/-- outrigger/outriggerref04.Sqrt -/
noncomputable def f35 (a0 : Int) : Int × Bool := let x1 : Int × Int := f57 (f52 a0).fst 4294967296; let x2 : Int × Bool := f56 x1.fst x1.snd; (x2.fst, (f52 a0).snd || x2.snd)
noncomputable def g35 (p : Int × Bool) : SV := .tuple [.int .i64 (.sym p.1), .bool (.sym p.2)]
noncomputable def S35 : Summ
  | [.v (.int .i64 a0)] => some (g35 (f35 a0.val))
  | _ => none
theorem S35_ok : SummFn Go.Proofs.Try.prog 35 S35 := by
  have ev : ∀ (a0 : Int), (symCall ⟨Go.Proofs.Try.prog, [(37, S37), (42, S42), (52, S52), (56, S56), (57, S57), (71, S71), (72, S72), (73, S73), (74, S74), (76, S76), (77, S77)], 3, 88, true, [], []⟩ 30 35 [.int .i64 (.sym a0)] []).out = ((g35 (f35 a0)).toV) := by
    intro a0
    kernel_rfl
  intro fs r h w vs hv
  unfold S35 at h
  split at h
  · rename_i a0
    cases h
    exact sx_calls (envOkU' (S := [(37, S37), (42, S42), (52, S52), (56, S56), (57, S57), (71, S71), (72, S72), (73, S73), (74, S74), (76, S76), (77, S77)]) (HS := []) (US := []) (j := true) ⟨S37_ok, S42_ok, S52_ok, S56_ok, S57_ok, S71_ok, S72_ok, S73_ok, S74_ok, S76_ok, S77_ok, trivial⟩ trivial trivial) 30 35 [.int .i64 (.sym a0.val)] vs (symifyL_rel _ _ (SArels_v (xs := [.int .i64 a0]) hv)) (by kernel_rfl) rfl (ev a0.val) w
  · cases h
/-- outrigger/outriggerref19.Update -/
noncomputable def f12 (a0_0 : Int) (a0_1 : Int) (a0_2 : Int) (a0_3 : Int) (a0_4 : Int) (a0_5 : Bool) (a1 : Int) (a2 : Int) (a3 : Int) : Int × Int × Int × Int × Int × Bool × Bool := let x1 : Bool := !f32 a1 || decide (a2 < 4096) || decide (a2 > 4503599627370496) || decide (a3 < 0) || decide (a3 > 1099511627776); let x2 : Int := (f31 a0_0 a0_1 a0_2 a0_3 a0_4 a0_5).fst; let x3 : Int × Bool := f53 a1 x2; let x4 : Int := x3.fst; let x5 : Int := f37 x4; let x6 : Int × Int × Int × Int × Bool := (f31 a0_0 a0_1 a0_2 a0_3 a0_4 a0_5).snd; let x7 : Int × Int × Int × Bool := x6.snd; let x8 : Int := x7.fst; let x9 : Int × Bool := f55 x8 a2; let x10 : Int := x9.fst; let x11 : Int := (f36 a3 (f35 x10).fst).fst; let x12 : Bool := decide (x5 > x11); let x13 : Int × Bool := f60 x8 x10; let x14 : Int := x13.fst; let x15 : Int × Bool := f36 x14 x4; let x16 : Int × Bool := f55 x2 x15.fst; let x17 : Int := x6.fst; let x18 : Int × Int × Bool := x7.snd; let x19 : Int := x18.fst; let x20 : Int × Bool := f60 x19 x10; let x21 : Int := x20.fst; let x22 : Int × Bool := f36 x21 x4; let x23 : Int × Bool := f55 x17 x22.fst; let x24 : Int × Bool := f36 x14 x8; let x25 : Int × Bool := f53 x8 x24.fst; let x26 : Int := x25.fst; let x27 : Int := mnI (mxI x26 4096) 4503599627370496; let x28 : Int × Bool := f36 x14 x19; let x29 : Int × Bool := f53 x19 x28.fst; let x30 : Int × Bool := x18.snd; let x31 : Int := x30.fst; let x32 : Int × Bool := f36 x21 x19; let x33 : Int × Bool := f53 x31 x32.fst; let x34 : Int := x33.fst; let x35 : Int := mnI (mxI x34 4096) 4503599627370496; let x36 : Bool := x30.snd; (bif x1 then x2 else bif x12 then x2 else x16.fst, bif x1 then x17 else bif x12 then x17 else x23.fst, bif x1 then x8 else bif x12 then x8 else x27, bif x1 then x19 else bif x12 then x19 else x29.fst, bif x1 then x31 else bif x12 then x31 else x35, x1 || bif x12 then x36 else x36 || (x3.snd || x9.snd || x13.snd || x20.snd || x15.snd || x16.snd || x22.snd || x23.snd || x24.snd || x25.snd || x32.snd || x33.snd || x28.snd || x29.snd) || x27 != x26 || x35 != x34, !x1 && !x12)
noncomputable def g12 (p : Int × Int × Int × Int × Int × Bool × Bool) : SV := .tuple [.agg [.int .i64 (.sym p.1), .int .i64 (.sym p.2.1), .int .i64 (.sym p.2.2.1), .int .i64 (.sym p.2.2.2.1), .int .i64 (.sym p.2.2.2.2.1), .bool (.sym p.2.2.2.2.2.1)], .bool (.sym p.2.2.2.2.2.2)]
noncomputable def S12 : Summ
  | [.v (.agg [.int .i64 a0_0, .int .i64 a0_1, .int .i64 a0_2, .int .i64 a0_3, .int .i64 a0_4, .bool a0_5]), .v (.int .i64 a1), .v (.int .i64 a2), .v (.int .i64 a3)] => some (g12 (f12 a0_0.val a0_1.val a0_2.val a0_3.val a0_4.val a0_5.val a1.val a2.val a3.val))
  | _ => none
theorem S12_ok : SummFn Go.Proofs.Try.prog 12 S12 := by
  have ev : ∀ (a0_0 : Int) (a0_1 : Int) (a0_2 : Int) (a0_3 : Int) (a0_4 : Int) (a0_5 : Bool) (a1 : Int) (a2 : Int) (a3 : Int), (symCall ⟨Go.Proofs.Try.prog, [(14, S14), (31, S31), (32, S32), (35, S35), (36, S36), (37, S37), (42, S42), (52, S52), (53, S53), (55, S55), (56, S56), (57, S57), (58, S58), (59, S59), (60, S60), (71, S71), (72, S72), (73, S73), (74, S74), (76, S76), (77, S77), (78, S78), (79, S79), (80, S80)], 3, 88, true, [], [(44, U44), (25, U25), (24, U24), (29, U29), (28, U28), (54, U54), (34, U34), (33, U33), (39, U39), (38, U38)]⟩ 30 12 [.agg [.int .i64 (.sym a0_0), .int .i64 (.sym a0_1), .int .i64 (.sym a0_2), .int .i64 (.sym a0_3), .int .i64 (.sym a0_4), .bool (.sym a0_5)], .int .i64 (.sym a1), .int .i64 (.sym a2), .int .i64 (.sym a3)] []).out = ((g12 (f12 a0_0 a0_1 a0_2 a0_3 a0_4 a0_5 a1 a2 a3)).toV) := by
    intro a0_0 a0_1 a0_2 a0_3 a0_4 a0_5 a1 a2 a3
    kernel_rfl
  intro fs r h w vs hv
  unfold S12 at h
  split at h
  · rename_i a0_0 a0_1 a0_2 a0_3 a0_4 a0_5 a1 a2 a3
    cases h
    exact sx_calls (envOkU' (S := [(14, S14), (31, S31), (32, S32), (35, S35), (36, S36), (37, S37), (42, S42), (52, S52), (53, S53), (55, S55), (56, S56), (57, S57), (58, S58), (59, S59), (60, S60), (71, S71), (72, S72), (73, S73), (74, S74), (76, S76), (77, S77), (78, S78), (79, S79), (80, S80)]) (HS := []) (US := [(44, U44), (25, U25), (24, U24), (29, U29), (28, U28), (54, U54), (34, U34), (33, U33), (39, U39), (38, U38)]) (j := true) ⟨S14_ok, S31_ok, S32_ok, S35_ok, S36_ok, S37_ok, S42_ok, S52_ok, S53_ok, S55_ok, S56_ok, S57_ok, S58_ok, S59_ok, S60_ok, S71_ok, S72_ok, S73_ok, S74_ok, S76_ok, S77_ok, S78_ok, S79_ok, S80_ok, trivial⟩ trivial ⟨U44_ok, U25_ok, U24_ok, U29_ok, U28_ok, U54_ok, U34_ok, U33_ok, U39_ok, U38_ok, trivial⟩) 30 12 [.agg [.int .i64 (.sym a0_0.val), .int .i64 (.sym a0_1.val), .int .i64 (.sym a0_2.val), .int .i64 (.sym a0_3.val), .int .i64 (.sym a0_4.val), .bool (.sym a0_5.val)], .int .i64 (.sym a1.val), .int .i64 (.sym a2.val), .int .i64 (.sym a3.val)] vs (symifyL_rel _ _ (SArels_v (xs := [.agg [.int .i64 a0_0, .int .i64 a0_1, .int .i64 a0_2, .int .i64 a0_3, .int .i64 a0_4, .bool a0_5], .int .i64 a1, .int .i64 a2, .int .i64 a3]) hv)) (by kernel_rfl) rfl (ev a0_0.val a0_1.val a0_2.val a0_3.val a0_4.val a0_5.val a1.val a2.val a3.val) w
  · cases h
/-- outrigger/outriggerref19.Start -/
noncomputable def f16 (a0 : Int) (a1 : Int) : Int × Int × Int × Int × Int × Bool := (f42 a0, f42 a1, 17592186044416, 0, 17592186044416, !f32 a0 || !f32 a1)
noncomputable def g16 (p : Int × Int × Int × Int × Int × Bool) : SV := .agg [.int .i64 (.sym p.1), .int .i64 (.sym p.2.1), .int .i64 (.sym p.2.2.1), .int .i64 (.sym p.2.2.2.1), .int .i64 (.sym p.2.2.2.2.1), .bool (.sym p.2.2.2.2.2)]
noncomputable def S16 : Summ
  | [.v (.int .i64 a0), .v (.int .i64 a1)] => some (g16 (f16 a0.val a1.val))
  | _ => none
theorem S16_ok : SummFn Go.Proofs.Try.prog 16 S16 := by
  have ev : ∀ (a0 : Int) (a1 : Int), (symCall ⟨Go.Proofs.Try.prog, [(32, S32), (42, S42), (52, S52)], 3, 88, true, [], []⟩ 30 16 [.int .i64 (.sym a0), .int .i64 (.sym a1)] []).out = ((g16 (f16 a0 a1)).toV) := by
    intro a0 a1
    kernel_rfl
  intro fs r h w vs hv
  unfold S16 at h
  split at h
  · rename_i a0 a1
    cases h
    exact sx_calls (envOkU' (S := [(32, S32), (42, S42), (52, S52)]) (HS := []) (US := []) (j := true) ⟨S32_ok, S42_ok, S52_ok, trivial⟩ trivial trivial) 30 16 [.int .i64 (.sym a0.val), .int .i64 (.sym a1.val)] vs (symifyL_rel _ _ (SArels_v (xs := [.int .i64 a0, .int .i64 a1]) hv)) (by kernel_rfl) rfl (ev a0.val a1.val) w
  · cases h
/-- outrigger/outriggerref19.Predict -/
noncomputable def f18 (a0_0 : Int) (a0_1 : Int) (a0_2 : Int) (a0_3 : Int) (a0_4 : Int) (a0_5 : Bool) (a1 : Int) (a2 : Int) (a3 : Int) : Int × Int × Int × Int × Int × Bool := let x1 : Bool := !f32 a1 || decide (a2 < 0) || decide (a2 > 1099511627776) || decide (a3 < 0) || decide (a3 > 1099511627776); let x2 : Int := (f31 a0_0 a0_1 a0_2 a0_3 a0_4 a0_5).fst; let x3 : Int × Int × Int × Int × Bool := (f31 a0_0 a0_1 a0_2 a0_3 a0_4 a0_5).snd; let x4 : Int := x3.fst; let x5 : Int × Bool := f36 x4 a2; let x6 : Int × Bool := f55 x2 x5.fst; let x7 : Int × Bool := f55 x4 (f36 a1 a2).fst; let x8 : Int × Int × Int × Bool := x3.snd; let x9 : Int := x8.fst; let x10 : Int × Int × Bool := x8.snd; let x11 : Int := x10.fst; let x12 : Int × Bool := f36 x11 (IntKind.i64.wrap (2 * a2)); let x13 : Int × Bool := f55 x9 x12.fst; let x14 : Int × Bool := x10.snd; let x15 : Int := x14.fst; let x16 : Int × Bool := f36 x15 a2; let x17 : Int := x16.fst; let x18 : Int × Bool := f36 x17 a2; let x19 : Int × Bool := f55 x13.fst x18.fst; let x20 : Int := x19.fst; let x21 : Int := mnI (mxI x20 4096) 4503599627370496; let x22 : Int × Bool := f55 x11 x17; let x23 : Int × Bool := f55 x15 (f36 a3 a2).fst; let x24 : Int := x23.fst; let x25 : Int := mnI (mxI x24 4096) 4503599627370496; (bif x1 then x2 else x6.fst, bif x1 then x4 else x7.fst, bif x1 then x9 else x21, bif x1 then x11 else x22.fst, bif x1 then x15 else x25, x1 || (x14.snd || (x16.snd || x18.snd || x5.snd || x6.snd || (f36 a1 a2).snd || x7.snd || x12.snd || x13.snd || x19.snd || x22.snd || (f36 a3 a2).snd || x23.snd) || x21 != x20 || x25 != x24))
noncomputable def g18 (p : Int × Int × Int × Int × Int × Bool) : SV := .agg [.int .i64 (.sym p.1), .int .i64 (.sym p.2.1), .int .i64 (.sym p.2.2.1), .int .i64 (.sym p.2.2.2.1), .int .i64 (.sym p.2.2.2.2.1), .bool (.sym p.2.2.2.2.2)]
noncomputable def S18 : Summ
  | [.v (.agg [.int .i64 a0_0, .int .i64 a0_1, .int .i64 a0_2, .int .i64 a0_3, .int .i64 a0_4, .bool a0_5]), .v (.int .i64 a1), .v (.int .i64 a2), .v (.int .i64 a3)] => some (g18 (f18 a0_0.val a0_1.val a0_2.val a0_3.val a0_4.val a0_5.val a1.val a2.val a3.val))
  | _ => none
theorem S18_ok : SummFn Go.Proofs.Try.prog 18 S18 := by
  have ev : ∀ (a0_0 : Int) (a0_1 : Int) (a0_2 : Int) (a0_3 : Int) (a0_4 : Int) (a0_5 : Bool) (a1 : Int) (a2 : Int) (a3 : Int), (symCall ⟨Go.Proofs.Try.prog, [(14, S14), (31, S31), (32, S32), (36, S36), (37, S37), (42, S42), (52, S52), (55, S55), (57, S57), (58, S58), (59, S59), (71, S71), (73, S73), (74, S74), (77, S77), (78, S78), (79, S79)], 3, 88, true, [], [(44, U44), (25, U25), (24, U24), (29, U29), (28, U28), (54, U54), (34, U34), (33, U33), (39, U39), (38, U38)]⟩ 30 18 [.agg [.int .i64 (.sym a0_0), .int .i64 (.sym a0_1), .int .i64 (.sym a0_2), .int .i64 (.sym a0_3), .int .i64 (.sym a0_4), .bool (.sym a0_5)], .int .i64 (.sym a1), .int .i64 (.sym a2), .int .i64 (.sym a3)] []).out = ((g18 (f18 a0_0 a0_1 a0_2 a0_3 a0_4 a0_5 a1 a2 a3)).toV) := by
    intro a0_0 a0_1 a0_2 a0_3 a0_4 a0_5 a1 a2 a3
    kernel_rfl
  intro fs r h w vs hv
  unfold S18 at h
  split at h
  · rename_i a0_0 a0_1 a0_2 a0_3 a0_4 a0_5 a1 a2 a3
    cases h
    exact sx_calls (envOkU' (S := [(14, S14), (31, S31), (32, S32), (36, S36), (37, S37), (42, S42), (52, S52), (55, S55), (57, S57), (58, S58), (59, S59), (71, S71), (73, S73), (74, S74), (77, S77), (78, S78), (79, S79)]) (HS := []) (US := [(44, U44), (25, U25), (24, U24), (29, U29), (28, U28), (54, U54), (34, U34), (33, U33), (39, U39), (38, U38)]) (j := true) ⟨S14_ok, S31_ok, S32_ok, S36_ok, S37_ok, S42_ok, S52_ok, S55_ok, S57_ok, S58_ok, S59_ok, S71_ok, S73_ok, S74_ok, S77_ok, S78_ok, S79_ok, trivial⟩ trivial ⟨U44_ok, U25_ok, U24_ok, U29_ok, U28_ok, U54_ok, U34_ok, U33_ok, U39_ok, U38_ok, trivial⟩) 30 18 [.agg [.int .i64 (.sym a0_0.val), .int .i64 (.sym a0_1.val), .int .i64 (.sym a0_2.val), .int .i64 (.sym a0_3.val), .int .i64 (.sym a0_4.val), .bool (.sym a0_5.val)], .int .i64 (.sym a1.val), .int .i64 (.sym a2.val), .int .i64 (.sym a3.val)] vs (symifyL_rel _ _ (SArels_v (xs := [.agg [.int .i64 a0_0, .int .i64 a0_1, .int .i64 a0_2, .int .i64 a0_3, .int .i64 a0_4, .bool a0_5], .int .i64 a1, .int .i64 a2, .int .i64 a3]) hv)) (by kernel_rfl) rfl (ev a0_0.val a0_1.val a0_2.val a0_3.val a0_4.val a0_5.val a1.val a2.val a3.val) w
  · cases h
end Go.Proofs.Ytgbbaegfcmlmiaa
