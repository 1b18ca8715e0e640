/- What each function computes, by the executor: printed by a program (wip/sx2/Gen3.lean). -/
import Derived.Test.YtoagcpfklkmolaaNa
import Derived.Test.YtoagcpfklkmolaaW1
namespace Go.Proofs.Ytoagcpfklkmolaa
open Go Go.Sx
set_option maxRecDepth 1000000
set_option maxHeartbeats 100000000
/-- (outrigger/quat.turn).w -/
noncomputable def f39 (a0_0 : Int) (a0_1 : Int) (a0_2 : Int) (a0_3 : Int) : Int := a0_0
noncomputable def g39 (p : Int) : SV := .int .i64 (.sym p)
noncomputable def S39 : Summ
  | [.v (.agg [.int .i64 a0_0, .int .i64 a0_1, .int .i64 a0_2, .int .i64 a0_3])] => some (g39 (f39 a0_0.val a0_1.val a0_2.val a0_3.val))
  | _ => none
theorem S39_ok : SummFn Go.Proofs.Try.prog 39 S39 := by
  have ev : ∀ (a0_0 : Int) (a0_1 : Int) (a0_2 : Int) (a0_3 : Int), (symCall ⟨Go.Proofs.Try.prog, [], 3, 130, true, [], [], []⟩ 30 39 [.agg [.int .i64 (.sym a0_0), .int .i64 (.sym a0_1), .int .i64 (.sym a0_2), .int .i64 (.sym a0_3)]] []).out = ((g39 (f39 a0_0 a0_1 a0_2 a0_3)).toV) := by
    intro a0_0 a0_1 a0_2 a0_3
    kernel_rfl
  intro fs r h w vs hv
  unfold S39 at h
  split at h
  · rename_i a0_0 a0_1 a0_2 a0_3
    cases h
    exact sx_calls (envOkU' (S := []) (HS := []) (US := []) (NS := []) (j := true) trivial trivial trivial trivial) 30 39 [.agg [.int .i64 (.sym a0_0.val), .int .i64 (.sym a0_1.val), .int .i64 (.sym a0_2.val), .int .i64 (.sym a0_3.val)]] vs (symifyL_rel _ _ (SArels_v (xs := [.agg [.int .i64 a0_0, .int .i64 a0_1, .int .i64 a0_2, .int .i64 a0_3]]) hv)) (by kernel_rfl) rfl (ev a0_0.val a0_1.val a0_2.val a0_3.val) w
  · cases h
/-- (outrigger/quat.turn).x -/
noncomputable def f41 (a0_0 : Int) (a0_1 : Int) (a0_2 : Int) (a0_3 : Int) : Int := a0_1
noncomputable def g41 (p : Int) : SV := .int .i64 (.sym p)
noncomputable def S41 : Summ
  | [.v (.agg [.int .i64 a0_0, .int .i64 a0_1, .int .i64 a0_2, .int .i64 a0_3])] => some (g41 (f41 a0_0.val a0_1.val a0_2.val a0_3.val))
  | _ => none
theorem S41_ok : SummFn Go.Proofs.Try.prog 41 S41 := by
  have ev : ∀ (a0_0 : Int) (a0_1 : Int) (a0_2 : Int) (a0_3 : Int), (symCall ⟨Go.Proofs.Try.prog, [], 3, 130, true, [], [], []⟩ 30 41 [.agg [.int .i64 (.sym a0_0), .int .i64 (.sym a0_1), .int .i64 (.sym a0_2), .int .i64 (.sym a0_3)]] []).out = ((g41 (f41 a0_0 a0_1 a0_2 a0_3)).toV) := by
    intro a0_0 a0_1 a0_2 a0_3
    kernel_rfl
  intro fs r h w vs hv
  unfold S41 at h
  split at h
  · rename_i a0_0 a0_1 a0_2 a0_3
    cases h
    exact sx_calls (envOkU' (S := []) (HS := []) (US := []) (NS := []) (j := true) trivial trivial trivial trivial) 30 41 [.agg [.int .i64 (.sym a0_0.val), .int .i64 (.sym a0_1.val), .int .i64 (.sym a0_2.val), .int .i64 (.sym a0_3.val)]] vs (symifyL_rel _ _ (SArels_v (xs := [.agg [.int .i64 a0_0, .int .i64 a0_1, .int .i64 a0_2, .int .i64 a0_3]]) hv)) (by kernel_rfl) rfl (ev a0_0.val a0_1.val a0_2.val a0_3.val) w
  · cases h
/-- (outrigger/quat.turn).y -/
noncomputable def f42 (a0_0 : Int) (a0_1 : Int) (a0_2 : Int) (a0_3 : Int) : Int := a0_2
noncomputable def g42 (p : Int) : SV := .int .i64 (.sym p)
noncomputable def S42 : Summ
  | [.v (.agg [.int .i64 a0_0, .int .i64 a0_1, .int .i64 a0_2, .int .i64 a0_3])] => some (g42 (f42 a0_0.val a0_1.val a0_2.val a0_3.val))
  | _ => none
theorem S42_ok : SummFn Go.Proofs.Try.prog 42 S42 := by
  have ev : ∀ (a0_0 : Int) (a0_1 : Int) (a0_2 : Int) (a0_3 : Int), (symCall ⟨Go.Proofs.Try.prog, [], 3, 130, true, [], [], []⟩ 30 42 [.agg [.int .i64 (.sym a0_0), .int .i64 (.sym a0_1), .int .i64 (.sym a0_2), .int .i64 (.sym a0_3)]] []).out = ((g42 (f42 a0_0 a0_1 a0_2 a0_3)).toV) := by
    intro a0_0 a0_1 a0_2 a0_3
    kernel_rfl
  intro fs r h w vs hv
  unfold S42 at h
  split at h
  · rename_i a0_0 a0_1 a0_2 a0_3
    cases h
    exact sx_calls (envOkU' (S := []) (HS := []) (US := []) (NS := []) (j := true) trivial trivial trivial trivial) 30 42 [.agg [.int .i64 (.sym a0_0.val), .int .i64 (.sym a0_1.val), .int .i64 (.sym a0_2.val), .int .i64 (.sym a0_3.val)]] vs (symifyL_rel _ _ (SArels_v (xs := [.agg [.int .i64 a0_0, .int .i64 a0_1, .int .i64 a0_2, .int .i64 a0_3]]) hv)) (by kernel_rfl) rfl (ev a0_0.val a0_1.val a0_2.val a0_3.val) w
  · cases h
/-- (outrigger/quat.turn).z -/
noncomputable def f43 (a0_0 : Int) (a0_1 : Int) (a0_2 : Int) (a0_3 : Int) : Int := a0_3
noncomputable def g43 (p : Int) : SV := .int .i64 (.sym p)
noncomputable def S43 : Summ
  | [.v (.agg [.int .i64 a0_0, .int .i64 a0_1, .int .i64 a0_2, .int .i64 a0_3])] => some (g43 (f43 a0_0.val a0_1.val a0_2.val a0_3.val))
  | _ => none
theorem S43_ok : SummFn Go.Proofs.Try.prog 43 S43 := by
  have ev : ∀ (a0_0 : Int) (a0_1 : Int) (a0_2 : Int) (a0_3 : Int), (symCall ⟨Go.Proofs.Try.prog, [], 3, 130, true, [], [], []⟩ 30 43 [.agg [.int .i64 (.sym a0_0), .int .i64 (.sym a0_1), .int .i64 (.sym a0_2), .int .i64 (.sym a0_3)]] []).out = ((g43 (f43 a0_0 a0_1 a0_2 a0_3)).toV) := by
    intro a0_0 a0_1 a0_2 a0_3
    kernel_rfl
  intro fs r h w vs hv
  unfold S43 at h
  split at h
  · rename_i a0_0 a0_1 a0_2 a0_3
    cases h
    exact sx_calls (envOkU' (S := []) (HS := []) (US := []) (NS := []) (j := true) trivial trivial trivial trivial) 30 43 [.agg [.int .i64 (.sym a0_0.val), .int .i64 (.sym a0_1.val), .int .i64 (.sym a0_2.val), .int .i64 (.sym a0_3.val)]] vs (symifyL_rel _ _ (SArels_v (xs := [.agg [.int .i64 a0_0, .int .i64 a0_1, .int .i64 a0_2, .int .i64 a0_3]]) hv)) (by kernel_rfl) rfl (ev a0_0.val a0_1.val a0_2.val a0_3.val) w
  · cases h
/-- outrigger/quat.Mul -/
noncomputable def f15 (a0_0 : Int) (a0_1 : Int) (a0_2 : Int) (a0_3 : Int) (a1_0 : Int) (a1_1 : Int) (a1_2 : Int) (a1_3 : Int) : Int × Int × Int × Int × Bool := let x1 : Int × Int := f89 a0_1 (f55 (f41 a1_0 a1_1 a1_2 a1_3)); let x2 : Int × Int := f89 a0_2 (f55 (f42 a1_0 a1_1 a1_2 a1_3)); let x3 : Int × Int := f89 a0_3 (f55 (f43 a1_0 a1_1 a1_2 a1_3)); let x4 : Int × Int := addL [((f89 a0_0 (f39 a1_0 a1_1 a1_2 a1_3)).fst, (f89 a0_0 (f39 a1_0 a1_1 a1_2 a1_3)).snd), (x1.fst, x1.snd), (x2.fst, x2.snd), (x3.fst, x3.snd)]; let x5 : Int × Bool := f71 x4.fst x4.snd; let x6 : Int × Int := f89 a0_3 (f55 (f42 a1_0 a1_1 a1_2 a1_3)); let x7 : Int × Int := addL [((f89 a0_0 (f41 a1_0 a1_1 a1_2 a1_3)).fst, (f89 a0_0 (f41 a1_0 a1_1 a1_2 a1_3)).snd), ((f89 a0_1 (f39 a1_0 a1_1 a1_2 a1_3)).fst, (f89 a0_1 (f39 a1_0 a1_1 a1_2 a1_3)).snd), ((f89 a0_2 (f43 a1_0 a1_1 a1_2 a1_3)).fst, (f89 a0_2 (f43 a1_0 a1_1 a1_2 a1_3)).snd), (x6.fst, x6.snd)]; let x8 : Int × Bool := f71 x7.fst x7.snd; let x9 : Int × Int := f89 a0_1 (f55 (f43 a1_0 a1_1 a1_2 a1_3)); let x10 : Int × Int := addL [((f89 a0_0 (f42 a1_0 a1_1 a1_2 a1_3)).fst, (f89 a0_0 (f42 a1_0 a1_1 a1_2 a1_3)).snd), (x9.fst, x9.snd), ((f89 a0_2 (f39 a1_0 a1_1 a1_2 a1_3)).fst, (f89 a0_2 (f39 a1_0 a1_1 a1_2 a1_3)).snd), ((f89 a0_3 (f41 a1_0 a1_1 a1_2 a1_3)).fst, (f89 a0_3 (f41 a1_0 a1_1 a1_2 a1_3)).snd)]; let x11 : Int × Bool := f71 x10.fst x10.snd; let x12 : Int × Int := f89 a0_2 (f55 (f41 a1_0 a1_1 a1_2 a1_3)); let x13 : Int × Int := addL [((f89 a0_0 (f43 a1_0 a1_1 a1_2 a1_3)).fst, (f89 a0_0 (f43 a1_0 a1_1 a1_2 a1_3)).snd), ((f89 a0_1 (f42 a1_0 a1_1 a1_2 a1_3)).fst, (f89 a0_1 (f42 a1_0 a1_1 a1_2 a1_3)).snd), (x12.fst, x12.snd), ((f89 a0_3 (f39 a1_0 a1_1 a1_2 a1_3)).fst, (f89 a0_3 (f39 a1_0 a1_1 a1_2 a1_3)).snd)]; let x14 : Int × Bool := f71 x13.fst x13.snd; let x15 : Int := IntKind.i64.wrap (0 + 1); let x16 : Int := IntKind.i64.wrap (x15 + 1); let x17 : Int := IntKind.i64.wrap (x16 + 1); let x18 : Int := bif (f29 a0_0).snd then 0 else bif (f29 a0_1).snd then x15 else bif (f29 a0_2).snd then x16 else bif (f29 a0_3).snd then x17 else -1; let x19 : Int := bif (f29 a1_0).snd then 0 else bif (f29 a1_1).snd then x15 else bif (f29 a1_2).snd then x16 else bif (f29 a1_3).snd then x17 else -1; let x20 : Bool := anyB [(f29 a0_0).snd, (f29 a0_1).snd, (f29 a0_2).snd, (f29 a0_3).snd]; let x21 : Bool := (f29 (f39 a1_0 a1_1 a1_2 a1_3)).snd; let x22 : Bool := (f29 (f55 (f41 a1_0 a1_1 a1_2 a1_3))).snd; let x23 : Bool := (f29 (f55 (f42 a1_0 a1_1 a1_2 a1_3))).snd; let x24 : Bool := (f29 (f55 (f43 a1_0 a1_1 a1_2 a1_3))).snd; let x25 : Bool := (f29 (f41 a1_0 a1_1 a1_2 a1_3)).snd; let x26 : Bool := (f29 (f43 a1_0 a1_1 a1_2 a1_3)).snd; let x27 : Bool := (f29 (f42 a1_0 a1_1 a1_2 a1_3)).snd; (x5.fst, x8.fst, x11.fst, x14.fst, decide (x18 ≥ 0) || decide (x19 ≥ 0) || (x5.snd || x20 || anyB [x21, x22, x23, x24]) || (x8.snd || x20 || anyB [x25, x21, x26, x23]) || (x11.snd || x20 || anyB [x27, x24, x21, x25]) || (x14.snd || x20 || anyB [x26, x27, x22, x21]))
noncomputable def g15 (p : Int × Int × Int × Int × Bool) : SV := .tuple [.agg [.int .i64 (.sym p.1), .int .i64 (.sym p.2.1), .int .i64 (.sym p.2.2.1), .int .i64 (.sym p.2.2.2.1)], .bool (.sym p.2.2.2.2)]
noncomputable def S15 : Summ
  | [.v (.agg [.int .i64 a0_0, .int .i64 a0_1, .int .i64 a0_2, .int .i64 a0_3]), .v (.agg [.int .i64 a1_0, .int .i64 a1_1, .int .i64 a1_2, .int .i64 a1_3])] => some (g15 (f15 a0_0.val a0_1.val a0_2.val a0_3.val a1_0.val a1_1.val a1_2.val a1_3.val))
  | _ => none
theorem S15_ok : SummFn Go.Proofs.Try.prog 15 S15 := by
  have ev : ∀ (a0_0 : Int) (a0_1 : Int) (a0_2 : Int) (a0_3 : Int) (a1_0 : Int) (a1_1 : Int) (a1_2 : Int) (a1_3 : Int), (symCall ⟨Go.Proofs.Try.prog, [(29, S29), (39, S39), (41, S41), (42, S42), (43, S43), (55, S55), (57, S57), (71, S71), (84, S84), (89, S89), (91, S91), (100, S100), (101, S101), (102, S102), (104, S104), (119, S119), (120, S120), (122, S122)], 3, 130, true, [(44, H44), (72, H72), (74, H74), (45, H45), (48, H48)], [], [(40, N40)]⟩ 30 15 [.agg [.int .i64 (.sym a0_0), .int .i64 (.sym a0_1), .int .i64 (.sym a0_2), .int .i64 (.sym a0_3)], .agg [.int .i64 (.sym a1_0), .int .i64 (.sym a1_1), .int .i64 (.sym a1_2), .int .i64 (.sym a1_3)]] []).out = ((g15 (f15 a0_0 a0_1 a0_2 a0_3 a1_0 a1_1 a1_2 a1_3)).toV) := by
    intro a0_0 a0_1 a0_2 a0_3 a1_0 a1_1 a1_2 a1_3
    kernel_rfl
  intro fs r h w vs hv
  unfold S15 at h
  split at h
  · rename_i a0_0 a0_1 a0_2 a0_3 a1_0 a1_1 a1_2 a1_3
    cases h
    exact sx_calls (envOkU' (S := [(29, S29), (39, S39), (41, S41), (42, S42), (43, S43), (55, S55), (57, S57), (71, S71), (84, S84), (89, S89), (91, S91), (100, S100), (101, S101), (102, S102), (104, S104), (119, S119), (120, S120), (122, S122)]) (HS := [(44, H44), (72, H72), (74, H74), (45, H45), (48, H48)]) (US := []) (NS := [(40, N40)]) (j := true) ⟨S29_ok, S39_ok, S41_ok, S42_ok, S43_ok, S55_ok, S57_ok, S71_ok, S84_ok, S89_ok, S91_ok, S100_ok, S101_ok, S102_ok, S104_ok, S119_ok, S120_ok, S122_ok, trivial⟩ ⟨H44_ok, H72_ok, H74_ok, H45_ok, H48_ok, trivial⟩ trivial ⟨N40_ok, trivial⟩) 30 15 [.agg [.int .i64 (.sym a0_0.val), .int .i64 (.sym a0_1.val), .int .i64 (.sym a0_2.val), .int .i64 (.sym a0_3.val)], .agg [.int .i64 (.sym a1_0.val), .int .i64 (.sym a1_1.val), .int .i64 (.sym a1_2.val), .int .i64 (.sym a1_3.val)]] vs (symifyL_rel _ _ (SArels_v (xs := [.agg [.int .i64 a0_0, .int .i64 a0_1, .int .i64 a0_2, .int .i64 a0_3], .agg [.int .i64 a1_0, .int .i64 a1_1, .int .i64 a1_2, .int .i64 a1_3]]) hv)) (by kernel_rfl) rfl (ev a0_0.val a0_1.val a0_2.val a0_3.val a1_0.val a1_1.val a1_2.val a1_3.val) w
  · cases h
/-- outrigger/quat.Norm -/
noncomputable def f17 (a0_0 : Int) (a0_1 : Int) (a0_2 : Int) (a0_3 : Int) : Int × Bool := let x1 : Int × Int := addL [((f89 a0_0 a0_0).fst, (f89 a0_0 a0_0).snd), ((f89 a0_1 a0_1).fst, (f89 a0_1 a0_1).snd), ((f89 a0_2 a0_2).fst, (f89 a0_2 a0_2).snd), ((f89 a0_3 a0_3).fst, (f89 a0_3 a0_3).snd)]; let x2 : Int × Bool := f81 x1.fst x1.snd; (x2.fst, x2.snd || anyB [(f29 a0_0).snd, (f29 a0_1).snd, (f29 a0_2).snd, (f29 a0_3).snd])
noncomputable def g17 (p : Int × Bool) : SV := .tuple [.int .i64 (.sym p.1), .bool (.sym p.2)]
noncomputable def S17 : Summ
  | [.v (.agg [.int .i64 a0_0, .int .i64 a0_1, .int .i64 a0_2, .int .i64 a0_3])] => some (g17 (f17 a0_0.val a0_1.val a0_2.val a0_3.val))
  | _ => none
theorem S17_ok : SummFn Go.Proofs.Try.prog 17 S17 := by
  have ev : ∀ (a0_0 : Int) (a0_1 : Int) (a0_2 : Int) (a0_3 : Int), (symCall ⟨Go.Proofs.Try.prog, [(29, S29), (57, S57), (81, S81), (84, S84), (89, S89), (91, S91), (100, S100), (101, S101), (104, S104), (113, S113), (119, S119), (120, S120), (122, S122), (125, S125), (126, S126), (128, S128)], 3, 130, true, [(44, H44), (72, H72), (74, H74), (45, H45), (48, H48)], [], []⟩ 30 17 [.agg [.int .i64 (.sym a0_0), .int .i64 (.sym a0_1), .int .i64 (.sym a0_2), .int .i64 (.sym a0_3)]] []).out = ((g17 (f17 a0_0 a0_1 a0_2 a0_3)).toV) := by
    intro a0_0 a0_1 a0_2 a0_3
    kernel_rfl
  intro fs r h w vs hv
  unfold S17 at h
  split at h
  · rename_i a0_0 a0_1 a0_2 a0_3
    cases h
    exact sx_calls (envOkU' (S := [(29, S29), (57, S57), (81, S81), (84, S84), (89, S89), (91, S91), (100, S100), (101, S101), (104, S104), (113, S113), (119, S119), (120, S120), (122, S122), (125, S125), (126, S126), (128, S128)]) (HS := [(44, H44), (72, H72), (74, H74), (45, H45), (48, H48)]) (US := []) (NS := []) (j := true) ⟨S29_ok, S57_ok, S81_ok, S84_ok, S89_ok, S91_ok, S100_ok, S101_ok, S104_ok, S113_ok, S119_ok, S120_ok, S122_ok, S125_ok, S126_ok, S128_ok, trivial⟩ ⟨H44_ok, H72_ok, H74_ok, H45_ok, H48_ok, trivial⟩ trivial trivial) 30 17 [.agg [.int .i64 (.sym a0_0.val), .int .i64 (.sym a0_1.val), .int .i64 (.sym a0_2.val), .int .i64 (.sym a0_3.val)]] vs (symifyL_rel _ _ (SArels_v (xs := [.agg [.int .i64 a0_0, .int .i64 a0_1, .int .i64 a0_2, .int .i64 a0_3]]) hv)) (by kernel_rfl) rfl (ev a0_0.val a0_1.val a0_2.val a0_3.val) w
  · cases h
/-- outrigger/quat.One -/
noncomputable def f27 : Int × Int × Int × Int := (4294967296, 0, 0, 0)
noncomputable def g27 (p : Int × Int × Int × Int) : SV := .agg [.int .i64 (.sym p.1), .int .i64 (.sym p.2.1), .int .i64 (.sym p.2.2.1), .int .i64 (.sym p.2.2.2)]
noncomputable def S27 : Summ
  | [] => some (g27 (f27))
  | _ => none
theorem S27_ok : SummFn Go.Proofs.Try.prog 27 S27 := by
  have ev : (symCall ⟨Go.Proofs.Try.prog, [], 3, 130, true, [], [], []⟩ 30 27 [] []).out = ((g27 (f27)).toV) := by
    kernel_rfl
  intro fs r h w vs hv
  unfold S27 at h
  split at h
  · cases h
    exact sx_calls (envOkU' (S := []) (HS := []) (US := []) (NS := []) (j := true) trivial trivial trivial trivial) 30 27 [] vs (symifyL_rel _ _ (SArels_v (xs := []) hv)) (by kernel_rfl) rfl (ev) w
  · cases h
/-- outrigger/quat.Unit -/
noncomputable def f19 (a0_0 : Int) (a0_1 : Int) (a0_2 : Int) (a0_3 : Int) : Int × Int × Int × Int × Bool := let x1 : Int := (f17 a0_0 a0_1 a0_2 a0_3).fst; let x2 : Bool := x1 == 0; let x3 : Int × Bool := f51 a0_0 x1; let x4 : Int × Int × Int := f27.snd; let x5 : Int × Bool := f51 a0_1 x1; let x6 : Int × Int := x4.snd; let x7 : Int × Bool := f51 a0_2 x1; let x8 : Int × Bool := f51 a0_3 x1; (bif x2 then f27.fst else x3.fst, bif x2 then x4.fst else x5.fst, bif x2 then x6.fst else x7.fst, bif x2 then x6.snd else x8.fst, x2 || ((f17 a0_0 a0_1 a0_2 a0_3).snd || x3.snd || x5.snd || x7.snd || x8.snd))
noncomputable def g19 (p : Int × Int × Int × Int × Bool) : SV := .tuple [.agg [.int .i64 (.sym p.1), .int .i64 (.sym p.2.1), .int .i64 (.sym p.2.2.1), .int .i64 (.sym p.2.2.2.1)], .bool (.sym p.2.2.2.2)]
noncomputable def S19 : Summ
  | [.v (.agg [.int .i64 a0_0, .int .i64 a0_1, .int .i64 a0_2, .int .i64 a0_3])] => some (g19 (f19 a0_0.val a0_1.val a0_2.val a0_3.val))
  | _ => none
theorem S19_ok : SummFn Go.Proofs.Try.prog 19 S19 := by
  have ev : ∀ (a0_0 : Int) (a0_1 : Int) (a0_2 : Int) (a0_3 : Int), (symCall ⟨Go.Proofs.Try.prog, [(17, S17), (27, S27), (29, S29), (51, S51), (57, S57), (81, S81), (83, S83), (84, S84), (85, S85), (89, S89), (91, S91), (100, S100), (101, S101), (104, S104), (113, S113), (119, S119), (120, S120), (122, S122), (125, S125), (126, S126), (128, S128)], 3, 130, true, [(44, H44), (72, H72), (74, H74), (45, H45), (48, H48)], [], []⟩ 30 19 [.agg [.int .i64 (.sym a0_0), .int .i64 (.sym a0_1), .int .i64 (.sym a0_2), .int .i64 (.sym a0_3)]] []).out = ((g19 (f19 a0_0 a0_1 a0_2 a0_3)).toV) := by
    intro a0_0 a0_1 a0_2 a0_3
    kernel_rfl
  intro fs r h w vs hv
  unfold S19 at h
  split at h
  · rename_i a0_0 a0_1 a0_2 a0_3
    cases h
    exact sx_calls (envOkU' (S := [(17, S17), (27, S27), (29, S29), (51, S51), (57, S57), (81, S81), (83, S83), (84, S84), (85, S85), (89, S89), (91, S91), (100, S100), (101, S101), (104, S104), (113, S113), (119, S119), (120, S120), (122, S122), (125, S125), (126, S126), (128, S128)]) (HS := [(44, H44), (72, H72), (74, H74), (45, H45), (48, H48)]) (US := []) (NS := []) (j := true) ⟨S17_ok, S27_ok, S29_ok, S51_ok, S57_ok, S81_ok, S83_ok, S84_ok, S85_ok, S89_ok, S91_ok, S100_ok, S101_ok, S104_ok, S113_ok, S119_ok, S120_ok, S122_ok, S125_ok, S126_ok, S128_ok, trivial⟩ ⟨H44_ok, H72_ok, H74_ok, H45_ok, H48_ok, trivial⟩ trivial trivial) 30 19 [.agg [.int .i64 (.sym a0_0.val), .int .i64 (.sym a0_1.val), .int .i64 (.sym a0_2.val), .int .i64 (.sym a0_3.val)]] vs (symifyL_rel _ _ (SArels_v (xs := [.agg [.int .i64 a0_0, .int .i64 a0_1, .int .i64 a0_2, .int .i64 a0_3]]) hv)) (by kernel_rfl) rfl (ev a0_0.val a0_1.val a0_2.val a0_3.val) w
  · cases h
/-- outrigger/quat.Back -/
noncomputable def f25 (a0_0 : Int) (a0_1 : Int) (a0_2 : Int) (a0_3 : Int) : Int × Int × Int × Int := ((f29 a0_0).fst, f55 a0_1, f55 a0_2, f55 a0_3)
noncomputable def g25 (p : Int × Int × Int × Int) : SV := .agg [.int .i64 (.sym p.1), .int .i64 (.sym p.2.1), .int .i64 (.sym p.2.2.1), .int .i64 (.sym p.2.2.2)]
noncomputable def S25 : Summ
  | [.v (.agg [.int .i64 a0_0, .int .i64 a0_1, .int .i64 a0_2, .int .i64 a0_3])] => some (g25 (f25 a0_0.val a0_1.val a0_2.val a0_3.val))
  | _ => none
theorem S25_ok : SummFn Go.Proofs.Try.prog 25 S25 := by
  have ev : ∀ (a0_0 : Int) (a0_1 : Int) (a0_2 : Int) (a0_3 : Int), (symCall ⟨Go.Proofs.Try.prog, [(29, S29), (55, S55), (57, S57), (91, S91)], 3, 130, true, [], [], []⟩ 30 25 [.agg [.int .i64 (.sym a0_0), .int .i64 (.sym a0_1), .int .i64 (.sym a0_2), .int .i64 (.sym a0_3)]] []).out = ((g25 (f25 a0_0 a0_1 a0_2 a0_3)).toV) := by
    intro a0_0 a0_1 a0_2 a0_3
    kernel_rfl
  intro fs r h w vs hv
  unfold S25 at h
  split at h
  · rename_i a0_0 a0_1 a0_2 a0_3
    cases h
    exact sx_calls (envOkU' (S := [(29, S29), (55, S55), (57, S57), (91, S91)]) (HS := []) (US := []) (NS := []) (j := true) ⟨S29_ok, S55_ok, S57_ok, S91_ok, trivial⟩ trivial trivial trivial) 30 25 [.agg [.int .i64 (.sym a0_0.val), .int .i64 (.sym a0_1.val), .int .i64 (.sym a0_2.val), .int .i64 (.sym a0_3.val)]] vs (symifyL_rel _ _ (SArels_v (xs := [.agg [.int .i64 a0_0, .int .i64 a0_1, .int .i64 a0_2, .int .i64 a0_3]]) hv)) (by kernel_rfl) rfl (ev a0_0.val a0_1.val a0_2.val a0_3.val) w
  · cases h
end Go.Proofs.Ytoagcpfklkmolaa
