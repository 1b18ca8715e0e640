/- What each function computes, by the executor: printed by a program (wip/sx2/Gen3.lean). -/
import Derived.Test.YtoagcpfklkmolaaGi
import Derived.Test.YtoagcpfklkmolaaUa
import Derived.Test.YtoagcpfklkmolaaNa
namespace Go.Proofs.Ytoagcpfklkmolaa
open Go Go.Sx
set_option maxRecDepth 1000000
set_option maxHeartbeats 100000000
/-- outrigger/turn.Sane -/
noncomputable def f33 (a0_0 : Int) (a0_1 : Int) (a0_2 : Int) (a0_3 : Int) (a0_4 : Int) (a0_5 : Int) (a0_6 : Int) (a0_7 : Bool) : Bool := let x1 : Int := (f17 a0_0 a0_1 a0_2 a0_3).fst; let x2 : Int := IntKind.i64.wrap (0 + 1); let x3 : Int := bif (f29 a0_4).snd then 0 else bif (f29 a0_5).snd then x2 else bif (f29 a0_6).snd then IntKind.i64.wrap (x2 + 1) else -1; !(f17 a0_0 a0_1 a0_2 a0_3).snd && decide (x1 ≥ 4294967040) && decide (x1 ≤ 4294967552) && !decide (x3 ≥ 0)
noncomputable def g33 (p : Bool) : SV := .bool (.sym p)
noncomputable def S33 : Summ
  | [.v (.agg [.int .i64 a0_0, .int .i64 a0_1, .int .i64 a0_2, .int .i64 a0_3, .int .i64 a0_4, .int .i64 a0_5, .int .i64 a0_6, .bool a0_7])] => some (g33 (f33 a0_0.val a0_1.val a0_2.val a0_3.val a0_4.val a0_5.val a0_6.val a0_7.val))
  | _ => none
theorem S33_ok : SummFn Go.Proofs.Try.prog 33 S33 := by
  have ev : ∀ (a0_0 : Int) (a0_1 : Int) (a0_2 : Int) (a0_3 : Int) (a0_4 : Int) (a0_5 : Int) (a0_6 : Int) (a0_7 : Bool), (symCall ⟨Go.Proofs.Try.prog, [(17, S17), (29, S29), (57, S57), (81, S81), (84, S84), (89, S89), (91, S91), (100, S100), (101, S101), (104, S104), (113, S113), (119, S119), (120, S120), (122, S122), (125, S125), (126, S126), (128, S128)], 3, 130, true, [(44, H44), (72, H72), (74, H74), (45, H45), (48, H48)], [], []⟩ 30 33 [.agg [.int .i64 (.sym a0_0), .int .i64 (.sym a0_1), .int .i64 (.sym a0_2), .int .i64 (.sym a0_3), .int .i64 (.sym a0_4), .int .i64 (.sym a0_5), .int .i64 (.sym a0_6), .bool (.sym a0_7)]] []).out = ((g33 (f33 a0_0 a0_1 a0_2 a0_3 a0_4 a0_5 a0_6 a0_7)).toV) := by
    intro a0_0 a0_1 a0_2 a0_3 a0_4 a0_5 a0_6 a0_7
    kernel_rfl
  intro fs r h w vs hv
  unfold S33 at h
  split at h
  · rename_i a0_0 a0_1 a0_2 a0_3 a0_4 a0_5 a0_6 a0_7
    cases h
    exact sx_calls (envOkU' (S := [(17, S17), (29, S29), (57, S57), (81, S81), (84, S84), (89, S89), (91, S91), (100, S100), (101, S101), (104, S104), (113, S113), (119, S119), (120, S120), (122, S122), (125, S125), (126, S126), (128, S128)]) (HS := [(44, H44), (72, H72), (74, H74), (45, H45), (48, H48)]) (US := []) (NS := []) (j := true) ⟨S17_ok, S29_ok, S57_ok, S81_ok, S84_ok, S89_ok, S91_ok, S100_ok, S101_ok, S104_ok, S113_ok, S119_ok, S120_ok, S122_ok, S125_ok, S126_ok, S128_ok, trivial⟩ ⟨H44_ok, H72_ok, H74_ok, H45_ok, H48_ok, trivial⟩ trivial trivial) 30 33 [.agg [.int .i64 (.sym a0_0.val), .int .i64 (.sym a0_1.val), .int .i64 (.sym a0_2.val), .int .i64 (.sym a0_3.val), .int .i64 (.sym a0_4.val), .int .i64 (.sym a0_5.val), .int .i64 (.sym a0_6.val), .bool (.sym a0_7.val)]] vs (symifyL_rel _ _ (SArels_v (xs := [.agg [.int .i64 a0_0, .int .i64 a0_1, .int .i64 a0_2, .int .i64 a0_3, .int .i64 a0_4, .int .i64 a0_5, .int .i64 a0_6, .bool a0_7]]) hv)) (by kernel_rfl) rfl (ev a0_0.val a0_1.val a0_2.val a0_3.val a0_4.val a0_5.val a0_6.val a0_7.val) w
  · cases h
/-- outrigger/turn.Start -/
noncomputable def f34 : Int × Int × Int × Int × Int × Int × Int × Bool := let x1 : Int × Int × Int := f27.snd; let x2 : Int × Int := x1.snd; (f27.fst, x1.fst, x2.fst, x2.snd, 0, 0, 0, false)
noncomputable def g34 (p : Int × Int × Int × Int × Int × Int × Int × Bool) : SV := .agg [.int .i64 (.sym p.1), .int .i64 (.sym p.2.1), .int .i64 (.sym p.2.2.1), .int .i64 (.sym p.2.2.2.1), .int .i64 (.sym p.2.2.2.2.1), .int .i64 (.sym p.2.2.2.2.2.1), .int .i64 (.sym p.2.2.2.2.2.2.1), .bool (.sym p.2.2.2.2.2.2.2)]
noncomputable def S34 : Summ
  | [] => some (g34 (f34))
  | _ => none
theorem S34_ok : SummFn Go.Proofs.Try.prog 34 S34 := by
  have ev : (symCall ⟨Go.Proofs.Try.prog, [(27, S27)], 3, 130, true, [], [], []⟩ 30 34 [] []).out = ((g34 (f34)).toV) := by
    kernel_rfl
  intro fs r h w vs hv
  unfold S34 at h
  split at h
  · cases h
    exact sx_calls (envOkU' (S := [(27, S27)]) (HS := []) (US := []) (NS := []) (j := true) ⟨S27_ok, trivial⟩ trivial trivial trivial) 30 34 [] vs (symifyL_rel _ _ (SArels_v (xs := []) hv)) (by kernel_rfl) rfl (ev) w
  · cases h
/-- outrigger/turn.known -/
noncomputable def f65 (a0_0 : Int) (a0_1 : Int) (a0_2 : Int) (a0_3 : Int) (a0_4 : Int) (a0_5 : Int) (a0_6 : Int) (a0_7 : Bool) : Int × Int × Int × Int × Int × Int × Int × Bool := let x1 : Bool := f33 a0_0 a0_1 a0_2 a0_3 a0_4 a0_5 a0_6 a0_7; let x2 : Int × Int × Int × Int × Int × Int × Bool := f34.snd; let x3 : Int × Int × Int × Int × Int × Bool := x2.snd; let x4 : Int × Int × Int × Int × Bool := x3.snd; let x5 : Int × Int × Int × Bool := x4.snd; let x6 : Int × Int × Bool := x5.snd; (bif x1 then a0_0 else f34.fst, bif x1 then a0_1 else x2.fst, bif x1 then a0_2 else x3.fst, bif x1 then a0_3 else x4.fst, bif x1 then a0_4 else x5.fst, bif x1 then a0_5 else x6.fst, bif x1 then a0_6 else x6.snd.fst, !x1 || a0_7)
noncomputable def g65 (p : Int × Int × Int × Int × Int × Int × Int × Bool) : SV := .agg [.int .i64 (.sym p.1), .int .i64 (.sym p.2.1), .int .i64 (.sym p.2.2.1), .int .i64 (.sym p.2.2.2.1), .int .i64 (.sym p.2.2.2.2.1), .int .i64 (.sym p.2.2.2.2.2.1), .int .i64 (.sym p.2.2.2.2.2.2.1), .bool (.sym p.2.2.2.2.2.2.2)]
noncomputable def S65 : Summ
  | [.v (.agg [.int .i64 a0_0, .int .i64 a0_1, .int .i64 a0_2, .int .i64 a0_3, .int .i64 a0_4, .int .i64 a0_5, .int .i64 a0_6, .bool a0_7])] => some (g65 (f65 a0_0.val a0_1.val a0_2.val a0_3.val a0_4.val a0_5.val a0_6.val a0_7.val))
  | _ => none
theorem S65_ok : SummFn Go.Proofs.Try.prog 65 S65 := by
  have ev : ∀ (a0_0 : Int) (a0_1 : Int) (a0_2 : Int) (a0_3 : Int) (a0_4 : Int) (a0_5 : Int) (a0_6 : Int) (a0_7 : Bool), (symCall ⟨Go.Proofs.Try.prog, [(17, S17), (27, S27), (29, S29), (33, S33), (34, S34), (57, S57), (81, S81), (84, S84), (89, S89), (91, S91), (100, S100), (101, S101), (104, S104), (113, S113), (119, S119), (120, S120), (122, S122), (125, S125), (126, S126), (128, S128)], 3, 130, true, [(44, H44), (72, H72), (74, H74), (45, H45), (48, H48)], [], []⟩ 30 65 [.agg [.int .i64 (.sym a0_0), .int .i64 (.sym a0_1), .int .i64 (.sym a0_2), .int .i64 (.sym a0_3), .int .i64 (.sym a0_4), .int .i64 (.sym a0_5), .int .i64 (.sym a0_6), .bool (.sym a0_7)]] []).out = ((g65 (f65 a0_0 a0_1 a0_2 a0_3 a0_4 a0_5 a0_6 a0_7)).toV) := by
    intro a0_0 a0_1 a0_2 a0_3 a0_4 a0_5 a0_6 a0_7
    kernel_rfl
  intro fs r h w vs hv
  unfold S65 at h
  split at h
  · rename_i a0_0 a0_1 a0_2 a0_3 a0_4 a0_5 a0_6 a0_7
    cases h
    exact sx_calls (envOkU' (S := [(17, S17), (27, S27), (29, S29), (33, S33), (34, S34), (57, S57), (81, S81), (84, S84), (89, S89), (91, S91), (100, S100), (101, S101), (104, S104), (113, S113), (119, S119), (120, S120), (122, S122), (125, S125), (126, S126), (128, S128)]) (HS := [(44, H44), (72, H72), (74, H74), (45, H45), (48, H48)]) (US := []) (NS := []) (j := true) ⟨S17_ok, S27_ok, S29_ok, S33_ok, S34_ok, S57_ok, S81_ok, S84_ok, S89_ok, S91_ok, S100_ok, S101_ok, S104_ok, S113_ok, S119_ok, S120_ok, S122_ok, S125_ok, S126_ok, S128_ok, trivial⟩ ⟨H44_ok, H72_ok, H74_ok, H45_ok, H48_ok, trivial⟩ trivial trivial) 30 65 [.agg [.int .i64 (.sym a0_0.val), .int .i64 (.sym a0_1.val), .int .i64 (.sym a0_2.val), .int .i64 (.sym a0_3.val), .int .i64 (.sym a0_4.val), .int .i64 (.sym a0_5.val), .int .i64 (.sym a0_6.val), .bool (.sym a0_7.val)]] vs (symifyL_rel _ _ (SArels_v (xs := [.agg [.int .i64 a0_0, .int .i64 a0_1, .int .i64 a0_2, .int .i64 a0_3, .int .i64 a0_4, .int .i64 a0_5, .int .i64 a0_6, .bool a0_7]]) hv)) (by kernel_rfl) rfl (ev a0_0.val a0_1.val a0_2.val a0_3.val a0_4.val a0_5.val a0_6.val a0_7.val) w
  · cases h
/-- outrigger/vec.Scale -/
noncomputable def f62 (a0_0 : Int) (a0_1 : Int) (a0_2 : Int) (a1 : Int) : Int × Int × Int × Bool := ((f53 a0_0 a1).fst, (f53 a0_1 a1).fst, (f53 a0_2 a1).fst, (f53 a0_0 a1).snd || (f53 a0_1 a1).snd || (f53 a0_2 a1).snd)
noncomputable def g62 (p : Int × Int × Int × Bool) : SV := .tuple [.agg [.int .i64 (.sym p.1), .int .i64 (.sym p.2.1), .int .i64 (.sym p.2.2.1)], .bool (.sym p.2.2.2)]
noncomputable def S62 : Summ
  | [.v (.agg [.int .i64 a0_0, .int .i64 a0_1, .int .i64 a0_2]), .v (.int .i64 a1)] => some (g62 (f62 a0_0.val a0_1.val a0_2.val a1.val))
  | _ => none
theorem S62_ok : SummFn Go.Proofs.Try.prog 62 S62 := by
  have ev : ∀ (a0_0 : Int) (a0_1 : Int) (a0_2 : Int) (a1 : Int), (symCall ⟨Go.Proofs.Try.prog, [(29, S29), (53, S53), (57, S57), (71, S71), (83, S83), (84, S84), (89, S89), (91, S91), (100, S100), (101, S101), (102, S102), (104, S104), (119, S119), (120, S120), (122, S122)], 3, 130, true, [], [], []⟩ 30 62 [.agg [.int .i64 (.sym a0_0), .int .i64 (.sym a0_1), .int .i64 (.sym a0_2)], .int .i64 (.sym a1)] []).out = ((g62 (f62 a0_0 a0_1 a0_2 a1)).toV) := by
    intro a0_0 a0_1 a0_2 a1
    kernel_rfl
  intro fs r h w vs hv
  unfold S62 at h
  split at h
  · rename_i a0_0 a0_1 a0_2 a1
    cases h
    exact sx_calls (envOkU' (S := [(29, S29), (53, S53), (57, S57), (71, S71), (83, S83), (84, S84), (89, S89), (91, S91), (100, S100), (101, S101), (102, S102), (104, S104), (119, S119), (120, S120), (122, S122)]) (HS := []) (US := []) (NS := []) (j := true) ⟨S29_ok, S53_ok, S57_ok, S71_ok, S83_ok, S84_ok, S89_ok, S91_ok, S100_ok, S101_ok, S102_ok, S104_ok, S119_ok, S120_ok, S122_ok, trivial⟩ trivial trivial trivial) 30 62 [.agg [.int .i64 (.sym a0_0.val), .int .i64 (.sym a0_1.val), .int .i64 (.sym a0_2.val)], .int .i64 (.sym a1.val)] vs (symifyL_rel _ _ (SArels_v (xs := [.agg [.int .i64 a0_0, .int .i64 a0_1, .int .i64 a0_2], .int .i64 a1]) hv)) (by kernel_rfl) rfl (ev a0_0.val a0_1.val a0_2.val a1.val) w
  · cases h
/-- outrigger/vec.Sub -/
noncomputable def f63 (a0_0 : Int) (a0_1 : Int) (a0_2 : Int) (a1_0 : Int) (a1_1 : Int) (a1_2 : Int) : Int × Int × Int × Bool := ((f97 a0_0 a1_0).fst, (f97 a0_1 a1_1).fst, (f97 a0_2 a1_2).fst, (f97 a0_0 a1_0).snd || (f97 a0_1 a1_1).snd || (f97 a0_2 a1_2).snd)
noncomputable def g63 (p : Int × Int × Int × Bool) : SV := .tuple [.agg [.int .i64 (.sym p.1), .int .i64 (.sym p.2.1), .int .i64 (.sym p.2.2.1)], .bool (.sym p.2.2.2)]
noncomputable def S63 : Summ
  | [.v (.agg [.int .i64 a0_0, .int .i64 a0_1, .int .i64 a0_2]), .v (.agg [.int .i64 a1_0, .int .i64 a1_1, .int .i64 a1_2])] => some (g63 (f63 a0_0.val a0_1.val a0_2.val a1_0.val a1_1.val a1_2.val))
  | _ => none
theorem S63_ok : SummFn Go.Proofs.Try.prog 63 S63 := by
  have ev : ∀ (a0_0 : Int) (a0_1 : Int) (a0_2 : Int) (a1_0 : Int) (a1_1 : Int) (a1_2 : Int), (symCall ⟨Go.Proofs.Try.prog, [(29, S29), (57, S57), (91, S91), (97, S97)], 3, 130, true, [], [], []⟩ 30 63 [.agg [.int .i64 (.sym a0_0), .int .i64 (.sym a0_1), .int .i64 (.sym a0_2)], .agg [.int .i64 (.sym a1_0), .int .i64 (.sym a1_1), .int .i64 (.sym a1_2)]] []).out = ((g63 (f63 a0_0 a0_1 a0_2 a1_0 a1_1 a1_2)).toV) := by
    intro a0_0 a0_1 a0_2 a1_0 a1_1 a1_2
    kernel_rfl
  intro fs r h w vs hv
  unfold S63 at h
  split at h
  · rename_i a0_0 a0_1 a0_2 a1_0 a1_1 a1_2
    cases h
    exact sx_calls (envOkU' (S := [(29, S29), (57, S57), (91, S91), (97, S97)]) (HS := []) (US := []) (NS := []) (j := true) ⟨S29_ok, S57_ok, S91_ok, S97_ok, trivial⟩ trivial trivial trivial) 30 63 [.agg [.int .i64 (.sym a0_0.val), .int .i64 (.sym a0_1.val), .int .i64 (.sym a0_2.val)], .agg [.int .i64 (.sym a1_0.val), .int .i64 (.sym a1_1.val), .int .i64 (.sym a1_2.val)]] vs (symifyL_rel _ _ (SArels_v (xs := [.agg [.int .i64 a0_0, .int .i64 a0_1, .int .i64 a0_2], .agg [.int .i64 a1_0, .int .i64 a1_1, .int .i64 a1_2]]) hv)) (by kernel_rfl) rfl (ev a0_0.val a0_1.val a0_2.val a1_0.val a1_1.val a1_2.val) w
  · cases h
/-- outrigger/turn.Move -/
noncomputable def f31 (a0_0 : Int) (a0_1 : Int) (a0_2 : Int) (a0_3 : Int) (a0_4 : Int) (a0_5 : Int) (a0_6 : Int) (a0_7 : Bool) (a1_0 : Int) (a1_1 : Int) (a1_2 : Int) (a2 : Int) : Int × Int × Int × Int × Int × Int × Int × Bool := let x1 : Int := IntKind.i64.wrap (0 + 1); let x2 : Int := bif (f29 a1_0).snd then 0 else bif (f29 a1_1).snd then x1 else bif (f29 a1_2).snd then IntKind.i64.wrap (x1 + 1) else -1; let x3 : Bool := !!decide (x2 ≥ 0) || decide (a2 < 0) || decide (a2 > 68719476736); let x4 : Int × Int × Int × Int × Int × Int × Int × Bool := f65 a0_0 a0_1 a0_2 a0_3 a0_4 a0_5 a0_6 a0_7; let x5 : Int := x4.fst; let x6 : Int × Int × Int × Int × Int × Int × Bool := x4.snd; let x7 : Int := x6.fst; let x8 : Int × Int × Int × Int × Int × Bool := x6.snd; let x9 : Int := x8.fst; let x10 : Int × Int × Int × Int × Bool := x8.snd; let x11 : Int := x10.fst; let x12 : Int × Int × Int × Bool := x10.snd; let x13 : Int := x12.fst; let x14 : Int × Int × Bool := x12.snd; let x15 : Int := x14.fst; let x16 : Int × Bool := x14.snd; let x17 : Int := x16.fst; let x18 : Int × Int × Int × Bool := f63 a1_0 a1_1 a1_2 x13 x15 x17; let x19 : Int × Int × Bool := x18.snd; let x20 : Int × Bool := x19.snd; let x21 : Int × Int × Int × Bool := f62 x18.fst x19.fst x20.fst a2; let x22 : Int × Int × Bool := x21.snd; let x23 : Int × Bool := x22.snd; let x24 : Int × Int × Int × Int × Bool := f21 x21.fst x22.fst x23.fst; let x25 : Int × Int × Int × Bool := x24.snd; let x26 : Int × Int × Bool := x25.snd; let x27 : Int × Bool := x26.snd; let x28 : Int × Int × Int × Int × Bool := f15 x5 x7 x9 x11 x24.fst x25.fst x26.fst x27.fst; let x29 : Int × Int × Int × Bool := x28.snd; let x30 : Int × Int × Bool := x29.snd; let x31 : Int × Bool := x30.snd; let x32 : Int × Int × Int × Int × Bool := f19 x28.fst x29.fst x30.fst x31.fst; let x33 : Int × Int × Int × Bool := x32.snd; let x34 : Int × Int × Bool := x33.snd; let x35 : Int × Bool := x34.snd; (bif x3 then x5 else x32.fst, bif x3 then x7 else x33.fst, bif x3 then x9 else x34.fst, bif x3 then x11 else x35.fst, bif x3 then x13 else x13, bif x3 then x15 else x15, bif x3 then x17 else x17, x3 || (x16.snd || x20.snd || x23.snd || x27.snd || x31.snd || x35.snd))
noncomputable def g31 (p : Int × Int × Int × Int × Int × Int × Int × Bool) : SV := .agg [.int .i64 (.sym p.1), .int .i64 (.sym p.2.1), .int .i64 (.sym p.2.2.1), .int .i64 (.sym p.2.2.2.1), .int .i64 (.sym p.2.2.2.2.1), .int .i64 (.sym p.2.2.2.2.2.1), .int .i64 (.sym p.2.2.2.2.2.2.1), .bool (.sym p.2.2.2.2.2.2.2)]
noncomputable def S31 : Summ
  | [.v (.agg [.int .i64 a0_0, .int .i64 a0_1, .int .i64 a0_2, .int .i64 a0_3, .int .i64 a0_4, .int .i64 a0_5, .int .i64 a0_6, .bool a0_7]), .v (.agg [.int .i64 a1_0, .int .i64 a1_1, .int .i64 a1_2]), .v (.int .i64 a2)] => some (g31 (f31 a0_0.val a0_1.val a0_2.val a0_3.val a0_4.val a0_5.val a0_6.val a0_7.val a1_0.val a1_1.val a1_2.val a2.val))
  | _ => none
theorem S31_ok : SummFn Go.Proofs.Try.prog 31 S31 := by
  have ev : ∀ (a0_0 : Int) (a0_1 : Int) (a0_2 : Int) (a0_3 : Int) (a0_4 : Int) (a0_5 : Int) (a0_6 : Int) (a0_7 : Bool) (a1_0 : Int) (a1_1 : Int) (a1_2 : Int) (a2 : Int), (symCall ⟨Go.Proofs.Try.prog, [(15, S15), (17, S17), (19, S19), (21, S21), (27, S27), (29, S29), (33, S33), (34, S34), (39, S39), (41, S41), (42, S42), (43, S43), (51, S51), (53, S53), (55, S55), (57, S57), (62, S62), (63, S63), (65, S65), (71, S71), (81, S81), (83, S83), (84, S84), (85, S85), (89, S89), (91, S91), (97, S97), (100, S100), (101, S101), (102, S102), (104, S104), (113, S113), (119, S119), (120, S120), (122, S122), (125, S125), (126, S126), (128, S128)], 3, 130, true, [(44, H44), (72, H72), (74, H74), (45, H45), (48, H48)], [(61, U61), (94, U94), (60, U60)], [(40, N40)]⟩ 30 31 [.agg [.int .i64 (.sym a0_0), .int .i64 (.sym a0_1), .int .i64 (.sym a0_2), .int .i64 (.sym a0_3), .int .i64 (.sym a0_4), .int .i64 (.sym a0_5), .int .i64 (.sym a0_6), .bool (.sym a0_7)], .agg [.int .i64 (.sym a1_0), .int .i64 (.sym a1_1), .int .i64 (.sym a1_2)], .int .i64 (.sym a2)] []).out = ((g31 (f31 a0_0 a0_1 a0_2 a0_3 a0_4 a0_5 a0_6 a0_7 a1_0 a1_1 a1_2 a2)).toV) := by
    intro a0_0 a0_1 a0_2 a0_3 a0_4 a0_5 a0_6 a0_7 a1_0 a1_1 a1_2 a2
    kernel_rfl
  intro fs r h w vs hv
  unfold S31 at h
  split at h
  · rename_i a0_0 a0_1 a0_2 a0_3 a0_4 a0_5 a0_6 a0_7 a1_0 a1_1 a1_2 a2
    cases h
    exact sx_calls (envOkU' (S := [(15, S15), (17, S17), (19, S19), (21, S21), (27, S27), (29, S29), (33, S33), (34, S34), (39, S39), (41, S41), (42, S42), (43, S43), (51, S51), (53, S53), (55, S55), (57, S57), (62, S62), (63, S63), (65, S65), (71, S71), (81, S81), (83, S83), (84, S84), (85, S85), (89, S89), (91, S91), (97, S97), (100, S100), (101, S101), (102, S102), (104, S104), (113, S113), (119, S119), (120, S120), (122, S122), (125, S125), (126, S126), (128, S128)]) (HS := [(44, H44), (72, H72), (74, H74), (45, H45), (48, H48)]) (US := [(61, U61), (94, U94), (60, U60)]) (NS := [(40, N40)]) (j := true) ⟨S15_ok, S17_ok, S19_ok, S21_ok, S27_ok, S29_ok, S33_ok, S34_ok, S39_ok, S41_ok, S42_ok, S43_ok, S51_ok, S53_ok, S55_ok, S57_ok, S62_ok, S63_ok, S65_ok, S71_ok, S81_ok, S83_ok, S84_ok, S85_ok, S89_ok, S91_ok, S97_ok, S100_ok, S101_ok, S102_ok, S104_ok, S113_ok, S119_ok, S120_ok, S122_ok, S125_ok, S126_ok, S128_ok, trivial⟩ ⟨H44_ok, H72_ok, H74_ok, H45_ok, H48_ok, trivial⟩ ⟨U61_ok, U94_ok, U60_ok, trivial⟩ ⟨N40_ok, trivial⟩) 30 31 [.agg [.int .i64 (.sym a0_0.val), .int .i64 (.sym a0_1.val), .int .i64 (.sym a0_2.val), .int .i64 (.sym a0_3.val), .int .i64 (.sym a0_4.val), .int .i64 (.sym a0_5.val), .int .i64 (.sym a0_6.val), .bool (.sym a0_7.val)], .agg [.int .i64 (.sym a1_0.val), .int .i64 (.sym a1_1.val), .int .i64 (.sym a1_2.val)], .int .i64 (.sym a2.val)] vs (symifyL_rel _ _ (SArels_v (xs := [.agg [.int .i64 a0_0, .int .i64 a0_1, .int .i64 a0_2, .int .i64 a0_3, .int .i64 a0_4, .int .i64 a0_5, .int .i64 a0_6, .bool a0_7], .agg [.int .i64 a1_0, .int .i64 a1_1, .int .i64 a1_2], .int .i64 a2]) hv)) (by kernel_rfl) rfl (ev a0_0.val a0_1.val a0_2.val a0_3.val a0_4.val a0_5.val a0_6.val a0_7.val a1_0.val a1_1.val a1_2.val a2.val) w
  · cases h
/-- outrigger/turn.Up -/
noncomputable def f36 (a0_0 : Int) (a0_1 : Int) (a0_2 : Int) (a0_3 : Int) (a0_4 : Int) (a0_5 : Int) (a0_6 : Int) (a0_7 : Bool) : Int × Int × Int := let x1 : Int × Int × Int × Int × Int × Int × Int × Bool := f65 a0_0 a0_1 a0_2 a0_3 a0_4 a0_5 a0_6 a0_7; let x2 : Int × Int × Int × Int × Int × Int × Bool := x1.snd; let x3 : Int × Int × Int × Int × Int × Bool := x2.snd; let x4 : Int × Int × Int × Int := f25 x1.fst x2.fst x3.fst x3.snd.fst; let x5 : Int × Int × Int := x4.snd; let x6 : Int × Int := x5.snd; let x7 : Int × Int × Int × Bool := f23 x4.fst x5.fst x6.fst x6.snd 0 0 4294967296; let x8 : Int × Int × Bool := x7.snd; (x7.fst, x8.fst, x8.snd.fst)
noncomputable def g36 (p : Int × Int × Int) : SV := .agg [.int .i64 (.sym p.1), .int .i64 (.sym p.2.1), .int .i64 (.sym p.2.2)]
noncomputable def S36 : Summ
  | [.v (.agg [.int .i64 a0_0, .int .i64 a0_1, .int .i64 a0_2, .int .i64 a0_3, .int .i64 a0_4, .int .i64 a0_5, .int .i64 a0_6, .bool a0_7])] => some (g36 (f36 a0_0.val a0_1.val a0_2.val a0_3.val a0_4.val a0_5.val a0_6.val a0_7.val))
  | _ => none
theorem S36_ok : SummFn Go.Proofs.Try.prog 36 S36 := by
  have ev : ∀ (a0_0 : Int) (a0_1 : Int) (a0_2 : Int) (a0_3 : Int) (a0_4 : Int) (a0_5 : Int) (a0_6 : Int) (a0_7 : Bool), (symCall ⟨Go.Proofs.Try.prog, [(15, S15), (17, S17), (23, S23), (25, S25), (27, S27), (29, S29), (33, S33), (34, S34), (39, S39), (41, S41), (42, S42), (43, S43), (55, S55), (57, S57), (65, S65), (71, S71), (81, S81), (84, S84), (89, S89), (91, S91), (100, S100), (101, S101), (102, S102), (104, S104), (113, S113), (119, S119), (120, S120), (122, S122), (125, S125), (126, S126), (128, S128)], 3, 130, true, [(44, H44), (72, H72), (74, H74), (45, H45), (48, H48)], [], [(40, N40)]⟩ 30 36 [.agg [.int .i64 (.sym a0_0), .int .i64 (.sym a0_1), .int .i64 (.sym a0_2), .int .i64 (.sym a0_3), .int .i64 (.sym a0_4), .int .i64 (.sym a0_5), .int .i64 (.sym a0_6), .bool (.sym a0_7)]] []).out = ((g36 (f36 a0_0 a0_1 a0_2 a0_3 a0_4 a0_5 a0_6 a0_7)).toV) := by
    intro a0_0 a0_1 a0_2 a0_3 a0_4 a0_5 a0_6 a0_7
    kernel_rfl
  intro fs r h w vs hv
  unfold S36 at h
  split at h
  · rename_i a0_0 a0_1 a0_2 a0_3 a0_4 a0_5 a0_6 a0_7
    cases h
    exact sx_calls (envOkU' (S := [(15, S15), (17, S17), (23, S23), (25, S25), (27, S27), (29, S29), (33, S33), (34, S34), (39, S39), (41, S41), (42, S42), (43, S43), (55, S55), (57, S57), (65, S65), (71, S71), (81, S81), (84, S84), (89, S89), (91, S91), (100, S100), (101, S101), (102, S102), (104, S104), (113, S113), (119, S119), (120, S120), (122, S122), (125, S125), (126, S126), (128, S128)]) (HS := [(44, H44), (72, H72), (74, H74), (45, H45), (48, H48)]) (US := []) (NS := [(40, N40)]) (j := true) ⟨S15_ok, S17_ok, S23_ok, S25_ok, S27_ok, S29_ok, S33_ok, S34_ok, S39_ok, S41_ok, S42_ok, S43_ok, S55_ok, S57_ok, S65_ok, S71_ok, S81_ok, S84_ok, S89_ok, S91_ok, S100_ok, S101_ok, S102_ok, S104_ok, S113_ok, S119_ok, S120_ok, S122_ok, S125_ok, S126_ok, S128_ok, trivial⟩ ⟨H44_ok, H72_ok, H74_ok, H45_ok, H48_ok, trivial⟩ trivial ⟨N40_ok, trivial⟩) 30 36 [.agg [.int .i64 (.sym a0_0.val), .int .i64 (.sym a0_1.val), .int .i64 (.sym a0_2.val), .int .i64 (.sym a0_3.val), .int .i64 (.sym a0_4.val), .int .i64 (.sym a0_5.val), .int .i64 (.sym a0_6.val), .bool (.sym a0_7.val)]] vs (symifyL_rel _ _ (SArels_v (xs := [.agg [.int .i64 a0_0, .int .i64 a0_1, .int .i64 a0_2, .int .i64 a0_3, .int .i64 a0_4, .int .i64 a0_5, .int .i64 a0_6, .bool a0_7]]) hv)) (by kernel_rfl) rfl (ev a0_0.val a0_1.val a0_2.val a0_3.val a0_4.val a0_5.val a0_6.val a0_7.val) w
  · cases h
/-- outrigger/vec.Len -/
noncomputable def f35 (a0_0 : Int) (a0_1 : Int) (a0_2 : Int) : Int × Bool := let x1 : Int × Int := addL [((f89 a0_0 a0_0).fst, (f89 a0_0 a0_0).snd), ((f89 a0_1 a0_1).fst, (f89 a0_1 a0_1).snd), ((f89 a0_2 a0_2).fst, (f89 a0_2 a0_2).snd)]; let x2 : Int × Bool := f81 x1.fst x1.snd; (x2.fst, x2.snd || anyB [(f29 a0_0).snd, (f29 a0_1).snd, (f29 a0_2).snd])
noncomputable def g35 (p : Int × Bool) : SV := .tuple [.int .i64 (.sym p.1), .bool (.sym p.2)]
noncomputable def S35 : Summ
  | [.v (.agg [.int .i64 a0_0, .int .i64 a0_1, .int .i64 a0_2])] => some (g35 (f35 a0_0.val a0_1.val a0_2.val))
  | _ => none
theorem S35_ok : SummFn Go.Proofs.Try.prog 35 S35 := by
  have ev : ∀ (a0_0 : Int) (a0_1 : Int) (a0_2 : Int), (symCall ⟨Go.Proofs.Try.prog, [(29, S29), (57, S57), (81, S81), (84, S84), (89, S89), (91, S91), (100, S100), (101, S101), (104, S104), (113, S113), (119, S119), (120, S120), (122, S122), (125, S125), (126, S126), (128, S128)], 3, 130, true, [(44, H44), (72, H72), (74, H74), (45, H45), (48, H48)], [], []⟩ 30 35 [.agg [.int .i64 (.sym a0_0), .int .i64 (.sym a0_1), .int .i64 (.sym a0_2)]] []).out = ((g35 (f35 a0_0 a0_1 a0_2)).toV) := by
    intro a0_0 a0_1 a0_2
    kernel_rfl
  intro fs r h w vs hv
  unfold S35 at h
  split at h
  · rename_i a0_0 a0_1 a0_2
    cases h
    exact sx_calls (envOkU' (S := [(29, S29), (57, S57), (81, S81), (84, S84), (89, S89), (91, S91), (100, S100), (101, S101), (104, S104), (113, S113), (119, S119), (120, S120), (122, S122), (125, S125), (126, S126), (128, S128)]) (HS := [(44, H44), (72, H72), (74, H74), (45, H45), (48, H48)]) (US := []) (NS := []) (j := true) ⟨S29_ok, S57_ok, S81_ok, S84_ok, S89_ok, S91_ok, S100_ok, S101_ok, S104_ok, S113_ok, S119_ok, S120_ok, S122_ok, S125_ok, S126_ok, S128_ok, trivial⟩ ⟨H44_ok, H72_ok, H74_ok, H45_ok, H48_ok, trivial⟩ trivial trivial) 30 35 [.agg [.int .i64 (.sym a0_0.val), .int .i64 (.sym a0_1.val), .int .i64 (.sym a0_2.val)]] vs (symifyL_rel _ _ (SArels_v (xs := [.agg [.int .i64 a0_0, .int .i64 a0_1, .int .i64 a0_2]]) hv)) (by kernel_rfl) rfl (ev a0_0.val a0_1.val a0_2.val) w
  · cases h
/-- outrigger/vec.Unit -/
noncomputable def f37 (a0_0 : Int) (a0_1 : Int) (a0_2 : Int) : Int × Int × Int × Bool := let x1 : Bool := (f35 a0_0 a0_1 a0_2).fst == 0; let x2 : Int × Bool := f51 a0_0 (f35 a0_0 a0_1 a0_2).fst; let x3 : Int × Bool := f51 a0_1 (f35 a0_0 a0_1 a0_2).fst; let x4 : Int × Bool := f51 a0_2 (f35 a0_0 a0_1 a0_2).fst; (bif x1 then 0 else x2.fst, bif x1 then 0 else x3.fst, bif x1 then 0 else x4.fst, x1 || ((f35 a0_0 a0_1 a0_2).snd || (x2.snd || x3.snd || x4.snd)))
noncomputable def g37 (p : Int × Int × Int × Bool) : SV := .tuple [.agg [.int .i64 (.sym p.1), .int .i64 (.sym p.2.1), .int .i64 (.sym p.2.2.1)], .bool (.sym p.2.2.2)]
noncomputable def S37 : Summ
  | [.v (.agg [.int .i64 a0_0, .int .i64 a0_1, .int .i64 a0_2])] => some (g37 (f37 a0_0.val a0_1.val a0_2.val))
  | _ => none
theorem S37_ok : SummFn Go.Proofs.Try.prog 37 S37 := by
  have ev : ∀ (a0_0 : Int) (a0_1 : Int) (a0_2 : Int), (symCall ⟨Go.Proofs.Try.prog, [(29, S29), (35, S35), (51, S51), (57, S57), (81, S81), (83, S83), (84, S84), (85, S85), (89, S89), (91, S91), (100, S100), (101, S101), (104, S104), (113, S113), (119, S119), (120, S120), (122, S122), (125, S125), (126, S126), (128, S128)], 3, 130, true, [(44, H44), (72, H72), (74, H74), (45, H45), (48, H48)], [], []⟩ 30 37 [.agg [.int .i64 (.sym a0_0), .int .i64 (.sym a0_1), .int .i64 (.sym a0_2)]] []).out = ((g37 (f37 a0_0 a0_1 a0_2)).toV) := by
    intro a0_0 a0_1 a0_2
    kernel_rfl
  intro fs r h w vs hv
  unfold S37 at h
  split at h
  · rename_i a0_0 a0_1 a0_2
    cases h
    exact sx_calls (envOkU' (S := [(29, S29), (35, S35), (51, S51), (57, S57), (81, S81), (83, S83), (84, S84), (85, S85), (89, S89), (91, S91), (100, S100), (101, S101), (104, S104), (113, S113), (119, S119), (120, S120), (122, S122), (125, S125), (126, S126), (128, S128)]) (HS := [(44, H44), (72, H72), (74, H74), (45, H45), (48, H48)]) (US := []) (NS := []) (j := true) ⟨S29_ok, S35_ok, S51_ok, S57_ok, S81_ok, S83_ok, S84_ok, S85_ok, S89_ok, S91_ok, S100_ok, S101_ok, S104_ok, S113_ok, S119_ok, S120_ok, S122_ok, S125_ok, S126_ok, S128_ok, trivial⟩ ⟨H44_ok, H72_ok, H74_ok, H45_ok, H48_ok, trivial⟩ trivial trivial) 30 37 [.agg [.int .i64 (.sym a0_0.val), .int .i64 (.sym a0_1.val), .int .i64 (.sym a0_2.val)]] vs (symifyL_rel _ _ (SArels_v (xs := [.agg [.int .i64 a0_0, .int .i64 a0_1, .int .i64 a0_2]]) hv)) (by kernel_rfl) rfl (ev a0_0.val a0_1.val a0_2.val) w
  · cases h
/-- outrigger/vec.Cross -/
noncomputable def f64 (a0_0 : Int) (a0_1 : Int) (a0_2 : Int) (a1_0 : Int) (a1_1 : Int) (a1_2 : Int) : Int × Int × Int × Bool := let x1 : Int × Int := addL [((f89 a0_1 a1_2).fst, (f89 a0_1 a1_2).snd), ((f89 a0_2 (f55 a1_1)).fst, (f89 a0_2 (f55 a1_1)).snd)]; let x2 : Int × Bool := f71 x1.fst x1.snd; let x3 : Int × Int := addL [((f89 a0_2 a1_0).fst, (f89 a0_2 a1_0).snd), ((f89 a0_0 (f55 a1_2)).fst, (f89 a0_0 (f55 a1_2)).snd)]; let x4 : Int × Bool := f71 x3.fst x3.snd; let x5 : Int × Int := addL [((f89 a0_0 a1_1).fst, (f89 a0_0 a1_1).snd), ((f89 a0_1 (f55 a1_0)).fst, (f89 a0_1 (f55 a1_0)).snd)]; let x6 : Int × Bool := f71 x5.fst x5.snd; (x2.fst, x4.fst, x6.fst, (f29 a1_1).snd || (x2.snd || anyB [(f29 a0_1).snd, (f29 a0_2).snd] || anyB [(f29 a1_2).snd, (f29 (f55 a1_1)).snd]) || ((f29 a1_2).snd || (x4.snd || anyB [(f29 a0_2).snd, (f29 a0_0).snd] || anyB [(f29 a1_0).snd, (f29 (f55 a1_2)).snd])) || ((f29 a1_0).snd || (x6.snd || anyB [(f29 a0_0).snd, (f29 a0_1).snd] || anyB [(f29 a1_1).snd, (f29 (f55 a1_0)).snd])))
noncomputable def g64 (p : Int × Int × Int × Bool) : SV := .tuple [.agg [.int .i64 (.sym p.1), .int .i64 (.sym p.2.1), .int .i64 (.sym p.2.2.1)], .bool (.sym p.2.2.2)]
noncomputable def S64 : Summ
  | [.v (.agg [.int .i64 a0_0, .int .i64 a0_1, .int .i64 a0_2]), .v (.agg [.int .i64 a1_0, .int .i64 a1_1, .int .i64 a1_2])] => some (g64 (f64 a0_0.val a0_1.val a0_2.val a1_0.val a1_1.val a1_2.val))
  | _ => none
theorem S64_ok : SummFn Go.Proofs.Try.prog 64 S64 := by
  have ev : ∀ (a0_0 : Int) (a0_1 : Int) (a0_2 : Int) (a1_0 : Int) (a1_1 : Int) (a1_2 : Int), (symCall ⟨Go.Proofs.Try.prog, [(29, S29), (55, S55), (57, S57), (71, S71), (84, S84), (89, S89), (91, S91), (100, S100), (101, S101), (102, S102), (104, S104), (119, S119), (120, S120), (122, S122)], 3, 130, true, [(44, H44), (72, H72), (74, H74), (45, H45), (48, H48)], [], []⟩ 30 64 [.agg [.int .i64 (.sym a0_0), .int .i64 (.sym a0_1), .int .i64 (.sym a0_2)], .agg [.int .i64 (.sym a1_0), .int .i64 (.sym a1_1), .int .i64 (.sym a1_2)]] []).out = ((g64 (f64 a0_0 a0_1 a0_2 a1_0 a1_1 a1_2)).toV) := by
    intro a0_0 a0_1 a0_2 a1_0 a1_1 a1_2
    kernel_rfl
  intro fs r h w vs hv
  unfold S64 at h
  split at h
  · rename_i a0_0 a0_1 a0_2 a1_0 a1_1 a1_2
    cases h
    exact sx_calls (envOkU' (S := [(29, S29), (55, S55), (57, S57), (71, S71), (84, S84), (89, S89), (91, S91), (100, S100), (101, S101), (102, S102), (104, S104), (119, S119), (120, S120), (122, S122)]) (HS := [(44, H44), (72, H72), (74, H74), (45, H45), (48, H48)]) (US := []) (NS := []) (j := true) ⟨S29_ok, S55_ok, S57_ok, S71_ok, S84_ok, S89_ok, S91_ok, S100_ok, S101_ok, S102_ok, S104_ok, S119_ok, S120_ok, S122_ok, trivial⟩ ⟨H44_ok, H72_ok, H74_ok, H45_ok, H48_ok, trivial⟩ trivial trivial) 30 64 [.agg [.int .i64 (.sym a0_0.val), .int .i64 (.sym a0_1.val), .int .i64 (.sym a0_2.val)], .agg [.int .i64 (.sym a1_0.val), .int .i64 (.sym a1_1.val), .int .i64 (.sym a1_2.val)]] vs (symifyL_rel _ _ (SArels_v (xs := [.agg [.int .i64 a0_0, .int .i64 a0_1, .int .i64 a0_2], .agg [.int .i64 a1_0, .int .i64 a1_1, .int .i64 a1_2]]) hv)) (by kernel_rfl) rfl (ev a0_0.val a0_1.val a0_2.val a1_0.val a1_1.val a1_2.val) w
  · cases h
/-- outrigger/turn.Level -/
noncomputable def f32 (a0_0 : Int) (a0_1 : Int) (a0_2 : Int) (a0_3 : Int) (a0_4 : Int) (a0_5 : Int) (a0_6 : Int) (a0_7 : Bool) (a1_0 : Int) (a1_1 : Int) (a1_2 : Int) (a2 : Int) : Int × Int × Int × Int × Int × Int × Int × Bool := let x1 : Int := IntKind.i64.wrap (0 + 1); let x2 : Int := bif (f29 a1_0).snd then 0 else bif (f29 a1_1).snd then x1 else bif (f29 a1_2).snd then IntKind.i64.wrap (x1 + 1) else -1; let x3 : Bool := !!decide (x2 ≥ 0) || decide (a2 < 0) || decide (a2 > 4294967296); let x4 : Int × Int × Int × Int × Int × Int × Int × Bool := f65 a0_0 a0_1 a0_2 a0_3 a0_4 a0_5 a0_6 a0_7; let x5 : Int := x4.fst; let x6 : Int × Int × Bool := (f37 a1_0 a1_1 a1_2).snd; let x7 : Int × Bool := x6.snd; let x8 : Bool := x7.snd; let x9 : Int × Int × Int × Int × Int × Int × Bool := x4.snd; let x10 : Int := x9.fst; let x11 : Int × Int × Int × Int × Int × Bool := x9.snd; let x12 : Int := x11.fst; let x13 : Int × Int × Int × Int × Bool := x11.snd; let x14 : Int := x13.fst; let x15 : Int × Int × Int × Bool := x13.snd; let x16 : Int := x15.fst; let x17 : Int × Int × Bool := x15.snd; let x18 : Int := x17.fst; let x19 : Int × Bool := x17.snd; let x20 : Int := x19.fst; let x21 : Bool := x19.snd; let x22 : Int × Int × Int := f36 x5 x10 x12 x14 x16 x18 x20 x21; let x23 : Int × Int := x22.snd; let x24 : Int × Int × Int × Bool := f64 (f37 a1_0 a1_1 a1_2).fst x6.fst x7.fst x22.fst x23.fst x23.snd; let x25 : Int × Int × Bool := x24.snd; let x26 : Int × Bool := x25.snd; let x27 : Int × Int × Int × Bool := f62 x24.fst x25.fst x26.fst a2; let x28 : Int := x27.fst; let x29 : Int × Int × Bool := x27.snd; let x30 : Int := x29.fst; let x31 : Int × Bool := x29.snd; let x32 : Int := x31.fst; let x33 : Int × Int × Int × Int × Bool := f21 x28 x30 x32; let x34 : Int × Int × Int × Bool := x33.snd; let x35 : Int × Int × Bool := x34.snd; let x36 : Int × Bool := x35.snd; let x37 : Int × Int × Int × Int × Bool := f15 x5 x10 x12 x14 x33.fst x34.fst x35.fst x36.fst; let x38 : Int × Int × Int × Bool := x37.snd; let x39 : Int × Int × Bool := x38.snd; let x40 : Int × Bool := x39.snd; let x41 : Int × Int × Int × Int × Bool := f19 x37.fst x38.fst x39.fst x40.fst; let x42 : Int × Int × Int × Bool := x41.snd; let x43 : Int × Int × Bool := x42.snd; let x44 : Int × Bool := x43.snd; let x45 : Int × Int × Int × Bool := f62 x28 x30 x32 268435456; let x46 : Int × Int × Bool := x45.snd; let x47 : Int × Bool := x46.snd; let x48 : Int × Int × Int × Bool := f63 x16 x18 x20 x45.fst x46.fst x47.fst; let x49 : Int × Int × Bool := x48.snd; let x50 : Int × Bool := x49.snd; (bif x3 then x5 else bif x8 then x5 else x41.fst, bif x3 then x10 else bif x8 then x10 else x42.fst, bif x3 then x12 else bif x8 then x12 else x43.fst, bif x3 then x14 else bif x8 then x14 else x44.fst, bif x3 then x16 else bif x8 then x16 else x48.fst, bif x3 then x18 else bif x8 then x18 else x49.fst, bif x3 then x20 else bif x8 then x20 else x50.fst, x3 || bif x8 then x21 else x21 || x26.snd || x31.snd || x47.snd || x50.snd || x36.snd || x40.snd || x44.snd)
noncomputable def g32 (p : Int × Int × Int × Int × Int × Int × Int × Bool) : SV := .agg [.int .i64 (.sym p.1), .int .i64 (.sym p.2.1), .int .i64 (.sym p.2.2.1), .int .i64 (.sym p.2.2.2.1), .int .i64 (.sym p.2.2.2.2.1), .int .i64 (.sym p.2.2.2.2.2.1), .int .i64 (.sym p.2.2.2.2.2.2.1), .bool (.sym p.2.2.2.2.2.2.2)]
noncomputable def S32 : Summ
  | [.v (.agg [.int .i64 a0_0, .int .i64 a0_1, .int .i64 a0_2, .int .i64 a0_3, .int .i64 a0_4, .int .i64 a0_5, .int .i64 a0_6, .bool a0_7]), .v (.agg [.int .i64 a1_0, .int .i64 a1_1, .int .i64 a1_2]), .v (.int .i64 a2)] => some (g32 (f32 a0_0.val a0_1.val a0_2.val a0_3.val a0_4.val a0_5.val a0_6.val a0_7.val a1_0.val a1_1.val a1_2.val a2.val))
  | _ => none
theorem S32_ok : SummFn Go.Proofs.Try.prog 32 S32 := by
  have ev : ∀ (a0_0 : Int) (a0_1 : Int) (a0_2 : Int) (a0_3 : Int) (a0_4 : Int) (a0_5 : Int) (a0_6 : Int) (a0_7 : Bool) (a1_0 : Int) (a1_1 : Int) (a1_2 : Int) (a2 : Int), (symCall ⟨Go.Proofs.Try.prog, [(15, S15), (17, S17), (19, S19), (21, S21), (23, S23), (25, S25), (27, S27), (29, S29), (33, S33), (34, S34), (35, S35), (36, S36), (37, S37), (39, S39), (41, S41), (42, S42), (43, S43), (51, S51), (53, S53), (55, S55), (57, S57), (62, S62), (63, S63), (64, S64), (65, S65), (71, S71), (81, S81), (83, S83), (84, S84), (85, S85), (89, S89), (91, S91), (97, S97), (100, S100), (101, S101), (102, S102), (104, S104), (113, S113), (119, S119), (120, S120), (122, S122), (125, S125), (126, S126), (128, S128)], 3, 130, true, [(44, H44), (72, H72), (74, H74), (45, H45), (48, H48)], [(61, U61), (94, U94), (60, U60)], [(40, N40)]⟩ 30 32 [.agg [.int .i64 (.sym a0_0), .int .i64 (.sym a0_1), .int .i64 (.sym a0_2), .int .i64 (.sym a0_3), .int .i64 (.sym a0_4), .int .i64 (.sym a0_5), .int .i64 (.sym a0_6), .bool (.sym a0_7)], .agg [.int .i64 (.sym a1_0), .int .i64 (.sym a1_1), .int .i64 (.sym a1_2)], .int .i64 (.sym a2)] []).out = ((g32 (f32 a0_0 a0_1 a0_2 a0_3 a0_4 a0_5 a0_6 a0_7 a1_0 a1_1 a1_2 a2)).toV) := by
    intro a0_0 a0_1 a0_2 a0_3 a0_4 a0_5 a0_6 a0_7 a1_0 a1_1 a1_2 a2
    kernel_rfl
  intro fs r h w vs hv
  unfold S32 at h
  split at h
  · rename_i a0_0 a0_1 a0_2 a0_3 a0_4 a0_5 a0_6 a0_7 a1_0 a1_1 a1_2 a2
    cases h
    exact sx_calls (envOkU' (S := [(15, S15), (17, S17), (19, S19), (21, S21), (23, S23), (25, S25), (27, S27), (29, S29), (33, S33), (34, S34), (35, S35), (36, S36), (37, S37), (39, S39), (41, S41), (42, S42), (43, S43), (51, S51), (53, S53), (55, S55), (57, S57), (62, S62), (63, S63), (64, S64), (65, S65), (71, S71), (81, S81), (83, S83), (84, S84), (85, S85), (89, S89), (91, S91), (97, S97), (100, S100), (101, S101), (102, S102), (104, S104), (113, S113), (119, S119), (120, S120), (122, S122), (125, S125), (126, S126), (128, S128)]) (HS := [(44, H44), (72, H72), (74, H74), (45, H45), (48, H48)]) (US := [(61, U61), (94, U94), (60, U60)]) (NS := [(40, N40)]) (j := true) ⟨S15_ok, S17_ok, S19_ok, S21_ok, S23_ok, S25_ok, S27_ok, S29_ok, S33_ok, S34_ok, S35_ok, S36_ok, S37_ok, S39_ok, S41_ok, S42_ok, S43_ok, S51_ok, S53_ok, S55_ok, S57_ok, S62_ok, S63_ok, S64_ok, S65_ok, S71_ok, S81_ok, S83_ok, S84_ok, S85_ok, S89_ok, S91_ok, S97_ok, S100_ok, S101_ok, S102_ok, S104_ok, S113_ok, S119_ok, S120_ok, S122_ok, S125_ok, S126_ok, S128_ok, trivial⟩ ⟨H44_ok, H72_ok, H74_ok, H45_ok, H48_ok, trivial⟩ ⟨U61_ok, U94_ok, U60_ok, trivial⟩ ⟨N40_ok, trivial⟩) 30 32 [.agg [.int .i64 (.sym a0_0.val), .int .i64 (.sym a0_1.val), .int .i64 (.sym a0_2.val), .int .i64 (.sym a0_3.val), .int .i64 (.sym a0_4.val), .int .i64 (.sym a0_5.val), .int .i64 (.sym a0_6.val), .bool (.sym a0_7.val)], .agg [.int .i64 (.sym a1_0.val), .int .i64 (.sym a1_1.val), .int .i64 (.sym a1_2.val)], .int .i64 (.sym a2.val)] vs (symifyL_rel _ _ (SArels_v (xs := [.agg [.int .i64 a0_0, .int .i64 a0_1, .int .i64 a0_2, .int .i64 a0_3, .int .i64 a0_4, .int .i64 a0_5, .int .i64 a0_6, .bool a0_7], .agg [.int .i64 a1_0, .int .i64 a1_1, .int .i64 a1_2], .int .i64 a2]) hv)) (by kernel_rfl) rfl (ev a0_0.val a0_1.val a0_2.val a0_3.val a0_4.val a0_5.val a0_6.val a0_7.val a1_0.val a1_1.val a1_2.val a2.val) w
  · cases h
/-- outrigger/vec.Dot -/
noncomputable def f38 (a0_0 : Int) (a0_1 : Int) (a0_2 : Int) (a1_0 : Int) (a1_1 : Int) (a1_2 : Int) : Int × Bool := let x1 : Int × Int := addL [((f89 a0_0 a1_0).fst, (f89 a0_0 a1_0).snd), ((f89 a0_1 a1_1).fst, (f89 a0_1 a1_1).snd), ((f89 a0_2 a1_2).fst, (f89 a0_2 a1_2).snd)]; let x2 : Int × Bool := f71 x1.fst x1.snd; (x2.fst, x2.snd || anyB [(f29 a0_0).snd, (f29 a0_1).snd, (f29 a0_2).snd] || anyB [(f29 a1_0).snd, (f29 a1_1).snd, (f29 a1_2).snd])
noncomputable def g38 (p : Int × Bool) : SV := .tuple [.int .i64 (.sym p.1), .bool (.sym p.2)]
noncomputable def S38 : Summ
  | [.v (.agg [.int .i64 a0_0, .int .i64 a0_1, .int .i64 a0_2]), .v (.agg [.int .i64 a1_0, .int .i64 a1_1, .int .i64 a1_2])] => some (g38 (f38 a0_0.val a0_1.val a0_2.val a1_0.val a1_1.val a1_2.val))
  | _ => none
theorem S38_ok : SummFn Go.Proofs.Try.prog 38 S38 := by
  have ev : ∀ (a0_0 : Int) (a0_1 : Int) (a0_2 : Int) (a1_0 : Int) (a1_1 : Int) (a1_2 : Int), (symCall ⟨Go.Proofs.Try.prog, [(29, S29), (57, S57), (71, S71), (84, S84), (89, S89), (91, S91), (100, S100), (101, S101), (102, S102), (104, S104), (119, S119), (120, S120), (122, S122)], 3, 130, true, [(44, H44), (72, H72), (74, H74), (45, H45), (48, H48)], [], []⟩ 30 38 [.agg [.int .i64 (.sym a0_0), .int .i64 (.sym a0_1), .int .i64 (.sym a0_2)], .agg [.int .i64 (.sym a1_0), .int .i64 (.sym a1_1), .int .i64 (.sym a1_2)]] []).out = ((g38 (f38 a0_0 a0_1 a0_2 a1_0 a1_1 a1_2)).toV) := by
    intro a0_0 a0_1 a0_2 a1_0 a1_1 a1_2
    kernel_rfl
  intro fs r h w vs hv
  unfold S38 at h
  split at h
  · rename_i a0_0 a0_1 a0_2 a1_0 a1_1 a1_2
    cases h
    exact sx_calls (envOkU' (S := [(29, S29), (57, S57), (71, S71), (84, S84), (89, S89), (91, S91), (100, S100), (101, S101), (102, S102), (104, S104), (119, S119), (120, S120), (122, S122)]) (HS := [(44, H44), (72, H72), (74, H74), (45, H45), (48, H48)]) (US := []) (NS := []) (j := true) ⟨S29_ok, S57_ok, S71_ok, S84_ok, S89_ok, S91_ok, S100_ok, S101_ok, S102_ok, S104_ok, S119_ok, S120_ok, S122_ok, trivial⟩ ⟨H44_ok, H72_ok, H74_ok, H45_ok, H48_ok, trivial⟩ trivial trivial) 30 38 [.agg [.int .i64 (.sym a0_0.val), .int .i64 (.sym a0_1.val), .int .i64 (.sym a0_2.val)], .agg [.int .i64 (.sym a1_0.val), .int .i64 (.sym a1_1.val), .int .i64 (.sym a1_2.val)]] vs (symifyL_rel _ _ (SArels_v (xs := [.agg [.int .i64 a0_0, .int .i64 a0_1, .int .i64 a0_2], .agg [.int .i64 a1_0, .int .i64 a1_1, .int .i64 a1_2]]) hv)) (by kernel_rfl) rfl (ev a0_0.val a0_1.val a0_2.val a1_0.val a1_1.val a1_2.val) w
  · cases h
end Go.Proofs.Ytoagcpfklkmolaa
