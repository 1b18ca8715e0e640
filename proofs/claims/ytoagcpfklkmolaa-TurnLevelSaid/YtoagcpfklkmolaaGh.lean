/- What each function computes, by the executor: printed by a program (wip/sx2/Gen3.lean). -/
import Derived.Test.YtoagcpfklkmolaaGg
namespace Go.Proofs.Ytoagcpfklkmolaa
open Go Go.Sx
set_option maxRecDepth 1000000
set_option maxHeartbeats 100000000
/-- outrigger/quat.Small -/
noncomputable def f21 (a0_0 : Int) (a0_1 : Int) (a0_2 : Int) : Int × Int × Int × Int × Bool := let x1 : Int × Int × Int × Int × Bool := f19 f27.fst (f53 a0_0 2147483648).fst (f53 a0_1 2147483648).fst (f53 a0_2 2147483648).fst; let x2 : Int × Int × Int × Bool := x1.snd; let x3 : Int × Int × Bool := x2.snd; let x4 : Int × Bool := x3.snd; (x1.fst, x2.fst, x3.fst, x4.fst, (f53 a0_0 2147483648).snd || (f53 a0_1 2147483648).snd || (f53 a0_2 2147483648).snd || x4.snd)
noncomputable def g21 (p : Int × Int × Int × Int × Bool) : SV := .tuple [.agg [.int .i64 (.sym p.1), .int .i64 (.sym p.2.1), .int .i64 (.sym p.2.2.1), .int .i64 (.sym p.2.2.2.1)], .bool (.sym p.2.2.2.2)]
noncomputable def S21 : Summ
  | [.v (.agg [.int .i64 a0_0, .int .i64 a0_1, .int .i64 a0_2])] => some (g21 (f21 a0_0.val a0_1.val a0_2.val))
  | _ => none
theorem S21_ok : SummFn Go.Proofs.Try.prog 21 S21 := by
  have ev : ∀ (a0_0 : Int) (a0_1 : Int) (a0_2 : Int), (symCall ⟨Go.Proofs.Try.prog, [(17, S17), (19, S19), (27, S27), (29, S29), (51, S51), (53, S53), (57, S57), (71, S71), (81, S81), (83, S83), (84, S84), (85, S85), (89, S89), (91, S91), (100, S100), (101, S101), (102, S102), (104, S104), (113, S113), (119, S119), (120, S120), (122, S122), (125, S125), (126, S126), (128, S128)], 3, 130, true, [(44, H44), (72, H72), (74, H74), (45, H45), (48, H48)], [], []⟩ 30 21 [.agg [.int .i64 (.sym a0_0), .int .i64 (.sym a0_1), .int .i64 (.sym a0_2)]] []).out = ((g21 (f21 a0_0 a0_1 a0_2)).toV) := by
    intro a0_0 a0_1 a0_2
    kernel_rfl
  intro fs r h w vs hv
  unfold S21 at h
  split at h
  · rename_i a0_0 a0_1 a0_2
    cases h
    exact sx_calls (envOkU' (S := [(17, S17), (19, S19), (27, S27), (29, S29), (51, S51), (53, S53), (57, S57), (71, S71), (81, S81), (83, S83), (84, S84), (85, S85), (89, S89), (91, S91), (100, S100), (101, S101), (102, S102), (104, S104), (113, S113), (119, S119), (120, S120), (122, S122), (125, S125), (126, S126), (128, S128)]) (HS := [(44, H44), (72, H72), (74, H74), (45, H45), (48, H48)]) (US := []) (NS := []) (j := true) ⟨S17_ok, S19_ok, S27_ok, S29_ok, S51_ok, S53_ok, S57_ok, S71_ok, S81_ok, S83_ok, S84_ok, S85_ok, S89_ok, S91_ok, S100_ok, S101_ok, S102_ok, S104_ok, S113_ok, S119_ok, S120_ok, S122_ok, S125_ok, S126_ok, S128_ok, trivial⟩ ⟨H44_ok, H72_ok, H74_ok, H45_ok, H48_ok, trivial⟩ trivial trivial) 30 21 [.agg [.int .i64 (.sym a0_0.val), .int .i64 (.sym a0_1.val), .int .i64 (.sym a0_2.val)]] vs (symifyL_rel _ _ (SArels_v (xs := [.agg [.int .i64 a0_0, .int .i64 a0_1, .int .i64 a0_2]]) hv)) (by kernel_rfl) rfl (ev a0_0.val a0_1.val a0_2.val) w
  · cases h
/-- outrigger/quat.Rotate -/
noncomputable def f23 (a0_0 : Int) (a0_1 : Int) (a0_2 : Int) (a0_3 : Int) (a1_0 : Int) (a1_1 : Int) (a1_2 : Int) : Int × Int × Int × Bool := let x1 : Int × Int × Int × Int × Bool := f15 a0_0 a0_1 a0_2 a0_3 0 a1_0 a1_1 a1_2; let x2 : Int × Int × Int × Bool := x1.snd; let x3 : Int × Int × Bool := x2.snd; let x4 : Int × Bool := x3.snd; let x5 : Int × Int × Int := (f25 a0_0 a0_1 a0_2 a0_3).snd; let x6 : Int × Int := x5.snd; let x7 : Int × Int × Int × Bool := (f15 x1.fst x2.fst x3.fst x4.fst (f25 a0_0 a0_1 a0_2 a0_3).fst x5.fst x6.fst x6.snd).snd; let x8 : Int × Int × Bool := x7.snd; let x9 : Int × Bool := x8.snd; (x7.fst, x8.fst, x9.fst, x4.snd || x9.snd)
noncomputable def g23 (p : Int × Int × Int × Bool) : SV := .tuple [.agg [.int .i64 (.sym p.1), .int .i64 (.sym p.2.1), .int .i64 (.sym p.2.2.1)], .bool (.sym p.2.2.2)]
noncomputable def S23 : Summ
  | [.v (.agg [.int .i64 a0_0, .int .i64 a0_1, .int .i64 a0_2, .int .i64 a0_3]), .v (.agg [.int .i64 a1_0, .int .i64 a1_1, .int .i64 a1_2])] => some (g23 (f23 a0_0.val a0_1.val a0_2.val a0_3.val a1_0.val a1_1.val a1_2.val))
  | _ => none
theorem S23_ok : SummFn Go.Proofs.Try.prog 23 S23 := by
  have ev : ∀ (a0_0 : Int) (a0_1 : Int) (a0_2 : Int) (a0_3 : Int) (a1_0 : Int) (a1_1 : Int) (a1_2 : Int), (symCall ⟨Go.Proofs.Try.prog, [(15, S15), (25, S25), (29, S29), (39, S39), (41, S41), (42, S42), (43, S43), (55, S55), (57, S57), (71, S71), (84, S84), (89, S89), (91, S91), (100, S100), (101, S101), (102, S102), (104, S104), (119, S119), (120, S120), (122, S122)], 3, 130, true, [(44, H44), (72, H72), (74, H74), (45, H45), (48, H48)], [], [(40, N40)]⟩ 30 23 [.agg [.int .i64 (.sym a0_0), .int .i64 (.sym a0_1), .int .i64 (.sym a0_2), .int .i64 (.sym a0_3)], .agg [.int .i64 (.sym a1_0), .int .i64 (.sym a1_1), .int .i64 (.sym a1_2)]] []).out = ((g23 (f23 a0_0 a0_1 a0_2 a0_3 a1_0 a1_1 a1_2)).toV) := by
    intro a0_0 a0_1 a0_2 a0_3 a1_0 a1_1 a1_2
    kernel_rfl
  intro fs r h w vs hv
  unfold S23 at h
  split at h
  · rename_i a0_0 a0_1 a0_2 a0_3 a1_0 a1_1 a1_2
    cases h
    exact sx_calls (envOkU' (S := [(15, S15), (25, S25), (29, S29), (39, S39), (41, S41), (42, S42), (43, S43), (55, S55), (57, S57), (71, S71), (84, S84), (89, S89), (91, S91), (100, S100), (101, S101), (102, S102), (104, S104), (119, S119), (120, S120), (122, S122)]) (HS := [(44, H44), (72, H72), (74, H74), (45, H45), (48, H48)]) (US := []) (NS := [(40, N40)]) (j := true) ⟨S15_ok, S25_ok, S29_ok, S39_ok, S41_ok, S42_ok, S43_ok, S55_ok, S57_ok, S71_ok, S84_ok, S89_ok, S91_ok, S100_ok, S101_ok, S102_ok, S104_ok, S119_ok, S120_ok, S122_ok, trivial⟩ ⟨H44_ok, H72_ok, H74_ok, H45_ok, H48_ok, trivial⟩ trivial ⟨N40_ok, trivial⟩) 30 23 [.agg [.int .i64 (.sym a0_0.val), .int .i64 (.sym a0_1.val), .int .i64 (.sym a0_2.val), .int .i64 (.sym a0_3.val)], .agg [.int .i64 (.sym a1_0.val), .int .i64 (.sym a1_1.val), .int .i64 (.sym a1_2.val)]] vs (symifyL_rel _ _ (SArels_v (xs := [.agg [.int .i64 a0_0, .int .i64 a0_1, .int .i64 a0_2, .int .i64 a0_3], .agg [.int .i64 a1_0, .int .i64 a1_1, .int .i64 a1_2]]) hv)) (by kernel_rfl) rfl (ev a0_0.val a0_1.val a0_2.val a0_3.val a1_0.val a1_1.val a1_2.val) w
  · cases h
end Go.Proofs.Ytoagcpfklkmolaa
