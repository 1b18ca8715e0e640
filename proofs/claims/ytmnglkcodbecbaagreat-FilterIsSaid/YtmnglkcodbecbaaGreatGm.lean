/- What each function computes, by the executor: printed by a program (wip/sx2/Gen3.lean). -/
import Derived.Test.YtmnglkcodbecbaaGreatGk
import Derived.Test.YtmnglkcodbecbaaGreatGj
namespace Go.Proofs.YtmnglkcodbecbaaGreat
open Go Go.Sx
set_option linter.unusedVariables false
set_option linter.unusedSimpArgs false
set_option maxRecDepth 1000000
set_option maxHeartbeats 100000000
/-- outrigger/outriggerref20.value -/
noncomputable def f84 (a0 : Int) : Bool := !(f146 a0).snd
noncomputable def g84 (p : Bool) : SV := .bool (.sym p)
noncomputable def S84 : Summ
  | [.v (.int .i64 a0)] => some (g84 (f84 a0.val))
  | _ => none
theorem S84_ok : SummFn Go.Proofs.Tryz.prog 84 S84 := by
  have ev : ∀ (a0 : Int), (symCall ⟨Go.Proofs.Tryz.prog, [(146, S146)], 3, 215, true, [], [], []⟩ 30 84 [.int .i64 (.sym a0)] []).out = ((g84 (f84 a0)).toV) := by
    intro a0
    kernel_rfl
  intro fs r h w vs hv
  unfold S84 at h
  split at h
  · rename_i a0
    cases h
    exact sx_calls (envOkU' (S := [(146, S146)]) (HS := []) (US := []) (NS := []) (j := true) ⟨S146_ok, trivial⟩ trivial trivial trivial) 30 84 [.int .i64 (.sym a0.val)] vs (symifyL_rel _ _ (SArels_v (xs := [.int .i64 a0]) hv)) (by kernel_rfl) rfl (ev a0.val) w
  · cases h
/-- outrigger/outriggerref20.values -/
noncomputable def f39 (a0_0 : Int) (a0_1 : Int) (a0_2 : Int) : Bool := f84 a0_0 && f84 a0_1 && f84 a0_2
noncomputable def g39 (p : Bool) : SV := .bool (.sym p)
noncomputable def S39 : Summ
  | [.v (.agg [.int .i64 a0_0, .int .i64 a0_1, .int .i64 a0_2])] => some (g39 (f39 a0_0.val a0_1.val a0_2.val))
  | _ => none
theorem S39_ok : SummFn Go.Proofs.Tryz.prog 39 S39 := by
  have ev : ∀ (a0_0 : Int) (a0_1 : Int) (a0_2 : Int), (symCall ⟨Go.Proofs.Tryz.prog, [(84, S84), (146, S146)], 3, 215, true, [], [], []⟩ 30 39 [.agg [.int .i64 (.sym a0_0), .int .i64 (.sym a0_1), .int .i64 (.sym a0_2)]] []).out = ((g39 (f39 a0_0 a0_1 a0_2)).toV) := by
    intro a0_0 a0_1 a0_2
    kernel_rfl
  intro fs r h w vs hv
  unfold S39 at h
  split at h
  · rename_i a0_0 a0_1 a0_2
    cases h
    exact sx_calls (envOkU' (S := [(84, S84), (146, S146)]) (HS := []) (US := []) (NS := []) (j := true) ⟨S84_ok, S146_ok, trivial⟩ trivial trivial trivial) 30 39 [.agg [.int .i64 (.sym a0_0.val), .int .i64 (.sym a0_1.val), .int .i64 (.sym a0_2.val)]] vs (symifyL_rel _ _ (SArels_v (xs := [.agg [.int .i64 a0_0, .int .i64 a0_1, .int .i64 a0_2]]) hv)) (by kernel_rfl) rfl (ev a0_0.val a0_1.val a0_2.val) w
  · cases h
/-- outrigger/outriggerref20.Sane -/
noncomputable def f14 (a0_0 : Int) (a0_1 : Int) (a0_2 : Int) (a0_3 : Int) (a0_4 : Int) (a0_5 : Int) (a0_6 : Int) (a0_7 : Bool) : Bool := let x1 : Int := (f38 a0_0 a0_1 a0_2 a0_3).fst; f39 a0_4 a0_5 a0_6 && !(f38 a0_0 a0_1 a0_2 a0_3).snd && decide (x1 ≥ 4294967040) && decide (x1 ≤ 4294967552)
noncomputable def g14 (p : Bool) : SV := .bool (.sym p)
noncomputable def S14 : Summ
  | [.v (.agg [.int .i64 a0_0, .int .i64 a0_1, .int .i64 a0_2, .int .i64 a0_3, .int .i64 a0_4, .int .i64 a0_5, .int .i64 a0_6, .bool a0_7])] => some (g14 (f14 a0_0.val a0_1.val a0_2.val a0_3.val a0_4.val a0_5.val a0_6.val a0_7.val))
  | _ => none
theorem S14_ok : SummFn Go.Proofs.Tryz.prog 14 S14 := by
  have ev : ∀ (a0_0 : Int) (a0_1 : Int) (a0_2 : Int) (a0_3 : Int) (a0_4 : Int) (a0_5 : Int) (a0_6 : Int) (a0_7 : Bool), (symCall ⟨Go.Proofs.Tryz.prog, [(38, S38), (39, S39), (84, S84), (88, S88), (132, S132), (144, S144), (146, S146), (161, S161), (184, S184), (185, S185), (186, S186), (187, S187), (189, S189), (198, S198)], 3, 215, true, [], [], []⟩ 30 14 [.agg [.int .i64 (.sym a0_0), .int .i64 (.sym a0_1), .int .i64 (.sym a0_2), .int .i64 (.sym a0_3), .int .i64 (.sym a0_4), .int .i64 (.sym a0_5), .int .i64 (.sym a0_6), .bool (.sym a0_7)]] []).out = ((g14 (f14 a0_0 a0_1 a0_2 a0_3 a0_4 a0_5 a0_6 a0_7)).toV) := by
    intro a0_0 a0_1 a0_2 a0_3 a0_4 a0_5 a0_6 a0_7
    kernel_rfl
  intro fs r h w vs hv
  unfold S14 at h
  split at h
  · rename_i a0_0 a0_1 a0_2 a0_3 a0_4 a0_5 a0_6 a0_7
    cases h
    exact sx_calls (envOkU' (S := [(38, S38), (39, S39), (84, S84), (88, S88), (132, S132), (144, S144), (146, S146), (161, S161), (184, S184), (185, S185), (186, S186), (187, S187), (189, S189), (198, S198)]) (HS := []) (US := []) (NS := []) (j := true) ⟨S38_ok, S39_ok, S84_ok, S88_ok, S132_ok, S144_ok, S146_ok, S161_ok, S184_ok, S185_ok, S186_ok, S187_ok, S189_ok, S198_ok, trivial⟩ trivial trivial trivial) 30 14 [.agg [.int .i64 (.sym a0_0.val), .int .i64 (.sym a0_1.val), .int .i64 (.sym a0_2.val), .int .i64 (.sym a0_3.val), .int .i64 (.sym a0_4.val), .int .i64 (.sym a0_5.val), .int .i64 (.sym a0_6.val), .bool (.sym a0_7.val)]] vs (symifyL_rel _ _ (SArels_v (xs := [.agg [.int .i64 a0_0, .int .i64 a0_1, .int .i64 a0_2, .int .i64 a0_3, .int .i64 a0_4, .int .i64 a0_5, .int .i64 a0_6, .bool a0_7]]) hv)) (by kernel_rfl) rfl (ev a0_0.val a0_1.val a0_2.val a0_3.val a0_4.val a0_5.val a0_6.val a0_7.val) w
  · cases h
/-- outrigger/outriggerref20.Start -/
noncomputable def f16 : Int × Int × Int × Int × Int × Int × Int × Bool := let x1 : Int × Int × Int := f41.snd; let x2 : Int × Int := x1.snd; (f41.fst, x1.fst, x2.fst, x2.snd, 0, 0, 0, false)
noncomputable def g16 (p : Int × Int × Int × Int × Int × Int × Int × Bool) : SV := .agg [.int .i64 (.sym p.1), .int .i64 (.sym p.2.1), .int .i64 (.sym p.2.2.1), .int .i64 (.sym p.2.2.2.1), .int .i64 (.sym p.2.2.2.2.1), .int .i64 (.sym p.2.2.2.2.2.1), .int .i64 (.sym p.2.2.2.2.2.2.1), .bool (.sym p.2.2.2.2.2.2.2)]
noncomputable def S16 : Summ
  | [] => some (g16 (f16))
  | _ => none
theorem S16_ok : SummFn Go.Proofs.Tryz.prog 16 S16 := by
  have ev : (symCall ⟨Go.Proofs.Tryz.prog, [(41, S41)], 3, 215, true, [], [], []⟩ 30 16 [] []).out = ((g16 (f16)).toV) := by
    kernel_rfl
  intro fs r h w vs hv
  unfold S16 at h
  split at h
  · cases h
    exact sx_calls (envOkU' (S := [(41, S41)]) (HS := []) (US := []) (NS := []) (j := true) ⟨S41_ok, trivial⟩ trivial trivial trivial) 30 16 [] vs (symifyL_rel _ _ (SArels_v (xs := []) hv)) (by kernel_rfl) rfl (ev) w
  · cases h
/-- outrigger/outriggerref20.As -/
noncomputable def f47 (a0_0 : Int) (a0_1 : Int) (a0_2 : Int) (a0_3 : Int) (a0_4 : Int) (a0_5 : Int) (a0_6 : Int) (a0_7 : Bool) : Int × Int × Int × Int × Int × Int × Int × Bool := let x1 : Bool := !f14 a0_0 a0_1 a0_2 a0_3 a0_4 a0_5 a0_6 a0_7; let x2 : Int × Int × Int := f41.snd; let x3 : Int × Int := x2.snd; (bif x1 then f41.fst else a0_0, bif x1 then x2.fst else a0_1, bif x1 then x3.fst else a0_2, bif x1 then x3.snd else a0_3, bif x1 then 0 else a0_4, bif x1 then 0 else a0_5, bif x1 then 0 else a0_6, x1 || a0_7)
noncomputable def g47 (p : Int × Int × Int × Int × Int × Int × Int × Bool) : SV := .agg [.int .i64 (.sym p.1), .int .i64 (.sym p.2.1), .int .i64 (.sym p.2.2.1), .int .i64 (.sym p.2.2.2.1), .int .i64 (.sym p.2.2.2.2.1), .int .i64 (.sym p.2.2.2.2.2.1), .int .i64 (.sym p.2.2.2.2.2.2.1), .bool (.sym p.2.2.2.2.2.2.2)]
noncomputable def S47 : Summ
  | [.v (.agg [.int .i64 a0_0, .int .i64 a0_1, .int .i64 a0_2, .int .i64 a0_3, .int .i64 a0_4, .int .i64 a0_5, .int .i64 a0_6, .bool a0_7])] => some (g47 (f47 a0_0.val a0_1.val a0_2.val a0_3.val a0_4.val a0_5.val a0_6.val a0_7.val))
  | _ => none
theorem S47_ok : SummFn Go.Proofs.Tryz.prog 47 S47 := by
  have ev : ∀ (a0_0 : Int) (a0_1 : Int) (a0_2 : Int) (a0_3 : Int) (a0_4 : Int) (a0_5 : Int) (a0_6 : Int) (a0_7 : Bool), (symCall ⟨Go.Proofs.Tryz.prog, [(14, S14), (38, S38), (39, S39), (41, S41), (84, S84), (88, S88), (132, S132), (144, S144), (146, S146), (161, S161), (184, S184), (185, S185), (186, S186), (187, S187), (189, S189), (198, S198)], 3, 215, true, [], [], []⟩ 30 47 [.agg [.int .i64 (.sym a0_0), .int .i64 (.sym a0_1), .int .i64 (.sym a0_2), .int .i64 (.sym a0_3), .int .i64 (.sym a0_4), .int .i64 (.sym a0_5), .int .i64 (.sym a0_6), .bool (.sym a0_7)]] []).out = ((g47 (f47 a0_0 a0_1 a0_2 a0_3 a0_4 a0_5 a0_6 a0_7)).toV) := by
    intro a0_0 a0_1 a0_2 a0_3 a0_4 a0_5 a0_6 a0_7
    kernel_rfl
  intro fs r h w vs hv
  unfold S47 at h
  split at h
  · rename_i a0_0 a0_1 a0_2 a0_3 a0_4 a0_5 a0_6 a0_7
    cases h
    exact sx_calls (envOkU' (S := [(14, S14), (38, S38), (39, S39), (41, S41), (84, S84), (88, S88), (132, S132), (144, S144), (146, S146), (161, S161), (184, S184), (185, S185), (186, S186), (187, S187), (189, S189), (198, S198)]) (HS := []) (US := []) (NS := []) (j := true) ⟨S14_ok, S38_ok, S39_ok, S41_ok, S84_ok, S88_ok, S132_ok, S144_ok, S146_ok, S161_ok, S184_ok, S185_ok, S186_ok, S187_ok, S189_ok, S198_ok, trivial⟩ trivial trivial trivial) 30 47 [.agg [.int .i64 (.sym a0_0.val), .int .i64 (.sym a0_1.val), .int .i64 (.sym a0_2.val), .int .i64 (.sym a0_3.val), .int .i64 (.sym a0_4.val), .int .i64 (.sym a0_5.val), .int .i64 (.sym a0_6.val), .bool (.sym a0_7.val)]] vs (symifyL_rel _ _ (SArels_v (xs := [.agg [.int .i64 a0_0, .int .i64 a0_1, .int .i64 a0_2, .int .i64 a0_3, .int .i64 a0_4, .int .i64 a0_5, .int .i64 a0_6, .bool a0_7]]) hv)) (by kernel_rfl) rfl (ev a0_0.val a0_1.val a0_2.val a0_3.val a0_4.val a0_5.val a0_6.val a0_7.val) w
  · cases h
/-- outrigger/outriggerref20.Up -/
noncomputable def f18 (a0_0 : Int) (a0_1 : Int) (a0_2 : Int) (a0_3 : Int) (a0_4 : Int) (a0_5 : Int) (a0_6 : Int) (a0_7 : Bool) : Int × Int × Int := let x1 : Int × Int × Int × Int × Int × Int × Int × Bool := f47 a0_0 a0_1 a0_2 a0_3 a0_4 a0_5 a0_6 a0_7; let x2 : Int × Int × Int × Int × Int × Int × Bool := x1.snd; let x3 : Int × Int × Int × Int × Int × Bool := x2.snd; let x4 : Int × Int × Int × Int := f46 x1.fst x2.fst x3.fst x3.snd.fst; let x5 : Int × Int × Int := x4.snd; let x6 : Int × Int := x5.snd; let x7 : Int × Int × Int × Bool := f45 x4.fst x5.fst x6.fst x6.snd 0 0 4294967296; let x8 : Int × Int × Bool := x7.snd; (x7.fst, x8.fst, x8.snd.fst)
noncomputable def g18 (p : Int × Int × Int) : SV := .agg [.int .i64 (.sym p.1), .int .i64 (.sym p.2.1), .int .i64 (.sym p.2.2)]
noncomputable def S18 : Summ
  | [.v (.agg [.int .i64 a0_0, .int .i64 a0_1, .int .i64 a0_2, .int .i64 a0_3, .int .i64 a0_4, .int .i64 a0_5, .int .i64 a0_6, .bool a0_7])] => some (g18 (f18 a0_0.val a0_1.val a0_2.val a0_3.val a0_4.val a0_5.val a0_6.val a0_7.val))
  | _ => none
theorem S18_ok : SummFn Go.Proofs.Tryz.prog 18 S18 := by
  have ev : ∀ (a0_0 : Int) (a0_1 : Int) (a0_2 : Int) (a0_3 : Int) (a0_4 : Int) (a0_5 : Int) (a0_6 : Int) (a0_7 : Bool), (symCall ⟨Go.Proofs.Tryz.prog, [(14, S14), (38, S38), (39, S39), (41, S41), (45, S45), (46, S46), (47, S47), (84, S84), (87, S87), (88, S88), (89, S89), (132, S132), (144, S144), (146, S146), (154, S154), (156, S156), (160, S160), (161, S161), (184, S184), (185, S185), (186, S186), (187, S187), (189, S189), (196, S196), (197, S197), (198, S198)], 3, 215, true, [(152, H152), (138, H138), (140, H140), (107, H107), (155, H155)], [], []⟩ 30 18 [.agg [.int .i64 (.sym a0_0), .int .i64 (.sym a0_1), .int .i64 (.sym a0_2), .int .i64 (.sym a0_3), .int .i64 (.sym a0_4), .int .i64 (.sym a0_5), .int .i64 (.sym a0_6), .bool (.sym a0_7)]] []).out = ((g18 (f18 a0_0 a0_1 a0_2 a0_3 a0_4 a0_5 a0_6 a0_7)).toV) := by
    intro a0_0 a0_1 a0_2 a0_3 a0_4 a0_5 a0_6 a0_7
    kernel_rfl
  intro fs r h w vs hv
  unfold S18 at h
  split at h
  · rename_i a0_0 a0_1 a0_2 a0_3 a0_4 a0_5 a0_6 a0_7
    cases h
    exact sx_calls (envOkU' (S := [(14, S14), (38, S38), (39, S39), (41, S41), (45, S45), (46, S46), (47, S47), (84, S84), (87, S87), (88, S88), (89, S89), (132, S132), (144, S144), (146, S146), (154, S154), (156, S156), (160, S160), (161, S161), (184, S184), (185, S185), (186, S186), (187, S187), (189, S189), (196, S196), (197, S197), (198, S198)]) (HS := [(152, H152), (138, H138), (140, H140), (107, H107), (155, H155)]) (US := []) (NS := []) (j := true) ⟨S14_ok, S38_ok, S39_ok, S41_ok, S45_ok, S46_ok, S47_ok, S84_ok, S87_ok, S88_ok, S89_ok, S132_ok, S144_ok, S146_ok, S154_ok, S156_ok, S160_ok, S161_ok, S184_ok, S185_ok, S186_ok, S187_ok, S189_ok, S196_ok, S197_ok, S198_ok, trivial⟩ ⟨H152_ok, H138_ok, H140_ok, H107_ok, H155_ok, trivial⟩ trivial trivial) 30 18 [.agg [.int .i64 (.sym a0_0.val), .int .i64 (.sym a0_1.val), .int .i64 (.sym a0_2.val), .int .i64 (.sym a0_3.val), .int .i64 (.sym a0_4.val), .int .i64 (.sym a0_5.val), .int .i64 (.sym a0_6.val), .bool (.sym a0_7.val)]] vs (symifyL_rel _ _ (SArels_v (xs := [.agg [.int .i64 a0_0, .int .i64 a0_1, .int .i64 a0_2, .int .i64 a0_3, .int .i64 a0_4, .int .i64 a0_5, .int .i64 a0_6, .bool a0_7]]) hv)) (by kernel_rfl) rfl (ev a0_0.val a0_1.val a0_2.val a0_3.val a0_4.val a0_5.val a0_6.val a0_7.val) w
  · cases h
/-- outrigger/outriggerref01.Sub -/
noncomputable def f99 (a0 : Int) (a1 : Int) : Int × Bool := let x1 : Int × Bool := f146 (IntKind.i64.wrap ((f146 a0).fst - (f146 a1).fst)); (x1.fst, (f146 a0).snd || (f146 a1).snd || x1.snd)
noncomputable def g99 (p : Int × Bool) : SV := .tuple [.int .i64 (.sym p.1), .bool (.sym p.2)]
noncomputable def S99 : Summ
  | [.v (.int .i64 a0), .v (.int .i64 a1)] => some (g99 (f99 a0.val a1.val))
  | _ => none
theorem S99_ok : SummFn Go.Proofs.Tryz.prog 99 S99 := by
  have ev : ∀ (a0 : Int) (a1 : Int), (symCall ⟨Go.Proofs.Tryz.prog, [(146, S146)], 3, 215, true, [], [], []⟩ 30 99 [.int .i64 (.sym a0), .int .i64 (.sym a1)] []).out = ((g99 (f99 a0 a1)).toV) := by
    intro a0 a1
    kernel_rfl
  intro fs r h w vs hv
  unfold S99 at h
  split at h
  · rename_i a0 a1
    cases h
    exact sx_calls (envOkU' (S := [(146, S146)]) (HS := []) (US := []) (NS := []) (j := true) ⟨S146_ok, trivial⟩ trivial trivial trivial) 30 99 [.int .i64 (.sym a0.val), .int .i64 (.sym a1.val)] vs (symifyL_rel _ _ (SArels_v (xs := [.int .i64 a0, .int .i64 a1]) hv)) (by kernel_rfl) rfl (ev a0.val a1.val) w
  · cases h
/-- outrigger/outriggerref07.Sub -/
noncomputable def f53 (a0_0 : Int) (a0_1 : Int) (a0_2 : Int) (a1_0 : Int) (a1_1 : Int) (a1_2 : Int) : Int × Int × Int × Bool := ((f99 a0_0 a1_0).fst, (f99 a0_1 a1_1).fst, (f99 a0_2 a1_2).fst, (f99 a0_0 a1_0).snd || (f99 a0_1 a1_1).snd || (f99 a0_2 a1_2).snd)
noncomputable def g53 (p : Int × Int × Int × Bool) : SV := .tuple [.agg [.int .i64 (.sym p.1), .int .i64 (.sym p.2.1), .int .i64 (.sym p.2.2.1)], .bool (.sym p.2.2.2)]
noncomputable def S53 : Summ
  | [.v (.agg [.int .i64 a0_0, .int .i64 a0_1, .int .i64 a0_2]), .v (.agg [.int .i64 a1_0, .int .i64 a1_1, .int .i64 a1_2])] => some (g53 (f53 a0_0.val a0_1.val a0_2.val a1_0.val a1_1.val a1_2.val))
  | _ => none
theorem S53_ok : SummFn Go.Proofs.Tryz.prog 53 S53 := by
  have ev : ∀ (a0_0 : Int) (a0_1 : Int) (a0_2 : Int) (a1_0 : Int) (a1_1 : Int) (a1_2 : Int), (symCall ⟨Go.Proofs.Tryz.prog, [(99, S99), (146, S146)], 3, 215, true, [], [], []⟩ 30 53 [.agg [.int .i64 (.sym a0_0), .int .i64 (.sym a0_1), .int .i64 (.sym a0_2)], .agg [.int .i64 (.sym a1_0), .int .i64 (.sym a1_1), .int .i64 (.sym a1_2)]] []).out = ((g53 (f53 a0_0 a0_1 a0_2 a1_0 a1_1 a1_2)).toV) := by
    intro a0_0 a0_1 a0_2 a1_0 a1_1 a1_2
    kernel_rfl
  intro fs r h w vs hv
  unfold S53 at h
  split at h
  · rename_i a0_0 a0_1 a0_2 a1_0 a1_1 a1_2
    cases h
    exact sx_calls (envOkU' (S := [(99, S99), (146, S146)]) (HS := []) (US := []) (NS := []) (j := true) ⟨S99_ok, S146_ok, trivial⟩ trivial trivial trivial) 30 53 [.agg [.int .i64 (.sym a0_0.val), .int .i64 (.sym a0_1.val), .int .i64 (.sym a0_2.val)], .agg [.int .i64 (.sym a1_0.val), .int .i64 (.sym a1_1.val), .int .i64 (.sym a1_2.val)]] vs (symifyL_rel _ _ (SArels_v (xs := [.agg [.int .i64 a0_0, .int .i64 a0_1, .int .i64 a0_2], .agg [.int .i64 a1_0, .int .i64 a1_1, .int .i64 a1_2]]) hv)) (by kernel_rfl) rfl (ev a0_0.val a0_1.val a0_2.val a1_0.val a1_1.val a1_2.val) w
  · cases h
/-- outrigger/outriggerref07.Scale -/
noncomputable def f54 (a0_0 : Int) (a0_1 : Int) (a0_2 : Int) (a1 : Int) : Int × Int × Int × Bool := ((f100 a0_0 a1).fst, (f100 a0_1 a1).fst, (f100 a0_2 a1).fst, (f100 a0_0 a1).snd || (f100 a0_1 a1).snd || (f100 a0_2 a1).snd)
noncomputable def g54 (p : Int × Int × Int × Bool) : SV := .tuple [.agg [.int .i64 (.sym p.1), .int .i64 (.sym p.2.1), .int .i64 (.sym p.2.2.1)], .bool (.sym p.2.2.2)]
noncomputable def S54 : Summ
  | [.v (.agg [.int .i64 a0_0, .int .i64 a0_1, .int .i64 a0_2]), .v (.int .i64 a1)] => some (g54 (f54 a0_0.val a0_1.val a0_2.val a1.val))
  | _ => none
theorem S54_ok : SummFn Go.Proofs.Tryz.prog 54 S54 := by
  have ev : ∀ (a0_0 : Int) (a0_1 : Int) (a0_2 : Int) (a1 : Int), (symCall ⟨Go.Proofs.Tryz.prog, [(88, S88), (100, S100), (132, S132), (146, S146), (160, S160), (161, S161), (162, S162), (184, S184), (186, S186), (187, S187), (196, S196), (197, S197), (198, S198)], 3, 215, true, [], [], []⟩ 30 54 [.agg [.int .i64 (.sym a0_0), .int .i64 (.sym a0_1), .int .i64 (.sym a0_2)], .int .i64 (.sym a1)] []).out = ((g54 (f54 a0_0 a0_1 a0_2 a1)).toV) := by
    intro a0_0 a0_1 a0_2 a1
    kernel_rfl
  intro fs r h w vs hv
  unfold S54 at h
  split at h
  · rename_i a0_0 a0_1 a0_2 a1
    cases h
    exact sx_calls (envOkU' (S := [(88, S88), (100, S100), (132, S132), (146, S146), (160, S160), (161, S161), (162, S162), (184, S184), (186, S186), (187, S187), (196, S196), (197, S197), (198, S198)]) (HS := []) (US := []) (NS := []) (j := true) ⟨S88_ok, S100_ok, S132_ok, S146_ok, S160_ok, S161_ok, S162_ok, S184_ok, S186_ok, S187_ok, S196_ok, S197_ok, S198_ok, trivial⟩ trivial trivial trivial) 30 54 [.agg [.int .i64 (.sym a0_0.val), .int .i64 (.sym a0_1.val), .int .i64 (.sym a0_2.val)], .int .i64 (.sym a1.val)] vs (symifyL_rel _ _ (SArels_v (xs := [.agg [.int .i64 a0_0, .int .i64 a0_1, .int .i64 a0_2], .int .i64 a1]) hv)) (by kernel_rfl) rfl (ev a0_0.val a0_1.val a0_2.val a1.val) w
  · cases h
/-- outrigger/outriggerref20.by -/
noncomputable def f55 (a0_0 : Int) (a0_1 : Int) (a0_2 : Int) (a0_3 : Int) (a0_4 : Int) (a0_5 : Int) (a0_6 : Int) (a0_7 : Bool) (a1_0 : Int) (a1_1 : Int) (a1_2 : Int) : Int × Int × Int × Int × Int × Int × Int × Bool := let x1 : Int × Int × Int × Bool := (f101 a1_0 a1_1 a1_2).snd; let x2 : Int × Int × Bool := x1.snd; let x3 : Int × Bool := x2.snd; let x4 : Int × Int × Int × Int × Bool := f87 a0_0 a0_1 a0_2 a0_3 (f101 a1_0 a1_1 a1_2).fst x1.fst x2.fst x3.fst; let x5 : Int × Int × Int × Bool := x4.snd; let x6 : Int × Int × Bool := x5.snd; let x7 : Int × Bool := x6.snd; let x8 : Int × Int × Int × Int × Bool := f102 x4.fst x5.fst x6.fst x7.fst; let x9 : Int × Int × Int × Bool := x8.snd; let x10 : Int × Int × Bool := x9.snd; let x11 : Int × Bool := x10.snd; (x8.fst, x9.fst, x10.fst, x11.fst, a0_4, a0_5, a0_6, a0_7 || x3.snd || x7.snd || x11.snd)
noncomputable def g55 (p : Int × Int × Int × Int × Int × Int × Int × Bool) : SV := .agg [.int .i64 (.sym p.1), .int .i64 (.sym p.2.1), .int .i64 (.sym p.2.2.1), .int .i64 (.sym p.2.2.2.1), .int .i64 (.sym p.2.2.2.2.1), .int .i64 (.sym p.2.2.2.2.2.1), .int .i64 (.sym p.2.2.2.2.2.2.1), .bool (.sym p.2.2.2.2.2.2.2)]
noncomputable def S55 : Summ
  | [.v (.agg [.int .i64 a0_0, .int .i64 a0_1, .int .i64 a0_2, .int .i64 a0_3, .int .i64 a0_4, .int .i64 a0_5, .int .i64 a0_6, .bool a0_7]), .v (.agg [.int .i64 a1_0, .int .i64 a1_1, .int .i64 a1_2])] => some (g55 (f55 a0_0.val a0_1.val a0_2.val a0_3.val a0_4.val a0_5.val a0_6.val a0_7.val a1_0.val a1_1.val a1_2.val))
  | _ => none
theorem S55_ok : SummFn Go.Proofs.Tryz.prog 55 S55 := by
  have ev : ∀ (a0_0 : Int) (a0_1 : Int) (a0_2 : Int) (a0_3 : Int) (a0_4 : Int) (a0_5 : Int) (a0_6 : Int) (a0_7 : Bool) (a1_0 : Int) (a1_1 : Int) (a1_2 : Int), (symCall ⟨Go.Proofs.Tryz.prog, [(38, S38), (41, S41), (87, S87), (88, S88), (89, S89), (100, S100), (101, S101), (102, S102), (109, S109), (132, S132), (144, S144), (146, S146), (154, S154), (156, S156), (160, S160), (161, S161), (162, S162), (166, S166), (184, S184), (185, S185), (186, S186), (187, S187), (189, S189), (196, S196), (197, S197), (198, S198)], 3, 215, true, [(152, H152), (138, H138), (140, H140), (107, H107), (155, H155)], [], []⟩ 30 55 [.agg [.int .i64 (.sym a0_0), .int .i64 (.sym a0_1), .int .i64 (.sym a0_2), .int .i64 (.sym a0_3), .int .i64 (.sym a0_4), .int .i64 (.sym a0_5), .int .i64 (.sym a0_6), .bool (.sym a0_7)], .agg [.int .i64 (.sym a1_0), .int .i64 (.sym a1_1), .int .i64 (.sym a1_2)]] []).out = ((g55 (f55 a0_0 a0_1 a0_2 a0_3 a0_4 a0_5 a0_6 a0_7 a1_0 a1_1 a1_2)).toV) := by
    intro a0_0 a0_1 a0_2 a0_3 a0_4 a0_5 a0_6 a0_7 a1_0 a1_1 a1_2
    kernel_rfl
  intro fs r h w vs hv
  unfold S55 at h
  split at h
  · rename_i a0_0 a0_1 a0_2 a0_3 a0_4 a0_5 a0_6 a0_7 a1_0 a1_1 a1_2
    cases h
    exact sx_calls (envOkU' (S := [(38, S38), (41, S41), (87, S87), (88, S88), (89, S89), (100, S100), (101, S101), (102, S102), (109, S109), (132, S132), (144, S144), (146, S146), (154, S154), (156, S156), (160, S160), (161, S161), (162, S162), (166, S166), (184, S184), (185, S185), (186, S186), (187, S187), (189, S189), (196, S196), (197, S197), (198, S198)]) (HS := [(152, H152), (138, H138), (140, H140), (107, H107), (155, H155)]) (US := []) (NS := []) (j := true) ⟨S38_ok, S41_ok, S87_ok, S88_ok, S89_ok, S100_ok, S101_ok, S102_ok, S109_ok, S132_ok, S144_ok, S146_ok, S154_ok, S156_ok, S160_ok, S161_ok, S162_ok, S166_ok, S184_ok, S185_ok, S186_ok, S187_ok, S189_ok, S196_ok, S197_ok, S198_ok, trivial⟩ ⟨H152_ok, H138_ok, H140_ok, H107_ok, H155_ok, trivial⟩ trivial trivial) 30 55 [.agg [.int .i64 (.sym a0_0.val), .int .i64 (.sym a0_1.val), .int .i64 (.sym a0_2.val), .int .i64 (.sym a0_3.val), .int .i64 (.sym a0_4.val), .int .i64 (.sym a0_5.val), .int .i64 (.sym a0_6.val), .bool (.sym a0_7.val)], .agg [.int .i64 (.sym a1_0.val), .int .i64 (.sym a1_1.val), .int .i64 (.sym a1_2.val)]] vs (symifyL_rel _ _ (SArels_v (xs := [.agg [.int .i64 a0_0, .int .i64 a0_1, .int .i64 a0_2, .int .i64 a0_3, .int .i64 a0_4, .int .i64 a0_5, .int .i64 a0_6, .bool a0_7], .agg [.int .i64 a1_0, .int .i64 a1_1, .int .i64 a1_2]]) hv)) (by kernel_rfl) rfl (ev a0_0.val a0_1.val a0_2.val a0_3.val a0_4.val a0_5.val a0_6.val a0_7.val a1_0.val a1_1.val a1_2.val) w
  · cases h
/-- outrigger/outriggerref20.Move -/
noncomputable def f20 (a0_0 : Int) (a0_1 : Int) (a0_2 : Int) (a0_3 : Int) (a0_4 : Int) (a0_5 : Int) (a0_6 : Int) (a0_7 : Bool) (a1_0 : Int) (a1_1 : Int) (a1_2 : Int) (a2 : Int) : Int × Int × Int × Int × Int × Int × Int × Bool := let x1 : Bool := !f39 a1_0 a1_1 a1_2 || decide (a2 < 0) || decide (a2 > 68719476736); let x2 : Int × Int × Int × Int × Int × Int × Int × Bool := f47 a0_0 a0_1 a0_2 a0_3 a0_4 a0_5 a0_6 a0_7; let x3 : Int := x2.fst; let x4 : Int × Int × Int × Int × Int × Int × Bool := x2.snd; let x5 : Int := x4.fst; let x6 : Int × Int × Int × Int × Int × Bool := x4.snd; let x7 : Int := x6.fst; let x8 : Int × Int × Int × Int × Bool := x6.snd; let x9 : Int := x8.fst; let x10 : Int × Int × Int × Bool := x8.snd; let x11 : Int := x10.fst; let x12 : Int × Int × Bool := x10.snd; let x13 : Int := x12.fst; let x14 : Int × Bool := x12.snd; let x15 : Int := x14.fst; let x16 : Int × Int × Int × Bool := f53 a1_0 a1_1 a1_2 x11 x13 x15; let x17 : Int × Int × Bool := x16.snd; let x18 : Int × Bool := x17.snd; let x19 : Int × Int × Int × Bool := f54 x16.fst x17.fst x18.fst a2; let x20 : Int × Int × Bool := x19.snd; let x21 : Int × Bool := x20.snd; let x22 : Int × Int × Int × Int × Int × Int × Int × Bool := f55 x3 x5 x7 x9 x11 x13 x15 (x14.snd || x18.snd || x21.snd) x19.fst x20.fst x21.fst; let x23 : Int × Int × Int × Int × Int × Int × Bool := x22.snd; let x24 : Int × Int × Int × Int × Int × Bool := x23.snd; let x25 : Int × Int × Int × Int × Bool := x24.snd; let x26 : Int × Int × Int × Bool := x25.snd; let x27 : Int × Int × Bool := x26.snd; let x28 : Int × Bool := x27.snd; (bif x1 then x3 else x22.fst, bif x1 then x5 else x23.fst, bif x1 then x7 else x24.fst, bif x1 then x9 else x25.fst, bif x1 then x11 else x26.fst, bif x1 then x13 else x27.fst, bif x1 then x15 else x28.fst, x1 || x28.snd)
noncomputable def g20 (p : Int × Int × Int × Int × Int × Int × Int × Bool) : SV := .agg [.int .i64 (.sym p.1), .int .i64 (.sym p.2.1), .int .i64 (.sym p.2.2.1), .int .i64 (.sym p.2.2.2.1), .int .i64 (.sym p.2.2.2.2.1), .int .i64 (.sym p.2.2.2.2.2.1), .int .i64 (.sym p.2.2.2.2.2.2.1), .bool (.sym p.2.2.2.2.2.2.2)]
noncomputable def S20 : Summ
  | [.v (.agg [.int .i64 a0_0, .int .i64 a0_1, .int .i64 a0_2, .int .i64 a0_3, .int .i64 a0_4, .int .i64 a0_5, .int .i64 a0_6, .bool a0_7]), .v (.agg [.int .i64 a1_0, .int .i64 a1_1, .int .i64 a1_2]), .v (.int .i64 a2)] => some (g20 (f20 a0_0.val a0_1.val a0_2.val a0_3.val a0_4.val a0_5.val a0_6.val a0_7.val a1_0.val a1_1.val a1_2.val a2.val))
  | _ => none
theorem S20_ok : SummFn Go.Proofs.Tryz.prog 20 S20 := by
  have ev : ∀ (a0_0 : Int) (a0_1 : Int) (a0_2 : Int) (a0_3 : Int) (a0_4 : Int) (a0_5 : Int) (a0_6 : Int) (a0_7 : Bool) (a1_0 : Int) (a1_1 : Int) (a1_2 : Int) (a2 : Int), (symCall ⟨Go.Proofs.Tryz.prog, [(14, S14), (38, S38), (39, S39), (41, S41), (47, S47), (53, S53), (54, S54), (55, S55), (84, S84), (87, S87), (88, S88), (89, S89), (99, S99), (100, S100), (101, S101), (102, S102), (109, S109), (132, S132), (144, S144), (146, S146), (154, S154), (156, S156), (160, S160), (161, S161), (162, S162), (166, S166), (184, S184), (185, S185), (186, S186), (187, S187), (189, S189), (196, S196), (197, S197), (198, S198)], 3, 215, true, [(152, H152), (138, H138), (140, H140), (107, H107), (155, H155)], [], []⟩ 30 20 [.agg [.int .i64 (.sym a0_0), .int .i64 (.sym a0_1), .int .i64 (.sym a0_2), .int .i64 (.sym a0_3), .int .i64 (.sym a0_4), .int .i64 (.sym a0_5), .int .i64 (.sym a0_6), .bool (.sym a0_7)], .agg [.int .i64 (.sym a1_0), .int .i64 (.sym a1_1), .int .i64 (.sym a1_2)], .int .i64 (.sym a2)] []).out = ((g20 (f20 a0_0 a0_1 a0_2 a0_3 a0_4 a0_5 a0_6 a0_7 a1_0 a1_1 a1_2 a2)).toV) := by
    intro a0_0 a0_1 a0_2 a0_3 a0_4 a0_5 a0_6 a0_7 a1_0 a1_1 a1_2 a2
    kernel_rfl
  intro fs r h w vs hv
  unfold S20 at h
  split at h
  · rename_i a0_0 a0_1 a0_2 a0_3 a0_4 a0_5 a0_6 a0_7 a1_0 a1_1 a1_2 a2
    cases h
    exact sx_calls (envOkU' (S := [(14, S14), (38, S38), (39, S39), (41, S41), (47, S47), (53, S53), (54, S54), (55, S55), (84, S84), (87, S87), (88, S88), (89, S89), (99, S99), (100, S100), (101, S101), (102, S102), (109, S109), (132, S132), (144, S144), (146, S146), (154, S154), (156, S156), (160, S160), (161, S161), (162, S162), (166, S166), (184, S184), (185, S185), (186, S186), (187, S187), (189, S189), (196, S196), (197, S197), (198, S198)]) (HS := [(152, H152), (138, H138), (140, H140), (107, H107), (155, H155)]) (US := []) (NS := []) (j := true) ⟨S14_ok, S38_ok, S39_ok, S41_ok, S47_ok, S53_ok, S54_ok, S55_ok, S84_ok, S87_ok, S88_ok, S89_ok, S99_ok, S100_ok, S101_ok, S102_ok, S109_ok, S132_ok, S144_ok, S146_ok, S154_ok, S156_ok, S160_ok, S161_ok, S162_ok, S166_ok, S184_ok, S185_ok, S186_ok, S187_ok, S189_ok, S196_ok, S197_ok, S198_ok, trivial⟩ ⟨H152_ok, H138_ok, H140_ok, H107_ok, H155_ok, trivial⟩ trivial trivial) 30 20 [.agg [.int .i64 (.sym a0_0.val), .int .i64 (.sym a0_1.val), .int .i64 (.sym a0_2.val), .int .i64 (.sym a0_3.val), .int .i64 (.sym a0_4.val), .int .i64 (.sym a0_5.val), .int .i64 (.sym a0_6.val), .bool (.sym a0_7.val)], .agg [.int .i64 (.sym a1_0.val), .int .i64 (.sym a1_1.val), .int .i64 (.sym a1_2.val)], .int .i64 (.sym a2.val)] vs (symifyL_rel _ _ (SArels_v (xs := [.agg [.int .i64 a0_0, .int .i64 a0_1, .int .i64 a0_2, .int .i64 a0_3, .int .i64 a0_4, .int .i64 a0_5, .int .i64 a0_6, .bool a0_7], .agg [.int .i64 a1_0, .int .i64 a1_1, .int .i64 a1_2], .int .i64 a2]) hv)) (by kernel_rfl) rfl (ev a0_0.val a0_1.val a0_2.val a0_3.val a0_4.val a0_5.val a0_6.val a0_7.val a1_0.val a1_1.val a1_2.val a2.val) w
  · cases h
/-- outrigger/outriggerref07.Len -/
noncomputable def f108 (a0_0 : Int) (a0_1 : Int) (a0_2 : Int) : Int × Bool := let x1 : Int × Int := f161 (f146 a0_0).fst (f146 a0_0).fst; let x2 : Int × Int × Bool := f187 0 0 x1.fst x1.snd; let x3 : Int × Int := f161 (f146 a0_1).fst (f146 a0_1).fst; let x4 : Int × Int × Bool := f187 x2.fst x2.snd.fst x3.fst x3.snd; let x5 : Int × Int := f161 (f146 a0_2).fst (f146 a0_2).fst; let x6 : Int × Int × Bool := f187 x4.fst x4.snd.fst x5.fst x5.snd; let x7 : Int × Bool := f144 x6.fst x6.snd.fst; (x7.fst, (f146 a0_0).snd || (f146 a0_1).snd || (f146 a0_2).snd || x7.snd)
noncomputable def g108 (p : Int × Bool) : SV := .tuple [.int .i64 (.sym p.1), .bool (.sym p.2)]
noncomputable def S108 : Summ
  | [.v (.agg [.int .i64 a0_0, .int .i64 a0_1, .int .i64 a0_2])] => some (g108 (f108 a0_0.val a0_1.val a0_2.val))
  | _ => none
theorem S108_ok : SummFn Go.Proofs.Tryz.prog 108 S108 := by
  have ev : ∀ (a0_0 : Int) (a0_1 : Int) (a0_2 : Int), (symCall ⟨Go.Proofs.Tryz.prog, [(88, S88), (132, S132), (144, S144), (146, S146), (161, S161), (184, S184), (185, S185), (186, S186), (187, S187), (189, S189), (198, S198)], 3, 215, true, [], [], []⟩ 30 108 [.agg [.int .i64 (.sym a0_0), .int .i64 (.sym a0_1), .int .i64 (.sym a0_2)]] []).out = ((g108 (f108 a0_0 a0_1 a0_2)).toV) := by
    intro a0_0 a0_1 a0_2
    kernel_rfl
  intro fs r h w vs hv
  unfold S108 at h
  split at h
  · rename_i a0_0 a0_1 a0_2
    cases h
    exact sx_calls (envOkU' (S := [(88, S88), (132, S132), (144, S144), (146, S146), (161, S161), (184, S184), (185, S185), (186, S186), (187, S187), (189, S189), (198, S198)]) (HS := []) (US := []) (NS := []) (j := true) ⟨S88_ok, S132_ok, S144_ok, S146_ok, S161_ok, S184_ok, S185_ok, S186_ok, S187_ok, S189_ok, S198_ok, trivial⟩ trivial trivial trivial) 30 108 [.agg [.int .i64 (.sym a0_0.val), .int .i64 (.sym a0_1.val), .int .i64 (.sym a0_2.val)]] vs (symifyL_rel _ _ (SArels_v (xs := [.agg [.int .i64 a0_0, .int .i64 a0_1, .int .i64 a0_2]]) hv)) (by kernel_rfl) rfl (ev a0_0.val a0_1.val a0_2.val) w
  · cases h
/-- outrigger/outriggerref07.Unit -/
noncomputable def f58 (a0_0 : Int) (a0_1 : Int) (a0_2 : Int) : Int × Int × Int × Bool := let x1 : Bool := (f108 a0_0 a0_1 a0_2).fst == 0; let x2 : Int × Bool := f109 a0_0 (f108 a0_0 a0_1 a0_2).fst; let x3 : Int × Bool := f109 a0_1 (f108 a0_0 a0_1 a0_2).fst; let x4 : Int × Bool := f109 a0_2 (f108 a0_0 a0_1 a0_2).fst; (bif x1 then 0 else x2.fst, bif x1 then 0 else x3.fst, bif x1 then 0 else x4.fst, x1 || ((f108 a0_0 a0_1 a0_2).snd || x2.snd || x3.snd || x4.snd))
noncomputable def g58 (p : Int × Int × Int × Bool) : SV := .tuple [.agg [.int .i64 (.sym p.1), .int .i64 (.sym p.2.1), .int .i64 (.sym p.2.2.1)], .bool (.sym p.2.2.2)]
noncomputable def S58 : Summ
  | [.v (.agg [.int .i64 a0_0, .int .i64 a0_1, .int .i64 a0_2])] => some (g58 (f58 a0_0.val a0_1.val a0_2.val))
  | _ => none
theorem S58_ok : SummFn Go.Proofs.Tryz.prog 58 S58 := by
  have ev : ∀ (a0_0 : Int) (a0_1 : Int) (a0_2 : Int), (symCall ⟨Go.Proofs.Tryz.prog, [(88, S88), (108, S108), (109, S109), (132, S132), (144, S144), (146, S146), (161, S161), (162, S162), (166, S166), (184, S184), (185, S185), (186, S186), (187, S187), (189, S189), (198, S198)], 3, 215, true, [], [], []⟩ 30 58 [.agg [.int .i64 (.sym a0_0), .int .i64 (.sym a0_1), .int .i64 (.sym a0_2)]] []).out = ((g58 (f58 a0_0 a0_1 a0_2)).toV) := by
    intro a0_0 a0_1 a0_2
    kernel_rfl
  intro fs r h w vs hv
  unfold S58 at h
  split at h
  · rename_i a0_0 a0_1 a0_2
    cases h
    exact sx_calls (envOkU' (S := [(88, S88), (108, S108), (109, S109), (132, S132), (144, S144), (146, S146), (161, S161), (162, S162), (166, S166), (184, S184), (185, S185), (186, S186), (187, S187), (189, S189), (198, S198)]) (HS := []) (US := []) (NS := []) (j := true) ⟨S88_ok, S108_ok, S109_ok, S132_ok, S144_ok, S146_ok, S161_ok, S162_ok, S166_ok, S184_ok, S185_ok, S186_ok, S187_ok, S189_ok, S198_ok, trivial⟩ trivial trivial trivial) 30 58 [.agg [.int .i64 (.sym a0_0.val), .int .i64 (.sym a0_1.val), .int .i64 (.sym a0_2.val)]] vs (symifyL_rel _ _ (SArels_v (xs := [.agg [.int .i64 a0_0, .int .i64 a0_1, .int .i64 a0_2]]) hv)) (by kernel_rfl) rfl (ev a0_0.val a0_1.val a0_2.val) w
  · cases h
/-- outrigger/outriggerref07.part -/
noncomputable def f110 (a0 : Int) (a1 : Int) (a2 : Int) (a3 : Int) : Int × Bool := let x1 : Int × Int := f161 (f146 a0).fst (f146 a2).fst; let x2 : Int × Int × Bool := f187 0 0 x1.fst x1.snd; let x3 : Int × Int := f161 (f146 a1).fst (f146 (f156 a3)).fst; let x4 : Int × Int × Bool := f187 x2.fst x2.snd.fst x3.fst x3.snd; let x5 : Int × Bool := f160 x4.fst x4.snd.fst; (x5.fst, (f146 a3).snd || ((f146 a0).snd || (f146 a1).snd || ((f146 a2).snd || (f146 (f156 a3)).snd) || x5.snd))
noncomputable def g110 (p : Int × Bool) : SV := .tuple [.int .i64 (.sym p.1), .bool (.sym p.2)]
noncomputable def S110 : Summ
  | [.v (.int .i64 a0), .v (.int .i64 a1), .v (.int .i64 a2), .v (.int .i64 a3)] => some (g110 (f110 a0.val a1.val a2.val a3.val))
  | _ => none
theorem S110_ok : SummFn Go.Proofs.Tryz.prog 110 S110 := by
  have ev : ∀ (a0 : Int) (a1 : Int) (a2 : Int) (a3 : Int), (symCall ⟨Go.Proofs.Tryz.prog, [(88, S88), (132, S132), (146, S146), (156, S156), (160, S160), (161, S161), (184, S184), (186, S186), (187, S187), (196, S196), (197, S197), (198, S198)], 3, 215, true, [(152, H152), (138, H138), (140, H140), (107, H107), (155, H155)], [], []⟩ 30 110 [.int .i64 (.sym a0), .int .i64 (.sym a1), .int .i64 (.sym a2), .int .i64 (.sym a3)] []).out = ((g110 (f110 a0 a1 a2 a3)).toV) := by
    intro a0 a1 a2 a3
    kernel_rfl
  intro fs r h w vs hv
  unfold S110 at h
  split at h
  · rename_i a0 a1 a2 a3
    cases h
    exact sx_calls (envOkU' (S := [(88, S88), (132, S132), (146, S146), (156, S156), (160, S160), (161, S161), (184, S184), (186, S186), (187, S187), (196, S196), (197, S197), (198, S198)]) (HS := [(152, H152), (138, H138), (140, H140), (107, H107), (155, H155)]) (US := []) (NS := []) (j := true) ⟨S88_ok, S132_ok, S146_ok, S156_ok, S160_ok, S161_ok, S184_ok, S186_ok, S187_ok, S196_ok, S197_ok, S198_ok, trivial⟩ ⟨H152_ok, H138_ok, H140_ok, H107_ok, H155_ok, trivial⟩ trivial trivial) 30 110 [.int .i64 (.sym a0.val), .int .i64 (.sym a1.val), .int .i64 (.sym a2.val), .int .i64 (.sym a3.val)] vs (symifyL_rel _ _ (SArels_v (xs := [.int .i64 a0, .int .i64 a1, .int .i64 a2, .int .i64 a3]) hv)) (by kernel_rfl) rfl (ev a0.val a1.val a2.val a3.val) w
  · cases h
/-- outrigger/outriggerref07.Cross -/
noncomputable def f59 (a0_0 : Int) (a0_1 : Int) (a0_2 : Int) (a1_0 : Int) (a1_1 : Int) (a1_2 : Int) : Int × Int × Int × Bool := ((f110 a0_1 a0_2 a1_2 a1_1).fst, (f110 a0_2 a0_0 a1_0 a1_2).fst, (f110 a0_0 a0_1 a1_1 a1_0).fst, (f110 a0_1 a0_2 a1_2 a1_1).snd || (f110 a0_2 a0_0 a1_0 a1_2).snd || (f110 a0_0 a0_1 a1_1 a1_0).snd)
noncomputable def g59 (p : Int × Int × Int × Bool) : SV := .tuple [.agg [.int .i64 (.sym p.1), .int .i64 (.sym p.2.1), .int .i64 (.sym p.2.2.1)], .bool (.sym p.2.2.2)]
noncomputable def S59 : Summ
  | [.v (.agg [.int .i64 a0_0, .int .i64 a0_1, .int .i64 a0_2]), .v (.agg [.int .i64 a1_0, .int .i64 a1_1, .int .i64 a1_2])] => some (g59 (f59 a0_0.val a0_1.val a0_2.val a1_0.val a1_1.val a1_2.val))
  | _ => none
theorem S59_ok : SummFn Go.Proofs.Tryz.prog 59 S59 := by
  have ev : ∀ (a0_0 : Int) (a0_1 : Int) (a0_2 : Int) (a1_0 : Int) (a1_1 : Int) (a1_2 : Int), (symCall ⟨Go.Proofs.Tryz.prog, [(88, S88), (110, S110), (132, S132), (146, S146), (156, S156), (160, S160), (161, S161), (184, S184), (186, S186), (187, S187), (196, S196), (197, S197), (198, S198)], 3, 215, true, [(152, H152), (138, H138), (140, H140), (107, H107), (155, H155)], [], []⟩ 30 59 [.agg [.int .i64 (.sym a0_0), .int .i64 (.sym a0_1), .int .i64 (.sym a0_2)], .agg [.int .i64 (.sym a1_0), .int .i64 (.sym a1_1), .int .i64 (.sym a1_2)]] []).out = ((g59 (f59 a0_0 a0_1 a0_2 a1_0 a1_1 a1_2)).toV) := by
    intro a0_0 a0_1 a0_2 a1_0 a1_1 a1_2
    kernel_rfl
  intro fs r h w vs hv
  unfold S59 at h
  split at h
  · rename_i a0_0 a0_1 a0_2 a1_0 a1_1 a1_2
    cases h
    exact sx_calls (envOkU' (S := [(88, S88), (110, S110), (132, S132), (146, S146), (156, S156), (160, S160), (161, S161), (184, S184), (186, S186), (187, S187), (196, S196), (197, S197), (198, S198)]) (HS := [(152, H152), (138, H138), (140, H140), (107, H107), (155, H155)]) (US := []) (NS := []) (j := true) ⟨S88_ok, S110_ok, S132_ok, S146_ok, S156_ok, S160_ok, S161_ok, S184_ok, S186_ok, S187_ok, S196_ok, S197_ok, S198_ok, trivial⟩ ⟨H152_ok, H138_ok, H140_ok, H107_ok, H155_ok, trivial⟩ trivial trivial) 30 59 [.agg [.int .i64 (.sym a0_0.val), .int .i64 (.sym a0_1.val), .int .i64 (.sym a0_2.val)], .agg [.int .i64 (.sym a1_0.val), .int .i64 (.sym a1_1.val), .int .i64 (.sym a1_2.val)]] vs (symifyL_rel _ _ (SArels_v (xs := [.agg [.int .i64 a0_0, .int .i64 a0_1, .int .i64 a0_2], .agg [.int .i64 a1_0, .int .i64 a1_1, .int .i64 a1_2]]) hv)) (by kernel_rfl) rfl (ev a0_0.val a0_1.val a0_2.val a1_0.val a1_1.val a1_2.val) w
  · cases h
/-- outrigger/outriggerref20.Level -/
noncomputable def f22 (a0_0 : Int) (a0_1 : Int) (a0_2 : Int) (a0_3 : Int) (a0_4 : Int) (a0_5 : Int) (a0_6 : Int) (a0_7 : Bool) (a1_0 : Int) (a1_1 : Int) (a1_2 : Int) (a2 : Int) : Int × Int × Int × Int × Int × Int × Int × Bool := let x1 : Bool := !f39 a1_0 a1_1 a1_2 || decide (a2 < 0) || decide (a2 > 4294967296); let x2 : Int × Int × Int × Int × Int × Int × Int × Bool := f47 a0_0 a0_1 a0_2 a0_3 a0_4 a0_5 a0_6 a0_7; let x3 : Int := x2.fst; let x4 : Int × Int × Bool := (f58 a1_0 a1_1 a1_2).snd; let x5 : Int × Bool := x4.snd; let x6 : Bool := x5.snd; let x7 : Int × Int × Int × Int × Int × Int × Bool := x2.snd; let x8 : Int := x7.fst; let x9 : Int × Int × Int × Int × Int × Bool := x7.snd; let x10 : Int := x9.fst; let x11 : Int × Int × Int × Int × Bool := x9.snd; let x12 : Int := x11.fst; let x13 : Int × Int × Int × Bool := x11.snd; let x14 : Int := x13.fst; let x15 : Int × Int × Bool := x13.snd; let x16 : Int := x15.fst; let x17 : Int × Bool := x15.snd; let x18 : Int := x17.fst; let x19 : Bool := x17.snd; let x20 : Int × Int × Int := f18 x3 x8 x10 x12 x14 x16 x18 x19; let x21 : Int × Int := x20.snd; let x22 : Int × Int × Int × Bool := f59 (f58 a1_0 a1_1 a1_2).fst x4.fst x5.fst x20.fst x21.fst x21.snd; let x23 : Int × Int × Bool := x22.snd; let x24 : Int × Bool := x23.snd; let x25 : Int × Int × Int × Bool := f54 x22.fst x23.fst x24.fst a2; let x26 : Int := x25.fst; let x27 : Int × Int × Bool := x25.snd; let x28 : Int := x27.fst; let x29 : Int × Bool := x27.snd; let x30 : Int := x29.fst; let x31 : Int × Int × Int × Int × Int × Int × Int × Bool := f55 x3 x8 x10 x12 x14 x16 x18 x19 x26 x28 x30; let x32 : Int × Int × Int × Int × Int × Int × Bool := x31.snd; let x33 : Int × Int × Int × Int × Int × Bool := x32.snd; let x34 : Int × Int × Int × Int × Bool := x33.snd; let x35 : Int × Int × Int × Bool := f54 x26 x28 x30 268435456; let x36 : Int × Int × Bool := x35.snd; let x37 : Int × Bool := x36.snd; let x38 : Int × Int × Int × Bool := f53 x14 x16 x18 x35.fst x36.fst x37.fst; let x39 : Int × Int × Bool := x38.snd; let x40 : Int × Bool := x39.snd; (bif x1 then x3 else bif x6 then x3 else x31.fst, bif x1 then x8 else bif x6 then x8 else x32.fst, bif x1 then x10 else bif x6 then x10 else x33.fst, bif x1 then x12 else bif x6 then x12 else x34.fst, bif x1 then x14 else bif x6 then x14 else x38.fst, bif x1 then x16 else bif x6 then x16 else x39.fst, bif x1 then x18 else bif x6 then x18 else x40.fst, x1 || bif x6 then x19 else x34.snd.snd.snd.snd || x24.snd || x29.snd || x37.snd || x40.snd)
noncomputable def g22 (p : Int × Int × Int × Int × Int × Int × Int × Bool) : SV := .agg [.int .i64 (.sym p.1), .int .i64 (.sym p.2.1), .int .i64 (.sym p.2.2.1), .int .i64 (.sym p.2.2.2.1), .int .i64 (.sym p.2.2.2.2.1), .int .i64 (.sym p.2.2.2.2.2.1), .int .i64 (.sym p.2.2.2.2.2.2.1), .bool (.sym p.2.2.2.2.2.2.2)]
noncomputable def S22 : Summ
  | [.v (.agg [.int .i64 a0_0, .int .i64 a0_1, .int .i64 a0_2, .int .i64 a0_3, .int .i64 a0_4, .int .i64 a0_5, .int .i64 a0_6, .bool a0_7]), .v (.agg [.int .i64 a1_0, .int .i64 a1_1, .int .i64 a1_2]), .v (.int .i64 a2)] => some (g22 (f22 a0_0.val a0_1.val a0_2.val a0_3.val a0_4.val a0_5.val a0_6.val a0_7.val a1_0.val a1_1.val a1_2.val a2.val))
  | _ => none
theorem S22_ok : SummFn Go.Proofs.Tryz.prog 22 S22 := by
  have ev : ∀ (a0_0 : Int) (a0_1 : Int) (a0_2 : Int) (a0_3 : Int) (a0_4 : Int) (a0_5 : Int) (a0_6 : Int) (a0_7 : Bool) (a1_0 : Int) (a1_1 : Int) (a1_2 : Int) (a2 : Int), (symCall ⟨Go.Proofs.Tryz.prog, [(14, S14), (18, S18), (38, S38), (39, S39), (41, S41), (45, S45), (46, S46), (47, S47), (53, S53), (54, S54), (55, S55), (58, S58), (59, S59), (84, S84), (87, S87), (88, S88), (89, S89), (99, S99), (100, S100), (101, S101), (102, S102), (108, S108), (109, S109), (110, S110), (132, S132), (144, S144), (146, S146), (154, S154), (156, S156), (160, S160), (161, S161), (162, S162), (166, S166), (184, S184), (185, S185), (186, S186), (187, S187), (189, S189), (196, S196), (197, S197), (198, S198)], 3, 215, true, [(152, H152), (138, H138), (140, H140), (107, H107), (155, H155)], [], []⟩ 30 22 [.agg [.int .i64 (.sym a0_0), .int .i64 (.sym a0_1), .int .i64 (.sym a0_2), .int .i64 (.sym a0_3), .int .i64 (.sym a0_4), .int .i64 (.sym a0_5), .int .i64 (.sym a0_6), .bool (.sym a0_7)], .agg [.int .i64 (.sym a1_0), .int .i64 (.sym a1_1), .int .i64 (.sym a1_2)], .int .i64 (.sym a2)] []).out = ((g22 (f22 a0_0 a0_1 a0_2 a0_3 a0_4 a0_5 a0_6 a0_7 a1_0 a1_1 a1_2 a2)).toV) := by
    intro a0_0 a0_1 a0_2 a0_3 a0_4 a0_5 a0_6 a0_7 a1_0 a1_1 a1_2 a2
    kernel_rfl
  intro fs r h w vs hv
  unfold S22 at h
  split at h
  · rename_i a0_0 a0_1 a0_2 a0_3 a0_4 a0_5 a0_6 a0_7 a1_0 a1_1 a1_2 a2
    cases h
    exact sx_calls (envOkU' (S := [(14, S14), (18, S18), (38, S38), (39, S39), (41, S41), (45, S45), (46, S46), (47, S47), (53, S53), (54, S54), (55, S55), (58, S58), (59, S59), (84, S84), (87, S87), (88, S88), (89, S89), (99, S99), (100, S100), (101, S101), (102, S102), (108, S108), (109, S109), (110, S110), (132, S132), (144, S144), (146, S146), (154, S154), (156, S156), (160, S160), (161, S161), (162, S162), (166, S166), (184, S184), (185, S185), (186, S186), (187, S187), (189, S189), (196, S196), (197, S197), (198, S198)]) (HS := [(152, H152), (138, H138), (140, H140), (107, H107), (155, H155)]) (US := []) (NS := []) (j := true) ⟨S14_ok, S18_ok, S38_ok, S39_ok, S41_ok, S45_ok, S46_ok, S47_ok, S53_ok, S54_ok, S55_ok, S58_ok, S59_ok, S84_ok, S87_ok, S88_ok, S89_ok, S99_ok, S100_ok, S101_ok, S102_ok, S108_ok, S109_ok, S110_ok, S132_ok, S144_ok, S146_ok, S154_ok, S156_ok, S160_ok, S161_ok, S162_ok, S166_ok, S184_ok, S185_ok, S186_ok, S187_ok, S189_ok, S196_ok, S197_ok, S198_ok, trivial⟩ ⟨H152_ok, H138_ok, H140_ok, H107_ok, H155_ok, trivial⟩ trivial trivial) 30 22 [.agg [.int .i64 (.sym a0_0.val), .int .i64 (.sym a0_1.val), .int .i64 (.sym a0_2.val), .int .i64 (.sym a0_3.val), .int .i64 (.sym a0_4.val), .int .i64 (.sym a0_5.val), .int .i64 (.sym a0_6.val), .bool (.sym a0_7.val)], .agg [.int .i64 (.sym a1_0.val), .int .i64 (.sym a1_1.val), .int .i64 (.sym a1_2.val)], .int .i64 (.sym a2.val)] vs (symifyL_rel _ _ (SArels_v (xs := [.agg [.int .i64 a0_0, .int .i64 a0_1, .int .i64 a0_2, .int .i64 a0_3, .int .i64 a0_4, .int .i64 a0_5, .int .i64 a0_6, .bool a0_7], .agg [.int .i64 a1_0, .int .i64 a1_1, .int .i64 a1_2], .int .i64 a2]) hv)) (by kernel_rfl) rfl (ev a0_0.val a0_1.val a0_2.val a0_3.val a0_4.val a0_5.val a0_6.val a0_7.val a1_0.val a1_1.val a1_2.val a2.val) w
  · cases h
/-- outrigger/axis.value -/
noncomputable def f114 (a0 : Int) : Bool := !(f82 a0).snd
noncomputable def g114 (p : Bool) : SV := .bool (.sym p)
noncomputable def S114 : Summ
  | [.v (.int .i64 a0)] => some (g114 (f114 a0.val))
  | _ => none
theorem S114_ok : SummFn Go.Proofs.Tryz.prog 114 S114 := by
  have ev : ∀ (a0 : Int), (symCall ⟨Go.Proofs.Tryz.prog, [(82, S82), (142, S142)], 3, 215, true, [], [], []⟩ 30 114 [.int .i64 (.sym a0)] []).out = ((g114 (f114 a0)).toV) := by
    intro a0
    kernel_rfl
  intro fs r h w vs hv
  unfold S114 at h
  split at h
  · rename_i a0
    cases h
    exact sx_calls (envOkU' (S := [(82, S82), (142, S142)]) (HS := []) (US := []) (NS := []) (j := true) ⟨S82_ok, S142_ok, trivial⟩ trivial trivial trivial) 30 114 [.int .i64 (.sym a0.val)] vs (symifyL_rel _ _ (SArels_v (xs := [.int .i64 a0]) hv)) (by kernel_rfl) rfl (ev a0.val) w
  · cases h
/-- outrigger/axis.within -/
noncomputable def f134 (a0 : Int) : Bool := decide (a0 ≥ 4096) && decide (a0 ≤ 4503599627370496)
noncomputable def g134 (p : Bool) : SV := .bool (.sym p)
noncomputable def S134 : Summ
  | [.v (.int .i64 a0)] => some (g134 (f134 a0.val))
  | _ => none
theorem S134_ok : SummFn Go.Proofs.Tryz.prog 134 S134 := by
  have ev : ∀ (a0 : Int), (symCall ⟨Go.Proofs.Tryz.prog, [], 3, 215, true, [], [], []⟩ 30 134 [.int .i64 (.sym a0)] []).out = ((g134 (f134 a0)).toV) := by
    intro a0
    kernel_rfl
  intro fs r h w vs hv
  unfold S134 at h
  split at h
  · rename_i a0
    cases h
    exact sx_calls (envOkU' (S := []) (HS := []) (US := []) (NS := []) (j := true) trivial trivial trivial trivial) 30 134 [.int .i64 (.sym a0.val)] vs (symifyL_rel _ _ (SArels_v (xs := [.int .i64 a0]) hv)) (by kernel_rfl) rfl (ev a0.val) w
  · cases h
/-- outrigger/axis.Sane -/
noncomputable def f72 (a0_0 : Int) (a0_1 : Int) (a0_2 : Int) (a0_3 : Int) (a0_4 : Int) (a0_5 : Bool) : Bool := f114 a0_0 && f114 a0_1 && f114 a0_3 && f134 a0_2 && f134 a0_4
noncomputable def g72 (p : Bool) : SV := .bool (.sym p)
noncomputable def S72 : Summ
  | [.v (.agg [.int .i64 a0_0, .int .i64 a0_1, .int .i64 a0_2, .int .i64 a0_3, .int .i64 a0_4, .bool a0_5])] => some (g72 (f72 a0_0.val a0_1.val a0_2.val a0_3.val a0_4.val a0_5.val))
  | _ => none
theorem S72_ok : SummFn Go.Proofs.Tryz.prog 72 S72 := by
  have ev : ∀ (a0_0 : Int) (a0_1 : Int) (a0_2 : Int) (a0_3 : Int) (a0_4 : Int) (a0_5 : Bool), (symCall ⟨Go.Proofs.Tryz.prog, [(82, S82), (114, S114), (134, S134), (142, S142)], 3, 215, true, [], [], []⟩ 30 72 [.agg [.int .i64 (.sym a0_0), .int .i64 (.sym a0_1), .int .i64 (.sym a0_2), .int .i64 (.sym a0_3), .int .i64 (.sym a0_4), .bool (.sym a0_5)]] []).out = ((g72 (f72 a0_0 a0_1 a0_2 a0_3 a0_4 a0_5)).toV) := by
    intro a0_0 a0_1 a0_2 a0_3 a0_4 a0_5
    kernel_rfl
  intro fs r h w vs hv
  unfold S72 at h
  split at h
  · rename_i a0_0 a0_1 a0_2 a0_3 a0_4 a0_5
    cases h
    exact sx_calls (envOkU' (S := [(82, S82), (114, S114), (134, S134), (142, S142)]) (HS := []) (US := []) (NS := []) (j := true) ⟨S82_ok, S114_ok, S134_ok, S142_ok, trivial⟩ trivial trivial trivial) 30 72 [.agg [.int .i64 (.sym a0_0.val), .int .i64 (.sym a0_1.val), .int .i64 (.sym a0_2.val), .int .i64 (.sym a0_3.val), .int .i64 (.sym a0_4.val), .bool (.sym a0_5.val)]] vs (symifyL_rel _ _ (SArels_v (xs := [.agg [.int .i64 a0_0, .int .i64 a0_1, .int .i64 a0_2, .int .i64 a0_3, .int .i64 a0_4, .bool a0_5]]) hv)) (by kernel_rfl) rfl (ev a0_0.val a0_1.val a0_2.val a0_3.val a0_4.val a0_5.val) w
  · cases h
/-- outrigger/filter.count -/
noncomputable def f73 (a0 : Int) : Bool := decide (a0 ≥ 0) && decide (a0 ≤ 1099511627776)
noncomputable def g73 (p : Bool) : SV := .bool (.sym p)
noncomputable def S73 : Summ
  | [.v (.int .i64 a0)] => some (g73 (f73 a0.val))
  | _ => none
theorem S73_ok : SummFn Go.Proofs.Tryz.prog 73 S73 := by
  have ev : ∀ (a0 : Int), (symCall ⟨Go.Proofs.Tryz.prog, [], 3, 215, true, [], [], []⟩ 30 73 [.int .i64 (.sym a0)] []).out = ((g73 (f73 a0)).toV) := by
    intro a0
    kernel_rfl
  intro fs r h w vs hv
  unfold S73 at h
  split at h
  · rename_i a0
    cases h
    exact sx_calls (envOkU' (S := []) (HS := []) (US := []) (NS := []) (j := true) trivial trivial trivial trivial) 30 73 [.int .i64 (.sym a0.val)] vs (symifyL_rel _ _ (SArels_v (xs := [.int .i64 a0]) hv)) (by kernel_rfl) rfl (ev a0.val) w
  · cases h
/-- outrigger/axis.Start -/
noncomputable def f76 (a0 : Int) (a1 : Int) : Int × Int × Int × Int × Int × Bool := ((f82 a0).fst, (f82 a1).fst, 17592186044416, 0, 17592186044416, (f82 a0).snd || (f82 a1).snd)
noncomputable def g76 (p : Int × Int × Int × Int × Int × Bool) : SV := .agg [.int .i64 (.sym p.1), .int .i64 (.sym p.2.1), .int .i64 (.sym p.2.2.1), .int .i64 (.sym p.2.2.2.1), .int .i64 (.sym p.2.2.2.2.1), .bool (.sym p.2.2.2.2.2)]
noncomputable def S76 : Summ
  | [.v (.int .i64 a0), .v (.int .i64 a1)] => some (g76 (f76 a0.val a1.val))
  | _ => none
theorem S76_ok : SummFn Go.Proofs.Tryz.prog 76 S76 := by
  have ev : ∀ (a0 : Int) (a1 : Int), (symCall ⟨Go.Proofs.Tryz.prog, [(82, S82), (142, S142)], 3, 215, true, [], [], []⟩ 30 76 [.int .i64 (.sym a0), .int .i64 (.sym a1)] []).out = ((g76 (f76 a0 a1)).toV) := by
    intro a0 a1
    kernel_rfl
  intro fs r h w vs hv
  unfold S76 at h
  split at h
  · rename_i a0 a1
    cases h
    exact sx_calls (envOkU' (S := [(82, S82), (142, S142)]) (HS := []) (US := []) (NS := []) (j := true) ⟨S82_ok, S142_ok, trivial⟩ trivial trivial trivial) 30 76 [.int .i64 (.sym a0.val), .int .i64 (.sym a1.val)] vs (symifyL_rel _ _ (SArels_v (xs := [.int .i64 a0, .int .i64 a1]) hv)) (by kernel_rfl) rfl (ev a0.val a1.val) w
  · cases h
/-- outrigger/sample.Sane -/
noncomputable def f111 (a0_0 : Int) (a0_1 : Int) (a0_2 : Int) (a0_3 : Int) (a0_4 : Int) : Bool := !(decide (a0_2 < -288230376151711744) || decide (a0_2 > 288230376151711744)) && (!(decide (a0_3 < -288230376151711744) || decide (a0_3 > 288230376151711744)) && (!(decide (a0_4 < -288230376151711744) || decide (a0_4 > 288230376151711744)) && (decide (a0_0 ≥ 0) && decide (a0_0 ≤ 1099511627776) && decide (a0_1 ≥ 0) && decide (a0_1 < 4))))
noncomputable def g111 (p : Bool) : SV := .bool (.sym p)
noncomputable def S111 : Summ
  | [.v (.agg [.int .i64 a0_0, .int .i64 a0_1, .int .i64 a0_2, .int .i64 a0_3, .int .i64 a0_4])] => some (g111 (f111 a0_0.val a0_1.val a0_2.val a0_3.val a0_4.val))
  | _ => none
theorem S111_ok : SummFn Go.Proofs.Tryz.prog 111 S111 := by
  have ev : ∀ (a0_0 : Int) (a0_1 : Int) (a0_2 : Int) (a0_3 : Int) (a0_4 : Int), (symCall ⟨Go.Proofs.Tryz.prog, [], 3, 215, true, [], [], []⟩ 30 111 [.agg [.int .i64 (.sym a0_0), .int .i64 (.sym a0_1), .int .i64 (.sym a0_2), .int .i64 (.sym a0_3), .int .i64 (.sym a0_4)]] []).out = ((g111 (f111 a0_0 a0_1 a0_2 a0_3 a0_4)).toV) := by
    intro a0_0 a0_1 a0_2 a0_3 a0_4
    kernel_rfl
  intro fs r h w vs hv
  unfold S111 at h
  split at h
  · rename_i a0_0 a0_1 a0_2 a0_3 a0_4
    cases h
    exact sx_calls (envOkU' (S := []) (HS := []) (US := []) (NS := []) (j := true) trivial trivial trivial trivial) 30 111 [.agg [.int .i64 (.sym a0_0.val), .int .i64 (.sym a0_1.val), .int .i64 (.sym a0_2.val), .int .i64 (.sym a0_3.val), .int .i64 (.sym a0_4.val)]] vs (symifyL_rel _ _ (SArels_v (xs := [.agg [.int .i64 a0_0, .int .i64 a0_1, .int .i64 a0_2, .int .i64 a0_3, .int .i64 a0_4]]) hv)) (by kernel_rfl) rfl (ev a0_0.val a0_1.val a0_2.val a0_3.val a0_4.val) w
  · cases h
/-- outrigger/sense.value -/
noncomputable def f201 (a0 : Int) : Bool := !(f82 a0).snd
noncomputable def g201 (p : Bool) : SV := .bool (.sym p)
noncomputable def S201 : Summ
  | [.v (.int .i64 a0)] => some (g201 (f201 a0.val))
  | _ => none
theorem S201_ok : SummFn Go.Proofs.Tryz.prog 201 S201 := by
  have ev : ∀ (a0 : Int), (symCall ⟨Go.Proofs.Tryz.prog, [(82, S82), (142, S142)], 3, 215, true, [], [], []⟩ 30 201 [.int .i64 (.sym a0)] []).out = ((g201 (f201 a0)).toV) := by
    intro a0
    kernel_rfl
  intro fs r h w vs hv
  unfold S201 at h
  split at h
  · rename_i a0
    cases h
    exact sx_calls (envOkU' (S := [(82, S82), (142, S142)]) (HS := []) (US := []) (NS := []) (j := true) ⟨S82_ok, S142_ok, trivial⟩ trivial trivial trivial) 30 201 [.int .i64 (.sym a0.val)] vs (symifyL_rel _ _ (SArels_v (xs := [.int .i64 a0]) hv)) (by kernel_rfl) rfl (ev a0.val) w
  · cases h
/-- outrigger/sense.values -/
noncomputable def f200 (a0_0 : Int) (a0_1 : Int) (a0_2 : Int) : Bool := let x1 : Int := IntKind.i64.wrap (0 + 1); let x2 : Int := bif !f201 a0_0 then 0 else bif !f201 a0_1 then x1 else bif !f201 a0_2 then IntKind.i64.wrap (x1 + 1) else -1; !decide (x2 ≥ 0)
noncomputable def g200 (p : Bool) : SV := .bool (.sym p)
noncomputable def S200 : Summ
  | [.v (.agg [.int .i64 a0_0, .int .i64 a0_1, .int .i64 a0_2])] => some (g200 (f200 a0_0.val a0_1.val a0_2.val))
  | _ => none
theorem S200_ok : SummFn Go.Proofs.Tryz.prog 200 S200 := by
  have ev : ∀ (a0_0 : Int) (a0_1 : Int) (a0_2 : Int), (symCall ⟨Go.Proofs.Tryz.prog, [(82, S82), (142, S142), (201, S201)], 3, 215, true, [], [], []⟩ 30 200 [.agg [.int .i64 (.sym a0_0), .int .i64 (.sym a0_1), .int .i64 (.sym a0_2)]] []).out = ((g200 (f200 a0_0 a0_1 a0_2)).toV) := by
    intro a0_0 a0_1 a0_2
    kernel_rfl
  intro fs r h w vs hv
  unfold S200 at h
  split at h
  · rename_i a0_0 a0_1 a0_2
    cases h
    exact sx_calls (envOkU' (S := [(82, S82), (142, S142), (201, S201)]) (HS := []) (US := []) (NS := []) (j := true) ⟨S82_ok, S142_ok, S201_ok, trivial⟩ trivial trivial trivial) 30 200 [.agg [.int .i64 (.sym a0_0.val), .int .i64 (.sym a0_1.val), .int .i64 (.sym a0_2.val)]] vs (symifyL_rel _ _ (SArels_v (xs := [.agg [.int .i64 a0_0, .int .i64 a0_1, .int .i64 a0_2]]) hv)) (by kernel_rfl) rfl (ev a0_0.val a0_1.val a0_2.val) w
  · cases h
/-- outrigger/sense.Sane -/
noncomputable def f167 (a0_0 : Int) (a0_1 : Int) (a0_2 : Int) (a0_3 : Int) (a0_4 : Int) : Bool := f200 a0_0 a0_1 a0_2 && f201 a0_3 && decide (a0_3 > 0) && f201 a0_4 && decide (a0_4 ≥ 0)
noncomputable def g167 (p : Bool) : SV := .bool (.sym p)
noncomputable def S167 : Summ
  | [.v (.agg [.int .i64 a0_0, .int .i64 a0_1, .int .i64 a0_2, .int .i64 a0_3, .int .i64 a0_4])] => some (g167 (f167 a0_0.val a0_1.val a0_2.val a0_3.val a0_4.val))
  | _ => none
theorem S167_ok : SummFn Go.Proofs.Tryz.prog 167 S167 := by
  have ev : ∀ (a0_0 : Int) (a0_1 : Int) (a0_2 : Int) (a0_3 : Int) (a0_4 : Int), (symCall ⟨Go.Proofs.Tryz.prog, [(82, S82), (142, S142), (200, S200), (201, S201)], 3, 215, true, [], [], []⟩ 30 167 [.agg [.int .i64 (.sym a0_0), .int .i64 (.sym a0_1), .int .i64 (.sym a0_2), .int .i64 (.sym a0_3), .int .i64 (.sym a0_4)]] []).out = ((g167 (f167 a0_0 a0_1 a0_2 a0_3 a0_4)).toV) := by
    intro a0_0 a0_1 a0_2 a0_3 a0_4
    kernel_rfl
  intro fs r h w vs hv
  unfold S167 at h
  split at h
  · rename_i a0_0 a0_1 a0_2 a0_3 a0_4
    cases h
    exact sx_calls (envOkU' (S := [(82, S82), (142, S142), (200, S200), (201, S201)]) (HS := []) (US := []) (NS := []) (j := true) ⟨S82_ok, S142_ok, S200_ok, S201_ok, trivial⟩ trivial trivial trivial) 30 167 [.agg [.int .i64 (.sym a0_0.val), .int .i64 (.sym a0_1.val), .int .i64 (.sym a0_2.val), .int .i64 (.sym a0_3.val), .int .i64 (.sym a0_4.val)]] vs (symifyL_rel _ _ (SArels_v (xs := [.agg [.int .i64 a0_0, .int .i64 a0_1, .int .i64 a0_2, .int .i64 a0_3, .int .i64 a0_4]]) hv)) (by kernel_rfl) rfl (ev a0_0.val a0_1.val a0_2.val a0_3.val a0_4.val) w
  · cases h
/-- (outrigger/sense.cal).far -/
noncomputable def f168 (a0_0 : Int) (a0_1 : Int) (a0_2 : Int) (a0_3 : Int) (a0_4 : Int) (a1 : Int) : Bool := let x1 : Int := IntKind.i64.wrap (0 - a0_4); decide (a1 > a0_4) || decide (a1 < x1)
noncomputable def g168 (p : Bool) : SV := .bool (.sym p)
noncomputable def S168 : Summ
  | [.v (.agg [.int .i64 a0_0, .int .i64 a0_1, .int .i64 a0_2, .int .i64 a0_3, .int .i64 a0_4]), .v (.int .i64 a1)] => some (g168 (f168 a0_0.val a0_1.val a0_2.val a0_3.val a0_4.val a1.val))
  | _ => none
theorem S168_ok : SummFn Go.Proofs.Tryz.prog 168 S168 := by
  have ev : ∀ (a0_0 : Int) (a0_1 : Int) (a0_2 : Int) (a0_3 : Int) (a0_4 : Int) (a1 : Int), (symCall ⟨Go.Proofs.Tryz.prog, [], 3, 215, true, [], [], []⟩ 30 168 [.agg [.int .i64 (.sym a0_0), .int .i64 (.sym a0_1), .int .i64 (.sym a0_2), .int .i64 (.sym a0_3), .int .i64 (.sym a0_4)], .int .i64 (.sym a1)] []).out = ((g168 (f168 a0_0 a0_1 a0_2 a0_3 a0_4 a1)).toV) := by
    intro a0_0 a0_1 a0_2 a0_3 a0_4 a1
    kernel_rfl
  intro fs r h w vs hv
  unfold S168 at h
  split at h
  · rename_i a0_0 a0_1 a0_2 a0_3 a0_4 a1
    cases h
    exact sx_calls (envOkU' (S := []) (HS := []) (US := []) (NS := []) (j := true) trivial trivial trivial trivial) 30 168 [.agg [.int .i64 (.sym a0_0.val), .int .i64 (.sym a0_1.val), .int .i64 (.sym a0_2.val), .int .i64 (.sym a0_3.val), .int .i64 (.sym a0_4.val)], .int .i64 (.sym a1.val)] vs (symifyL_rel _ _ (SArels_v (xs := [.agg [.int .i64 a0_0, .int .i64 a0_1, .int .i64 a0_2, .int .i64 a0_3, .int .i64 a0_4], .int .i64 a1]) hv)) (by kernel_rfl) rfl (ev a0_0.val a0_1.val a0_2.val a0_3.val a0_4.val a1.val) w
  · cases h
/-- outrigger/fix.Add -/
noncomputable def f170 (a0 : Int) (a1 : Int) : Int × Bool := let x1 : Int × Bool := f82 (IntKind.i64.wrap (f153 a0 + f153 a1)); (x1.fst, x1.snd || f153 a0 != a0 || f153 a1 != a1)
noncomputable def g170 (p : Int × Bool) : SV := .tuple [.int .i64 (.sym p.1), .bool (.sym p.2)]
noncomputable def S170 : Summ
  | [.v (.int .i64 a0), .v (.int .i64 a1)] => some (g170 (f170 a0.val a1.val))
  | _ => none
theorem S170_ok : SummFn Go.Proofs.Tryz.prog 170 S170 := by
  have ev : ∀ (a0 : Int) (a1 : Int), (symCall ⟨Go.Proofs.Tryz.prog, [(82, S82), (142, S142), (153, S153)], 3, 215, true, [], [], []⟩ 30 170 [.int .i64 (.sym a0), .int .i64 (.sym a1)] []).out = ((g170 (f170 a0 a1)).toV) := by
    intro a0 a1
    kernel_rfl
  intro fs r h w vs hv
  unfold S170 at h
  split at h
  · rename_i a0 a1
    cases h
    exact sx_calls (envOkU' (S := [(82, S82), (142, S142), (153, S153)]) (HS := []) (US := []) (NS := []) (j := true) ⟨S82_ok, S142_ok, S153_ok, trivial⟩ trivial trivial trivial) 30 170 [.int .i64 (.sym a0.val), .int .i64 (.sym a1.val)] vs (symifyL_rel _ _ (SArels_v (xs := [.int .i64 a0, .int .i64 a1]) hv)) (by kernel_rfl) rfl (ev a0.val a1.val) w
  · cases h
/-- outrigger/root.Sqrt -/
noncomputable def f211 (a0 : Int) : Int × Bool := let x1 : Int × Bool := f137 (f158 a0 4294967296).fst (f158 a0 4294967296).snd; (x1.fst, (f82 a0).snd || x1.snd)
noncomputable def g211 (p : Int × Bool) : SV := .tuple [.int .i64 (.sym p.1), .bool (.sym p.2)]
noncomputable def S211 : Summ
  | [.v (.int .i64 a0)] => some (g211 (f211 a0.val))
  | _ => none
theorem S211_ok : SummFn Go.Proofs.Tryz.prog 211 S211 := by
  have ev : ∀ (a0 : Int), (symCall ⟨Go.Proofs.Tryz.prog, [(82, S82), (137, S137), (142, S142), (153, S153), (158, S158), (163, S163), (176, S176), (177, S177), (178, S178), (179, S179), (194, S194), (195, S195), (203, S203), (204, S204), (205, S205), (213, S213)], 3, 215, true, [], [], []⟩ 30 211 [.int .i64 (.sym a0)] []).out = ((g211 (f211 a0)).toV) := by
    intro a0
    kernel_rfl
  intro fs r h w vs hv
  unfold S211 at h
  split at h
  · rename_i a0
    cases h
    exact sx_calls (envOkU' (S := [(82, S82), (137, S137), (142, S142), (153, S153), (158, S158), (163, S163), (176, S176), (177, S177), (178, S178), (179, S179), (194, S194), (195, S195), (203, S203), (204, S204), (205, S205), (213, S213)]) (HS := []) (US := []) (NS := []) (j := true) ⟨S82_ok, S137_ok, S142_ok, S153_ok, S158_ok, S163_ok, S176_ok, S177_ok, S178_ok, S179_ok, S194_ok, S195_ok, S203_ok, S204_ok, S205_ok, S213_ok, trivial⟩ trivial trivial trivial) 30 211 [.int .i64 (.sym a0.val)] vs (symifyL_rel _ _ (SArels_v (xs := [.int .i64 a0]) hv)) (by kernel_rfl) rfl (ev a0.val) w
  · cases h
/-- outrigger/outriggerlaw21.plain -/
noncomputable def f35 : Int × Int × Int × Int × Int × Int × Int × Int × Int × Int × Int × Int × Int × Int × Int × Int × Int × Int × Int × Int := (0, 0, 0, 4294967296, 4503599627370496, 0, 0, 0, 4294967296, 4503599627370496, 0, 0, 0, 4294967296, 4503599627370496, 0, 0, 0, 4294967296, 4503599627370496)
noncomputable def g35 (p : Int × Int × Int × Int × Int × Int × Int × Int × Int × Int × Int × Int × Int × Int × Int × Int × Int × Int × Int × Int) : SV := .agg [.int .i64 (.sym p.1), .int .i64 (.sym p.2.1), .int .i64 (.sym p.2.2.1), .int .i64 (.sym p.2.2.2.1), .int .i64 (.sym p.2.2.2.2.1), .int .i64 (.sym p.2.2.2.2.2.1), .int .i64 (.sym p.2.2.2.2.2.2.1), .int .i64 (.sym p.2.2.2.2.2.2.2.1), .int .i64 (.sym p.2.2.2.2.2.2.2.2.1), .int .i64 (.sym p.2.2.2.2.2.2.2.2.2.1), .int .i64 (.sym p.2.2.2.2.2.2.2.2.2.2.1), .int .i64 (.sym p.2.2.2.2.2.2.2.2.2.2.2.1), .int .i64 (.sym p.2.2.2.2.2.2.2.2.2.2.2.2.1), .int .i64 (.sym p.2.2.2.2.2.2.2.2.2.2.2.2.2.1), .int .i64 (.sym p.2.2.2.2.2.2.2.2.2.2.2.2.2.2.1), .int .i64 (.sym p.2.2.2.2.2.2.2.2.2.2.2.2.2.2.2.1), .int .i64 (.sym p.2.2.2.2.2.2.2.2.2.2.2.2.2.2.2.2.1), .int .i64 (.sym p.2.2.2.2.2.2.2.2.2.2.2.2.2.2.2.2.2.1), .int .i64 (.sym p.2.2.2.2.2.2.2.2.2.2.2.2.2.2.2.2.2.2.1), .int .i64 (.sym p.2.2.2.2.2.2.2.2.2.2.2.2.2.2.2.2.2.2.2)]
noncomputable def S35 : Summ
  | [] => some (g35 (f35))
  | _ => none
theorem S35_ok : SummFn Go.Proofs.Tryz.prog 35 S35 := by
  have ev : (symCall ⟨Go.Proofs.Tryz.prog, [], 3, 215, true, [], [], []⟩ 30 35 [] []).out = ((g35 (f35)).toV) := by
    kernel_rfl
  intro fs r h w vs hv
  unfold S35 at h
  split at h
  · cases h
    exact sx_calls (envOkU' (S := []) (HS := []) (US := []) (NS := []) (j := true) trivial trivial trivial trivial) 30 35 [] vs (symifyL_rel _ _ (SArels_v (xs := []) hv)) (by kernel_rfl) rfl (ev) w
  · cases h
/-- outrigger/outriggerref19.value -/
noncomputable def f126 (a0 : Int) : Bool := !(f146 a0).snd
noncomputable def g126 (p : Bool) : SV := .bool (.sym p)
noncomputable def S126 : Summ
  | [.v (.int .i64 a0)] => some (g126 (f126 a0.val))
  | _ => none
theorem S126_ok : SummFn Go.Proofs.Tryz.prog 126 S126 := by
  have ev : ∀ (a0 : Int), (symCall ⟨Go.Proofs.Tryz.prog, [(146, S146)], 3, 215, true, [], [], []⟩ 30 126 [.int .i64 (.sym a0)] []).out = ((g126 (f126 a0)).toV) := by
    intro a0
    kernel_rfl
  intro fs r h w vs hv
  unfold S126 at h
  split at h
  · rename_i a0
    cases h
    exact sx_calls (envOkU' (S := [(146, S146)]) (HS := []) (US := []) (NS := []) (j := true) ⟨S146_ok, trivial⟩ trivial trivial trivial) 30 126 [.int .i64 (.sym a0.val)] vs (symifyL_rel _ _ (SArels_v (xs := [.int .i64 a0]) hv)) (by kernel_rfl) rfl (ev a0.val) w
  · cases h
/-- outrigger/outriggerref19.Sane -/
noncomputable def f75 (a0_0 : Int) (a0_1 : Int) (a0_2 : Int) (a0_3 : Int) (a0_4 : Int) (a0_5 : Bool) : Bool := f126 a0_0 && f126 a0_1 && f126 a0_3 && decide (a0_2 ≥ 4096) && decide (a0_2 ≤ 4503599627370496) && decide (a0_4 ≥ 4096) && decide (a0_4 ≤ 4503599627370496)
noncomputable def g75 (p : Bool) : SV := .bool (.sym p)
noncomputable def S75 : Summ
  | [.v (.agg [.int .i64 a0_0, .int .i64 a0_1, .int .i64 a0_2, .int .i64 a0_3, .int .i64 a0_4, .bool a0_5])] => some (g75 (f75 a0_0.val a0_1.val a0_2.val a0_3.val a0_4.val a0_5.val))
  | _ => none
theorem S75_ok : SummFn Go.Proofs.Tryz.prog 75 S75 := by
  have ev : ∀ (a0_0 : Int) (a0_1 : Int) (a0_2 : Int) (a0_3 : Int) (a0_4 : Int) (a0_5 : Bool), (symCall ⟨Go.Proofs.Tryz.prog, [(126, S126), (146, S146)], 3, 215, true, [], [], []⟩ 30 75 [.agg [.int .i64 (.sym a0_0), .int .i64 (.sym a0_1), .int .i64 (.sym a0_2), .int .i64 (.sym a0_3), .int .i64 (.sym a0_4), .bool (.sym a0_5)]] []).out = ((g75 (f75 a0_0 a0_1 a0_2 a0_3 a0_4 a0_5)).toV) := by
    intro a0_0 a0_1 a0_2 a0_3 a0_4 a0_5
    kernel_rfl
  intro fs r h w vs hv
  unfold S75 at h
  split at h
  · rename_i a0_0 a0_1 a0_2 a0_3 a0_4 a0_5
    cases h
    exact sx_calls (envOkU' (S := [(126, S126), (146, S146)]) (HS := []) (US := []) (NS := []) (j := true) ⟨S126_ok, S146_ok, trivial⟩ trivial trivial trivial) 30 75 [.agg [.int .i64 (.sym a0_0.val), .int .i64 (.sym a0_1.val), .int .i64 (.sym a0_2.val), .int .i64 (.sym a0_3.val), .int .i64 (.sym a0_4.val), .bool (.sym a0_5.val)]] vs (symifyL_rel _ _ (SArels_v (xs := [.agg [.int .i64 a0_0, .int .i64 a0_1, .int .i64 a0_2, .int .i64 a0_3, .int .i64 a0_4, .bool a0_5]]) hv)) (by kernel_rfl) rfl (ev a0_0.val a0_1.val a0_2.val a0_3.val a0_4.val a0_5.val) w
  · cases h
/-- outrigger/outriggerref19.Start -/
noncomputable def f77 (a0 : Int) (a1 : Int) : Int × Int × Int × Int × Int × Bool := (f88 a0, f88 a1, 17592186044416, 0, 17592186044416, !f126 a0 || !f126 a1)
noncomputable def g77 (p : Int × Int × Int × Int × Int × Bool) : SV := .agg [.int .i64 (.sym p.1), .int .i64 (.sym p.2.1), .int .i64 (.sym p.2.2.1), .int .i64 (.sym p.2.2.2.1), .int .i64 (.sym p.2.2.2.2.1), .bool (.sym p.2.2.2.2.2)]
noncomputable def S77 : Summ
  | [.v (.int .i64 a0), .v (.int .i64 a1)] => some (g77 (f77 a0.val a1.val))
  | _ => none
theorem S77_ok : SummFn Go.Proofs.Tryz.prog 77 S77 := by
  have ev : ∀ (a0 : Int) (a1 : Int), (symCall ⟨Go.Proofs.Tryz.prog, [(88, S88), (126, S126), (146, S146)], 3, 215, true, [], [], []⟩ 30 77 [.int .i64 (.sym a0), .int .i64 (.sym a1)] []).out = ((g77 (f77 a0 a1)).toV) := by
    intro a0 a1
    kernel_rfl
  intro fs r h w vs hv
  unfold S77 at h
  split at h
  · rename_i a0 a1
    cases h
    exact sx_calls (envOkU' (S := [(88, S88), (126, S126), (146, S146)]) (HS := []) (US := []) (NS := []) (j := true) ⟨S88_ok, S126_ok, S146_ok, trivial⟩ trivial trivial trivial) 30 77 [.int .i64 (.sym a0.val), .int .i64 (.sym a1.val)] vs (symifyL_rel _ _ (SArels_v (xs := [.int .i64 a0, .int .i64 a1]) hv)) (by kernel_rfl) rfl (ev a0.val a1.val) w
  · cases h
/-- outrigger/outriggerref18.value -/
noncomputable def f173 (a0 : Int) : Bool := !(f146 a0).snd
noncomputable def g173 (p : Bool) : SV := .bool (.sym p)
noncomputable def S173 : Summ
  | [.v (.int .i64 a0)] => some (g173 (f173 a0.val))
  | _ => none
theorem S173_ok : SummFn Go.Proofs.Tryz.prog 173 S173 := by
  have ev : ∀ (a0 : Int), (symCall ⟨Go.Proofs.Tryz.prog, [(146, S146)], 3, 215, true, [], [], []⟩ 30 173 [.int .i64 (.sym a0)] []).out = ((g173 (f173 a0)).toV) := by
    intro a0
    kernel_rfl
  intro fs r h w vs hv
  unfold S173 at h
  split at h
  · rename_i a0
    cases h
    exact sx_calls (envOkU' (S := [(146, S146)]) (HS := []) (US := []) (NS := []) (j := true) ⟨S146_ok, trivial⟩ trivial trivial trivial) 30 173 [.int .i64 (.sym a0.val)] vs (symifyL_rel _ _ (SArels_v (xs := [.int .i64 a0]) hv)) (by kernel_rfl) rfl (ev a0.val) w
  · cases h
/-- outrigger/outriggerref18.values -/
noncomputable def f172 (a0_0 : Int) (a0_1 : Int) (a0_2 : Int) : Bool := f173 a0_0 && f173 a0_1 && f173 a0_2
noncomputable def g172 (p : Bool) : SV := .bool (.sym p)
noncomputable def S172 : Summ
  | [.v (.agg [.int .i64 a0_0, .int .i64 a0_1, .int .i64 a0_2])] => some (g172 (f172 a0_0.val a0_1.val a0_2.val))
  | _ => none
theorem S172_ok : SummFn Go.Proofs.Tryz.prog 172 S172 := by
  have ev : ∀ (a0_0 : Int) (a0_1 : Int) (a0_2 : Int), (symCall ⟨Go.Proofs.Tryz.prog, [(146, S146), (173, S173)], 3, 215, true, [], [], []⟩ 30 172 [.agg [.int .i64 (.sym a0_0), .int .i64 (.sym a0_1), .int .i64 (.sym a0_2)]] []).out = ((g172 (f172 a0_0 a0_1 a0_2)).toV) := by
    intro a0_0 a0_1 a0_2
    kernel_rfl
  intro fs r h w vs hv
  unfold S172 at h
  split at h
  · rename_i a0_0 a0_1 a0_2
    cases h
    exact sx_calls (envOkU' (S := [(146, S146), (173, S173)]) (HS := []) (US := []) (NS := []) (j := true) ⟨S146_ok, S173_ok, trivial⟩ trivial trivial trivial) 30 172 [.agg [.int .i64 (.sym a0_0.val), .int .i64 (.sym a0_1.val), .int .i64 (.sym a0_2.val)]] vs (symifyL_rel _ _ (SArels_v (xs := [.agg [.int .i64 a0_0, .int .i64 a0_1, .int .i64 a0_2]]) hv)) (by kernel_rfl) rfl (ev a0_0.val a0_1.val a0_2.val) w
  · cases h
/-- outrigger/outriggerref18.Sane -/
noncomputable def f124 (a0_0 : Int) (a0_1 : Int) (a0_2 : Int) (a0_3 : Int) (a0_4 : Int) : Bool := f172 a0_0 a0_1 a0_2 && f173 a0_3 && decide (a0_3 ≥ 1) && f173 a0_4 && decide (a0_4 ≥ 0)
noncomputable def g124 (p : Bool) : SV := .bool (.sym p)
noncomputable def S124 : Summ
  | [.v (.agg [.int .i64 a0_0, .int .i64 a0_1, .int .i64 a0_2, .int .i64 a0_3, .int .i64 a0_4])] => some (g124 (f124 a0_0.val a0_1.val a0_2.val a0_3.val a0_4.val))
  | _ => none
theorem S124_ok : SummFn Go.Proofs.Tryz.prog 124 S124 := by
  have ev : ∀ (a0_0 : Int) (a0_1 : Int) (a0_2 : Int) (a0_3 : Int) (a0_4 : Int), (symCall ⟨Go.Proofs.Tryz.prog, [(146, S146), (172, S172), (173, S173)], 3, 215, true, [], [], []⟩ 30 124 [.agg [.int .i64 (.sym a0_0), .int .i64 (.sym a0_1), .int .i64 (.sym a0_2), .int .i64 (.sym a0_3), .int .i64 (.sym a0_4)]] []).out = ((g124 (f124 a0_0 a0_1 a0_2 a0_3 a0_4)).toV) := by
    intro a0_0 a0_1 a0_2 a0_3 a0_4
    kernel_rfl
  intro fs r h w vs hv
  unfold S124 at h
  split at h
  · rename_i a0_0 a0_1 a0_2 a0_3 a0_4
    cases h
    exact sx_calls (envOkU' (S := [(146, S146), (172, S172), (173, S173)]) (HS := []) (US := []) (NS := []) (j := true) ⟨S146_ok, S172_ok, S173_ok, trivial⟩ trivial trivial trivial) 30 124 [.agg [.int .i64 (.sym a0_0.val), .int .i64 (.sym a0_1.val), .int .i64 (.sym a0_2.val), .int .i64 (.sym a0_3.val), .int .i64 (.sym a0_4.val)]] vs (symifyL_rel _ _ (SArels_v (xs := [.agg [.int .i64 a0_0, .int .i64 a0_1, .int .i64 a0_2, .int .i64 a0_3, .int .i64 a0_4]]) hv)) (by kernel_rfl) rfl (ev a0_0.val a0_1.val a0_2.val a0_3.val a0_4.val) w
  · cases h
/-- outrigger/outriggerref18.Read -/
noncomputable def f67 (a0_0 : Int) (a0_1 : Int) (a0_2 : Int) (a0_3 : Int) (a0_4 : Int) (a1_0 : Int) (a1_1 : Int) (a1_2 : Int) : Int × Int × Int × Bool := let x1 : Int × Int × Bool := (f53 a1_0 a1_1 a1_2 a0_0 a0_1 a0_2).snd; let x2 : Int × Bool := x1.snd; let x3 : Int × Int × Int × Bool := f54 (f53 a1_0 a1_1 a1_2 a0_0 a0_1 a0_2).fst x1.fst x2.fst a0_3; let x4 : Int × Int × Bool := x3.snd; let x5 : Int × Bool := x4.snd; let x6 : Bool := !f124 a0_0 a0_1 a0_2 a0_3 a0_4 || x2.snd || x5.snd; let x7 : Int := x3.fst; let x8 : Int := IntKind.i64.wrap (0 - a0_4); let x9 : Bool := decide (x7 > a0_4) || decide (x7 < x8); let x10 : Int := x4.fst; let x11 : Bool := decide (x10 > a0_4) || decide (x10 < x8); let x12 : Int := x5.fst; let x13 : Bool := decide (x12 > a0_4) || decide (x12 < x8); (bif x6 then 0 else bif x9 then 0 else bif x11 then 0 else bif x13 then 0 else x7, bif x6 then 0 else bif x9 then 0 else bif x11 then 0 else bif x13 then 0 else x10, bif x6 then 0 else bif x9 then 0 else bif x11 then 0 else bif x13 then 0 else x12, !x6 && (!x9 && (!x11 && !x13)))
noncomputable def g67 (p : Int × Int × Int × Bool) : SV := .tuple [.agg [.int .i64 (.sym p.1), .int .i64 (.sym p.2.1), .int .i64 (.sym p.2.2.1)], .bool (.sym p.2.2.2)]
noncomputable def S67 : Summ
  | [.v (.agg [.int .i64 a0_0, .int .i64 a0_1, .int .i64 a0_2, .int .i64 a0_3, .int .i64 a0_4]), .v (.agg [.int .i64 a1_0, .int .i64 a1_1, .int .i64 a1_2])] => some (g67 (f67 a0_0.val a0_1.val a0_2.val a0_3.val a0_4.val a1_0.val a1_1.val a1_2.val))
  | _ => none
theorem S67_ok : SummFn Go.Proofs.Tryz.prog 67 S67 := by
  have ev : ∀ (a0_0 : Int) (a0_1 : Int) (a0_2 : Int) (a0_3 : Int) (a0_4 : Int) (a1_0 : Int) (a1_1 : Int) (a1_2 : Int), (symCall ⟨Go.Proofs.Tryz.prog, [(53, S53), (54, S54), (88, S88), (99, S99), (100, S100), (124, S124), (132, S132), (146, S146), (160, S160), (161, S161), (162, S162), (172, S172), (173, S173), (184, S184), (186, S186), (187, S187), (196, S196), (197, S197), (198, S198)], 3, 215, true, [], [], []⟩ 30 67 [.agg [.int .i64 (.sym a0_0), .int .i64 (.sym a0_1), .int .i64 (.sym a0_2), .int .i64 (.sym a0_3), .int .i64 (.sym a0_4)], .agg [.int .i64 (.sym a1_0), .int .i64 (.sym a1_1), .int .i64 (.sym a1_2)]] []).out = ((g67 (f67 a0_0 a0_1 a0_2 a0_3 a0_4 a1_0 a1_1 a1_2)).toV) := by
    intro a0_0 a0_1 a0_2 a0_3 a0_4 a1_0 a1_1 a1_2
    kernel_rfl
  intro fs r h w vs hv
  unfold S67 at h
  split at h
  · rename_i a0_0 a0_1 a0_2 a0_3 a0_4 a1_0 a1_1 a1_2
    cases h
    exact sx_calls (envOkU' (S := [(53, S53), (54, S54), (88, S88), (99, S99), (100, S100), (124, S124), (132, S132), (146, S146), (160, S160), (161, S161), (162, S162), (172, S172), (173, S173), (184, S184), (186, S186), (187, S187), (196, S196), (197, S197), (198, S198)]) (HS := []) (US := []) (NS := []) (j := true) ⟨S53_ok, S54_ok, S88_ok, S99_ok, S100_ok, S124_ok, S132_ok, S146_ok, S160_ok, S161_ok, S162_ok, S172_ok, S173_ok, S184_ok, S186_ok, S187_ok, S196_ok, S197_ok, S198_ok, trivial⟩ trivial trivial trivial) 30 67 [.agg [.int .i64 (.sym a0_0.val), .int .i64 (.sym a0_1.val), .int .i64 (.sym a0_2.val), .int .i64 (.sym a0_3.val), .int .i64 (.sym a0_4.val)], .agg [.int .i64 (.sym a1_0.val), .int .i64 (.sym a1_1.val), .int .i64 (.sym a1_2.val)]] vs (symifyL_rel _ _ (SArels_v (xs := [.agg [.int .i64 a0_0, .int .i64 a0_1, .int .i64 a0_2, .int .i64 a0_3, .int .i64 a0_4], .agg [.int .i64 a1_0, .int .i64 a1_1, .int .i64 a1_2]]) hv)) (by kernel_rfl) rfl (ev a0_0.val a0_1.val a0_2.val a0_3.val a0_4.val a1_0.val a1_1.val a1_2.val) w
  · cases h
/-- outrigger/outriggerref13.Sane -/
noncomputable def f123 (a0_0 : Int) (a0_1 : Int) (a0_2 : Int) (a0_3 : Int) (a0_4 : Int) : Bool := !(decide (a0_2 < -288230376151711744) || decide (a0_2 > 288230376151711744)) && (!(decide (a0_3 < -288230376151711744) || decide (a0_3 > 288230376151711744)) && (!(decide (a0_4 < -288230376151711744) || decide (a0_4 > 288230376151711744)) && (decide (a0_0 ≥ 0) && decide (a0_0 ≤ 1099511627776) && decide (a0_1 ≥ 0) && decide (a0_1 ≤ 3))))
noncomputable def g123 (p : Bool) : SV := .bool (.sym p)
noncomputable def S123 : Summ
  | [.v (.agg [.int .i64 a0_0, .int .i64 a0_1, .int .i64 a0_2, .int .i64 a0_3, .int .i64 a0_4])] => some (g123 (f123 a0_0.val a0_1.val a0_2.val a0_3.val a0_4.val))
  | _ => none
theorem S123_ok : SummFn Go.Proofs.Tryz.prog 123 S123 := by
  have ev : ∀ (a0_0 : Int) (a0_1 : Int) (a0_2 : Int) (a0_3 : Int) (a0_4 : Int), (symCall ⟨Go.Proofs.Tryz.prog, [], 3, 215, true, [], [], []⟩ 30 123 [.agg [.int .i64 (.sym a0_0), .int .i64 (.sym a0_1), .int .i64 (.sym a0_2), .int .i64 (.sym a0_3), .int .i64 (.sym a0_4)]] []).out = ((g123 (f123 a0_0 a0_1 a0_2 a0_3 a0_4)).toV) := by
    intro a0_0 a0_1 a0_2 a0_3 a0_4
    kernel_rfl
  intro fs r h w vs hv
  unfold S123 at h
  split at h
  · rename_i a0_0 a0_1 a0_2 a0_3 a0_4
    cases h
    exact sx_calls (envOkU' (S := []) (HS := []) (US := []) (NS := []) (j := true) trivial trivial trivial trivial) 30 123 [.agg [.int .i64 (.sym a0_0.val), .int .i64 (.sym a0_1.val), .int .i64 (.sym a0_2.val), .int .i64 (.sym a0_3.val), .int .i64 (.sym a0_4.val)]] vs (symifyL_rel _ _ (SArels_v (xs := [.agg [.int .i64 a0_0, .int .i64 a0_1, .int .i64 a0_2, .int .i64 a0_3, .int .i64 a0_4]]) hv)) (by kernel_rfl) rfl (ev a0_0.val a0_1.val a0_2.val a0_3.val a0_4.val) w
  · cases h
/-- outrigger/outriggerref19.As -/
noncomputable def f125 (a0_0 : Int) (a0_1 : Int) (a0_2 : Int) (a0_3 : Int) (a0_4 : Int) (a0_5 : Bool) : Int × Int × Int × Int × Int × Bool := let x1 : Bool := !f75 a0_0 a0_1 a0_2 a0_3 a0_4 a0_5; (bif x1 then 0 else a0_0, bif x1 then 0 else a0_1, bif x1 then 17592186044416 else a0_2, bif x1 then 0 else a0_3, bif x1 then 17592186044416 else a0_4, x1 || a0_5)
noncomputable def g125 (p : Int × Int × Int × Int × Int × Bool) : SV := .agg [.int .i64 (.sym p.1), .int .i64 (.sym p.2.1), .int .i64 (.sym p.2.2.1), .int .i64 (.sym p.2.2.2.1), .int .i64 (.sym p.2.2.2.2.1), .bool (.sym p.2.2.2.2.2)]
noncomputable def S125 : Summ
  | [.v (.agg [.int .i64 a0_0, .int .i64 a0_1, .int .i64 a0_2, .int .i64 a0_3, .int .i64 a0_4, .bool a0_5])] => some (g125 (f125 a0_0.val a0_1.val a0_2.val a0_3.val a0_4.val a0_5.val))
  | _ => none
theorem S125_ok : SummFn Go.Proofs.Tryz.prog 125 S125 := by
  have ev : ∀ (a0_0 : Int) (a0_1 : Int) (a0_2 : Int) (a0_3 : Int) (a0_4 : Int) (a0_5 : Bool), (symCall ⟨Go.Proofs.Tryz.prog, [(75, S75), (126, S126), (146, S146)], 3, 215, true, [], [], []⟩ 30 125 [.agg [.int .i64 (.sym a0_0), .int .i64 (.sym a0_1), .int .i64 (.sym a0_2), .int .i64 (.sym a0_3), .int .i64 (.sym a0_4), .bool (.sym a0_5)]] []).out = ((g125 (f125 a0_0 a0_1 a0_2 a0_3 a0_4 a0_5)).toV) := by
    intro a0_0 a0_1 a0_2 a0_3 a0_4 a0_5
    kernel_rfl
  intro fs r h w vs hv
  unfold S125 at h
  split at h
  · rename_i a0_0 a0_1 a0_2 a0_3 a0_4 a0_5
    cases h
    exact sx_calls (envOkU' (S := [(75, S75), (126, S126), (146, S146)]) (HS := []) (US := []) (NS := []) (j := true) ⟨S75_ok, S126_ok, S146_ok, trivial⟩ trivial trivial trivial) 30 125 [.agg [.int .i64 (.sym a0_0.val), .int .i64 (.sym a0_1.val), .int .i64 (.sym a0_2.val), .int .i64 (.sym a0_3.val), .int .i64 (.sym a0_4.val), .bool (.sym a0_5.val)]] vs (symifyL_rel _ _ (SArels_v (xs := [.agg [.int .i64 a0_0, .int .i64 a0_1, .int .i64 a0_2, .int .i64 a0_3, .int .i64 a0_4, .bool a0_5]]) hv)) (by kernel_rfl) rfl (ev a0_0.val a0_1.val a0_2.val a0_3.val a0_4.val a0_5.val) w
  · cases h
/-- outrigger/outriggerref01.Add -/
noncomputable def f175 (a0 : Int) (a1 : Int) : Int × Bool := let x1 : Int × Bool := f146 (IntKind.i64.wrap ((f146 a0).fst + (f146 a1).fst)); (x1.fst, (f146 a0).snd || (f146 a1).snd || x1.snd)
noncomputable def g175 (p : Int × Bool) : SV := .tuple [.int .i64 (.sym p.1), .bool (.sym p.2)]
noncomputable def S175 : Summ
  | [.v (.int .i64 a0), .v (.int .i64 a1)] => some (g175 (f175 a0.val a1.val))
  | _ => none
theorem S175_ok : SummFn Go.Proofs.Tryz.prog 175 S175 := by
  have ev : ∀ (a0 : Int) (a1 : Int), (symCall ⟨Go.Proofs.Tryz.prog, [(146, S146)], 3, 215, true, [], [], []⟩ 30 175 [.int .i64 (.sym a0), .int .i64 (.sym a1)] []).out = ((g175 (f175 a0 a1)).toV) := by
    intro a0 a1
    kernel_rfl
  intro fs r h w vs hv
  unfold S175 at h
  split at h
  · rename_i a0 a1
    cases h
    exact sx_calls (envOkU' (S := [(146, S146)]) (HS := []) (US := []) (NS := []) (j := true) ⟨S146_ok, trivial⟩ trivial trivial trivial) 30 175 [.int .i64 (.sym a0.val), .int .i64 (.sym a1.val)] vs (symifyL_rel _ _ (SArels_v (xs := [.int .i64 a0, .int .i64 a1]) hv)) (by kernel_rfl) rfl (ev a0.val a1.val) w
  · cases h
/-- outrigger/outriggerref04.Sqrt -/
noncomputable def f131 (a0 : Int) : Int × Bool := let x1 : Int × Int := f161 (f146 a0).fst 4294967296; let x2 : Int × Bool := f144 x1.fst x1.snd; (x2.fst, (f146 a0).snd || x2.snd)
noncomputable def g131 (p : Int × Bool) : SV := .tuple [.int .i64 (.sym p.1), .bool (.sym p.2)]
noncomputable def S131 : Summ
  | [.v (.int .i64 a0)] => some (g131 (f131 a0.val))
  | _ => none
theorem S131_ok : SummFn Go.Proofs.Tryz.prog 131 S131 := by
  have ev : ∀ (a0 : Int), (symCall ⟨Go.Proofs.Tryz.prog, [(88, S88), (132, S132), (144, S144), (146, S146), (161, S161), (184, S184), (185, S185), (186, S186), (187, S187), (189, S189), (198, S198)], 3, 215, true, [], [], []⟩ 30 131 [.int .i64 (.sym a0)] []).out = ((g131 (f131 a0)).toV) := by
    intro a0
    kernel_rfl
  intro fs r h w vs hv
  unfold S131 at h
  split at h
  · rename_i a0
    cases h
    exact sx_calls (envOkU' (S := [(88, S88), (132, S132), (144, S144), (146, S146), (161, S161), (184, S184), (185, S185), (186, S186), (187, S187), (189, S189), (198, S198)]) (HS := []) (US := []) (NS := []) (j := true) ⟨S88_ok, S132_ok, S144_ok, S146_ok, S161_ok, S184_ok, S185_ok, S186_ok, S187_ok, S189_ok, S198_ok, trivial⟩ trivial trivial trivial) 30 131 [.int .i64 (.sym a0.val)] vs (symifyL_rel _ _ (SArels_v (xs := [.int .i64 a0]) hv)) (by kernel_rfl) rfl (ev a0.val) w
  · cases h
end Go.Proofs.YtmnglkcodbecbaaGreat
