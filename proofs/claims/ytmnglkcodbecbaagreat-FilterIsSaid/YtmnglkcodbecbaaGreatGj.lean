/- What each function computes, by the executor: printed by a program (wip/sx2/Gen3.lean). -/
import Derived.Test.YtmnglkcodbecbaaGreatGh
import Derived.Test.YtmnglkcodbecbaaGreatW3
import Derived.Test.YtmnglkcodbecbaaGreatNa
namespace Go.Proofs.YtmnglkcodbecbaaGreat
open Go Go.Sx
set_option maxRecDepth 1000000
set_option maxHeartbeats 100000000
/-- outrigger/outriggerref09.neg -/
noncomputable def f89 (a0 : Int) : Int := f156 a0
noncomputable def g89 (p : Int) : SV := .int .i64 (.sym p)
noncomputable def S89 : Summ
  | [.v (.int .i64 a0)] => some (g89 (f89 a0.val))
  | _ => none
theorem S89_ok : SummFn Go.Proofs.Tryz.prog 89 S89 := by
  have ev : ∀ (a0 : Int), (symCall ⟨Go.Proofs.Tryz.prog, [(88, S88), (156, S156), (146, S146)], 3, 215, true, [], [], []⟩ 30 89 [.int .i64 (.sym a0)] []).out = ((g89 (f89 a0)).toV) := by
    intro a0
    kernel_rfl
  intro fs r h w vs hv
  unfold S89 at h
  split at h
  · rename_i a0
    cases h
    exact sx_calls (envOkU' (S := [(88, S88), (156, S156), (146, S146)]) (HS := []) (US := []) (NS := []) (j := true) ⟨S88_ok, S156_ok, S146_ok, trivial⟩ trivial trivial trivial) 30 89 [.int .i64 (.sym a0.val)] vs (symifyL_rel _ _ (SArels_v (xs := [.int .i64 a0]) hv)) (by kernel_rfl) rfl (ev a0.val) w
  · cases h
/-- outrigger/outriggerref09.changed -/
noncomputable def f154 (a0_0 : Int) (a0_1 : Int) (a0_2 : Int) (a0_3 : Int) : Bool := (f146 a0_0).snd || (f146 a0_1).snd || (f146 a0_2).snd || (f146 a0_3).snd
noncomputable def g154 (p : Bool) : SV := .bool (.sym p)
noncomputable def S154 : Summ
  | [.v (.agg [.int .i64 a0_0, .int .i64 a0_1, .int .i64 a0_2, .int .i64 a0_3])] => some (g154 (f154 a0_0.val a0_1.val a0_2.val a0_3.val))
  | _ => none
theorem S154_ok : SummFn Go.Proofs.Tryz.prog 154 S154 := by
  have ev : ∀ (a0_0 : Int) (a0_1 : Int) (a0_2 : Int) (a0_3 : Int), (symCall ⟨Go.Proofs.Tryz.prog, [(146, S146)], 3, 215, true, [], [], []⟩ 30 154 [.agg [.int .i64 (.sym a0_0), .int .i64 (.sym a0_1), .int .i64 (.sym a0_2), .int .i64 (.sym a0_3)]] []).out = ((g154 (f154 a0_0 a0_1 a0_2 a0_3)).toV) := by
    intro a0_0 a0_1 a0_2 a0_3
    kernel_rfl
  intro fs r h w vs hv
  unfold S154 at h
  split at h
  · rename_i a0_0 a0_1 a0_2 a0_3
    cases h
    exact sx_calls (envOkU' (S := [(146, S146)]) (HS := []) (US := []) (NS := []) (j := true) ⟨S146_ok, trivial⟩ trivial trivial trivial) 30 154 [.agg [.int .i64 (.sym a0_0.val), .int .i64 (.sym a0_1.val), .int .i64 (.sym a0_2.val), .int .i64 (.sym a0_3.val)]] vs (symifyL_rel _ _ (SArels_v (xs := [.agg [.int .i64 a0_0, .int .i64 a0_1, .int .i64 a0_2, .int .i64 a0_3]]) hv)) (by kernel_rfl) rfl (ev a0_0.val a0_1.val a0_2.val a0_3.val) w
  · cases h
/-- outrigger/outriggerref09.Mul -/
noncomputable def f87 (a0_0 : Int) (a0_1 : Int) (a0_2 : Int) (a0_3 : Int) (a1_0 : Int) (a1_1 : Int) (a1_2 : Int) (a1_3 : Int) : Int × Int × Int × Int × Bool := let x1 : Int × Int := f161 (f146 a0_0).fst (f146 a1_0).fst; let x2 : Int × Int × Bool := f187 0 0 x1.fst x1.snd; let x3 : Int × Int := f161 (f146 a0_1).fst (f146 (f89 a1_1)).fst; let x4 : Int × Int × Bool := f187 x2.fst x2.snd.fst x3.fst x3.snd; let x5 : Int × Int := f161 (f146 a0_2).fst (f146 (f89 a1_2)).fst; let x6 : Int × Int × Bool := f187 x4.fst x4.snd.fst x5.fst x5.snd; let x7 : Int × Int := f161 (f146 a0_3).fst (f146 (f89 a1_3)).fst; let x8 : Int × Int × Bool := f187 x6.fst x6.snd.fst x7.fst x7.snd; let x9 : Int × Bool := f160 x8.fst x8.snd.fst; let x10 : Int × Int := f161 (f146 a0_0).fst (f146 a1_1).fst; let x11 : Int × Int × Bool := f187 0 0 x10.fst x10.snd; let x12 : Int × Int := f161 (f146 a0_1).fst (f146 a1_0).fst; let x13 : Int × Int × Bool := f187 x11.fst x11.snd.fst x12.fst x12.snd; let x14 : Int × Int := f161 (f146 a0_2).fst (f146 a1_3).fst; let x15 : Int × Int × Bool := f187 x13.fst x13.snd.fst x14.fst x14.snd; let x16 : Int × Int := f161 (f146 a0_3).fst (f146 (f89 a1_2)).fst; let x17 : Int × Int × Bool := f187 x15.fst x15.snd.fst x16.fst x16.snd; let x18 : Int × Bool := f160 x17.fst x17.snd.fst; let x19 : Int × Int := f161 (f146 a0_0).fst (f146 a1_2).fst; let x20 : Int × Int × Bool := f187 0 0 x19.fst x19.snd; let x21 : Int × Int := f161 (f146 a0_1).fst (f146 (f89 a1_3)).fst; let x22 : Int × Int × Bool := f187 x20.fst x20.snd.fst x21.fst x21.snd; let x23 : Int × Int := f161 (f146 a0_2).fst (f146 a1_0).fst; let x24 : Int × Int × Bool := f187 x22.fst x22.snd.fst x23.fst x23.snd; let x25 : Int × Int := f161 (f146 a0_3).fst (f146 a1_1).fst; let x26 : Int × Int × Bool := f187 x24.fst x24.snd.fst x25.fst x25.snd; let x27 : Int × Bool := f160 x26.fst x26.snd.fst; let x28 : Int × Int := f161 (f146 a0_0).fst (f146 a1_3).fst; let x29 : Int × Int × Bool := f187 0 0 x28.fst x28.snd; let x30 : Int × Int := f161 (f146 a0_1).fst (f146 a1_2).fst; let x31 : Int × Int × Bool := f187 x29.fst x29.snd.fst x30.fst x30.snd; let x32 : Int × Int := f161 (f146 a0_2).fst (f146 (f89 a1_1)).fst; let x33 : Int × Int × Bool := f187 x31.fst x31.snd.fst x32.fst x32.snd; let x34 : Int × Int := f161 (f146 a0_3).fst (f146 a1_0).fst; let x35 : Int × Int × Bool := f187 x33.fst x33.snd.fst x34.fst x34.snd; let x36 : Int × Bool := f160 x35.fst x35.snd.fst; let x37 : Bool := (f146 a0_0).snd || (f146 a0_1).snd || (f146 a0_2).snd || (f146 a0_3).snd; (x9.fst, x18.fst, x27.fst, x36.fst, f154 a0_0 a0_1 a0_2 a0_3 || f154 a1_0 a1_1 a1_2 a1_3 || (x37 || ((f146 a1_0).snd || (f146 (f89 a1_1)).snd || (f146 (f89 a1_2)).snd || (f146 (f89 a1_3)).snd) || x9.snd) || (x37 || ((f146 a1_1).snd || (f146 a1_0).snd || (f146 a1_3).snd || (f146 (f89 a1_2)).snd) || x18.snd) || (x37 || ((f146 a1_2).snd || (f146 (f89 a1_3)).snd || (f146 a1_0).snd || (f146 a1_1).snd) || x27.snd) || (x37 || ((f146 a1_3).snd || (f146 a1_2).snd || (f146 (f89 a1_1)).snd || (f146 a1_0).snd) || x36.snd))
noncomputable def g87 (p : Int × Int × Int × Int × Bool) : SV := .tuple [.agg [.int .i64 (.sym p.1), .int .i64 (.sym p.2.1), .int .i64 (.sym p.2.2.1), .int .i64 (.sym p.2.2.2.1)], .bool (.sym p.2.2.2.2)]
noncomputable def S87 : Summ
  | [.v (.agg [.int .i64 a0_0, .int .i64 a0_1, .int .i64 a0_2, .int .i64 a0_3]), .v (.agg [.int .i64 a1_0, .int .i64 a1_1, .int .i64 a1_2, .int .i64 a1_3])] => some (g87 (f87 a0_0.val a0_1.val a0_2.val a0_3.val a1_0.val a1_1.val a1_2.val a1_3.val))
  | _ => none
theorem S87_ok : SummFn Go.Proofs.Tryz.prog 87 S87 := by
  have ev : ∀ (a0_0 : Int) (a0_1 : Int) (a0_2 : Int) (a0_3 : Int) (a1_0 : Int) (a1_1 : Int) (a1_2 : Int) (a1_3 : Int), (symCall ⟨Go.Proofs.Tryz.prog, [(89, S89), (154, S154), (88, S88), (156, S156), (146, S146), (160, S160), (132, S132), (161, S161), (187, S187), (196, S196), (197, S197), (186, S186), (184, S184), (198, S198)], 3, 215, true, [(152, H152), (138, H138), (140, H140), (107, H107), (155, H155)], [], []⟩ 30 87 [.agg [.int .i64 (.sym a0_0), .int .i64 (.sym a0_1), .int .i64 (.sym a0_2), .int .i64 (.sym a0_3)], .agg [.int .i64 (.sym a1_0), .int .i64 (.sym a1_1), .int .i64 (.sym a1_2), .int .i64 (.sym a1_3)]] []).out = ((g87 (f87 a0_0 a0_1 a0_2 a0_3 a1_0 a1_1 a1_2 a1_3)).toV) := by
    intro a0_0 a0_1 a0_2 a0_3 a1_0 a1_1 a1_2 a1_3
    kernel_rfl
  intro fs r h w vs hv
  unfold S87 at h
  split at h
  · rename_i a0_0 a0_1 a0_2 a0_3 a1_0 a1_1 a1_2 a1_3
    cases h
    exact sx_calls (envOkU' (S := [(89, S89), (154, S154), (88, S88), (156, S156), (146, S146), (160, S160), (132, S132), (161, S161), (187, S187), (196, S196), (197, S197), (186, S186), (184, S184), (198, S198)]) (HS := [(152, H152), (138, H138), (140, H140), (107, H107), (155, H155)]) (US := []) (NS := []) (j := true) ⟨S89_ok, S154_ok, S88_ok, S156_ok, S146_ok, S160_ok, S132_ok, S161_ok, S187_ok, S196_ok, S197_ok, S186_ok, S184_ok, S198_ok, trivial⟩ ⟨H152_ok, H138_ok, H140_ok, H107_ok, H155_ok, trivial⟩ trivial trivial) 30 87 [.agg [.int .i64 (.sym a0_0.val), .int .i64 (.sym a0_1.val), .int .i64 (.sym a0_2.val), .int .i64 (.sym a0_3.val)], .agg [.int .i64 (.sym a1_0.val), .int .i64 (.sym a1_1.val), .int .i64 (.sym a1_2.val), .int .i64 (.sym a1_3.val)]] vs (symifyL_rel _ _ (SArels_v (xs := [.agg [.int .i64 a0_0, .int .i64 a0_1, .int .i64 a0_2, .int .i64 a0_3], .agg [.int .i64 a1_0, .int .i64 a1_1, .int .i64 a1_2, .int .i64 a1_3]]) hv)) (by kernel_rfl) rfl (ev a0_0.val a0_1.val a0_2.val a0_3.val a1_0.val a1_1.val a1_2.val a1_3.val) w
  · cases h
/-- outrigger/outriggerref09.Norm -/
noncomputable def f38 (a0_0 : Int) (a0_1 : Int) (a0_2 : Int) (a0_3 : Int) : Int × Bool := let x1 : Int × Int := f161 (f146 a0_0).fst (f146 a0_0).fst; let x2 : Int × Int × Bool := f187 0 0 x1.fst x1.snd; let x3 : Int × Int := f161 (f146 a0_1).fst (f146 a0_1).fst; let x4 : Int × Int × Bool := f187 x2.fst x2.snd.fst x3.fst x3.snd; let x5 : Int × Int := f161 (f146 a0_2).fst (f146 a0_2).fst; let x6 : Int × Int × Bool := f187 x4.fst x4.snd.fst x5.fst x5.snd; let x7 : Int × Int := f161 (f146 a0_3).fst (f146 a0_3).fst; let x8 : Int × Int × Bool := f187 x6.fst x6.snd.fst x7.fst x7.snd; let x9 : Int × Bool := f144 x8.fst x8.snd.fst; (x9.fst, (f146 a0_0).snd || (f146 a0_1).snd || (f146 a0_2).snd || (f146 a0_3).snd || x9.snd)
noncomputable def g38 (p : Int × Bool) : SV := .tuple [.int .i64 (.sym p.1), .bool (.sym p.2)]
noncomputable def S38 : Summ
  | [.v (.agg [.int .i64 a0_0, .int .i64 a0_1, .int .i64 a0_2, .int .i64 a0_3])] => some (g38 (f38 a0_0.val a0_1.val a0_2.val a0_3.val))
  | _ => none
theorem S38_ok : SummFn Go.Proofs.Tryz.prog 38 S38 := by
  have ev : ∀ (a0_0 : Int) (a0_1 : Int) (a0_2 : Int) (a0_3 : Int), (symCall ⟨Go.Proofs.Tryz.prog, [(88, S88), (146, S146), (144, S144), (132, S132), (161, S161), (187, S187), (186, S186), (184, S184), (185, S185), (189, S189), (198, S198)], 3, 215, true, [], [], []⟩ 30 38 [.agg [.int .i64 (.sym a0_0), .int .i64 (.sym a0_1), .int .i64 (.sym a0_2), .int .i64 (.sym a0_3)]] []).out = ((g38 (f38 a0_0 a0_1 a0_2 a0_3)).toV) := by
    intro a0_0 a0_1 a0_2 a0_3
    kernel_rfl
  intro fs r h w vs hv
  unfold S38 at h
  split at h
  · rename_i a0_0 a0_1 a0_2 a0_3
    cases h
    exact sx_calls (envOkU' (S := [(88, S88), (146, S146), (144, S144), (132, S132), (161, S161), (187, S187), (186, S186), (184, S184), (185, S185), (189, S189), (198, S198)]) (HS := []) (US := []) (NS := []) (j := true) ⟨S88_ok, S146_ok, S144_ok, S132_ok, S161_ok, S187_ok, S186_ok, S184_ok, S185_ok, S189_ok, S198_ok, trivial⟩ trivial trivial trivial) 30 38 [.agg [.int .i64 (.sym a0_0.val), .int .i64 (.sym a0_1.val), .int .i64 (.sym a0_2.val), .int .i64 (.sym a0_3.val)]] vs (symifyL_rel _ _ (SArels_v (xs := [.agg [.int .i64 a0_0, .int .i64 a0_1, .int .i64 a0_2, .int .i64 a0_3]]) hv)) (by kernel_rfl) rfl (ev a0_0.val a0_1.val a0_2.val a0_3.val) w
  · cases h
/-- outrigger/outriggerref09.One -/
noncomputable def f41 : Int × Int × Int × Int := (4294967296, 0, 0, 0)
noncomputable def g41 (p : Int × Int × Int × Int) : SV := .agg [.int .i64 (.sym p.1), .int .i64 (.sym p.2.1), .int .i64 (.sym p.2.2.1), .int .i64 (.sym p.2.2.2)]
noncomputable def S41 : Summ
  | [] => some (g41 (f41))
  | _ => none
theorem S41_ok : SummFn Go.Proofs.Tryz.prog 41 S41 := by
  have ev : (symCall ⟨Go.Proofs.Tryz.prog, [], 3, 215, true, [], [], []⟩ 30 41 [] []).out = ((g41 (f41)).toV) := by
    kernel_rfl
  intro fs r h w vs hv
  unfold S41 at h
  split at h
  · cases h
    exact sx_calls (envOkU' (S := []) (HS := []) (US := []) (NS := []) (j := true) trivial trivial trivial trivial) 30 41 [] vs (symifyL_rel _ _ (SArels_v (xs := []) hv)) (by kernel_rfl) rfl (ev) w
  · cases h
/-- outrigger/outriggerref09.Unit -/
noncomputable def f102 (a0_0 : Int) (a0_1 : Int) (a0_2 : Int) (a0_3 : Int) : Int × Int × Int × Int × Bool := let x1 : Int := (f38 a0_0 a0_1 a0_2 a0_3).fst; let x2 : Bool := x1 == 0; let x3 : Int × Bool := f109 a0_0 x1; let x4 : Int × Int × Int := f41.snd; let x5 : Int × Bool := f109 a0_1 x1; let x6 : Int × Int := x4.snd; let x7 : Int × Bool := f109 a0_2 x1; let x8 : Int × Bool := f109 a0_3 x1; (bif x2 then f41.fst else x3.fst, bif x2 then x4.fst else x5.fst, bif x2 then x6.fst else x7.fst, bif x2 then x6.snd else x8.fst, x2 || ((f38 a0_0 a0_1 a0_2 a0_3).snd || x3.snd || x5.snd || x7.snd || x8.snd))
noncomputable def g102 (p : Int × Int × Int × Int × Bool) : SV := .tuple [.agg [.int .i64 (.sym p.1), .int .i64 (.sym p.2.1), .int .i64 (.sym p.2.2.1), .int .i64 (.sym p.2.2.2.1)], .bool (.sym p.2.2.2.2)]
noncomputable def S102 : Summ
  | [.v (.agg [.int .i64 a0_0, .int .i64 a0_1, .int .i64 a0_2, .int .i64 a0_3])] => some (g102 (f102 a0_0.val a0_1.val a0_2.val a0_3.val))
  | _ => none
theorem S102_ok : SummFn Go.Proofs.Tryz.prog 102 S102 := by
  have ev : ∀ (a0_0 : Int) (a0_1 : Int) (a0_2 : Int) (a0_3 : Int), (symCall ⟨Go.Proofs.Tryz.prog, [(38, S38), (41, S41), (109, S109), (88, S88), (146, S146), (144, S144), (166, S166), (132, S132), (162, S162), (161, S161), (187, S187), (186, S186), (184, S184), (185, S185), (189, S189), (198, S198)], 3, 215, true, [], [], []⟩ 30 102 [.agg [.int .i64 (.sym a0_0), .int .i64 (.sym a0_1), .int .i64 (.sym a0_2), .int .i64 (.sym a0_3)]] []).out = ((g102 (f102 a0_0 a0_1 a0_2 a0_3)).toV) := by
    intro a0_0 a0_1 a0_2 a0_3
    kernel_rfl
  intro fs r h w vs hv
  unfold S102 at h
  split at h
  · rename_i a0_0 a0_1 a0_2 a0_3
    cases h
    exact sx_calls (envOkU' (S := [(38, S38), (41, S41), (109, S109), (88, S88), (146, S146), (144, S144), (166, S166), (132, S132), (162, S162), (161, S161), (187, S187), (186, S186), (184, S184), (185, S185), (189, S189), (198, S198)]) (HS := []) (US := []) (NS := []) (j := true) ⟨S38_ok, S41_ok, S109_ok, S88_ok, S146_ok, S144_ok, S166_ok, S132_ok, S162_ok, S161_ok, S187_ok, S186_ok, S184_ok, S185_ok, S189_ok, S198_ok, trivial⟩ trivial trivial trivial) 30 102 [.agg [.int .i64 (.sym a0_0.val), .int .i64 (.sym a0_1.val), .int .i64 (.sym a0_2.val), .int .i64 (.sym a0_3.val)]] vs (symifyL_rel _ _ (SArels_v (xs := [.agg [.int .i64 a0_0, .int .i64 a0_1, .int .i64 a0_2, .int .i64 a0_3]]) hv)) (by kernel_rfl) rfl (ev a0_0.val a0_1.val a0_2.val a0_3.val) w
  · cases h
/-- outrigger/outriggerref09.Small -/
noncomputable def f101 (a0_0 : Int) (a0_1 : Int) (a0_2 : Int) : Int × Int × Int × Int × Bool := let x1 : Int × Int × Int × Int × Bool := f102 f41.fst (f100 a0_0 2147483648).fst (f100 a0_1 2147483648).fst (f100 a0_2 2147483648).fst; let x2 : Int × Int × Int × Bool := x1.snd; let x3 : Int × Int × Bool := x2.snd; let x4 : Int × Bool := x3.snd; (x1.fst, x2.fst, x3.fst, x4.fst, (f100 a0_0 2147483648).snd || (f100 a0_1 2147483648).snd || (f100 a0_2 2147483648).snd || x4.snd)
noncomputable def g101 (p : Int × Int × Int × Int × Bool) : SV := .tuple [.agg [.int .i64 (.sym p.1), .int .i64 (.sym p.2.1), .int .i64 (.sym p.2.2.1), .int .i64 (.sym p.2.2.2.1)], .bool (.sym p.2.2.2.2)]
noncomputable def S101 : Summ
  | [.v (.agg [.int .i64 a0_0, .int .i64 a0_1, .int .i64 a0_2])] => some (g101 (f101 a0_0.val a0_1.val a0_2.val))
  | _ => none
theorem S101_ok : SummFn Go.Proofs.Tryz.prog 101 S101 := by
  have ev : ∀ (a0_0 : Int) (a0_1 : Int) (a0_2 : Int), (symCall ⟨Go.Proofs.Tryz.prog, [(38, S38), (102, S102), (41, S41), (109, S109), (100, S100), (88, S88), (146, S146), (160, S160), (144, S144), (166, S166), (132, S132), (162, S162), (161, S161), (187, S187), (196, S196), (197, S197), (186, S186), (184, S184), (185, S185), (189, S189), (198, S198)], 3, 215, true, [], [], []⟩ 30 101 [.agg [.int .i64 (.sym a0_0), .int .i64 (.sym a0_1), .int .i64 (.sym a0_2)]] []).out = ((g101 (f101 a0_0 a0_1 a0_2)).toV) := by
    intro a0_0 a0_1 a0_2
    kernel_rfl
  intro fs r h w vs hv
  unfold S101 at h
  split at h
  · rename_i a0_0 a0_1 a0_2
    cases h
    exact sx_calls (envOkU' (S := [(38, S38), (102, S102), (41, S41), (109, S109), (100, S100), (88, S88), (146, S146), (160, S160), (144, S144), (166, S166), (132, S132), (162, S162), (161, S161), (187, S187), (196, S196), (197, S197), (186, S186), (184, S184), (185, S185), (189, S189), (198, S198)]) (HS := []) (US := []) (NS := []) (j := true) ⟨S38_ok, S102_ok, S41_ok, S109_ok, S100_ok, S88_ok, S146_ok, S160_ok, S144_ok, S166_ok, S132_ok, S162_ok, S161_ok, S187_ok, S196_ok, S197_ok, S186_ok, S184_ok, S185_ok, S189_ok, S198_ok, trivial⟩ trivial trivial trivial) 30 101 [.agg [.int .i64 (.sym a0_0.val), .int .i64 (.sym a0_1.val), .int .i64 (.sym a0_2.val)]] vs (symifyL_rel _ _ (SArels_v (xs := [.agg [.int .i64 a0_0, .int .i64 a0_1, .int .i64 a0_2]]) hv)) (by kernel_rfl) rfl (ev a0_0.val a0_1.val a0_2.val) w
  · cases h
/-- outrigger/outriggerref09.Back -/
noncomputable def f46 (a0_0 : Int) (a0_1 : Int) (a0_2 : Int) (a0_3 : Int) : Int × Int × Int × Int := (f88 a0_0, f89 a0_1, f89 a0_2, f89 a0_3)
noncomputable def g46 (p : Int × Int × Int × Int) : SV := .agg [.int .i64 (.sym p.1), .int .i64 (.sym p.2.1), .int .i64 (.sym p.2.2.1), .int .i64 (.sym p.2.2.2)]
noncomputable def S46 : Summ
  | [.v (.agg [.int .i64 a0_0, .int .i64 a0_1, .int .i64 a0_2, .int .i64 a0_3])] => some (g46 (f46 a0_0.val a0_1.val a0_2.val a0_3.val))
  | _ => none
theorem S46_ok : SummFn Go.Proofs.Tryz.prog 46 S46 := by
  have ev : ∀ (a0_0 : Int) (a0_1 : Int) (a0_2 : Int) (a0_3 : Int), (symCall ⟨Go.Proofs.Tryz.prog, [(89, S89), (88, S88), (156, S156), (146, S146)], 3, 215, true, [], [], []⟩ 30 46 [.agg [.int .i64 (.sym a0_0), .int .i64 (.sym a0_1), .int .i64 (.sym a0_2), .int .i64 (.sym a0_3)]] []).out = ((g46 (f46 a0_0 a0_1 a0_2 a0_3)).toV) := by
    intro a0_0 a0_1 a0_2 a0_3
    kernel_rfl
  intro fs r h w vs hv
  unfold S46 at h
  split at h
  · rename_i a0_0 a0_1 a0_2 a0_3
    cases h
    exact sx_calls (envOkU' (S := [(89, S89), (88, S88), (156, S156), (146, S146)]) (HS := []) (US := []) (NS := []) (j := true) ⟨S89_ok, S88_ok, S156_ok, S146_ok, trivial⟩ trivial trivial trivial) 30 46 [.agg [.int .i64 (.sym a0_0.val), .int .i64 (.sym a0_1.val), .int .i64 (.sym a0_2.val), .int .i64 (.sym a0_3.val)]] vs (symifyL_rel _ _ (SArels_v (xs := [.agg [.int .i64 a0_0, .int .i64 a0_1, .int .i64 a0_2, .int .i64 a0_3]]) hv)) (by kernel_rfl) rfl (ev a0_0.val a0_1.val a0_2.val a0_3.val) w
  · cases h
/-- outrigger/outriggerref09.Rotate -/
noncomputable def f45 (a0_0 : Int) (a0_1 : Int) (a0_2 : Int) (a0_3 : Int) (a1_0 : Int) (a1_1 : Int) (a1_2 : Int) : Int × Int × Int × Bool := let x1 : Int × Int × Int × Int × Bool := f87 a0_0 a0_1 a0_2 a0_3 0 a1_0 a1_1 a1_2; let x2 : Int × Int × Int × Bool := x1.snd; let x3 : Int × Int × Bool := x2.snd; let x4 : Int × Bool := x3.snd; let x5 : Int × Int × Int := (f46 a0_0 a0_1 a0_2 a0_3).snd; let x6 : Int × Int := x5.snd; let x7 : Int × Int × Int × Bool := (f87 x1.fst x2.fst x3.fst x4.fst (f46 a0_0 a0_1 a0_2 a0_3).fst x5.fst x6.fst x6.snd).snd; let x8 : Int × Int × Bool := x7.snd; let x9 : Int × Bool := x8.snd; (x7.fst, x8.fst, x9.fst, x4.snd || x9.snd)
noncomputable def g45 (p : Int × Int × Int × Bool) : SV := .tuple [.agg [.int .i64 (.sym p.1), .int .i64 (.sym p.2.1), .int .i64 (.sym p.2.2.1)], .bool (.sym p.2.2.2)]
noncomputable def S45 : Summ
  | [.v (.agg [.int .i64 a0_0, .int .i64 a0_1, .int .i64 a0_2, .int .i64 a0_3]), .v (.agg [.int .i64 a1_0, .int .i64 a1_1, .int .i64 a1_2])] => some (g45 (f45 a0_0.val a0_1.val a0_2.val a0_3.val a1_0.val a1_1.val a1_2.val))
  | _ => none
theorem S45_ok : SummFn Go.Proofs.Tryz.prog 45 S45 := by
  have ev : ∀ (a0_0 : Int) (a0_1 : Int) (a0_2 : Int) (a0_3 : Int) (a1_0 : Int) (a1_1 : Int) (a1_2 : Int), (symCall ⟨Go.Proofs.Tryz.prog, [(87, S87), (46, S46), (89, S89), (154, S154), (88, S88), (156, S156), (146, S146), (160, S160), (132, S132), (161, S161), (187, S187), (196, S196), (197, S197), (186, S186), (184, S184), (198, S198)], 3, 215, true, [(152, H152), (138, H138), (140, H140), (107, H107), (155, H155)], [], []⟩ 30 45 [.agg [.int .i64 (.sym a0_0), .int .i64 (.sym a0_1), .int .i64 (.sym a0_2), .int .i64 (.sym a0_3)], .agg [.int .i64 (.sym a1_0), .int .i64 (.sym a1_1), .int .i64 (.sym a1_2)]] []).out = ((g45 (f45 a0_0 a0_1 a0_2 a0_3 a1_0 a1_1 a1_2)).toV) := by
    intro a0_0 a0_1 a0_2 a0_3 a1_0 a1_1 a1_2
    kernel_rfl
  intro fs r h w vs hv
  unfold S45 at h
  split at h
  · rename_i a0_0 a0_1 a0_2 a0_3 a1_0 a1_1 a1_2
    cases h
    exact sx_calls (envOkU' (S := [(87, S87), (46, S46), (89, S89), (154, S154), (88, S88), (156, S156), (146, S146), (160, S160), (132, S132), (161, S161), (187, S187), (196, S196), (197, S197), (186, S186), (184, S184), (198, S198)]) (HS := [(152, H152), (138, H138), (140, H140), (107, H107), (155, H155)]) (US := []) (NS := []) (j := true) ⟨S87_ok, S46_ok, S89_ok, S154_ok, S88_ok, S156_ok, S146_ok, S160_ok, S132_ok, S161_ok, S187_ok, S196_ok, S197_ok, S186_ok, S184_ok, S198_ok, trivial⟩ ⟨H152_ok, H138_ok, H140_ok, H107_ok, H155_ok, trivial⟩ trivial trivial) 30 45 [.agg [.int .i64 (.sym a0_0.val), .int .i64 (.sym a0_1.val), .int .i64 (.sym a0_2.val), .int .i64 (.sym a0_3.val)], .agg [.int .i64 (.sym a1_0.val), .int .i64 (.sym a1_1.val), .int .i64 (.sym a1_2.val)]] vs (symifyL_rel _ _ (SArels_v (xs := [.agg [.int .i64 a0_0, .int .i64 a0_1, .int .i64 a0_2, .int .i64 a0_3], .agg [.int .i64 a1_0, .int .i64 a1_1, .int .i64 a1_2]]) hv)) (by kernel_rfl) rfl (ev a0_0.val a0_1.val a0_2.val a0_3.val a1_0.val a1_1.val a1_2.val) w
  · cases h
end Go.Proofs.YtmnglkcodbecbaaGreat
