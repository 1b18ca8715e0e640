/- The reference's Down (by 32) and divide, as summaries. -/
import Derived.Test.YtmnglkcodbecbaaGreatDv
import Derived.Test.YtmnglkcodbecbaaGreatGb
namespace Go.Proofs.YtmnglkcodbecbaaGreat
open Go Go.Sx Go.RowKit
set_option maxRecDepth 1000000
set_option maxHeartbeats 100000000
/-- outriggerref03.divide -/
def f166 (x y : Int) : Int × Int := drun x y 91
def g166 (p : Int × Int) : SV := .tuple [.int .i64 (.sym p.1), .int .i64 (.sym p.2)]
def S166 : Summ
  | [.v (.int .i64 a0), .v (.int .i64 a1)] => some (g166 (f166 a0.val a1.val))
  | _ => none
theorem wrap_wrap (n : Int) : IntKind.i64.wrap (IntKind.i64.wrap n) = IntKind.i64.wrap n := by simp only [w64]; omega
theorem dstep_rg (y b : Int) (s : Int × Int) : Rg .i64 (dstep y b s).1 ∧ Rg .i64 (dstep y b s).2 := by
  unfold Rg
  by_cases c : y ≤ IntKind.i64.wrap (IntKind.i64.wrap (2 * s.2) + b)
  · have e : dstep y b s = (IntKind.i64.wrap (mnI (IntKind.i64.wrap (2 * s.1)) 576460752303423488 + 1), IntKind.i64.wrap (IntKind.i64.wrap (IntKind.i64.wrap (2 * s.2) + b) - y)) := if_pos c
    rw [e]
    exact ⟨wrap_wrap _, wrap_wrap _⟩
  · have e : dstep y b s = (mnI (IntKind.i64.wrap (2 * s.1)) 576460752303423488, IntKind.i64.wrap (IntKind.i64.wrap (2 * s.2) + b)) := if_neg c
    rw [e]
    refine ⟨?_, wrap_wrap _⟩
    unfold mnI; split
    · rfl
    · exact wrap_wrap _
theorem drun_rg (x y : Int) : ∀ k, Rg .i64 (drun x y k).1 ∧ Rg .i64 (drun x y k).2
  | 0 => ⟨(rfl : IntKind.i64.wrap 0 = 0), (rfl : IntKind.i64.wrap 0 = 0)⟩
  | _ + 1 => dstep_rg _ _ _
theorem S166_ok : SummFn Go.Proofs.Tryz.prog 166 S166 := by
  intro fs r h w vs hv
  unfold S166 at h
  split at h
  · rename_i a0 a1
    cases h
    simp only [SArels, SArel, SV.rel] at hv
    obtain ⟨_, _, ⟨rfl, h1⟩, ⟨_, _, ⟨rfl, h2⟩, rfl, rfl⟩, rfl⟩ := hv
    have hg := drun_rg a0.val a1.val 91
    refine (divide_any a0.val a1.val w).mono ?_
    rintro e w' ⟨rfl, rfl⟩
    refine ⟨⟨_, rfl, ?_⟩, Below.refl _ _⟩
    unfold g166
    simp only [SV.rel]
    refine ⟨[_, _], ?_, rfl⟩
    simp only [relL, SV.rel]
    exact ⟨_, _, ⟨rfl, hg.1⟩, ⟨_, _, ⟨rfl, hg.2⟩, rfl, rfl⟩, rfl⟩
  · cases h
/-- halved once -/
def dn (p : Int × Int) : Int × Int := (p.1.fdiv (2 ^ 1), IntKind.i64.wrap (IntKind.i64.wrap (p.2.tdiv 2) + IntKind.i64.wrap (bitsv .and .i64 p.1 1 * 2305843009213693952)))
def dnN : Nat → Int × Int → Int × Int
  | 0, p => p
  | n + 1, p => dn (dnN n p)
/-- outriggerref02.Down, by 32 -/
def f197 (h l : Int) : Int × Int := dnN 32 (f184 h l)
def g197 (p : Int × Int) : SV := .agg [.int .i64 (.sym p.1), .int .i64 (.sym p.2)]
def S197 : Summ
  | [.v (.agg [.int .i64 a0, .int .i64 a1]), .v (.int .i64 (.lit 32))] => some (g197 (f197 a0.val a1.val))
  | _ => none
theorem S197_ok : SummFn Go.Proofs.Tryz.prog 197 S197 := by
  have ev : ∀ (h l : Int), (symCall ⟨Go.Proofs.Tryz.prog, [(186, S186), (184, S184)], 3, 215, false, [], [], []⟩ 30 197 [.agg [.int .i64 (.sym h), .int .i64 (.sym l)], .int .i64 (.lit 32)] []).out = ((g197 (dnN 32 (f184 h l))).toV) := by
    intro h l
    kernel_rfl
  intro fs r h w vs hv
  unfold S197 at h
  split at h
  · rename_i a0 a1
    cases h
    refine sx_calls (envOk' (S := [(186, S186), (184, S184)]) ⟨S186_ok, S184_ok, trivial⟩) 30 197 [.agg [.int .i64 (.sym a0.val), .int .i64 (.sym a1.val)], .int .i64 (.lit 32)] vs ?_ (by kernel_rfl) rfl (ev a0.val a1.val) w
    have h1 := SArels_v (xs := [.agg [.int .i64 a0, .int .i64 a1], .int .i64 (.lit 32)]) hv
    rw [relL_cons] at h1 ⊢
    obtain ⟨v, vs', h2, h3, h4⟩ := h1
    exact ⟨v, vs', symify_rel _ _ h2, h3, h4⟩
  · cases h
end Go.Proofs.YtmnglkcodbecbaaGreat
