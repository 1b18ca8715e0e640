/- The reference's Down (by 32) and divide, as summaries. -/
import Derived.Test.YtdchdajjhofmnaaGreatDv
import Derived.Test.YtdchdajjhofmnaaGreatGb
namespace Go.Proofs.YtdchdajjhofmnaaGreat
open Go Go.Sx Go.RowKit
set_option maxRecDepth 1000000
set_option maxHeartbeats 100000000
def f272 (x y : Int) : Int × Int := drun x y 91
def g272 (p : Int × Int) : SV := .tuple [iv p.1, iv p.2]
def S272 : Summ
 | [.v (.int .i64 a0), .v (.int .i64 a1)] => some (g272 (f272 a0.val a1.val))
 | _ => none
theorem wrap_wrap (n : Int) : IntKind.i64.wrap (IntKind.i64.wrap n) = IntKind.i64.wrap n := by simp only [w64]; omega
theorem dstep_rg (y b : Int) (s : Int × Int) : Rg .i64 (dstep y b s).1 ∧ Rg .i64 (dstep y b s).2 := by
 unfold Rg
 by_cases c : y ≤ IntKind.i64.wrap (IntKind.i64.wrap (2 * s.2) + b)
 ·have e : dstep y b s = (IntKind.i64.wrap (mnI (IntKind.i64.wrap (2 * s.1)) 576460752303423488 + 1), IntKind.i64.wrap (IntKind.i64.wrap (IntKind.i64.wrap (2 * s.2) + b) - y)) := if_pos c
  rw [e]
  exact ⟨wrap_wrap _, wrap_wrap _⟩
 ·have e : dstep y b s = (mnI (IntKind.i64.wrap (2 * s.1)) 576460752303423488, IntKind.i64.wrap (IntKind.i64.wrap (2 * s.2) + b)) := if_neg c
  rw [e]
  refine ⟨?_, wrap_wrap _⟩
  unfold mnI; split
  ·rfl
  ·exact wrap_wrap _
theorem drun_rg (x y : Int) : ∀ k, Rg .i64 (drun x y k).1 ∧ Rg .i64 (drun x y k).2
 | 0 => ⟨(rfl : IntKind.i64.wrap 0 = 0), (rfl : IntKind.i64.wrap 0 = 0)⟩
 | _ + 1 => dstep_rg _ _ _
theorem S272_ok : SummFn Go.Proofs.Tryz.prog 272 S272 := by
 intro fs r h w vs hv
 unfold S272 at h
 split at h
 ·rename_i a0 a1
  cases h
  simp only [SArels, SArel, SV.rel] at hv
  obtain ⟨_, _, ⟨rfl, h1⟩, ⟨_, _, ⟨rfl, h2⟩, rfl, rfl⟩, rfl⟩ := hv
  have hg := drun_rg a0.val a1.val 91
  refine (divide_any a0.val a1.val w).mono ?_
  rintro e w' ⟨rfl, rfl⟩
  refine ⟨⟨_, rfl, ?_⟩, Below.refl _ _⟩
  unfold g272
  simp only [SV.rel]
  refine ⟨[_, _], ?_, rfl⟩
  simp only [relL, SV.rel]
  exact ⟨_, _, ⟨rfl, hg.1⟩, ⟨_, _, ⟨rfl, hg.2⟩, rfl, rfl⟩, rfl⟩
 ·cases h
def dn (p : Int × Int) : Int × Int := (p.1.fdiv (2 ^ 1), IntKind.i64.wrap (IntKind.i64.wrap (p.2.tdiv 2) + IntKind.i64.wrap (bitsv .and .i64 p.1 1 * 2305843009213693952)))
def dnN : Nat → Int × Int → Int × Int
 | 0, p => p
 | n + 1, p => dn (dnN n p)
def f281 (h l : Int) : Int × Int := dnN 32 (f273 h l)
def g281 (p : Int × Int) : SV := .agg [iv p.1, iv p.2]
def S281 : Summ
 | [.v (.agg [.int .i64 a0, .int .i64 a1]), .v (.int .i64 (.lit 32))] => some (g281 (f281 a0.val a1.val))
 | _ => none
theorem S281_ok : SummFn Go.Proofs.Tryz.prog 281 S281 := by
 have ev : ∀ (h l : Int), (symCall ⟨Go.Proofs.Tryz.prog, [(275, S275), (273, S273)], 3, 336, false, [], [], [], []⟩ 30 281 [.agg [iv h, iv l], .int .i64 (.lit 32)] []).out = ((g281 (dnN 32 (f273 h l))).toV) := by
  intro h l
  kernel_rfl
 intro fs r h w vs hv
 unfold S281 at h
 split at h
 ·rename_i a0 a1
  cases h
  refine sx_calls (envOk' (S := [(275, S275), (273, S273)]) ⟨S275_ok, S273_ok, trivial⟩) 30 281 [.agg [iv a0.val, iv a1.val], .int .i64 (.lit 32)] vs ?_ (by kernel_rfl) rfl (ev a0.val a1.val) w
  have h1 := SArels_v (xs := [.agg [.int .i64 a0, .int .i64 a1], .int .i64 (.lit 32)]) hv
  rw [relL_cons] at h1 ⊢
  obtain ⟨v, vs', h2, h3, h4⟩ := h1
  exact ⟨v, vs', symify_rel _ _ h2, h3, h4⟩
 ·cases h
end Go.Proofs.YtdchdajjhofmnaaGreat
