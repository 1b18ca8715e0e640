/- The plain law AxisIs. -/
import Derived.Test.YtgbbaegfcmlmiaaA6
import Derived.Test.YtgbbaegfcmlmiaaA3
import Derived.Test.YtgbbaegfcmlmiaaGk
namespace Go.Proofs.Ytgbbaegfcmlmiaa
open Go Go.Sx
theorem f32_is (a : Int) : f32 a = f21 a := by unfold f32 f21; rw [f52_eq, f41_eq]
theorem f14_is (P V PP PV VV : Int) (b : Bool) : f14 P V PP PV VV b = f13 P V PP PV VV b := by
  unfold f14 f13 f22; simp only [f32_is, Bool.and_assoc]
theorem f16_is (a b : Int) : f16 a b = f15 a b := by
  unfold f16 f15; simp only [f32_is, f42_eq, f41_eq]; unfold f21; simp only [f41_eq, Bool.not_not]
theorem f35_is (a : Int) : f35 a = f26 a := by
  unfold f35 f26
  simp only [f52_eq, f41_eq]
  rw [f57_eq, f48_eq, cl_cl, cl_in (n := 4294967296) (by omega) (by omega)]
  have h0 := cl_lo a; have h1 := cl_hi a
  have h : f56 (wd (cl a * 4294967296)).1 (wd (cl a * 4294967296)).2 = f47 (wd (cl a * 4294967296)).1 (wd (cl a * 4294967296)).2 := by
    rcases Int.lt_or_le (cl a * 4294967296) 0 with c | c
    · obtain ⟨e1, e2⟩ := f56_neg (v := cl a * 4294967296) (by omega) c
      rw [e1, e2]
    · exact f56_nn c (by omega)
  rw [h]
theorem kp_swap (n : Int) : mnI (mxI n 4096) 4503599627370496 = mxI 4096 (mnI n 4503599627370496) := by
  unfold mxI mnI; split <;> split <;> split <;> (try split) <;> omega
theorem f31_sane {P V PP PV VV : Int} {b : Bool} (h : f13 P V PP PV VV b = true) : f31 P V PP PV VV b = (P, V, PP, PV, VV, b) := by
  unfold f31; rw [f14_is, h]; rfl
theorem f31_in {P V PP PV VV : Int} {b : Bool} (h : f13 P V PP PV VV b = false) : f31 P V PP PV VV b = (0, 0, 17592186044416, 0, 17592186044416, true) := by
  unfold f31; rw [f14_is, h]; rfl
set_option maxHeartbeats 4000000 in
theorem f18_is (P V PP PV VV : Int) (b : Bool) (a dt q : Int) : f18 P V PP PV VV b a dt q = f17 P V PP PV VV b a dt q := by
  unfold f18 f17
  simp only [f36_eq, f55_eq, f32_is, kp_swap]
  generalize (!f21 a || decide (dt < 0) || decide (dt > 1099511627776) || decide (q < 0) || decide (q > 1099511627776)) = G
  cases h : f13 P V PP PV VV b
  · simp only [f31_in h, f15_z, Bool.not_false, cond_true, Bool.true_or, Bool.or_true]
  · simp only [f31_sane h, Bool.not_true, cond_false, Bool.false_or]
    refine Prod.ext rfl (Prod.ext rfl (Prod.ext rfl (Prod.ext rfl (Prod.ext rfl ?_))))
    simp only [Bool.or_assoc]
    congr 1; congr 1
    ac_rfl
set_option maxHeartbeats 4000000 in
theorem f12_is (P V PP PV VV : Int) (b : Bool) (z r g : Int) : f12 P V PP PV VV b z r g = f11 P V PP PV VV b z r g := by
  have hG : (!f21 z || decide (r < 4096) || decide (r > 4503599627370496) || decide (g < 0) || decide (g > 1099511627776)) = (!f21 z || !f22 r || decide (g < 0) || decide (g > 1099511627776)) := by
    cases h : f22 r
    · have : ¬ (4096 ≤ r ∧ r ≤ 4503599627370496) := fun hh => by rw [(f22_iff r).2 hh] at h; cases h
      have h2 : (decide (r < 4096) || decide (r > 4503599627370496)) = true := by simp; omega
      rw [Bool.or_assoc (!f21 z), h2]; rfl
    · have := (f22_iff r).1 h
      rw [decide_eq_false (show ¬ r < 4096 by omega), decide_eq_false (show ¬ r > 4503599627370496 by omega)]; simp
  unfold f12 f11
  simp only [f36_eq, f55_eq, f53_eq, f60_eq, f35_is, f32_is, kp_swap, hG]
  have hA : ∀ x, f37 x = f19 x := fun x => by rw [f37_eq, f19_eq]
  simp only [hA]
  generalize (!f21 z || !f22 r || decide (g < 0) || decide (g > 1099511627776)) = G
  cases h : f13 P V PP PV VV b
  · simp only [f31_in h, f15_z, Bool.not_false, cond_true, Bool.true_or]
    refine Prod.ext rfl (Prod.ext rfl (Prod.ext rfl (Prod.ext rfl (Prod.ext rfl (Prod.ext ?_ rfl)))))
    simp only
    cases G
    · cases (decide ((f19 (f45 z 0).fst) > (f27 g (f26 (f46 17592186044416 r).fst).fst).fst)) <;> rfl
    · rfl
  · simp only [f31_sane h, Bool.not_true, cond_false, Bool.false_or]
theorem f3_eq (P V PP PV VV : Int) (b : Bool) (x y z : Int) : f3 P V PP PV VV b x y z = true := by
  unfold f3
  simp only [f10_eq, f14_is, f16_is, f18_is, f12_is, beq_self_eq_true, Bool.and_true]
end Go.Proofs.Ytgbbaegfcmlmiaa
