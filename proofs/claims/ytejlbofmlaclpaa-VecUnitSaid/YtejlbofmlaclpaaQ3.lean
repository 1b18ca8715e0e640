/- The plain laws VecTurn, VecCross. -/
import Derived.Test.YtejlbofmlaclpaaQ2
import Derived.Test.YtejlbofmlaclpaaGf
namespace Go.Proofs.Ytejlbofmlaclpaa
open Go Go.Sx
theorem f28_comm (a b : Int) : f28 a b = f28 b a := by
  rw [f28_eq, f28_eq, Int.add_comm (cl b), Bool.or_assoc, Bool.or_assoc, Bool.or_comm (cl a != a)]
theorem dot3_comm (a0 a1 a2 b0 b1 b2 : Int) : dot3 a0 a1 a2 b0 b1 b2 = dot3 b0 b1 b2 a0 a1 a2 := by
  unfold dot3; rw [Int.mul_comm (cl a0), Int.mul_comm (cl a1), Int.mul_comm (cl a2)]
theorem rnd_one (x : Int) : rnd (x * 4294967296) = x := by unfold rnd; omega
theorem f18_one (a : Int) : (f18 a 4294967296).1 = cl a := by
  rw [f18_eq, cl_in (n := 4294967296) (by omega) (by omega), rnd_one]; exact cl_cl a
theorem f28_zero (a : Int) : (f28 a 0).1 = cl a := by
  rw [f28_eq, cl_in (n := 0) (by omega) (by omega), Int.add_zero]; exact cl_cl a
/-- what is added is taken back -/
theorem back_one {a b : Int} (h : (f28 a b).2 = false) : (f64 (f28 a b).1 b) = (a, false) := by
  rw [f28_eq] at h ⊢
  simp only [Bool.or_eq_false_iff] at h
  obtain ⟨⟨h1, h2⟩, h3⟩ := h
  have e1 := ne_false h1; have e2 := ne_false h2; have e3 := ne_false h3
  rw [f64_eq]
  simp only
  rw [cl_cl, e1, e2, e3, show a + b - b = a by omega, e2]
  simp
theorem f14_eq (a0 a1 a2 b0 b1 b2 : Int) : f14 a0 a1 a2 b0 b1 b2 = true := by
  unfold f14
  simp only [f34_eq, f39_eq, f40_eq, f38, f42, f18_one, f28_zero]
  rw [f28_comm b0 a0, f28_comm b1 a1, f28_comm b2 a2, dot3_comm b0 b1 b2]
  have hx : ∀ x y z w : Bool, (x || y || z) = (x || z || y) := fun x y z _ => by cases x <;> cases y <;> cases z <;> rfl
  rw [hx (rsum (dot3 a0 a1 a2 b0 b1 b2)).snd (chg b0 || (chg b1 || chg b2)) (chg a0 || (chg a1 || chg a2)) true]
  simp only [beq_self_eq_true, Bool.true_and, Bool.and_true]
  cases h0 : (f28 a0 b0).2
  · cases h1 : (f28 a1 b1).2
    · cases h2 : (f28 a2 b2).2
      · rw [back_one h0, back_one h1, back_one h2]; simp
      · simp
    · simp
  · simp
theorem crs_self (a b : Int) : crs a b b a = 0 := by unfold crs; rw [Int.mul_comm]; omega
theorem crs_swap (a b c d : Int) : crs c d a b = - crs a b c d := by unfold crs; omega
/-- two rounded numbers, one the other way round, take each other away, but for one -/
theorem rsum_swap {s : Int} (h : (rsum s).2 = false) (h' : (rsum (-s)).2 = false) : -1 ≤ (f28 (rsum s).1 (rsum (-s)).1).1 ∧ (f28 (rsum s).1 (rsum (-s)).1).1 ≤ 1 := by
  have e1 := ne_false h; have e2 := ne_false h'
  simp only [rsum, e1, e2]
  rw [f28_eq]
  simp only
  rw [e1, e2]
  have := cl_def (rnd s + rnd (-s))
  unfold rnd at *
  omega
theorem small_chg {a : Int} (h0 : -288230376151711744 ≤ a) (h1 : a ≤ 288230376151711744) : chg a = false := by unfold chg; rw [cl_in h0 h1]; simp
theorem rsum_zero : rsum 0 = (0, false) := by decide
theorem f10_eq (a0 a1 a2 b0 b1 b2 : Int) : f10 a0 a1 a2 b0 b1 b2 = true := by
  unfold f10
  simp only [f34_eq]
  cases g0 : (decide (a0 > 281474976710656) || decide (a0 < -281474976710656) || decide (b0 > 281474976710656) || decide (b0 < -281474976710656))
  case true => rfl
  cases g1 : (decide (a1 > 281474976710656) || decide (a1 < -281474976710656) || decide (b1 > 281474976710656) || decide (b1 < -281474976710656))
  case true => rfl
  cases g2 : (decide (a2 > 281474976710656) || decide (a2 < -281474976710656) || decide (b2 > 281474976710656) || decide (b2 < -281474976710656))
  case true => rfl
  simp only [Bool.or_eq_false_iff, decide_eq_false_iff_not] at g0 g1 g2
  have k0 : chg a0 = false := small_chg (by omega) (by omega)
  have k1 : chg a1 = false := small_chg (by omega) (by omega)
  have k2 : chg a2 = false := small_chg (by omega) (by omega)
  have m0 : chg b0 = false := small_chg (by omega) (by omega)
  have m1 : chg b1 = false := small_chg (by omega) (by omega)
  have m2 : chg b2 = false := small_chg (by omega) (by omega)
  have hz : f37 a0 a1 a2 a0 a1 a2 = (0, 0, 0, false) := by
    rw [f37_eq]; simp only [crs_self, rsum_zero, k0, k1, k2]; rfl
  rw [hz, f37_eq a0 a1 a2 b0 b1 b2, f37_eq b0 b1 b2 a0 a1 a2]
  simp only [k0, k1, k2, m0, m1, m2, Bool.or_false, Bool.false_or, cond_false]
  rw [show crs b1 a2 b2 a1 = - crs a1 b2 a2 b1 by unfold crs; rw [Int.mul_comm (cl b1), Int.mul_comm (cl b2)]; omega,
    show crs b2 a0 b0 a2 = - crs a2 b0 a0 b2 by unfold crs; rw [Int.mul_comm (cl b2), Int.mul_comm (cl b0)]; omega,
    show crs b0 a1 b1 a0 = - crs a0 b1 a1 b0 by unfold crs; rw [Int.mul_comm (cl b0), Int.mul_comm (cl b1)]; omega]
  generalize crs a1 b2 a2 b1 = s0
  generalize crs a2 b0 a0 b2 = s1
  generalize crs a0 b1 a1 b0 = s2
  cases hf : ((rsum s0).2 || (rsum s1).2 || (rsum s2).2 || ((rsum (-s0)).2 || (rsum (-s1)).2 || (rsum (-s2)).2))
  · simp only [Bool.or_eq_false_iff] at hf
    obtain ⟨⟨⟨f0, f1⟩, f2⟩, ⟨f3, f4⟩, f5⟩ := hf
    have r0 := rsum_swap f0 f3
    have r1 := rsum_swap f1 f4
    have r2 := rsum_swap f2 f5
    simp [f0, f1, f2, f3, f4, f5]
    omega
  · simp
end Go.Proofs.Ytejlbofmlaclpaa
