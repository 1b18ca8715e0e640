/- The laws of scale that compare wide numbers: ScaleTimes, ScaleOver. -/
import Derived.Test.YtejlbofmlaclpaaP3
namespace Go.Proofs.Ytejlbofmlaclpaa
open Go Go.Sx
theorem f89_eq (a : Int) : f89 a = false := by unfold f89; simp
theorem f73_eq (a b : Int) : f73 a b = if a < b then -1 else if b < a then 1 else 0 := by
  unfold f73
  rw [f89_eq, f89_eq, cond_false, cond_false]
  by_cases h : a < b
  · rw [decide_eq_true h, if_pos h, cond_true]
  · rw [decide_eq_false h, if_neg h, cond_false]
    by_cases h2 : b < a
    · rw [decide_eq_true (show a > b from h2), if_pos h2, cond_true]
    · rw [decide_eq_false (show ¬ a > b from h2), if_neg h2, cond_false]
theorem f32_wd {u v : Int} (h0 : -10633823966279326983230456482242756608 ≤ u) (h1 : u < 10633823966279326983230456482242756608) (h2 : -10633823966279326983230456482242756608 ≤ v) (h3 : v < 10633823966279326983230456482242756608) :
    (f32 (wd u).1 (wd u).2 (wd v).1 (wd v).2 ≤ 0 ↔ u ≤ v) ∧ (f32 (wd u).1 (wd u).2 (wd v).1 (wd v).2 < 0 ↔ u < v) := by
  unfold f32
  rw [f71_wd h0 h1, f71_wd h2 h3, f73_eq, f73_eq]
  have eu : u = (wd u).1 * 4611686018427387904 + (wd u).2 ∧ 0 ≤ (wd u).2 ∧ (wd u).2 < 4611686018427387904 := by simp only [wd]; omega
  have ev : v = (wd v).1 * 4611686018427387904 + (wd v).2 ∧ 0 ≤ (wd v).2 ∧ (wd v).2 < 4611686018427387904 := by simp only [wd]; omega
  clear h0 h1 h2 h3
  generalize (wd u).1 = a at *
  generalize (wd u).2 = b at *
  generalize (wd v).1 = c at *
  generalize (wd v).2 = d at *
  unfold orL orL orL
  by_cases c1 : a < c
  · rw [if_pos c1]
    rw [show ((-1 : Int) == 0) = false from rfl, cond_false]
    omega
  · rw [if_neg c1]
    by_cases c2 : c < a
    · rw [if_pos c2]
      rw [show ((1 : Int) == 0) = false from rfl, cond_false]
      omega
    · rw [if_neg c2]
      rw [show ((0 : Int) == 0) = true from rfl, cond_true]
      by_cases c3 : b < d
      · rw [if_pos c3]
        rw [show ((-1 : Int) == 0) = false from rfl, cond_false]
        omega
      · rw [if_neg c3]
        by_cases c4 : d < b
        · rw [if_pos c4]
          rw [show ((1 : Int) == 0) = false from rfl, cond_false]
          omega
        · rw [if_neg c4]
          rw [show ((0 : Int) == 0) = true from rfl, cond_true]
          omega
theorem f33_wd {v : Int} (h0 : -10633823966279326983230456482242756608 < v) (h1 : v < 10633823966279326983230456482242756608) : f33 (wd v).1 (wd v).2 = wd (-v) := by
  unfold f33
  rw [f71_wd (by omega) h1, f70_wd h0 h1, f71_wd (by omega) (by omega)]
theorem f31_wd (n : Int) : f31 n = wd n := f31_eq n
theorem f7_eq (a b : Int) : f7 a b = true := by
  have a1 := cl_lo a; have a2 := cl_hi a; have b1 := cl_lo b; have b2 := cl_hi b
  have e32 : cl 4294967296 = 4294967296 := by decide
  have en32 : cl (-4294967296) = -4294967296 := by decide
  have e33 : cl 8589934592 = 8589934592 := by decide
  have e0 : cl 0 = 0 := by decide
  have c1 : ((f18 a b).1 != (f18 b a).1) = false := by rw [f18_eq, f18_eq, Int.mul_comm (cl b)]; simp
  have c2 : (!(f18 a b).2 == (f18 b a).2) = false := by
    rw [f18_eq, f18_eq, Int.mul_comm (cl b), Bool.or_comm (cl b != b)]; simp
  have c3 : ((f18 a 4294967296).1 != (f25 a).1) = false := by
    rw [f18_eq, e32, f25_eq]
    have : rnd (cl a * 4294967296) = cl a := by unfold rnd; omega
    rw [this, cl_cl]; simp
  have c4 : ((f18 a (-4294967296)).1 != f27 a) = false := by
    rw [f18_eq, en32, f27_eq]
    have : rnd (cl a * -4294967296) = -cl a := by unfold rnd; omega
    rw [this, cl_neg, cl_cl]; simp
  have er : rnd (cl a * 8589934592) = cl a + cl a := by unfold rnd; omega
  have c5 : ((f18 (f25 a).1 8589934592).1 != (f28 (f25 a).1 (f25 a).1).1) = false := by
    rw [f18_eq, f28_eq, f25_eq, e33, cl_cl, er]; simp
  have c6 : (!(f18 (f25 a).1 8589934592).2 == (f28 (f25 a).1 (f25 a).1).2) = false := by
    rw [f18_eq, f28_eq, f25_eq, e33, cl_cl, er]; simp
  have c7 : ((f18 a 0).1 != 0) = false := by
    rw [f18_eq, e0, Int.mul_zero, show rnd 0 = 0 from by decide, e0]; rfl
  unfold f7
  rw [c1, c2, c3, c4, c5, c6, c7]
  simp only [Bool.or_false, cond_false]
  rw [f15_eq]
  by_cases hf : (f18 a b).2 = true
  · rw [hf, cond_true]
  · rw [Bool.not_eq_true] at hf
    rw [hf, cond_false]
    rw [f18_eq] at hf ⊢
    have ht := ne_false (flags2 hf).1
    have hr := rnd_bounds (cl a * cl b)
    have hp := prod_in _ _ a1 a2 b1 b2
    have t1 := cl_lo (rnd (cl a * cl b)); have t2 := cl_hi (rnd (cl a * cl b))
    simp only [ht]
    rw [ht] at t1 t2
    rw [f29_eq, f29_eq, e32, ht, f31_wd, f31_wd]
    generalize cl a * cl b = p at *
    generalize rnd p = t at *
    rw [f30_wd (by omega) (by omega) (by omega) (by omega) (by omega) (by omega), f30_wd (by omega) (by omega) (by omega) (by omega) (by omega) (by omega)]
    simp only [Bool.true_and, Bool.and_eq_true, decide_eq_true_eq]
    rw [(f32_wd (by omega) (by omega) (by omega) (by omega)).1, (f32_wd (by omega) (by omega) (by omega) (by omega)).2]
    omega
theorem ov_self {x : Int} (hx : x ≠ 0) : ov x x = 4294967296 := by
  unfold ov
  have : (bif decide (x < 0) then -x else x) = (x.natAbs : Int) := by
    by_cases h : x < 0
    · rw [decide_eq_true h, cond_true]; omega
    · rw [decide_eq_false h, cond_false]; omega
  rw [this]
  have hp : 0 < (x.natAbs : Int) := by omega
  generalize (x.natAbs : Int) = y at *
  refine ((Int.ediv_emod_unique (a := 2 * y * 4294967296 + y) (b := 2 * y) (r := y) (q := 4294967296) (by omega)).2 ⟨?_, by omega, by omega⟩).1
  omega
theorem ov_one (x : Int) : ov x 4294967296 = x := by
  unfold ov
  rw [decide_eq_false (by omega), cond_false]
  have : ((4294967296 : Int).natAbs : Int) = 4294967296 := rfl
  rw [this]; omega
theorem f8_eq (a b : Int) : f8 a b = true := by
  have a1 := cl_lo a; have a2 := cl_hi a; have b1 := cl_lo b; have b2 := cl_hi b
  have e32 : cl 4294967296 = 4294967296 := by decide
  have c1 : ((f20 a 4294967296).1 != (f25 a).1) = false := by
    rw [f20_eq, e32, ovr_ne (by omega) a1, ov_one, f25_eq, cl_cl]; simp
  have c2 : ((f25 a).1 != 0 && ((f20 (f25 a).1 (f25 a).1).1 != 4294967296 || (f20 (f25 a).1 (f25 a).1).2)) = false := by
    rw [f25_eq]
    by_cases h : cl a = 0
    · rw [show ((cl a, cl a != a) : Int × Bool).1 = 0 from h]; rfl
    · show (cl a != 0 && ((f20 (cl a) (cl a)).1 != 4294967296 || (f20 (cl a) (cl a)).2)) = false
      rw [f20_eq, cl_cl, ovr_ne h a1, ov_self h, e32]; simp
  have c3 : ((f25 b).1 == 0 && (!(f20 a b).2 || (f25 a).1 == 0 && (f20 a b).1 != 0 || (f25 a).1 != 0 && f24 (f20 a b).1 != 288230376151711744)) = false := by
    rw [f25_eq, f25_eq, f24_eq, f20_eq]
    show (cl b == 0 && (!(ovr (cl a) (cl b) (cl a != a || cl b != b)).2 || cl a == 0 && (ovr (cl a) (cl b) (cl a != a || cl b != b)).1 != 0 || cl a != 0 && ((cl (ovr (cl a) (cl b) (cl a != a || cl b != b)).1).natAbs : Int) != 288230376151711744)) = false
    by_cases h : cl b = 0
    · rw [h]
      unfold ovr
      by_cases hA : cl a = 0
      · rw [hA]; simp
      · have hA2 : (cl a == 0) = false := by simpa using hA
        rw [hA2]
        by_cases hn : cl a < 0
        · rw [decide_eq_true hn]
          simp only [cond_true, cond_false, beq_self_eq_true, Bool.not_true, Bool.false_and, Bool.false_or, Bool.true_and]
          have : ((cl (-288230376151711744)).natAbs : Int) = 288230376151711744 := by decide
          rw [this]; simp
        · rw [decide_eq_false hn]
          simp only [cond_true, cond_false, beq_self_eq_true, Bool.not_true, Bool.false_and, Bool.false_or, Bool.true_and]
          have : ((cl 288230376151711744).natAbs : Int) = 288230376151711744 := by decide
          rw [this]; simp
    · have : (cl b == 0) = false := by simpa using h
      rw [this]; rfl
  unfold f8
  rw [c1, c2, c3]
  simp only [Bool.or_false, cond_false]
  rw [f15_eq]
  by_cases hf : (f20 a b).2 = true
  · rw [hf, cond_true]
  · rw [Bool.not_eq_true] at hf
    rw [hf, cond_false]
    have hB : cl b ≠ 0 := by
      intro h0
      rw [f20_eq, h0] at hf
      unfold ovr at hf
      cases hz : (cl a == 0) <;> rw [hz] at hf <;> simp at hf
    have ho : (f20 a b).1 = ov (cl a) (cl b) ∧ cl (ov (cl a) (cl b)) = ov (cl a) (cl b) := by
      rw [f20_eq, ovr_ne hB a1] at hf ⊢
      have h2 := ne_false (Bool.or_eq_false_iff.1 hf).2
      exact ⟨h2, h2⟩
    rw [ho.1, f25_eq, f24_eq]
    show (_ && _ && _ && _ && _) = true
    obtain ⟨N, Y, hY, hY0, hs, o1, o2⟩ := ov_bounds (A := cl a) hB
    have ol := cl_lo (ov (cl a) (cl b)); have oh := cl_hi (ov (cl a) (cl b))
    rw [ho.2] at ol oh
    have hp := prod_in _ _ ol oh b1 b2
    rw [f29_eq, f29_eq, e32, ho.2, f31_wd]
    have eb : ((cl (cl b)).natAbs : Int) = Y := by rw [cl_cl, hY]
    simp only [eb]
    generalize ov (cl a) (cl b) = o at *
    have hd : 2 * (cl a * 4294967296 + -(o * cl b)) ≤ Y ∧ -(2 * (cl a * 4294967296 + -(o * cl b))) ≤ Y := by
      have e1 : o * (2 * Y) = 2 * (o * Y) := by rw [Int.mul_left_comm]
      have e2 : (o + 1) * (2 * Y) = 2 * (o * Y) + 2 * Y := by rw [Int.add_mul, Int.one_mul, Int.mul_left_comm]
      rcases hs with ⟨_, rfl, rfl⟩ | ⟨_, rfl, rfl⟩
      · omega
      · have := Int.mul_neg o (cl b); omega
    have hYb : Y ≤ 288230376151711744 := by omega
    clear o1 o2 hs hY eb ho hf c1 c2 c3 e32
    generalize o * cl b = p at *
    generalize cl a = x at *
    rw [f33_wd (by omega) (by omega), f30_wd (by omega) (by omega) (by omega) (by omega) (by omega) (by omega)]
    generalize x * 4294967296 + -p = d at *
    simp only []
    rw [f30_wd (by omega) (by omega) (by omega) (by omega) (by omega) (by omega)]
    simp only []
    rw [f33_wd (by omega) (by omega)]
    simp only [Bool.true_and, Bool.and_eq_true, decide_eq_true_eq]
    rw [(f32_wd (by omega) (by omega) (by omega) (by omega)).1, (f32_wd (by omega) (by omega) (by omega) (by omega)).1]
    omega
end Go.Proofs.Ytejlbofmlaclpaa
