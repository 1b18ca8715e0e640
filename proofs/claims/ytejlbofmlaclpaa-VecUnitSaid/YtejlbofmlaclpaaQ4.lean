/- The plain laws VecTwo, VecDots. -/
import Derived.Test.YtejlbofmlaclpaaQ3
namespace Go.Proofs.Ytejlbofmlaclpaa
open Go Go.Sx
theorem lt_of_sq {x y : Int} (h : x * x < y * y) (hy : 0 ≤ y) : x < y := by
  rcases Int.lt_or_le x y with h1 | h1
  · exact h1
  · have := Int.mul_le_mul h1 h1 hy (by omega)
    omega
theorem sq_nn (x : Int) : 0 ≤ x * x := by
  rcases Int.le_total 0 x with h | h
  · exact Int.mul_nonneg h h
  · exact Int.mul_nonneg_of_nonpos_of_nonpos h h
theorem sq_abs_le {x n : Int} (h0 : -n ≤ x) (h1 : x ≤ n) : x * x ≤ n * n := by
  have := Int.mul_nonneg (show 0 ≤ n - x by omega) (show 0 ≤ n + x by omega)
  have e : (n - x) * (n + x) = n * n - x * x := by grind
  omega
theorem f18_two {a : Int} (h0 : -17592186044416 ≤ a) (h1 : a ≤ 17592186044416) : f18 a 8589934592 = (2 * a, false) := by
  rw [f18_eq, cl_in (n := 8589934592) (by omega) (by omega), cl_in (n := a) (by omega) (by omega)]
  rw [show rnd (a * 8589934592) = 2 * a by unfold rnd; omega, cl_in (by omega) (by omega)]; simp
theorem f28_two {a : Int} (h0 : -17592186044416 ≤ a) (h1 : a ≤ 17592186044416) : f28 a a = (2 * a, false) := by
  rw [f28_eq, cl_in (n := a) (by omega) (by omega), cl_in (by omega) (by omega), show a + a = 2 * a by omega]; simp
theorem f11_eq (a0 a1 a2 : Int) : f11 a0 a1 a2 = true := by
  unfold f11
  simp only [f34_eq]
  cases g0 : (decide (a0 > 17592186044416) || decide (a0 < -17592186044416))
  case true => rfl
  cases g1 : (decide (a1 > 17592186044416) || decide (a1 < -17592186044416))
  case true => rfl
  cases g2 : (decide (a2 > 17592186044416) || decide (a2 < -17592186044416))
  case true => rfl
  simp only [Bool.or_eq_false_iff, decide_eq_false_iff_not] at g0 g1 g2
  simp only [f38, f39_eq, f18_two (a := a0) (by omega) (by omega), f18_two (a := a1) (by omega) (by omega), f18_two (a := a2) (by omega) (by omega),
    f28_two (a := a0) (by omega) (by omega), f28_two (a := a1) (by omega) (by omega), f28_two (a := a2) (by omega) (by omega)]
  obtain ⟨n, c, e1, n0, n1, n2, n3, -⟩ := f35_eq a0 a1 a2
  obtain ⟨m, c', e2, m0, m1, m2, m3, -⟩ := f35_eq (2 * a0) (2 * a1) (2 * a2)
  have k0 : chg a0 = false := small_chg (by omega) (by omega)
  have k1 : chg a1 = false := small_chg (by omega) (by omega)
  have k2 : chg a2 = false := small_chg (by omega) (by omega)
  have j0 : chg (2 * a0) = false := small_chg (by omega) (by omega)
  have j1 : chg (2 * a1) = false := small_chg (by omega) (by omega)
  have j2 : chg (2 * a2) = false := small_chg (by omega) (by omega)
  have s1 : sq3 a0 a1 a2 = a0 * a0 + a1 * a1 + a2 * a2 := by
    unfold sq3; rw [cl_in (n := a0) (by omega) (by omega), cl_in (n := a1) (by omega) (by omega), cl_in (n := a2) (by omega) (by omega)]
  have s2 : sq3 (2 * a0) (2 * a1) (2 * a2) = 4 * (a0 * a0 + a1 * a1 + a2 * a2) := by
    unfold sq3; rw [cl_in (n := 2 * a0) (by omega) (by omega), cl_in (n := 2 * a1) (by omega) (by omega), cl_in (n := 2 * a2) (by omega) (by omega)]; grind
  rw [s1] at n2 n3; rw [s2] at m2 m3
  have q0 := sq_abs_le (x := a0) (n := 17592186044416) (by omega) (by omega)
  have q1 := sq_abs_le (x := a1) (n := 17592186044416) (by omega) (by omega)
  have q2 := sq_abs_le (x := a2) (n := 17592186044416) (by omega) (by omega)
  have nl : n < 70368744177664 := lt_of_sq (by omega) (by omega)
  have ml : m < 70368744177664 := lt_of_sq (by omega) (by omega)
  obtain ⟨n3, rfl⟩ := n3 (by omega)
  obtain ⟨m3, rfl⟩ := m3 (by omega)
  rw [e1, e2]
  have b1 : 2 * n < m + 1 := lt_of_sq (by have : 2 * n * (2 * n) = 4 * (n * n) := by grind
                                          omega) (by omega)
  have b2 : m < 2 * (n + 1) := lt_of_sq (by have : 2 * (n + 1) * (2 * (n + 1)) = 4 * ((n + 1) * (n + 1)) := by grind
                                            omega) (by omega)
  simp only [k0, k1, k2, j0, j1, j2, wS (n := 2 * n) (by omega) (by omega), wS (n := 2 * n + 1) (by omega) (by omega)]
  simp
  omega
theorem rsum_lim (s : Int) : -288230376151711744 ≤ (rsum s).1 ∧ (rsum s).1 ≤ 288230376151711744 := ⟨cl_lo _, cl_hi _⟩
theorem rsum_lin {u v : Int} (h : (rsum (u + v)).2 = false) (hu : (rsum u).2 = false) (hv : (rsum v).2 = false) :
    -1 ≤ (rsum (u + v)).1 - (rsum u).1 - (rsum v).1 ∧ (rsum (u + v)).1 - (rsum u).1 - (rsum v).1 ≤ 1 := by
  have e := ne_false h; have e1 := ne_false hu; have e2 := ne_false hv
  simp only [rsum, e, e1, e2]
  unfold rnd; omega
theorem f28_flag {a b : Int} (h : (f28 a b).2 = false) : (f28 a b).1 = a + b ∧ cl a = a ∧ cl b = b ∧ cl (a + b) = a + b := by
  rw [f28_eq] at h ⊢
  simp only [Bool.or_eq_false_iff] at h
  obtain ⟨⟨h1, h2⟩, h3⟩ := h
  have e1 := ne_false h1; have e2 := ne_false h2; have e3 := ne_false h3
  rw [e2, e3] at e1
  simp only
  rw [e2, e3, e1]; exact ⟨rfl, rfl, rfl, rfl⟩
theorem dot3_lin {a0 a1 a2 b0 b1 b2 c0 c1 c2 : Int} (h0 : (f28 a0 b0).2 = false) (h1 : (f28 a1 b1).2 = false) (h2 : (f28 a2 b2).2 = false) :
    dot3 (f28 a0 b0).1 (f28 a1 b1).1 (f28 a2 b2).1 c0 c1 c2 = dot3 a0 a1 a2 c0 c1 c2 + dot3 b0 b1 b2 c0 c1 c2 := by
  obtain ⟨r1, r2, r3, r4⟩ := f28_flag h0
  obtain ⟨s1, s2, s3, s4⟩ := f28_flag h1
  obtain ⟨t1, t2, t3, t4⟩ := f28_flag h2
  unfold dot3
  rw [r1, s1, t1, r2, r3, r4, s2, s3, s4, t2, t3, t4, Int.add_mul, Int.add_mul, Int.add_mul]
  omega
theorem crs_lin {a1 a2 b1 b2 c1 c2 : Int} (h1 : (f28 a1 b1).2 = false) (h2 : (f28 a2 b2).2 = false) :
    crs (f28 a1 b1).1 c2 (f28 a2 b2).1 c1 = crs a1 c2 a2 c1 + crs b1 c2 b2 c1 := by
  obtain ⟨s1, s2, s3, s4⟩ := f28_flag h1
  obtain ⟨t1, t2, t3, t4⟩ := f28_flag h2
  unfold crs
  rw [s1, t1, s2, s3, s4, t2, t3, t4, Int.add_mul, Int.add_mul]
  omega
theorem wrap_one {p q r : Int} (hp : -288230376151711744 ≤ p ∧ p ≤ 288230376151711744) (hq : -288230376151711744 ≤ q ∧ q ≤ 288230376151711744) (h : -1 ≤ p - q - r ∧ p - q - r ≤ 1) :
    (!(decide (IntKind.i64.wrap (IntKind.i64.wrap (p - q) - r) > 1) || decide (IntKind.i64.wrap (IntKind.i64.wrap (p - q) - r) < -1))) = true := by
  rw [wS (n := p - q) (by omega) (by omega), wS (by omega) (by omega)]
  simp; omega
set_option maxRecDepth 10000 in
theorem f12_eq (a0 a1 a2 b0 b1 b2 c0 c1 c2 : Int) : f12 a0 a1 a2 b0 b1 b2 c0 c1 c2 = true := by
  unfold f12
  simp only [f34_eq, f39_eq]
  cases hf : ((f28 a0 b0).2 || (f28 a1 b1).2 || (f28 a2 b2).2)
  case true => simp
  simp only [Bool.or_eq_false_iff] at hf
  obtain ⟨⟨h0, h1⟩, h2⟩ := hf
  rw [Bool.and_eq_true]
  constructor
  · simp only [f40_eq, dot3_lin h0 h1 h2]
    generalize dot3 a0 a1 a2 c0 c1 c2 = u
    generalize dot3 b0 b1 b2 c0 c1 c2 = v
    cases k0 : (rsum (u + v)).2 <;> (try simp)
    cases k1 : (rsum u).2 <;> (try simp)
    cases k2 : (rsum v).2 <;> (try simp)
    cases k3 : (f28 (rsum u).1 (rsum v).1).2
    case true => simp
    right
    have l := rsum_lin k0 k1 k2
    obtain ⟨r1, -⟩ := f28_flag k3
    have x1 := rsum_lim u; have x2 := rsum_lim v; have x3 := rsum_lim (u + v)
    rw [r1, wS (by omega) (by omega), wS (by omega) (by omega)]
    omega
  · simp only [f37_eq, crs_lin h1 h2, crs_lin h2 h0, crs_lin h0 h1]
    generalize crs a1 c2 a2 c1 = u0
    generalize crs b1 c2 b2 c1 = v0
    generalize crs a2 c0 a0 c2 = u1
    generalize crs b2 c0 b0 c2 = v1
    generalize crs a0 c1 a1 c0 = u2
    generalize crs b0 c1 b1 c0 = v2
    cases k0 : (rsum (u0 + v0)).2
    case true => simp
    cases k1 : (rsum (u1 + v1)).2
    case true => simp
    cases k2 : (rsum (u2 + v2)).2
    case true => simp
    cases k3 : (rsum u0).2
    case true => simp
    cases k4 : (rsum u1).2
    case true => simp
    cases k5 : (rsum u2).2
    case true => simp
    cases k6 : (rsum v0).2
    case true => simp
    cases k7 : (rsum v1).2
    case true => simp
    cases k8 : (rsum v2).2
    case true => simp
    rw [wrap_one (rsum_lim _) (rsum_lim _) (rsum_lin k0 k3 k6), wrap_one (rsum_lim _) (rsum_lim _) (rsum_lin k1 k4 k7), wrap_one (rsum_lim _) (rsum_lim _) (rsum_lin k2 k5 k8)]
    simp
end Go.Proofs.Ytejlbofmlaclpaa
