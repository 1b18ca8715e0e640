/- The plain law QuatUnit. -/
import Derived.Test.YtoagcpfklkmolaaQ1
namespace Go.Proofs.Ytoagcpfklkmolaa
open Go Go.Sx
theorem small_chg {a : Int} (h0 : -288230376151711744 ≤ a) (h1 : a ≤ 288230376151711744) : chg a = false := by unfold chg; rw [cl_in h0 h1]; simp
theorem lt_of_sq {x y : Int} (h : x * x < y * y) (hy : 0 ≤ y) : x < y := by
  rcases Int.lt_or_le x y with h1 | h1
  · exact h1
  · have := Int.mul_le_mul h1 h1 hy (by omega)
    omega
theorem sq_nn (x : Int) : 0 ≤ x * x := by
  rcases Int.le_total 0 x with h | h
  · exact Int.mul_nonneg h h
  · exact Int.mul_nonneg_of_nonpos_of_nonpos h h
theorem sq_abs_le {x n : Int} (h0 : -n ≤ x) (h1 : x ≤ n) : x * x ≤ n * n := by
  have := Int.mul_nonneg (show 0 ≤ n - x by omega) (show 0 ≤ n + x by omega)
  have e : (n - x) * (n + x) = n * n - x * x := by grind
  omega
theorem unit_num {n a u : Int} (hn : 0 < n) (ha0 : -n ≤ a) (ha1 : a ≤ n) (l1 : u * (2 * n) ≤ 2 * a * 4294967296 + n) (l2 : 2 * a * 4294967296 + n < (u + 1) * (2 * n)) :
    -4294967296 ≤ u ∧ u ≤ 4294967296 ∧ (0 ≤ a → 0 ≤ u) ∧ (a ≤ 0 → u ≤ 0) ∧ -n ≤ 2 * (n * u) - 8589934592 * a ∧ 2 * (n * u) - 8589934592 * a ≤ n := by
  have e1 : u * (2 * n) = 2 * (n * u) := by grind
  have e2 : (u + 1) * (2 * n) = 2 * (n * u) + 2 * n := by grind
  rw [e1] at l1; rw [e2] at l2
  have up : ∀ k : Int, n * (k + 1) > n * u ∨ k < u := fun k => by
    rcases Int.lt_or_le k u with h | h
    · exact .inr h
    · have := Int.mul_le_mul_of_nonneg_left h (show 0 ≤ n by omega)
      have e : n * (k + 1) = n * k + n := by grind
      omega
  have ge : ∀ k : Int, k ≤ u → n * k ≤ n * u := fun k h => Int.mul_le_mul_of_nonneg_left h (show 0 ≤ n by omega)
  have le : ∀ k : Int, u ≤ k → n * u ≤ n * k := fun k h => Int.mul_le_mul_of_nonneg_left h (show 0 ≤ n by omega)
  refine ⟨?_, ?_, ?_, ?_, by omega, by omega⟩
  · rcases Int.lt_or_le u (-4294967296) with h | h
    · have := le (-4294967297) (by omega)
      omega
    · exact h
  · rcases Int.lt_or_le 4294967296 u with h | h
    · have := ge 4294967297 (by omega)
      omega
    · exact h
  · intro h0
    rcases Int.lt_or_le u 0 with h | h
    · have := le (-1) (by omega)
      omega
    · exact h
  · intro h0
    rcases Int.lt_or_le 0 u with h | h
    · have := ge 1 (by omega)
      omega
    · exact h
theorem unit_one {n a : Int} (hn : 16777216 ≤ n) (hn2 : n ≤ 4503599627370496) (ha0 : -n ≤ a) (ha1 : a ≤ n) :
    ∃ u, f51 a n = (u, false) ∧ -4294967296 ≤ u ∧ u ≤ 4294967296 ∧ (0 ≤ a → 0 ≤ u) ∧ (a ≤ 0 → u ≤ 0) ∧ -n ≤ 2 * (n * u) - 8589934592 * a ∧ 2 * (n * u) - 8589934592 * a ≤ n := by
  obtain ⟨N, Y, -, hY, hc, l1, l2⟩ := ov_bounds (A := a) (B := n) (by omega)
  rw [show N = a by omega, show Y = n by omega] at l1 l2
  have h := unit_num (u := ov a n) (by omega) ha0 ha1 l1 l2
  refine ⟨ov a n, ?_, h⟩
  rw [f51_eq, cl_in (n := a) (by omega) (by omega), cl_in (n := n) (by omega) (by omega), ovr_ne (by omega) (by omega), cl_in (n := ov a n) (by omega) (by omega)]
  simp
theorem ab_le {a e n : Int} (ha0 : -n ≤ a) (ha1 : a ≤ n) (he0 : -n ≤ e) (he1 : e ≤ n) : -(n * n) ≤ a * e ∧ a * e ≤ n * n := by
  have h1 := sq_nn (a - e); have h2 := sq_nn (a + e)
  have h3 := sq_abs_le ha0 ha1; have h4 := sq_abs_le he0 he1
  have e1 : (a - e) * (a - e) = a * a + e * e - 2 * (a * e) := by grind
  have e2 : (a + e) * (a + e) = a * a + e * e + 2 * (a * e) := by grind
  omega
theorem unit_sq {n a u : Int} (h0 : -n ≤ 2 * (n * u) - 8589934592 * a) (h1 : 2 * (n * u) - 8589934592 * a ≤ n) (ha0 : -n ≤ a) (ha1 : a ≤ n) :
    73786976294838206464 * (a * a) - 17179869184 * (n * n) ≤ 4 * (n * n * (u * u)) ∧ 4 * (n * n * (u * u)) ≤ 73786976294838206464 * (a * a) + 17179869185 * (n * n) := by
  obtain ⟨p1, p2⟩ := ab_le ha0 ha1 h0 h1
  have p3 := sq_abs_le h0 h1
  have p4 := sq_nn (2 * (n * u) - 8589934592 * a)
  generalize he : 2 * (n * u) - 8589934592 * a = e at *
  have e1 : 4 * (n * n * (u * u)) = 73786976294838206464 * (a * a) + 17179869184 * (a * e) + e * e := by
    have : 2 * (n * u) = 8589934592 * a + e := by omega
    have e2 : 4 * (n * n * (u * u)) = (2 * (n * u)) * (2 * (n * u)) := by grind
    rw [e2, this]; grind
  omega
theorem f5_eq (a0 a1 a2 a3 : Int) : f5 a0 a1 a2 a3 = true := by
  unfold f5
  obtain ⟨n, c, e1, n0, n1, n2, n3, n4⟩ := f17_eq a0 a1 a2 a3
  simp only [f14_eq, e1]
  cases g0 : (c || (chg a0 || (chg a1 || (chg a2 || chg a3))) || decide (n < 16777216) || decide (n > 4503599627370496))
  case true => rfl
  simp only [Bool.or_eq_false_iff, decide_eq_false_iff_not] at g0
  obtain ⟨⟨⟨hc, k0, k1, k2, k3⟩, g1⟩, g2⟩ := g0
  subst hc
  obtain ⟨n3, -⟩ := n3 (by omega)
  have c0 := ne_false k0; have c1 := ne_false k1; have c2 := ne_false k2; have c3 := ne_false k3
  have s1 : sq4 a0 a1 a2 a3 = a0 * a0 + a1 * a1 + a2 * a2 + a3 * a3 := by unfold sq4; rw [c0, c1, c2, c3]
  rw [s1] at n2 n3
  have q0 := sq_nn a0; have q1 := sq_nn a1; have q2 := sq_nn a2; have q3 := sq_nn a3
  have lim : ∀ a : Int, a * a < (n + 1) * (n + 1) → -n ≤ a ∧ a ≤ n := fun a h => by
    have h1 := lt_of_sq h (by omega)
    have h2 : -a < n + 1 := lt_of_sq (by rw [Int.neg_mul_neg]; exact h) (by omega)
    omega
  obtain ⟨l0, r0⟩ := lim a0 (by omega)
  obtain ⟨l1, r1⟩ := lim a1 (by omega)
  obtain ⟨l2, r2⟩ := lim a2 (by omega)
  obtain ⟨l3, r3⟩ := lim a3 (by omega)
  obtain ⟨u0, d0, a00, b00, sp0, sn0, x0, y0⟩ := unit_one (a := a0) (n := n) (by omega) (by omega) l0 r0
  obtain ⟨u1, d1, a01, b01, sp1, sn1, x1, y1⟩ := unit_one (a := a1) (n := n) (by omega) (by omega) l1 r1
  obtain ⟨u2, d2, a02, b02, sp2, sn2, x2, y2⟩ := unit_one (a := a2) (n := n) (by omega) (by omega) l2 r2
  obtain ⟨u3, d3, a03, b03, sp3, sn3, x3, y3⟩ := unit_one (a := a3) (n := n) (by omega) (by omega) l3 r3
  have hf : f19 a0 a1 a2 a3 = (u0, u1, u2, u3, false) := by
    unfold f19
    simp only [e1, d0, d1, d2, d3, k0, k1, k2, k3]
    rw [show (n == 0) = false by simp; omega]; rfl
  obtain ⟨m, c', e2, m0, m1, m2, m3, -⟩ := f17_eq u0 u1 u2 u3
  have j0 : chg u0 = false := small_chg (by omega) (by omega)
  have j1 : chg u1 = false := small_chg (by omega) (by omega)
  have j2 : chg u2 = false := small_chg (by omega) (by omega)
  have j3 : chg u3 = false := small_chg (by omega) (by omega)
  have s2 : sq4 u0 u1 u2 u3 = u0 * u0 + u1 * u1 + u2 * u2 + u3 * u3 := by
    unfold sq4; rw [ne_false j0, ne_false j1, ne_false j2, ne_false j3]
  rw [s2] at m2 m3
  have v0 := sq_abs_le (x := u0) (n := 4294967296) (by omega) (by omega)
  have v1 := sq_abs_le (x := u1) (n := 4294967296) (by omega) (by omega)
  have v2 := sq_abs_le (x := u2) (n := 4294967296) (by omega) (by omega)
  have v3 := sq_abs_le (x := u3) (n := 4294967296) (by omega) (by omega)
  have ml : m < 17179869184 := lt_of_sq (by omega) (by omega)
  obtain ⟨m3, rfl⟩ := m3 (by omega)
  obtain ⟨t0, t0'⟩ := unit_sq x0 y0 l0 r0
  obtain ⟨t1, t1'⟩ := unit_sq x1 y1 l1 r1
  obtain ⟨t2, t2'⟩ := unit_sq x2 y2 l2 r2
  obtain ⟨t3, t3'⟩ := unit_sq x3 y3 l3 r3
  have nn : 0 < n * n := Int.mul_pos (by omega) (by omega)
  have nb := Int.mul_le_mul_of_nonneg_right (show (16777216 : Int) ≤ n by omega) (show 0 ≤ n by omega)
  have n5 : (n + 1) * (n + 1) = n * n + 2 * n + 1 := by grind
  rw [n5] at n3
  have eU : n * n * (4 * (u0 * u0 + u1 * u1 + u2 * u2 + u3 * u3)) = 4 * (n * n * (u0 * u0)) + 4 * (n * n * (u1 * u1)) + 4 * (n * n * (u2 * u2)) + 4 * (n * n * (u3 * u3)) := by grind
  have hU : 4 * (u0 * u0 + u1 * u1 + u2 * u2 + u3 * u3) ≤ 73786976294838206464 + 8796093022208 + 68719476740 := by
    refine Int.le_of_mul_le_mul_left (a := n * n) ?_ nn
    rw [eU]; omega
  have hL : 73786976294838206464 - 68719476736 ≤ 4 * (u0 * u0 + u1 * u1 + u2 * u2 + u3 * u3) := by
    refine Int.le_of_mul_le_mul_left (a := n * n) ?_ nn
    rw [eU]; omega
  have z1 : m < 4294971393 := lt_of_sq (by omega) (by omega)
  have z2 : 4294963200 < m + 1 := lt_of_sq (by omega) (by omega)
  rw [hf]
  simp only [e2, j0, j1, j2, j3]
  simp
  omega
end Go.Proofs.Ytoagcpfklkmolaa
