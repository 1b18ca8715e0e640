/- The plain law QuatBack: what is turned as a sum of products; there and back. -/
import Derived.Test.YtmnglkcodbecbaaGreatQ6
namespace Go.Proofs.YtmnglkcodbecbaaGreat
open Go Go.Sx
def ro1 (u0 u1 u2 u3 v1 v2 v3 : Int) : Int := (u0 * u0 + u1 * u1 - u2 * u2 - u3 * u3) * v1 + 2 * (u1 * u2 - u0 * u3) * v2 + 2 * (u1 * u3 + u0 * u2) * v3
def ro2 (u0 u1 u2 u3 v1 v2 v3 : Int) : Int := 2 * (u1 * u2 + u0 * u3) * v1 + (u0 * u0 - u1 * u1 + u2 * u2 - u3 * u3) * v2 + 2 * (u2 * u3 - u0 * u1) * v3
def ro3 (u0 u1 u2 u3 v1 v2 v3 : Int) : Int := 2 * (u1 * u3 - u0 * u2) * v1 + 2 * (u2 * u3 + u0 * u1) * v2 + (u0 * u0 - u1 * u1 - u2 * u2 + u3 * u3) * v3
def sq (u0 u1 u2 u3 : Int) : Int := u0 * u0 + u1 * u1 + u2 * u2 + u3 * u3
theorem ro_m1 (u0 u1 u2 u3 v1 v2 v3 : Int) : m1 (m0 u0 u1 u2 u3 0 v1 v2 v3) (m1 u0 u1 u2 u3 0 v1 v2 v3) (m2 u0 u1 u2 u3 0 v1 v2 v3) (m3 u0 u1 u2 u3 0 v1 v2 v3) u0 (-u1) (-u2) (-u3) = ro1 u0 u1 u2 u3 v1 v2 v3 := by
  unfold m0 m1 m2 m3 ro1; grind
theorem ro_m2 (u0 u1 u2 u3 v1 v2 v3 : Int) : m2 (m0 u0 u1 u2 u3 0 v1 v2 v3) (m1 u0 u1 u2 u3 0 v1 v2 v3) (m2 u0 u1 u2 u3 0 v1 v2 v3) (m3 u0 u1 u2 u3 0 v1 v2 v3) u0 (-u1) (-u2) (-u3) = ro2 u0 u1 u2 u3 v1 v2 v3 := by
  unfold m0 m1 m2 m3 ro2; grind
theorem ro_m3 (u0 u1 u2 u3 v1 v2 v3 : Int) : m3 (m0 u0 u1 u2 u3 0 v1 v2 v3) (m1 u0 u1 u2 u3 0 v1 v2 v3) (m2 u0 u1 u2 u3 0 v1 v2 v3) (m3 u0 u1 u2 u3 0 v1 v2 v3) u0 (-u1) (-u2) (-u3) = ro3 u0 u1 u2 u3 v1 v2 v3 := by
  unfold m0 m1 m2 m3 ro3; grind
theorem ro_back1 (u0 u1 u2 u3 v1 v2 v3 : Int) : ro1 u0 (-u1) (-u2) (-u3) (ro1 u0 u1 u2 u3 v1 v2 v3) (ro2 u0 u1 u2 u3 v1 v2 v3) (ro3 u0 u1 u2 u3 v1 v2 v3) = sq u0 u1 u2 u3 * sq u0 u1 u2 u3 * v1 := by
  unfold ro1 ro2 ro3 sq; grind
theorem ro_back2 (u0 u1 u2 u3 v1 v2 v3 : Int) : ro2 u0 (-u1) (-u2) (-u3) (ro1 u0 u1 u2 u3 v1 v2 v3) (ro2 u0 u1 u2 u3 v1 v2 v3) (ro3 u0 u1 u2 u3 v1 v2 v3) = sq u0 u1 u2 u3 * sq u0 u1 u2 u3 * v2 := by
  unfold ro1 ro2 ro3 sq; grind
theorem ro_back3 (u0 u1 u2 u3 v1 v2 v3 : Int) : ro3 u0 (-u1) (-u2) (-u3) (ro1 u0 u1 u2 u3 v1 v2 v3) (ro2 u0 u1 u2 u3 v1 v2 v3) (ro3 u0 u1 u2 u3 v1 v2 v3) = sq u0 u1 u2 u3 * sq u0 u1 u2 u3 * v3 := by
  unfold ro1 ro2 ro3 sq; grind
theorem ro_norm (u0 u1 u2 u3 v1 v2 v3 : Int) : ro1 u0 u1 u2 u3 v1 v2 v3 * ro1 u0 u1 u2 u3 v1 v2 v3 + ro2 u0 u1 u2 u3 v1 v2 v3 * ro2 u0 u1 u2 u3 v1 v2 v3 + ro3 u0 u1 u2 u3 v1 v2 v3 * ro3 u0 u1 u2 u3 v1 v2 v3 = sq u0 u1 u2 u3 * sq u0 u1 u2 u3 * (v1 * v1 + v2 * v2 + v3 * v3) := by
  unfold ro1 ro2 ro3 sq; grind
theorem ro_lin1 (u0 u1 u2 u3 v1 v2 v3 w1 w2 w3 : Int) : ro1 u0 u1 u2 u3 (v1 + w1) (v2 + w2) (v3 + w3) = ro1 u0 u1 u2 u3 v1 v2 v3 + ro1 u0 u1 u2 u3 w1 w2 w3 := by unfold ro1; grind
theorem ro_lin2 (u0 u1 u2 u3 v1 v2 v3 w1 w2 w3 : Int) : ro2 u0 u1 u2 u3 (v1 + w1) (v2 + w2) (v3 + w3) = ro2 u0 u1 u2 u3 v1 v2 v3 + ro2 u0 u1 u2 u3 w1 w2 w3 := by unfold ro2; grind
theorem ro_lin3 (u0 u1 u2 u3 v1 v2 v3 w1 w2 w3 : Int) : ro3 u0 u1 u2 u3 (v1 + w1) (v2 + w2) (v3 + w3) = ro3 u0 u1 u2 u3 v1 v2 v3 + ro3 u0 u1 u2 u3 w1 w2 w3 := by unfold ro3; grind
theorem ro_smul1 (u0 u1 u2 u3 v1 v2 v3 k : Int) : ro1 u0 u1 u2 u3 (v1 * k) (v2 * k) (v3 * k) = ro1 u0 u1 u2 u3 v1 v2 v3 * k := by unfold ro1; grind
theorem ro_smul2 (u0 u1 u2 u3 v1 v2 v3 k : Int) : ro2 u0 u1 u2 u3 (v1 * k) (v2 * k) (v3 * k) = ro2 u0 u1 u2 u3 v1 v2 v3 * k := by unfold ro2; grind
theorem ro_smul3 (u0 u1 u2 u3 v1 v2 v3 k : Int) : ro3 u0 u1 u2 u3 (v1 * k) (v2 * k) (v3 * k) = ro3 u0 u1 u2 u3 v1 v2 v3 * k := by unfold ro3; grind
theorem two_le (a b : Int) : -(a * a + b * b) ≤ 2 * (a * b) ∧ 2 * (a * b) ≤ a * a + b * b := by
  have h1 := sq_nn (a - b); have h2 := sq_nn (a + b)
  have e1 : (a - b) * (a - b) = a * a + b * b - 2 * (a * b) := by grind
  have e2 : (a + b) * (a + b) = a * a + b * b + 2 * (a * b) := by grind
  omega
/-- the table's numbers are within the squares' sum -/
theorem ro_coef (u0 u1 u2 u3 : Int) : (-sq u0 u1 u2 u3 ≤ u0 * u0 + u1 * u1 - u2 * u2 - u3 * u3 ∧ u0 * u0 + u1 * u1 - u2 * u2 - u3 * u3 ≤ sq u0 u1 u2 u3) ∧ (-sq u0 u1 u2 u3 ≤ u0 * u0 - u1 * u1 + u2 * u2 - u3 * u3 ∧ u0 * u0 - u1 * u1 + u2 * u2 - u3 * u3 ≤ sq u0 u1 u2 u3) ∧
    (-sq u0 u1 u2 u3 ≤ u0 * u0 - u1 * u1 - u2 * u2 + u3 * u3 ∧ u0 * u0 - u1 * u1 - u2 * u2 + u3 * u3 ≤ sq u0 u1 u2 u3) ∧
    (-sq u0 u1 u2 u3 ≤ 2 * (u1 * u2 - u0 * u3) ∧ 2 * (u1 * u2 - u0 * u3) ≤ sq u0 u1 u2 u3) ∧ (-sq u0 u1 u2 u3 ≤ 2 * (u1 * u2 + u0 * u3) ∧ 2 * (u1 * u2 + u0 * u3) ≤ sq u0 u1 u2 u3) ∧
    (-sq u0 u1 u2 u3 ≤ 2 * (u1 * u3 + u0 * u2) ∧ 2 * (u1 * u3 + u0 * u2) ≤ sq u0 u1 u2 u3) ∧ (-sq u0 u1 u2 u3 ≤ 2 * (u1 * u3 - u0 * u2) ∧ 2 * (u1 * u3 - u0 * u2) ≤ sq u0 u1 u2 u3) ∧
    (-sq u0 u1 u2 u3 ≤ 2 * (u2 * u3 - u0 * u1) ∧ 2 * (u2 * u3 - u0 * u1) ≤ sq u0 u1 u2 u3) ∧ (-sq u0 u1 u2 u3 ≤ 2 * (u2 * u3 + u0 * u1) ∧ 2 * (u2 * u3 + u0 * u1) ≤ sq u0 u1 u2 u3) := by
  have q0 := sq_nn u0; have q1 := sq_nn u1; have q2 := sq_nn u2; have q3 := sq_nn u3
  have t12 := two_le u1 u2; have t03 := two_le u0 u3; have t13 := two_le u1 u3; have t02 := two_le u0 u2; have t23 := two_le u2 u3; have t01 := two_le u0 u1
  unfold sq
  refine ⟨⟨?_, ?_⟩, ⟨?_, ?_⟩, ⟨?_, ?_⟩, ⟨?_, ?_⟩, ⟨?_, ?_⟩, ⟨?_, ?_⟩, ⟨?_, ?_⟩, ⟨?_, ?_⟩, ⟨?_, ?_⟩⟩ <;> omega
theorem sq_neg (u0 u1 u2 u3 : Int) : sq u0 (-u1) (-u2) (-u3) = sq u0 u1 u2 u3 := by unfold sq; grind
theorem ro_le {u0 u1 u2 u3 e1 e2 e3 k : Int} (l1 : -k ≤ e1) (r1 : e1 ≤ k) (l2 : -k ≤ e2) (r2 : e2 ≤ k) (l3 : -k ≤ e3) (r3 : e3 ≤ k) :
    (-(3 * (sq u0 u1 u2 u3 * k)) ≤ ro1 u0 u1 u2 u3 e1 e2 e3 ∧ ro1 u0 u1 u2 u3 e1 e2 e3 ≤ 3 * (sq u0 u1 u2 u3 * k)) ∧ (-(3 * (sq u0 u1 u2 u3 * k)) ≤ ro2 u0 u1 u2 u3 e1 e2 e3 ∧ ro2 u0 u1 u2 u3 e1 e2 e3 ≤ 3 * (sq u0 u1 u2 u3 * k)) ∧
    (-(3 * (sq u0 u1 u2 u3 * k)) ≤ ro3 u0 u1 u2 u3 e1 e2 e3 ∧ ro3 u0 u1 u2 u3 e1 e2 e3 ≤ 3 * (sq u0 u1 u2 u3 * k)) := by
  obtain ⟨c1, c2, c3, c4, c5, c6, c7, c8, c9⟩ := ro_coef u0 u1 u2 u3
  have p1 := ab_le2 c1.1 c1.2 l1 r1; have p2 := ab_le2 c4.1 c4.2 l2 r2; have p3 := ab_le2 c6.1 c6.2 l3 r3
  have p4 := ab_le2 c5.1 c5.2 l1 r1; have p5 := ab_le2 c2.1 c2.2 l2 r2; have p6 := ab_le2 c8.1 c8.2 l3 r3
  have p7 := ab_le2 c7.1 c7.2 l1 r1; have p8 := ab_le2 c9.1 c9.2 l2 r2; have p9 := ab_le2 c3.1 c3.2 l3 r3
  unfold ro1 ro2 ro3
  refine ⟨⟨?_, ?_⟩, ⟨?_, ?_⟩, ⟨?_, ?_⟩⟩ <;> omega
/-- what is turned: the exact sum, and what the roundings add -/
theorem rot_lin {u0 u1 u2 u3 v1 v2 v3 : Int} (u0l : -4294968320 ≤ u0) (u0h : u0 ≤ 4294968320) (u1l : -4294968320 ≤ u1) (u1h : u1 ≤ 4294968320) (u2l : -4294968320 ≤ u2) (u2h : u2 ≤ 4294968320) (u3l : -4294968320 ≤ u3) (u3h : u3 ≤ 4294968320)
    (v1l : -70368744177664 ≤ v1) (v1h : v1 ≤ 70368744177664) (v2l : -70368744177664 ≤ v2) (v2h : v2 ≤ 70368744177664) (v3l : -70368744177664 ≤ v3) (v3h : v3 ≤ 70368744177664) :
    ∃ b1 b2 b3 e1 e2 e3 : Int, f42 u0 u1 u2 u3 v1 v2 v3 = (b1, b2, b3, false) ∧ (b1 * 18446744073709551616 = ro1 u0 u1 u2 u3 v1 v2 v3 + e1 ∧ b2 * 18446744073709551616 = ro2 u0 u1 u2 u3 v1 v2 v3 + e2 ∧ b3 * 18446744073709551616 = ro3 u0 u1 u2 u3 v1 v2 v3 + e3) ∧
      (-73786976294838206464 ≤ e1 ∧ e1 ≤ 73786976294838206464) ∧ (-73786976294838206464 ≤ e2 ∧ e2 ≤ 73786976294838206464) ∧ (-73786976294838206464 ≤ e3 ∧ e3 ≤ 73786976294838206464) := by
  obtain ⟨a0, a1, a2, a3, b1, b2, b3, hf, ⟨r0, r1, r2, r3⟩, s1, s2, s3⟩ := rot_in (u0 := u0) (u1 := u1) (u2 := u2) (u3 := u3) (v1 := v1) (v2 := v2) (v3 := v3) (by omega) (by omega) (by omega) (by omega) (by omega) (by omega) (by omega) (by omega) v1l v1h v2l v2h v3l v3h
  have dec : ∀ {r s : Int}, Rd r s → ∃ e, r * 4294967296 = s + e ∧ -2147483648 ≤ e ∧ e ≤ 2147483648 := fun {r s} h => ⟨r * 4294967296 - s, by omega, by unfold Rd at h; omega, by unfold Rd at h; omega⟩
  obtain ⟨e0, h0, g0, g0'⟩ := dec r0
  obtain ⟨e1, h1, g1, g1'⟩ := dec r1
  obtain ⟨e2, h2, g2, g2'⟩ := dec r2
  obtain ⟨e3, h3, g3, g3'⟩ := dec r3
  obtain ⟨d1, k1, j1, j1'⟩ := dec s1
  obtain ⟨d2, k2, j2, j2'⟩ := dec s2
  obtain ⟨d3, k3, j3, j3'⟩ := dec s3
  obtain ⟨-, q1, q2, q3⟩ := m_le (n := 2147483648) (k := 4294968320) (b0 := u0) (b1 := -u1) (b2 := -u2) (b3 := -u3) g0 g0' g1 g1' g2 g2' g3 g3' u0l u0h (by omega) (by omega) (by omega) (by omega) (by omega) (by omega)
  have x1 : m1 a0 a1 a2 a3 u0 (-u1) (-u2) (-u3) * 4294967296 = ro1 u0 u1 u2 u3 v1 v2 v3 + m1 e0 e1 e2 e3 u0 (-u1) (-u2) (-u3) := by
    have : m1 a0 a1 a2 a3 u0 (-u1) (-u2) (-u3) * 4294967296 = m1 (a0 * 4294967296) (a1 * 4294967296) (a2 * 4294967296) (a3 * 4294967296) u0 (-u1) (-u2) (-u3) := by unfold m1; grind
    rw [this, h0, h1, h2, h3, ← ro_m1]; generalize m0 u0 u1 u2 u3 0 v1 v2 v3 = y0; generalize m1 u0 u1 u2 u3 0 v1 v2 v3 = y1; generalize m2 u0 u1 u2 u3 0 v1 v2 v3 = y2; generalize m3 u0 u1 u2 u3 0 v1 v2 v3 = y3; unfold m1; grind
  have x2 : m2 a0 a1 a2 a3 u0 (-u1) (-u2) (-u3) * 4294967296 = ro2 u0 u1 u2 u3 v1 v2 v3 + m2 e0 e1 e2 e3 u0 (-u1) (-u2) (-u3) := by
    have : m2 a0 a1 a2 a3 u0 (-u1) (-u2) (-u3) * 4294967296 = m2 (a0 * 4294967296) (a1 * 4294967296) (a2 * 4294967296) (a3 * 4294967296) u0 (-u1) (-u2) (-u3) := by unfold m2; grind
    rw [this, h0, h1, h2, h3, ← ro_m2]; generalize m0 u0 u1 u2 u3 0 v1 v2 v3 = y0; generalize m1 u0 u1 u2 u3 0 v1 v2 v3 = y1; generalize m2 u0 u1 u2 u3 0 v1 v2 v3 = y2; generalize m3 u0 u1 u2 u3 0 v1 v2 v3 = y3; unfold m2; grind
  have x3 : m3 a0 a1 a2 a3 u0 (-u1) (-u2) (-u3) * 4294967296 = ro3 u0 u1 u2 u3 v1 v2 v3 + m3 e0 e1 e2 e3 u0 (-u1) (-u2) (-u3) := by
    have : m3 a0 a1 a2 a3 u0 (-u1) (-u2) (-u3) * 4294967296 = m3 (a0 * 4294967296) (a1 * 4294967296) (a2 * 4294967296) (a3 * 4294967296) u0 (-u1) (-u2) (-u3) := by unfold m3; grind
    rw [this, h0, h1, h2, h3, ← ro_m3]; generalize m0 u0 u1 u2 u3 0 v1 v2 v3 = y0; generalize m1 u0 u1 u2 u3 0 v1 v2 v3 = y1; generalize m2 u0 u1 u2 u3 0 v1 v2 v3 = y2; generalize m3 u0 u1 u2 u3 0 v1 v2 v3 = y3; unfold m3; grind
  refine ⟨b1, b2, b3, m1 e0 e1 e2 e3 u0 (-u1) (-u2) (-u3) + d1 * 4294967296, m2 e0 e1 e2 e3 u0 (-u1) (-u2) (-u3) + d2 * 4294967296, m3 e0 e1 e2 e3 u0 (-u1) (-u2) (-u3) + d3 * 4294967296, hf, ⟨?_, ?_, ?_⟩, ⟨?_, ?_⟩, ⟨?_, ?_⟩, ⟨?_, ?_⟩⟩ <;> omega
/-- there and back: near what it was -/
theorem ro_there {U v d E : Int} (hU0 : 18446735277616529408 ≤ U) (hU1 : U ≤ 18446752869802573824) (v0 : -4398046511104 ≤ v) (v1 : v ≤ 4398046511104) (h : d * 340282366920938463463374607431768211456 = U * U * v + E)
    (E0 : -(5 * 1361129467683753853853498429727072845824) ≤ E) (E1 : E ≤ 5 * 1361129467683753853853498429727072845824) : -16777216 ≤ d - v ∧ d - v ≤ 16777216 := by
  have h1 := Int.mul_le_mul hU0 hU0 (by omega) (by omega)
  have h2 := Int.mul_le_mul hU1 hU1 (by omega) (by omega)
  obtain ⟨p1, p2⟩ := ab_le2 (a := U * U - 340282366920938463463374607431768211456) (e := v) (n := 649037107316853453566312041152512) (k := 4398046511104) (by omega) (by omega) v0 v1
  have e : (U * U - 340282366920938463463374607431768211456) * v = U * U * v - 340282366920938463463374607431768211456 * v := by grind
  omega
/-- the length of what is turned -/
theorem ro_len {U n m v1 v2 v3 b1 b2 b3 x1 x2 x3 e1 e2 e3 : Int} (hU0 : 18446735277616529408 ≤ U) (hU1 : U ≤ 18446752869802573824)
    (hx : x1 * x1 + x2 * x2 + x3 * x3 = U * U * (v1 * v1 + v2 * v2 + v3 * v3)) (h1 : b1 * 18446744073709551616 = x1 + e1) (h2 : b2 * 18446744073709551616 = x2 + e2) (h3 : b3 * 18446744073709551616 = x3 + e3)
    (e1l : -73786976294838206464 ≤ e1) (e1h : e1 ≤ 73786976294838206464) (e2l : -73786976294838206464 ≤ e2) (e2h : e2 ≤ 73786976294838206464) (e3l : -73786976294838206464 ≤ e3) (e3h : e3 ≤ 73786976294838206464)
    (hn : Len n 0 v1 v2 v3) (hm : Len m 0 b1 b2 b3) :
    m * 18446744073709551616 ≤ U * (n + 1) + 3 * 73786976294838206464 ∧ (16777216 ≤ n → U * n - 4 * 73786976294838206464 ≤ (m + 1) * 18446744073709551616) := by
  have n0 := hn.nn; have m0 := hm.nn
  have nl := hn.lo; have nh := hn.hi; have ml := hm.lo; have mh := hm.hi
  rw [Int.mul_zero, Int.zero_add] at nl nh ml mh
  have UU : 0 ≤ U * U := sq_nn U
  have q1 := sq_nn x1; have q2 := sq_nn x2; have q3 := sq_nn x3
  have A0 : 0 ≤ U * (n + 1) := Int.mul_nonneg (by omega) (by omega)
  have hS : x1 * x1 + x2 * x2 + x3 * x3 ≤ (U * (n + 1)) * (U * (n + 1)) := by
    rw [hx]
    have := Int.mul_le_mul_of_nonneg_left (show v1 * v1 + v2 * v2 + v3 * v3 ≤ (n + 1) * (n + 1) by omega) UU
    have e : (U * (n + 1)) * (U * (n + 1)) = U * U * ((n + 1) * (n + 1)) := by grind
    omega
  have hL : U * U * (n * n) ≤ x1 * x1 + x2 * x2 + x3 * x3 := by
    rw [hx]; exact Int.mul_le_mul_of_nonneg_left nl UU
  generalize hA : U * (n + 1) = A at *
  have lim : ∀ x : Int, x * x ≤ A * A → -A ≤ x ∧ x ≤ A := fun x h => by
    have e : (A + 1) * (A + 1) = A * A + 2 * A + 1 := by grind
    have h1 : x < A + 1 := lt_of_sq (by omega) (by omega)
    have h2 : -x < A + 1 := lt_of_sq (by rw [Int.neg_mul_neg]; omega) (by omega)
    omega
  obtain ⟨a1, b1'⟩ := lim x1 (by omega)
  obtain ⟨a2, b2'⟩ := lim x2 (by omega)
  obtain ⟨a3, b3'⟩ := lim x3 (by omega)
  have p1 := ab_le2 a1 b1' e1l e1h; have p2 := ab_le2 a2 b2' e2l e2h; have p3 := ab_le2 a3 b3' e3l e3h
  have r1 := sq_abs_le e1l e1h; have r2 := sq_abs_le e2l e2h; have r3 := sq_abs_le e3l e3h
  have r1' := sq_nn e1; have r2' := sq_nn e2; have r3' := sq_nn e3
  have ex : ∀ b x e : Int, b * 18446744073709551616 = x + e → b * b * 340282366920938463463374607431768211456 = x * x + 2 * (x * e) + e * e := fun b x e h => by
    have : b * b * 340282366920938463463374607431768211456 = (b * 18446744073709551616) * (b * 18446744073709551616) := by grind
    rw [this, h]; grind
  have y1 := ex b1 x1 e1 h1; have y2 := ex b2 x2 e2 h2; have y3 := ex b3 x3 e3 h3
  constructor
  · have e1 : (m * 18446744073709551616) * (m * 18446744073709551616) = m * m * 340282366920938463463374607431768211456 := by grind
    have e2 : (A + 3 * 73786976294838206464 + 1) * (A + 3 * 73786976294838206464 + 1) = A * A + 2 * (A * (3 * 73786976294838206464 + 1)) + (3 * 73786976294838206464 + 1) * (3 * 73786976294838206464 + 1) := by grind
    have : m * 18446744073709551616 < A + 3 * 73786976294838206464 + 1 := lt_of_sq (by rw [e1, e2]; omega) (by omega)
    omega
  · intro hb
    have e1 : ((m + 1) * 18446744073709551616) * ((m + 1) * 18446744073709551616) = (m + 1) * (m + 1) * 340282366920938463463374607431768211456 := by grind
    have e2 : (U * n - 4 * 73786976294838206464) * (U * n - 4 * 73786976294838206464) = U * U * (n * n) - 8 * (U * n * 73786976294838206464) + 16 * (73786976294838206464 * 73786976294838206464) := by grind
    have e3 : A = U * n + U := by rw [← hA]; grind
    have g := Int.mul_le_mul_of_nonneg_left hb (show 0 ≤ U by omega)
    have : U * n - 4 * 73786976294838206464 < (m + 1) * 18446744073709551616 := lt_of_sq (by rw [e1, e2]; omega) (by omega)
    omega
end Go.Proofs.YtmnglkcodbecbaaGreat
