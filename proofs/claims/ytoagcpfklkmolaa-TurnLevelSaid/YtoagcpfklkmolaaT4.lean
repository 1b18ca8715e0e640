/- The plain law TurnLevel: what is told of up leads there. -/
import Derived.Test.YtoagcpfklkmolaaT3
namespace Go.Proofs.Ytoagcpfklkmolaa
open Go Go.Sx
theorem qs2_eq (a b c d : Int) : (let x : Int × Int := addL [((f89 a b).fst, (f89 a b).snd), ((f89 c d).fst, (f89 c d).snd)]; f71 x.fst x.snd) = rsum (cl a * cl b + cl c * cl d) := by
  have p0 := pb a b; have p1 := pb c d
  simp only [f89_eq]
  rw [addL_two p0.1 p0.2 p1.1 p1.2, f71_rsum (by omega) (by omega)]
theorem qs3_eq (a b c d e f : Int) : (let x : Int × Int := addL [((f89 a b).fst, (f89 a b).snd), ((f89 c d).fst, (f89 c d).snd), ((f89 e f).fst, (f89 e f).snd)]; f71 x.fst x.snd) = rsum (cl a * cl b + cl c * cl d + cl e * cl f) := by
  have p0 := pb a b; have p1 := pb c d; have p2 := pb e f
  simp only [f89_eq]
  rw [addL_three p0.1 p0.2 p1.1 p1.2 p2.1 p2.2, f71_rsum (by omega) (by omega)]
theorem any2 (a b : Bool) : anyB [a, b] = (a || b) := by simp [anyB]
theorem any3 (a b c : Bool) : anyB [a, b, c] = (a || (b || c)) := by simp [anyB]
theorem cross_up {u0 u1 u2 : Int} (l0 : -4294967296 ≤ u0) (r0 : u0 ≤ 4294967296) (l1 : -4294967296 ≤ u1) (r1 : u1 ≤ 4294967296) (l2 : -4294967296 ≤ u2) (r2 : u2 ≤ 4294967296) : f64 u0 u1 u2 0 0 4294967296 = (u1, -u0, 0, false) := by
  have e1 := qs2_eq u1 4294967296 u2 (f55 0)
  have e2 := qs2_eq u2 0 u0 (f55 4294967296)
  have e3 := qs2_eq u0 0 u1 (f55 0)
  have z0 : f55 0 = 0 := by decide
  have zB : f55 4294967296 = -4294967296 := by decide
  have c0 : cl 0 = 0 := by decide
  have cB : cl 4294967296 = 4294967296 := by decide
  have cN : cl (-4294967296) = -4294967296 := by decide
  simp only [z0, zB, c0, cB, cN, Int.mul_zero, Int.add_zero, Int.zero_add, cl_in (n := u0) (by omega) (by omega), cl_in (n := u1) (by omega) (by omega)] at e1 e2 e3
  rw [rsum_one, cl_in (n := u1) (by omega) (by omega)] at e1
  rw [show u0 * -4294967296 = -u0 * 4294967296 by omega, rsum_one, cl_in (n := -u0) (by omega) (by omega)] at e2
  rw [rsum_zero] at e3
  unfold f64
  simp only [z0, zB, e1, e2, e3, any2, chg_f, small_chg (a := u0) (by omega) (by omega), small_chg (a := u1) (by omega) (by omega), small_chg (a := u2) (by omega) (by omega), small_chg (a := 0) (by omega) (by omega), small_chg (a := 4294967296) (by omega) (by omega), small_chg (a := -4294967296) (by omega) (by omega)]
  simp
theorem dot_val {a0 a1 a2 b0 b1 b2 : Int} (l0 : -17179869184 ≤ a0) (r0 : a0 ≤ 17179869184) (l1 : -17179869184 ≤ a1) (r1 : a1 ≤ 17179869184) (l2 : -17179869184 ≤ a2) (r2 : a2 ≤ 17179869184)
    (m0 : -17179869184 ≤ b0) (n0 : b0 ≤ 17179869184) (m1 : -17179869184 ≤ b1) (n1 : b1 ≤ 17179869184) (m2 : -17179869184 ≤ b2) (n2 : b2 ≤ 17179869184) :
    (f38 a0 a1 a2 b0 b1 b2).fst = rnd (a0 * b0 + a1 * b1 + a2 * b2) ∧ -206158430208 ≤ rnd (a0 * b0 + a1 * b1 + a2 * b2) ∧ rnd (a0 * b0 + a1 * b1 + a2 * b2) ≤ 206158430208 := by
  have e := qs3_eq a0 b0 a1 b1 a2 b2
  have p0 := ab_le2 l0 r0 m0 n0; have p1 := ab_le2 l1 r1 m1 n1; have p2 := ab_le2 l2 r2 m2 n2
  rw [cl_in (n := a0) (by omega) (by omega), cl_in (n := a1) (by omega) (by omega), cl_in (n := a2) (by omega) (by omega), cl_in (n := b0) (by omega) (by omega), cl_in (n := b1) (by omega) (by omega), cl_in (n := b2) (by omega) (by omega), rsum_in (by omega) (by omega)] at e
  have h := rnd_bounds (a0 * b0 + a1 * b1 + a2 * b2)
  refine ⟨?_, by omega, by omega⟩
  unfold f38
  simp only at e ⊢
  rw [e]
/-- a direction of the length 1 -/
theorem f37_in {a0 a1 a2 n : Int} (h : f35 a0 a1 a2 = (n, false)) (hn : 1 ≤ n) (hn2 : n < 288230376151711744) : ∃ u0 u1 u2, f37 a0 a1 a2 = (u0, u1, u2, false) ∧ One n a0 u0 ∧ One n a1 u1 ∧ One n a2 u2 := by
  rw [f35_is] at h
  obtain ⟨-, -, -, -, hl⟩ := f17_back h hn2
  obtain ⟨-, ⟨l0, r0⟩, ⟨l1, r1⟩, ⟨l2, r2⟩⟩ := hl.comp
  obtain ⟨u0, d0, a00, b00, sp0, sn0, x0, y0⟩ := unit_one' (a := a0) (n := n) hn (by omega) l0 r0
  obtain ⟨u1, d1, a01, b01, sp1, sn1, x1, y1⟩ := unit_one' (a := a1) (n := n) hn (by omega) l1 r1
  obtain ⟨u2, d2, a02, b02, sp2, sn2, x2, y2⟩ := unit_one' (a := a2) (n := n) hn (by omega) l2 r2
  refine ⟨u0, u1, u2, ?_, ⟨a00, b00, sp0, sn0, x0, y0, l0, r0⟩, ⟨a01, b01, sp1, sn1, x1, y1, l1, r1⟩, ⟨a02, b02, sp2, sn2, x2, y2, l2, r2⟩⟩
  unfold f37
  simp only [f35_is, h, d0, d1, d2]
  rw [show (n == 0) = false by simp; omega]; rfl
theorem f53_g {a b : Int} (a0 : -4294967296 ≤ a) (a1 : a ≤ 4294967296) (b0 : 0 ≤ b) (b1 : b ≤ 4294967296) : f53 a b = (rnd (a * b), false) ∧ -4294967296 ≤ rnd (a * b) ∧ rnd (a * b) ≤ 4294967296 := by
  obtain ⟨p1, p2⟩ := ab_le2 (n := 4294967296) (k := 4294967296) a0 a1 (show -4294967296 ≤ b by omega) b1
  have h := rnd_bounds (a * b)
  refine ⟨?_, by omega, by omega⟩
  rw [f53_eq, cl_in (n := a) (by omega) (by omega), cl_in (n := b) (by omega) (by omega), cl_in (n := rnd (a * b)) (by omega) (by omega)]; simp
/-- half of what was rounded -/
theorem half_k (u g : Int) : ∃ k, 2 * ((rnd (u * g) + 1) / 2) * 4294967296 = u * g + k ∧ -2147483648 ≤ k ∧ k ≤ 6442450944 := by
  have h := rnd_bounds (u * g)
  exact ⟨2 * ((rnd (u * g) + 1) / 2) * 4294967296 - u * g, by omega, by omega, by omega⟩
/-- the main term -/
theorem main_term {u0 u1 u2 g x1 x2 k1 k2 : Int} (l0 : -4294967296 ≤ u0) (r0 : u0 ≤ 4294967296) (l1 : -4294967296 ≤ u1) (r1 : u1 ≤ 4294967296) (l2 : 0 ≤ u2) (r2 : u2 ≤ 4294967296) (g0 : 0 ≤ g) (g1 : g ≤ 4294967296)
    (h1 : 2 * x1 * 4294967296 = u1 * g + k1) (h2 : 2 * x2 * 4294967296 = -u0 * g + k2) (k1l : -2147483648 ≤ k1) (k1h : k1 ≤ 6442450944) (k2l : -2147483648 ≤ k2) (k2h : k2 ≤ 6442450944) :
    -36893488147419103232 ≤ 4294967296 * (u1 * x1 - u0 * x2) - u2 * (x1 * x1 + x2 * x2) := by
  have r := sq_nn u0; have r' := sq_nn u1
  have id : 4 * (4294967296 * 4294967296) * (4294967296 * (u1 * x1 - u0 * x2) - u2 * (x1 * x1 + x2 * x2)) =
      (g * (u0 * u0 + u1 * u1)) * (2 * (4294967296 * 4294967296) - u2 * g) + (u1 * k1 - u0 * k2) * (2 * (4294967296 * 4294967296) - 2 * (u2 * g)) - u2 * (k1 * k1 + k2 * k2) := by
    have e1 : 4 * (4294967296 * 4294967296) * (4294967296 * (u1 * x1 - u0 * x2) - u2 * (x1 * x1 + x2 * x2)) = 2 * (4294967296 * 4294967296) * (u1 * (2 * x1 * 4294967296) - u0 * (2 * x2 * 4294967296)) - u2 * ((2 * x1 * 4294967296) * (2 * x1 * 4294967296) + (2 * x2 * 4294967296) * (2 * x2 * 4294967296)) := by grind
    rw [e1, h1, h2]; grind
  have ug := ab_le2 (a := u2) (e := g) (n := 4294967296) (k := 4294967296) (by omega) r2 (by omega) g1
  have ug0 := Int.mul_nonneg l2 g0
  have t1 := Int.mul_nonneg (Int.mul_nonneg g0 (show 0 ≤ u0 * u0 + u1 * u1 by omega)) (show 0 ≤ 2 * (4294967296 * 4294967296) - u2 * g by omega)
  have p1 := ab_le2 (a := u1) (e := k1) (n := 4294967296) (k := 6442450944) l1 r1 (by omega) k1h
  have p2 := ab_le2 (a := u0) (e := k2) (n := 4294967296) (k := 6442450944) l0 r0 (by omega) k2h
  have t2 := ab_le2 (a := u1 * k1 - u0 * k2) (e := 2 * (4294967296 * 4294967296) - 2 * (u2 * g)) (n := 55340232221128654848) (k := 36893488147419103232) (by omega) (by omega) (by omega) (by omega)
  have q1 := sq_abs_le (x := k1) (n := 6442450944) (by omega) k1h
  have q2 := sq_abs_le (x := k2) (n := 6442450944) (by omega) k2h
  have q1' := sq_nn k1; have q2' := sq_nn k2
  have t3 := ab_le2 (a := u2) (e := k1 * k1 + k2 * k2) (n := 4294967296) (k := 83010348331692982272) (by omega) r2 (by omega) (by omega)
  omega
/-- two numbers made of the length 1 twice stand as they stood -/
theorem ratio {n m x s0 s1 q0 q1 : Int} (n0 : 4294967296 ≤ n) (n1 : n ≤ 5368709120) (m0 : 4294966016 ≤ m) (x0 : -2147483648 ≤ x) (x1 : x ≤ 2147483649) (o0 : One n 4294967296 s0) (o1 : One n x s1) (p0 : One m s0 q0) (p1 : One m s1 q1) :
    -12884901888 ≤ 4294967296 * q1 - q0 * x ∧ 4294967296 * q1 - q0 * x ≤ 12884901888 ∧ 0 ≤ q0 := by
  have a1 := o0.dl; have a2 := o0.dh; have a3 := o1.dl; have a4 := o1.dh
  have b1 := p0.dl; have b2 := p0.dh; have b3 := p1.dl; have b4 := p1.dh
  have s0p : 3221225472 ≤ s0 := by
    rcases Int.lt_or_le s0 3221225472 with h | h
    · have := Int.mul_le_mul_of_nonneg_left (show s0 ≤ 3221225471 by omega) (show 0 ≤ n by omega)
      omega
    · exact h
  have q0p : 0 ≤ q0 := p0.pos (by omega)
  have s0h := o0.hi; have s1l := o1.lo; have s1h := o1.hi; have q0h := p0.hi
  -- the first
  have e1 : 2 * (n * (s1 * 4294967296 - s0 * x)) = (2 * (n * s1) - 8589934592 * x) * 4294967296 - (2 * (n * s0) - 8589934592 * 4294967296) * x := by grind
  have c1 := ab_le2 (a := 2 * (n * s0) - 8589934592 * 4294967296) (e := x) (n := n) (k := 2147483649) a1 a2 (by omega) x1
  have d1 : -3221225474 ≤ s1 * 4294967296 - s0 * x ∧ s1 * 4294967296 - s0 * x ≤ 3221225474 := by
    constructor
    · rcases Int.lt_or_le (s1 * 4294967296 - s0 * x) (-3221225474) with h | h
      · have := Int.mul_le_mul_of_nonneg_left (show s1 * 4294967296 - s0 * x ≤ -3221225475 by omega) (show 0 ≤ n by omega)
        omega
      · exact h
    · rcases Int.lt_or_le 3221225474 (s1 * 4294967296 - s0 * x) with h | h
      · have := Int.mul_le_mul_of_nonneg_left (show 3221225475 ≤ s1 * 4294967296 - s0 * x by omega) (show 0 ≤ n by omega)
        omega
      · exact h
  -- the second
  have e2 : 2 * (m * (q1 * s0 - q0 * s1)) = (2 * (m * q1) - 8589934592 * s1) * s0 - (2 * (m * q0) - 8589934592 * s0) * s1 := by grind
  have c2 := ab_le2 (a := 2 * (m * q1) - 8589934592 * s1) (e := s0) (n := m) (k := 4294967296) b3 b4 (by omega) s0h
  have c3 := ab_le2 (a := 2 * (m * q0) - 8589934592 * s0) (e := s1) (n := m) (k := 4294967296) b1 b2 s1l s1h
  have d2 : -4294967296 ≤ q1 * s0 - q0 * s1 ∧ q1 * s0 - q0 * s1 ≤ 4294967296 := by
    constructor
    · rcases Int.lt_or_le (q1 * s0 - q0 * s1) (-4294967296) with h | h
      · have := Int.mul_le_mul_of_nonneg_left (show q1 * s0 - q0 * s1 ≤ -4294967297 by omega) (show 0 ≤ m by omega)
        omega
      · exact h
    · rcases Int.lt_or_le 4294967296 (q1 * s0 - q0 * s1) with h | h
      · have := Int.mul_le_mul_of_nonneg_left (show 4294967297 ≤ q1 * s0 - q0 * s1 by omega) (show 0 ≤ m by omega)
        omega
      · exact h
  have e3 : s0 * (4294967296 * q1 - q0 * x) = q0 * (s1 * 4294967296 - s0 * x) + 4294967296 * (q1 * s0 - q0 * s1) := by grind
  have c4 := ab_le2 (a := q0) (e := s1 * 4294967296 - s0 * x) (n := 4294967296) (k := 3221225474) (by omega) q0h d1.1 d1.2
  refine ⟨?_, ?_, q0p⟩
  · rcases Int.lt_or_le (4294967296 * q1 - q0 * x) (-12884901888) with h | h
    · have := Int.mul_le_mul_of_nonneg_left (show 4294967296 * q1 - q0 * x ≤ -12884901889 by omega) (show 0 ≤ s0 by omega)
      omega
    · exact h
  · rcases Int.lt_or_le 12884901888 (4294967296 * q1 - q0 * x) with h | h
    · have := Int.mul_le_mul_of_nonneg_left (show 12884901889 ≤ 4294967296 * q1 - q0 * x by omega) (show 0 ≤ s0 by omega)
      omega
    · exact h
/-- the angle is no greater -/
theorem angle {u0 u1 u2 x1 x2 q0 q1 q2 f1 f2 : Int} (l0 : -4294967296 ≤ u0) (r0 : u0 ≤ 4294967296) (l1 : -4294967296 ≤ u1) (r1 : u1 ≤ 4294967296) (l2 : 0 ≤ u2) (r2 : u2 ≤ 4294967296) (q0l : 0 ≤ q0) (q0h : q0 ≤ 4294967296)
    (x1l : -2147483648 ≤ x1) (x1h : x1 ≤ 2147483649) (x2l : -2147483648 ≤ x2) (x2h : x2 ≤ 2147483649) (h1 : 4294967296 * q1 = q0 * x1 + f1) (h2 : 4294967296 * q2 = q0 * x2 + f2)
    (f1l : -12884901888 ≤ f1) (f1h : f1 ≤ 12884901888) (f2l : -12884901888 ≤ f2) (f2h : f2 ≤ 12884901888) (hM : -36893488147419103232 ≤ 4294967296 * (u1 * x1 - u0 * x2) - u2 * (x1 * x1 + x2 * x2)) :
    -590295810358705651712 ≤ 2 * (q0 * (u1 * q1 - u0 * q2)) - 2 * (u2 * (q1 * q1 + q2 * q2)) := by
  have id : 4294967296 * 4294967296 * (2 * (q0 * (u1 * q1 - u0 * q2)) - 2 * (u2 * (q1 * q1 + q2 * q2))) =
      2 * (q0 * q0 * (4294967296 * (u1 * x1 - u0 * x2) - u2 * (x1 * x1 + x2 * x2))) + 8589934592 * (q0 * (u1 * f1 - u0 * f2)) - 4 * ((u2 * q0) * (x1 * f1 + x2 * f2)) - 2 * (u2 * (f1 * f1 + f2 * f2)) := by
    have e1 : 4294967296 * 4294967296 * (2 * (q0 * (u1 * q1 - u0 * q2)) - 2 * (u2 * (q1 * q1 + q2 * q2))) = 8589934592 * (q0 * (u1 * (4294967296 * q1) - u0 * (4294967296 * q2))) - 2 * (u2 * ((4294967296 * q1) * (4294967296 * q1) + (4294967296 * q2) * (4294967296 * q2))) := by grind
    rw [e1, h1, h2]; grind
  generalize 4294967296 * (u1 * x1 - u0 * x2) - u2 * (x1 * x1 + x2 * x2) = M at *
  have qq := sq_abs_le (x := q0) (n := 4294967296) (by omega) q0h
  have t0 := Int.mul_nonneg (sq_nn q0) (show 0 ≤ M + 36893488147419103232 by omega)
  have t0' : q0 * q0 * (M + 36893488147419103232) = q0 * q0 * M + q0 * q0 * 36893488147419103232 := by grind
  have a1 := ab_le2 (a := u1) (e := f1) (n := 4294967296) (k := 12884901888) l1 r1 f1l f1h
  have a2 := ab_le2 (a := u0) (e := f2) (n := 4294967296) (k := 12884901888) l0 r0 f2l f2h
  have t1 := ab_le2 (a := q0) (e := u1 * f1 - u0 * f2) (n := 4294967296) (k := 110680464442257309696) (by omega) q0h (by omega) (by omega)
  have a3 := ab_le2 (a := x1) (e := f1) (n := 2147483649) (k := 12884901888) (by omega) x1h f1l f1h
  have a4 := ab_le2 (a := x2) (e := f2) (n := 2147483649) (k := 12884901888) (by omega) x2h f2l f2h
  have a5 := ab_le2 (a := u2) (e := q0) (n := 4294967296) (k := 4294967296) (by omega) r2 (by omega) q0h
  have t2 := ab_le2 (a := u2 * q0) (e := x1 * f1 + x2 * f2) (n := 18446744073709551616) (k := 55340232246898458624) (by omega) (by omega) (by omega) (by omega)
  have b1 := sq_abs_le f1l f1h; have b2 := sq_abs_le f2l f2h
  have b1' := sq_nn f1; have b2' := sq_nn f2
  have t3 := ab_le2 (a := u2) (e := f1 * f1 + f2 * f2) (n := 4294967296) (k := 332041393326771929088) (by omega) r2 (by omega) (by omega)
  omega
end Go.Proofs.Ytoagcpfklkmolaa
