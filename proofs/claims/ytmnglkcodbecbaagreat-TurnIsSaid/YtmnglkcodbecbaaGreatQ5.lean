/- The plain law QuatAdds: what is turned, in range. -/
import Derived.Test.YtmnglkcodbecbaaGreatQ4
namespace Go.Proofs.YtmnglkcodbecbaaGreat
open Go Go.Sx
def m0 (a0 a1 a2 a3 b0 b1 b2 b3 : Int) : Int := a0 * b0 - a1 * b1 - a2 * b2 - a3 * b3
def m1 (a0 a1 a2 a3 b0 b1 b2 b3 : Int) : Int := a0 * b1 + a1 * b0 + a2 * b3 - a3 * b2
def m2 (a0 a1 a2 a3 b0 b1 b2 b3 : Int) : Int := a0 * b2 - a1 * b3 + a2 * b0 + a3 * b1
def m3 (a0 a1 a2 a3 b0 b1 b2 b3 : Int) : Int := a0 * b3 + a1 * b2 - a2 * b1 + a3 * b0
/-- r is s / 2^32, rounded half up -/
def Rd (r s : Int) : Prop := r * 4294967296 ≤ s + 2147483648 ∧ s + 2147483648 < r * 4294967296 + 4294967296
theorem rd_rnd (s : Int) : Rd (rnd s) s := rnd_bounds s
theorem rsum_in {s : Int} (h0 : -1237940039285380274899124224 ≤ s) (h1 : s ≤ 1237940039285380270604156928) : rsum s = (rnd s, false) := by
  unfold rsum
  have h := rnd_bounds s
  have e : cl (rnd s) = rnd s := cl_in (by omega) (by omega)
  rw [e]; simp
theorem f85_in {a0 a1 a2 a3 b0 b1 b2 b3 : Int} (k0 : chg a0 = false) (k1 : chg a1 = false) (k2 : chg a2 = false) (k3 : chg a3 = false) (j0 : chg b0 = false) (j1 : chg b1 = false) (j2 : chg b2 = false) (j3 : chg b3 = false)
    (h0 : -1237940039285380274899124224 ≤ m0 a0 a1 a2 a3 b0 b1 b2 b3 ∧ m0 a0 a1 a2 a3 b0 b1 b2 b3 ≤ 1237940039285380270604156928)
    (h1 : -1237940039285380274899124224 ≤ m1 a0 a1 a2 a3 b0 b1 b2 b3 ∧ m1 a0 a1 a2 a3 b0 b1 b2 b3 ≤ 1237940039285380270604156928)
    (h2 : -1237940039285380274899124224 ≤ m2 a0 a1 a2 a3 b0 b1 b2 b3 ∧ m2 a0 a1 a2 a3 b0 b1 b2 b3 ≤ 1237940039285380270604156928)
    (h3 : -1237940039285380274899124224 ≤ m3 a0 a1 a2 a3 b0 b1 b2 b3 ∧ m3 a0 a1 a2 a3 b0 b1 b2 b3 ≤ 1237940039285380270604156928) :
    f85 a0 a1 a2 a3 b0 b1 b2 b3 = (rnd (m0 a0 a1 a2 a3 b0 b1 b2 b3), rnd (m1 a0 a1 a2 a3 b0 b1 b2 b3), rnd (m2 a0 a1 a2 a3 b0 b1 b2 b3), rnd (m3 a0 a1 a2 a3 b0 b1 b2 b3), false) := by
  obtain ⟨v0, v1, v2, v3⟩ := f85_val a0 a1 a2 a3 b0 b1 b2 b3
  have c0 := ne_false k0; have c1 := ne_false k1; have c2 := ne_false k2; have c3 := ne_false k3
  have d0 := ne_false j0; have d1 := ne_false j1; have d2 := ne_false j2; have d3 := ne_false j3
  have e0 : qs a0 b0 a1 (-cl b1) a2 (-cl b2) a3 (-cl b3) = m0 a0 a1 a2 a3 b0 b1 b2 b3 := by
    unfold qs m0; simp only [cl_neg, c0, c1, c2, c3, d0, d1, d2, d3]; grind
  have e1 : qs a0 b1 a1 b0 a2 b3 a3 (-cl b2) = m1 a0 a1 a2 a3 b0 b1 b2 b3 := by
    unfold qs m1; simp only [cl_neg, c0, c1, c2, c3, d0, d1, d2, d3]; grind
  have e2 : qs a0 b2 a1 (-cl b3) a2 b0 a3 b1 = m2 a0 a1 a2 a3 b0 b1 b2 b3 := by
    unfold qs m2; simp only [cl_neg, c0, c1, c2, c3, d0, d1, d2, d3]; grind
  have e3 : qs a0 b3 a1 b2 a2 (-cl b1) a3 b0 = m3 a0 a1 a2 a3 b0 b1 b2 b3 := by
    unfold qs m3; simp only [cl_neg, c0, c1, c2, c3, d0, d1, d2, d3]; grind
  rw [e0, rsum_in h0.1 h0.2] at v0
  rw [e1, rsum_in h1.1 h1.2] at v1
  rw [e2, rsum_in h2.1 h2.2] at v2
  rw [e3, rsum_in h3.1 h3.2] at v3
  have v4 := f85_ok k0 k1 k2 k3 j0 j1 j2 j3 (by rw [e0, rsum_in h0.1 h0.2]) (by rw [e1, rsum_in h1.1 h1.2]) (by rw [e2, rsum_in h2.1 h2.2]) (by rw [e3, rsum_in h3.1 h3.2])
  exact Prod.ext v0 (Prod.ext v1 (Prod.ext v2 (Prod.ext v3 v4)))
theorem f43_in {a0 a1 a2 a3 : Int} (k0 : chg a0 = false) (k1 : chg a1 = false) (k2 : chg a2 = false) (k3 : chg a3 = false) : f43 a0 a1 a2 a3 = (a0, -a1, -a2, -a3) := by
  have hb : f43 a0 a1 a2 a3 = (cl a0, -cl a1, -cl a2, -cl a3) := by unfold f43; simp only [f86_eq]; rfl
  rw [hb, ne_false k0, ne_false k1, ne_false k2, ne_false k3]
theorem ab_le2 {a e n k : Int} (ha0 : -n ≤ a) (ha1 : a ≤ n) (he0 : -k ≤ e) (he1 : e ≤ k) : -(n * k) ≤ a * e ∧ a * e ≤ n * k := by
  have h1 := Int.mul_nonneg (show 0 ≤ n - a by omega) (show 0 ≤ k - e by omega)
  have h2 := Int.mul_nonneg (show 0 ≤ n + a by omega) (show 0 ≤ k + e by omega)
  have h3 := Int.mul_nonneg (show 0 ≤ n - a by omega) (show 0 ≤ k + e by omega)
  have h4 := Int.mul_nonneg (show 0 ≤ n + a by omega) (show 0 ≤ k - e by omega)
  have e1 : (n - a) * (k - e) = n * k - n * e - a * k + a * e := by grind
  have e2 : (n + a) * (k + e) = n * k + n * e + a * k + a * e := by grind
  have e3 : (n - a) * (k + e) = n * k + n * e - a * k - a * e := by grind
  have e4 : (n + a) * (k - e) = n * k - n * e + a * k - a * e := by grind
  omega
/-- bounds of a product of turns -/
theorem m_le {a0 a1 a2 a3 b0 b1 b2 b3 n k : Int} (a0l : -n ≤ a0) (a0h : a0 ≤ n) (a1l : -n ≤ a1) (a1h : a1 ≤ n) (a2l : -n ≤ a2) (a2h : a2 ≤ n) (a3l : -n ≤ a3) (a3h : a3 ≤ n)
    (b0l : -k ≤ b0) (b0h : b0 ≤ k) (b1l : -k ≤ b1) (b1h : b1 ≤ k) (b2l : -k ≤ b2) (b2h : b2 ≤ k) (b3l : -k ≤ b3) (b3h : b3 ≤ k) :
    (-(4 * (n * k)) ≤ m0 a0 a1 a2 a3 b0 b1 b2 b3 ∧ m0 a0 a1 a2 a3 b0 b1 b2 b3 ≤ 4 * (n * k)) ∧ (-(4 * (n * k)) ≤ m1 a0 a1 a2 a3 b0 b1 b2 b3 ∧ m1 a0 a1 a2 a3 b0 b1 b2 b3 ≤ 4 * (n * k)) ∧
    (-(4 * (n * k)) ≤ m2 a0 a1 a2 a3 b0 b1 b2 b3 ∧ m2 a0 a1 a2 a3 b0 b1 b2 b3 ≤ 4 * (n * k)) ∧ (-(4 * (n * k)) ≤ m3 a0 a1 a2 a3 b0 b1 b2 b3 ∧ m3 a0 a1 a2 a3 b0 b1 b2 b3 ≤ 4 * (n * k)) := by
  have p00 := ab_le2 a0l a0h b0l b0h; have p01 := ab_le2 a0l a0h b1l b1h; have p02 := ab_le2 a0l a0h b2l b2h; have p03 := ab_le2 a0l a0h b3l b3h
  have p10 := ab_le2 a1l a1h b0l b0h; have p11 := ab_le2 a1l a1h b1l b1h; have p12 := ab_le2 a1l a1h b2l b2h; have p13 := ab_le2 a1l a1h b3l b3h
  have p20 := ab_le2 a2l a2h b0l b0h; have p21 := ab_le2 a2l a2h b1l b1h; have p22 := ab_le2 a2l a2h b2l b2h; have p23 := ab_le2 a2l a2h b3l b3h
  have p30 := ab_le2 a3l a3h b0l b0h; have p31 := ab_le2 a3l a3h b1l b1h; have p32 := ab_le2 a3l a3h b2l b2h; have p33 := ab_le2 a3l a3h b3l b3h
  unfold m0 m1 m2 m3
  refine ⟨⟨?_, ?_⟩, ⟨?_, ?_⟩, ⟨?_, ?_⟩, ⟨?_, ?_⟩⟩ <;> omega
/-- what is turned, in range: the numbers between, and their roundings -/
theorem rot_in {u0 u1 u2 u3 v1 v2 v3 : Int} (u0l : -8589934592 ≤ u0) (u0h : u0 ≤ 8589934592) (u1l : -8589934592 ≤ u1) (u1h : u1 ≤ 8589934592) (u2l : -8589934592 ≤ u2) (u2h : u2 ≤ 8589934592) (u3l : -8589934592 ≤ u3) (u3h : u3 ≤ 8589934592)
    (v1l : -70368744177664 ≤ v1) (v1h : v1 ≤ 70368744177664) (v2l : -70368744177664 ≤ v2) (v2h : v2 ≤ 70368744177664) (v3l : -70368744177664 ≤ v3) (v3h : v3 ≤ 70368744177664) :
    ∃ a0 a1 a2 a3 b1 b2 b3 : Int, f42 u0 u1 u2 u3 v1 v2 v3 = (b1, b2, b3, false) ∧
      (Rd a0 (m0 u0 u1 u2 u3 0 v1 v2 v3) ∧ Rd a1 (m1 u0 u1 u2 u3 0 v1 v2 v3) ∧ Rd a2 (m2 u0 u1 u2 u3 0 v1 v2 v3) ∧ Rd a3 (m3 u0 u1 u2 u3 0 v1 v2 v3)) ∧
      (Rd b1 (m1 a0 a1 a2 a3 u0 (-u1) (-u2) (-u3)) ∧ Rd b2 (m2 a0 a1 a2 a3 u0 (-u1) (-u2) (-u3)) ∧ Rd b3 (m3 a0 a1 a2 a3 u0 (-u1) (-u2) (-u3))) := by
  have ku0 : chg u0 = false := small_chg (by omega) (by omega)
  have ku1 : chg u1 = false := small_chg (by omega) (by omega)
  have ku2 : chg u2 = false := small_chg (by omega) (by omega)
  have ku3 : chg u3 = false := small_chg (by omega) (by omega)
  have kn1 : chg (-u1) = false := small_chg (by omega) (by omega)
  have kn2 : chg (-u2) = false := small_chg (by omega) (by omega)
  have kn3 : chg (-u3) = false := small_chg (by omega) (by omega)
  have kz : chg 0 = false := small_chg (by omega) (by omega)
  have kv1 : chg v1 = false := small_chg (by omega) (by omega)
  have kv2 : chg v2 = false := small_chg (by omega) (by omega)
  have kv3 : chg v3 = false := small_chg (by omega) (by omega)
  obtain ⟨q0, q1, q2, q3⟩ := m_le u0l u0h u1l u1h u2l u2h u3l u3h (show (-70368744177664 : Int) ≤ 0 by omega) (show (0 : Int) ≤ 70368744177664 by omega) v1l v1h v2l v2h v3l v3h
  have hf := f85_in ku0 ku1 ku2 ku3 kz kv1 kv2 kv3 (by omega) (by omega) (by omega) (by omega)
  have r0 := rd_rnd (m0 u0 u1 u2 u3 0 v1 v2 v3); have r1 := rd_rnd (m1 u0 u1 u2 u3 0 v1 v2 v3)
  have r2 := rd_rnd (m2 u0 u1 u2 u3 0 v1 v2 v3); have r3 := rd_rnd (m3 u0 u1 u2 u3 0 v1 v2 v3)
  generalize rnd (m0 u0 u1 u2 u3 0 v1 v2 v3) = a0 at *
  generalize rnd (m1 u0 u1 u2 u3 0 v1 v2 v3) = a1 at *
  generalize rnd (m2 u0 u1 u2 u3 0 v1 v2 v3) = a2 at *
  generalize rnd (m3 u0 u1 u2 u3 0 v1 v2 v3) = a3 at *
  have s0 := r0; have s1 := r1; have s2 := r2; have s3 := r3
  unfold Rd at s0 s1 s2 s3
  have A0l : -562949953421313 ≤ a0 := by omega
  have A0h : a0 ≤ 562949953421313 := by omega
  have A1l : -562949953421313 ≤ a1 := by omega
  have A1h : a1 ≤ 562949953421313 := by omega
  have A2l : -562949953421313 ≤ a2 := by omega
  have A2h : a2 ≤ 562949953421313 := by omega
  have A3l : -562949953421313 ≤ a3 := by omega
  have A3h : a3 ≤ 562949953421313 := by omega
  have ka0 : chg a0 = false := small_chg (by omega) (by omega)
  have ka1 : chg a1 = false := small_chg (by omega) (by omega)
  have ka2 : chg a2 = false := small_chg (by omega) (by omega)
  have ka3 : chg a3 = false := small_chg (by omega) (by omega)
  obtain ⟨t0, t1, t2, t3⟩ := m_le A0l A0h A1l A1h A2l A2h A3l A3h u0l u0h (show -8589934592 ≤ -u1 by omega) (show -u1 ≤ 8589934592 by omega) (show -8589934592 ≤ -u2 by omega) (show -u2 ≤ 8589934592 by omega) (show -8589934592 ≤ -u3 by omega) (show -u3 ≤ 8589934592 by omega)
  have hg := f85_in ka0 ka1 ka2 ka3 ku0 kn1 kn2 kn3 (by omega) (by omega) (by omega) (by omega)
  refine ⟨a0, a1, a2, a3, _, _, _, ?_, ⟨r0, r1, r2, r3⟩, rd_rnd _, rd_rnd _, rd_rnd _⟩
  unfold f42
  simp only [hf, f43_in ku0 ku1 ku2 ku3, hg]
  rfl
/-- a sum's rounding is near the roundings' sum -/
theorem rd_add {r s t x y z : Int} (h1 : Rd r x) (h2 : Rd s y) (h3 : Rd t z) (h : z = x + y) : -1 ≤ t - r - s ∧ t - r - s ≤ 1 := by
  unfold Rd at *; omega
theorem rot_adds {u0 u1 u2 u3 v1 v2 v3 w1 w2 w3 : Int} (u0l : -4294967296 ≤ u0) (u0h : u0 ≤ 4294967296) (u1l : -4294967296 ≤ u1) (u1h : u1 ≤ 4294967296) (u2l : -4294967296 ≤ u2) (u2h : u2 ≤ 4294967296) (u3l : -4294967296 ≤ u3) (u3h : u3 ≤ 4294967296)
    (v1l : -17592186044416 ≤ v1) (v1h : v1 ≤ 17592186044416) (v2l : -17592186044416 ≤ v2) (v2h : v2 ≤ 17592186044416) (v3l : -17592186044416 ≤ v3) (v3h : v3 ≤ 17592186044416)
    (w1l : -17592186044416 ≤ w1) (w1h : w1 ≤ 17592186044416) (w2l : -17592186044416 ≤ w2) (w2h : w2 ≤ 17592186044416) (w3l : -17592186044416 ≤ w3) (w3h : w3 ≤ 17592186044416) :
    ∃ a1 a2 a3 b1 b2 b3 t1 t2 t3 : Int, f42 u0 u1 u2 u3 v1 v2 v3 = (a1, a2, a3, false) ∧ f42 u0 u1 u2 u3 w1 w2 w3 = (b1, b2, b3, false) ∧ f42 u0 u1 u2 u3 (v1 + w1) (v2 + w2) (v3 + w3) = (t1, t2, t3, false) ∧
      (-16 ≤ t1 - a1 - b1 ∧ t1 - a1 - b1 ≤ 16) ∧ (-16 ≤ t2 - a2 - b2 ∧ t2 - a2 - b2 ≤ 16) ∧ (-16 ≤ t3 - a3 - b3 ∧ t3 - a3 - b3 ≤ 16) ∧
      (-288230376151711744 ≤ a1 ∧ a1 ≤ 288230376151711744) ∧ (-288230376151711744 ≤ a2 ∧ a2 ≤ 288230376151711744) ∧ (-288230376151711744 ≤ a3 ∧ a3 ≤ 288230376151711744) ∧
      (-288230376151711744 ≤ t1 ∧ t1 ≤ 288230376151711744) ∧ (-288230376151711744 ≤ t2 ∧ t2 ≤ 288230376151711744) ∧ (-288230376151711744 ≤ t3 ∧ t3 ≤ 288230376151711744) := by
  obtain ⟨x0, x1, x2, x3, a1, a2, a3, hx, ⟨rx0, rx1, rx2, rx3⟩, ra1, ra2, ra3⟩ := rot_in (u0 := u0) (u1 := u1) (u2 := u2) (u3 := u3) (v1 := v1) (v2 := v2) (v3 := v3) (by omega) (by omega) (by omega) (by omega) (by omega) (by omega) (by omega) (by omega) (by omega) (by omega) (by omega) (by omega) (by omega) (by omega)
  obtain ⟨y0, y1, y2, y3, b1, b2, b3, hy, ⟨ry0, ry1, ry2, ry3⟩, rb1, rb2, rb3⟩ := rot_in (u0 := u0) (u1 := u1) (u2 := u2) (u3 := u3) (v1 := w1) (v2 := w2) (v3 := w3) (by omega) (by omega) (by omega) (by omega) (by omega) (by omega) (by omega) (by omega) (by omega) (by omega) (by omega) (by omega) (by omega) (by omega)
  obtain ⟨z0, z1, z2, z3, t1, t2, t3, hz, ⟨rz0, rz1, rz2, rz3⟩, rt1, rt2, rt3⟩ := rot_in (u0 := u0) (u1 := u1) (u2 := u2) (u3 := u3) (v1 := v1 + w1) (v2 := v2 + w2) (v3 := v3 + w3) (by omega) (by omega) (by omega) (by omega) (by omega) (by omega) (by omega) (by omega) (by omega) (by omega) (by omega) (by omega) (by omega) (by omega)
  have d0 := rd_add rx0 ry0 rz0 (by unfold m0; grind)
  have d1 := rd_add rx1 ry1 rz1 (by unfold m1; grind)
  have d2 := rd_add rx2 ry2 rz2 (by unfold m2; grind)
  have d3 := rd_add rx3 ry3 rz3 (by unfold m3; grind)
  obtain ⟨-, g1, g2, g3⟩ := m_le (n := 1) (k := 4294967296) (a0 := z0 - x0 - y0) (a1 := z1 - x1 - y1) (a2 := z2 - x2 - y2) (a3 := z3 - x3 - y3) (b0 := u0) (b1 := -u1) (b2 := -u2) (b3 := -u3) (by omega) (by omega) (by omega) (by omega) (by omega) (by omega) (by omega) (by omega) (by omega) (by omega) (by omega) (by omega) (by omega) (by omega) (by omega) (by omega)
  have l1 : m1 z0 z1 z2 z3 u0 (-u1) (-u2) (-u3) = m1 x0 x1 x2 x3 u0 (-u1) (-u2) (-u3) + m1 y0 y1 y2 y3 u0 (-u1) (-u2) (-u3) + m1 (z0 - x0 - y0) (z1 - x1 - y1) (z2 - x2 - y2) (z3 - x3 - y3) u0 (-u1) (-u2) (-u3) := by unfold m1; grind
  have l2 : m2 z0 z1 z2 z3 u0 (-u1) (-u2) (-u3) = m2 x0 x1 x2 x3 u0 (-u1) (-u2) (-u3) + m2 y0 y1 y2 y3 u0 (-u1) (-u2) (-u3) + m2 (z0 - x0 - y0) (z1 - x1 - y1) (z2 - x2 - y2) (z3 - x3 - y3) u0 (-u1) (-u2) (-u3) := by unfold m2; grind
  have l3 : m3 z0 z1 z2 z3 u0 (-u1) (-u2) (-u3) = m3 x0 x1 x2 x3 u0 (-u1) (-u2) (-u3) + m3 y0 y1 y2 y3 u0 (-u1) (-u2) (-u3) + m3 (z0 - x0 - y0) (z1 - x1 - y1) (z2 - x2 - y2) (z3 - x3 - y3) u0 (-u1) (-u2) (-u3) := by unfold m3; grind
  -- sizes
  obtain ⟨q0, q1, q2, q3⟩ := m_le (b0 := 0) (b1 := v1) (b2 := v2) (b3 := v3) (k := 17592186044416) u0l u0h u1l u1h u2l u2h u3l u3h (by omega) (by omega) v1l v1h v2l v2h v3l v3h
  have X0 : -70368744177665 ≤ x0 ∧ x0 ≤ 70368744177665 := by unfold Rd at rx0; omega
  have X1 : -70368744177665 ≤ x1 ∧ x1 ≤ 70368744177665 := by unfold Rd at rx1; omega
  have X2 : -70368744177665 ≤ x2 ∧ x2 ≤ 70368744177665 := by unfold Rd at rx2; omega
  have X3 : -70368744177665 ≤ x3 ∧ x3 ≤ 70368744177665 := by unfold Rd at rx3; omega
  obtain ⟨-, p1, p2, p3⟩ := m_le (k := 4294967296) (b0 := u0) (b1 := -u1) (b2 := -u2) (b3 := -u3) X0.1 X0.2 X1.1 X1.2 X2.1 X2.2 X3.1 X3.2 (by omega) (by omega) (by omega) (by omega) (by omega) (by omega) (by omega) (by omega)
  obtain ⟨q0', q1', q2', q3'⟩ := m_le (b0 := 0) (b1 := w1) (b2 := w2) (b3 := w3) (k := 17592186044416) u0l u0h u1l u1h u2l u2h u3l u3h (by omega) (by omega) w1l w1h w2l w2h w3l w3h
  have Y0 : -70368744177665 ≤ y0 ∧ y0 ≤ 70368744177665 := by unfold Rd at ry0; omega
  have Y1 : -70368744177665 ≤ y1 ∧ y1 ≤ 70368744177665 := by unfold Rd at ry1; omega
  have Y2 : -70368744177665 ≤ y2 ∧ y2 ≤ 70368744177665 := by unfold Rd at ry2; omega
  have Y3 : -70368744177665 ≤ y3 ∧ y3 ≤ 70368744177665 := by unfold Rd at ry3; omega
  obtain ⟨-, p1', p2', p3'⟩ := m_le (k := 4294967296) (b0 := u0) (b1 := -u1) (b2 := -u2) (b3 := -u3) Y0.1 Y0.2 Y1.1 Y1.2 Y2.1 Y2.2 Y3.1 Y3.2 (by omega) (by omega) (by omega) (by omega) (by omega) (by omega) (by omega) (by omega)
  have i1 : -400000000000000 ≤ a1 ∧ a1 ≤ 400000000000000 := by unfold Rd at ra1; omega
  have i2 : -400000000000000 ≤ a2 ∧ a2 ≤ 400000000000000 := by unfold Rd at ra2; omega
  have i3 : -400000000000000 ≤ a3 ∧ a3 ≤ 400000000000000 := by unfold Rd at ra3; omega
  have j1 : -400000000000000 ≤ b1 ∧ b1 ≤ 400000000000000 := by unfold Rd at rb1; omega
  have j2 : -400000000000000 ≤ b2 ∧ b2 ≤ 400000000000000 := by unfold Rd at rb2; omega
  have j3 : -400000000000000 ≤ b3 ∧ b3 ≤ 400000000000000 := by unfold Rd at rb3; omega
  have o1 : -16 ≤ t1 - a1 - b1 ∧ t1 - a1 - b1 ≤ 16 := by unfold Rd at ra1 rb1 rt1; omega
  have o2 : -16 ≤ t2 - a2 - b2 ∧ t2 - a2 - b2 ≤ 16 := by unfold Rd at ra2 rb2 rt2; omega
  have o3 : -16 ≤ t3 - a3 - b3 ∧ t3 - a3 - b3 ≤ 16 := by unfold Rd at ra3 rb3 rt3; omega
  exact ⟨a1, a2, a3, b1, b2, b3, t1, t2, t3, hx, hy, hz, o1, o2, o3, by omega, by omega, by omega, by omega, by omega, by omega⟩
end Go.Proofs.YtmnglkcodbecbaaGreat
