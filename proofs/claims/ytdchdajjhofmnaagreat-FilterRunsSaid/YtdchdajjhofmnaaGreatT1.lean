/- The plain law TurnUnit: whatever comes, the length is 1. -/
import Derived.Test.YtdchdajjhofmnaaGreatQ7
import Derived.Test.YtdchdajjhofmnaaGreatGk
namespace Go.Proofs.YtdchdajjhofmnaaGreat
open Go Go.Sx
theorem first_any3 (p q r : Bool) : decide ((bif p then (0 : Int) else bif q then IntKind.i64.wrap (0 + 1) else bif r then IntKind.i64.wrap (IntKind.i64.wrap (0 + 1) + 1) else -1) ≥ 0) = (p || (q || r)) := by
 cases p <;> cases q <;> cases r <;> decide
def SaneQ (q0 q1 q2 q3 : Int) : Prop := ∃ n, Len n q0 q1 q2 q3 ∧ 4294967040 ≤ n ∧ n ≤ 4294967552
theorem SaneQ.norm {q0 q1 q2 q3 : Int} (h : SaneQ q0 q1 q2 q3) : ∃ n, f140 q0 q1 q2 q3 = (n, false) ∧ Len n q0 q1 q2 q3 ∧ 4294967040 ≤ n ∧ n ≤ 4294967552 := by
 obtain ⟨n, h1, h2, h3⟩ := h
 have hc := h1.comp
 exact ⟨n, f140_known (small_chg (by omega) (by omega)) (small_chg (by omega) (by omega)) (small_chg (by omega) (by omega)) (small_chg (by omega) (by omega)) h1 (by omega), h1, h2, h3⟩
theorem f13_is (q0 q1 q2 q3 w0 w1 w2 : Int) (b : Bool) : f13 q0 q1 q2 q3 w0 w1 w2 b = (!(f140 q0 q1 q2 q3).snd && decide ((f140 q0 q1 q2 q3).fst ≥ 4294967040) && decide ((f140 q0 q1 q2 q3).fst ≤ 4294967552) && !(chg w0 || (chg w1 || chg w2))) :=
 congrArg (fun x => !(f140 q0 q1 q2 q3).snd && decide ((f140 q0 q1 q2 q3).fst ≥ 4294967040) && decide ((f140 q0 q1 q2 q3).fst ≤ 4294967552) && !x) (first_any3 (f99 w0).snd (f99 w1).snd (f99 w2).snd)
theorem f13_iff (q0 q1 q2 q3 w0 w1 w2 : Int) (b : Bool) : f13 q0 q1 q2 q3 w0 w1 w2 b = true ↔ SaneQ q0 q1 q2 q3 ∧ chg w0 = false ∧ chg w1 = false ∧ chg w2 = false := by
 rw [f13_is]
 constructor
 ·intro h
  simp only [Bool.and_eq_true, Bool.not_eq_true', decide_eq_true_eq, Bool.or_eq_false_iff] at h
  obtain ⟨⟨⟨h1, h2⟩, h3⟩, h4, h5, h6⟩ := h
  refine ⟨?_, h4, h5, h6⟩
  have hf : f140 q0 q1 q2 q3 = ((f140 q0 q1 q2 q3).1, false) := Prod.ext rfl h1
  obtain ⟨-, -, -, -, hl⟩ := f140_back hf (by omega)
  exact ⟨_, hl, by omega, by omega⟩
 ·rintro ⟨h, h4, h5, h6⟩
  obtain ⟨n, h1, _, h2, h3⟩ := h.norm
  rw [h1, h4, h5, h6, decide_eq_true (show n ≥ 4294967040 from h2), decide_eq_true h3]; rfl
theorem start_sane : SaneQ 4294967296 0 0 0 := ⟨4294967296, ⟨by omega, by omega, by omega⟩, by omega, by omega⟩
theorem f305_is (q0 q1 q2 q3 w0 w1 w2 : Int) (b : Bool) : (f13 q0 q1 q2 q3 w0 w1 w2 b = true ∧ f305 q0 q1 q2 q3 w0 w1 w2 b = (q0, q1, q2, q3, w0, w1, w2, b)) ∨ (f13 q0 q1 q2 q3 w0 w1 w2 b = false ∧ f305 q0 q1 q2 q3 w0 w1 w2 b = (4294967296, 0, 0, 0, 0, 0, 0, true)) := by
 unfold f305
 have h34 : f52 = (4294967296, 0, 0, 0, 0, 0, 0, false) := rfl
 rw [h34]
 cases h : f13 q0 q1 q2 q3 w0 w1 w2 b
 ·exact .inr ⟨rfl, rfl⟩
 ·exact .inl ⟨rfl, rfl⟩
theorem f305_sane (q0 q1 q2 q3 w0 w1 w2 : Int) (b : Bool) : ∃ p0 p1 p2 p3 v0 v1 v2 c, f305 q0 q1 q2 q3 w0 w1 w2 b = (p0, p1, p2, p3, v0, v1, v2, c) ∧ SaneQ p0 p1 p2 p3 ∧ chg v0 = false ∧ chg v1 = false ∧ chg v2 = false ∧ ((b = true ∨ f13 q0 q1 q2 q3 w0 w1 w2 b = false) → c = true) := by
 have z : chg 0 = false := small_chg (by omega) (by omega)
 rcases f305_is q0 q1 q2 q3 w0 w1 w2 b with ⟨h, e⟩ | ⟨h, e⟩
 ·obtain ⟨h1, h2, h3, h4⟩ := (f13_iff ..).1 h
  refine ⟨_, _, _, _, _, _, _, _, e, h1, h2, h3, h4, ?_⟩
  rintro (h5 | h5)
  ·exact h5
  ·rw [h] at h5; simp at h5
 ·exact ⟨_, _, _, _, _, _, _, _, e, start_sane, z, z, z, fun _ => rfl⟩
theorem euler (a0 a1 a2 a3 b0 b1 b2 b3 : Int) : m0 a0 a1 a2 a3 b0 b1 b2 b3 * m0 a0 a1 a2 a3 b0 b1 b2 b3 + m1 a0 a1 a2 a3 b0 b1 b2 b3 * m1 a0 a1 a2 a3 b0 b1 b2 b3 + m2 a0 a1 a2 a3 b0 b1 b2 b3 * m2 a0 a1 a2 a3 b0 b1 b2 b3 + m3 a0 a1 a2 a3 b0 b1 b2 b3 * m3 a0 a1 a2 a3 b0 b1 b2 b3 =
  (a0 * a0 + a1 * a1 + a2 * a2 + a3 * a3) * (b0 * b0 + b1 * b1 + b2 * b2 + b3 * b3) := by
 unfold m0 m1 m2 m3; grind
theorem rd_sq {r m : Int} (h : Rd r m) (h0 : -73787250000000000000 ≤ m) (h1 : m ≤ 73787250000000000000) : -(316914000000000000000000000000) ≤ r * r * 18446744073709551616 - m * m ∧ r * r * 18446744073709551616 - m * m ≤ 316914000000000000000000000000 := by
 obtain ⟨e, he, e0, e1⟩ : ∃ e, r * 4294967296 = m + e ∧ -2147483648 ≤ e ∧ e ≤ 2147483648 := ⟨r * 4294967296 - m, by omega, by unfold Rd at h; omega, by unfold Rd at h; omega⟩
 have e2 : r * r * 18446744073709551616 = (r * 4294967296) * (r * 4294967296) := by grind
 rw [e2, he]
 have e3 : (m + e) * (m + e) = m * m + 2 * (m * e) + e * e := by grind
 obtain ⟨p1, p2⟩ := ab_le2 h0 h1 e0 e1
 have p3 := sq_abs_le e0 e1
 have p4 := sq_nn e
 omega
theorem mul_len {q0 q1 q2 q3 s0 s1 s2 s3 : Int} (hq : SaneQ q0 q1 q2 q3) (hs0 : 18446744056529682432 ≤ s0 * s0 + s1 * s1 + s2 * s2 + s3 * s3) (hs1 : s0 * s0 + s1 * s1 + s2 * s2 + s3 * s3 ≤ 18446744099479748610)
  (l0 : -4294967296 ≤ s0) (r0 : s0 ≤ 4294967296) (l1 : -4294967296 ≤ s1) (r1 : s1 ≤ 4294967296) (l2 : -4294967296 ≤ s2) (r2 : s2 ≤ 4294967296) (l3 : -4294967296 ≤ s3) (r3 : s3 ≤ 4294967296) :
  ∃ p0 p1 p2 p3 n, f200 q0 q1 q2 q3 s0 s1 s2 s3 = (p0, p1, p2, p3, false) ∧ (Rd p0 (m0 q0 q1 q2 q3 s0 s1 s2 s3) ∧ Rd p1 (m1 q0 q1 q2 q3 s0 s1 s2 s3) ∧ Rd p2 (m2 q0 q1 q2 q3 s0 s1 s2 s3) ∧ Rd p3 (m3 q0 q1 q2 q3 s0 s1 s2 s3)) ∧
   Len n p0 p1 p2 p3 ∧ 4294966016 ≤ n ∧ n ≤ 4294968576 ∧ chg p0 = false ∧ chg p1 = false ∧ chg p2 = false ∧ chg p3 = false := by
 obtain ⟨n, hn, n0, n1⟩ := hq
 obtain ⟨⟨a0, b0⟩, ⟨a1, b1⟩, ⟨a2, b2⟩, ⟨a3, b3⟩⟩ := hn.comp
 obtain ⟨t0, t1, t2, t3⟩ := m_le (n := 4294967552) (k := 4294967296) (a0 := q0) (a1 := q1) (a2 := q2) (a3 := q3) (by omega) (by omega) (by omega) (by omega) (by omega) (by omega) (by omega) (by omega) l0 r0 l1 r1 l2 r2 l3 r3
 have hf := f200_in (a0 := q0) (a1 := q1) (a2 := q2) (a3 := q3) (b0 := s0) (b1 := s1) (b2 := s2) (b3 := s3) (small_chg (by omega) (by omega)) (small_chg (by omega) (by omega)) (small_chg (by omega) (by omega)) (small_chg (by omega) (by omega)) (small_chg (by omega) (by omega)) (small_chg (by omega) (by omega)) (small_chg (by omega) (by omega)) (small_chg (by omega) (by omega)) (by omega) (by omega) (by omega) (by omega)
 have g0 := rd_rnd (m0 q0 q1 q2 q3 s0 s1 s2 s3); have g1 := rd_rnd (m1 q0 q1 q2 q3 s0 s1 s2 s3)
 have g2 := rd_rnd (m2 q0 q1 q2 q3 s0 s1 s2 s3); have g3 := rd_rnd (m3 q0 q1 q2 q3 s0 s1 s2 s3)
 have he := euler q0 q1 q2 q3 s0 s1 s2 s3
 have x0 := rd_sq g0 (by omega) (by omega); have x1 := rd_sq g1 (by omega) (by omega)
 have x2 := rd_sq g2 (by omega) (by omega); have x3 := rd_sq g3 (by omega) (by omega)
 have lo := hn.lo; have hi := hn.hi
 have nn0 := Int.mul_le_mul n0 n0 (by omega) (by omega)
 have nn1 := Int.mul_le_mul (show n + 1 ≤ 4294967553 by omega) (show n + 1 ≤ 4294967553 by omega) (by omega) (by omega)
 have A0 := Int.mul_le_mul (show 4294967040 * 4294967040 ≤ q0 * q0 + q1 * q1 + q2 * q2 + q3 * q3 by omega) hs0 (by omega) (by omega)
 have A1 := Int.mul_le_mul (show q0 * q0 + q1 * q1 + q2 * q2 + q3 * q3 ≤ 4294967553 * 4294967553 by omega) hs1 (by omega) (by omega)
 rw [← he] at A0 A1
 generalize rnd (m0 q0 q1 q2 q3 s0 s1 s2 s3) = p0 at *
 generalize rnd (m1 q0 q1 q2 q3 s0 s1 s2 s3) = p1 at *
 generalize rnd (m2 q0 q1 q2 q3 s0 s1 s2 s3) = p2 at *
 generalize rnd (m3 q0 q1 q2 q3 s0 s1 s2 s3) = p3 at *
 have S0 : 4294966016 * 4294966016 ≤ p0 * p0 + p1 * p1 + p2 * p2 + p3 * p3 := by omega
 have S1 : p0 * p0 + p1 * p1 + p2 * p2 + p3 * p3 < 4294968577 * 4294968577 := by omega
 have k0 : chg p0 = false := small_chg (by unfold Rd at g0; omega) (by unfold Rd at g0; omega)
 have k1 : chg p1 = false := small_chg (by unfold Rd at g1; omega) (by unfold Rd at g1; omega)
 have k2 : chg p2 = false := small_chg (by unfold Rd at g2; omega) (by unfold Rd at g2; omega)
 have k3 : chg p3 = false := small_chg (by unfold Rd at g3; omega) (by unfold Rd at g3; omega)
 obtain ⟨m, hm, hm2⟩ := Len.mk' k0 k1 k2 k3 (by omega)
 have m0' := hm.nn
 have c1 : m < 4294968577 := lt_of_sq (by have := hm.lo; omega) (by omega)
 have c2 : 4294966016 < m + 1 := lt_of_sq (by have := hm.hi; omega) (by omega)
 exact ⟨p0, p1, p2, p3, m, hf, ⟨g0, g1, g2, g3⟩, hm, by omega, by omega, k0, k1, k2, k3⟩
theorem by_in {q0 q1 q2 q3 v1 v2 v3 : Int} (hq : SaneQ q0 q1 q2 q3) (l1 : -288230376151711744 ≤ v1) (r1 : v1 ≤ 288230376151711744) (l2 : -288230376151711744 ≤ v2) (r2 : v2 ≤ 288230376151711744) (l3 : -288230376151711744 ≤ v3) (r3 : v3 ≤ 288230376151711744) :
  ∃ s0 s1 s2 s3 p0 p1 p2 p3 u0 u1 u2 u3, f308 v1 v2 v3 = (s0, s1, s2, s3, false) ∧ f200 q0 q1 q2 q3 s0 s1 s2 s3 = (p0, p1, p2, p3, false) ∧ f309 p0 p1 p2 p3 = (u0, u1, u2, u3, false) ∧ SaneQ u0 u1 u2 u3 := by
 obtain ⟨n, s0, s1, s2, s3, hf, hl, hn, hn2, o0, o1, o2, o3⟩ := small_in l1 r1 l2 r2 l3 r3
 obtain ⟨S0, -, S1⟩ := one_sq (by omega) hl o0 o1 o2 o3
 obtain ⟨p0, p1, p2, p3, m, hg, -, hm, m0, m1, k0, k1, k2, k3⟩ := mul_len hq S0 (S1 (by omega)) o0.lo o0.hi o1.lo o1.hi o2.lo o2.hi o3.lo o3.hi
 obtain ⟨u0, u1, u2, u3, hu, c0, c1, c2, c3⟩ := unit_all k0 k1 k2 k3 (by omega) (by omega) hm
 obtain ⟨U0, -, U1⟩ := one_sq (by omega) hm c0 c1 c2 c3
 have U1 := U1 (by omega)
 obtain ⟨t, -, t1, t2, ht⟩ := one_len (L := 4294967290) (H := 4294967306) c0.lo c0.hi c1.lo c1.hi c2.lo c2.hi c3.lo c3.hi (by omega) (by omega) (by omega)
 exact ⟨s0, s1, s2, s3, p0, p1, p2, p3, u0, u1, u2, u3, hf, hg, hu, t, ht, by omega, by omega⟩
theorem f206_rng (a b : Int) : -288230376151711744 ≤ (f206 a b).fst ∧ (f206 a b).fst ≤ 288230376151711744 := by rw [f206_eq]; exact ⟨cl_lo _, cl_hi _⟩
theorem f204_chg (a b : Int) : chg (f204 a b).fst = false := by rw [f204_eq]; unfold chg; rw [cl_cl]; simp
theorem move_sane (q0 q1 q2 q3 w0 w1 w2 : Int) (b : Bool) (v0 v1 v2 dt : Int) : ∃ u0 u1 u2 u3 x0 x1 x2 c, f208 q0 q1 q2 q3 w0 w1 w2 b v0 v1 v2 dt = (u0, u1, u2, u3, x0, x1, x2, c) ∧ SaneQ u0 u1 u2 u3 ∧ chg x0 = false ∧ chg x1 = false ∧ chg x2 = false ∧
  ((b = true ∨ f13 q0 q1 q2 q3 w0 w1 w2 b = false) → c = true) := by
 obtain ⟨p0, p1, p2, p3, y0, y1, y2, c, he, hs, k0, k1, k2, hc⟩ := f305_sane q0 q1 q2 q3 w0 w1 w2 b
 unfold f208
 simp only [he]
 generalize (!!decide ((bif (f99 v0).snd then (0 : Int) else bif (f99 v1).snd then IntKind.i64.wrap (0 + 1) else bif (f99 v2).snd then IntKind.i64.wrap (IntKind.i64.wrap (0 + 1) + 1) else -1) ≥ 0) || decide (dt < 0) || decide (dt > 68719476736)) = G
 have h62 : ∀ a b c d, f197 a b c d = ((f206 a d).fst, (f206 b d).fst, (f206 c d).fst, (f206 a d).snd || (f206 b d).snd || (f206 c d).snd) := fun _ _ _ _ => rfl
 simp only [h62]
 obtain ⟨s0, s1, s2, s3, r0, r1, r2, r3, u0, u1, u2, u3, e1, e2, e3, e4⟩ := by_in hs (f206_rng (f152 v0 v1 v2 y0 y1 y2).fst dt).1 (f206_rng _ _).2 (f206_rng (f152 v0 v1 v2 y0 y1 y2).snd.fst dt).1 (f206_rng _ _).2 (f206_rng (f152 v0 v1 v2 y0 y1 y2).snd.snd.fst dt).1 (f206_rng _ _).2
 simp only [e1, e2, e3]
 cases G
 ·refine ⟨_, _, _, _, _, _, _, _, rfl, e4, k0, k1, k2, fun h => ?_⟩
  rw [hc h]; rfl
 ·exact ⟨_, _, _, _, _, _, _, _, rfl, hs, k0, k1, k2, fun _ => rfl⟩
theorem level_sane (q0 q1 q2 q3 w0 w1 w2 : Int) (b : Bool) (v0 v1 v2 gn : Int) : ∃ u0 u1 u2 u3 x0 x1 x2 c, f209 q0 q1 q2 q3 w0 w1 w2 b v0 v1 v2 gn = (u0, u1, u2, u3, x0, x1, x2, c) ∧ SaneQ u0 u1 u2 u3 ∧ chg x0 = false ∧ chg x1 = false ∧ chg x2 = false ∧
  ((b = true ∨ f13 q0 q1 q2 q3 w0 w1 w2 b = false) → c = true) := by
 obtain ⟨p0, p1, p2, p3, y0, y1, y2, c, he, hs, k0, k1, k2, hc⟩ := f305_sane q0 q1 q2 q3 w0 w1 w2 b
 unfold f209
 simp only [he]
 generalize (!!decide ((bif (f99 v0).snd then (0 : Int) else bif (f99 v1).snd then IntKind.i64.wrap (0 + 1) else bif (f99 v2).snd then IntKind.i64.wrap (IntKind.i64.wrap (0 + 1) + 1) else -1) ≥ 0) || decide (gn < 0) || decide (gn > 4294967296)) = G
 generalize (f264 v0 v1 v2).snd.snd.snd = N
 generalize f265 (f264 v0 v1 v2).fst (f264 v0 v1 v2).snd.fst (f264 v0 v1 v2).snd.snd.fst (f266 p0 p1 p2 p3 y0 y1 y2 c).fst (f266 p0 p1 p2 p3 y0 y1 y2 c).snd.fst (f266 p0 p1 p2 p3 y0 y1 y2 c).snd.snd = X
 have h62 : ∀ a b c d, f197 a b c d = ((f206 a d).fst, (f206 b d).fst, (f206 c d).fst, (f206 a d).snd || (f206 b d).snd || (f206 c d).snd) := fun _ _ _ _ => rfl
 have h63 : ∀ a b c d e f, f152 a b c d e f = ((f204 a d).fst, (f204 b e).fst, (f204 c f).fst, (f204 a d).snd || (f204 b e).snd || (f204 c f).snd) := fun _ _ _ _ _ _ => rfl
 simp only [h62, h63]
 obtain ⟨s0, s1, s2, s3, r0, r1, r2, r3, u0, u1, u2, u3, e1, e2, e3, e4⟩ := by_in hs (f206_rng X.fst gn).1 (f206_rng _ _).2 (f206_rng X.snd.fst gn).1 (f206_rng _ _).2 (f206_rng X.snd.snd.fst gn).1 (f206_rng _ _).2
 simp only [e1, e2, e3]
 cases G
 ·cases N
  ·refine ⟨_, _, _, _, _, _, _, _, rfl, e4, f204_chg _ _, f204_chg _ _, f204_chg _ _, fun h => ?_⟩
   rw [hc h]; rfl
  ·exact ⟨_, _, _, _, _, _, _, _, rfl, hs, k0, k1, k2, fun h => hc h⟩
 ·exact ⟨_, _, _, _, _, _, _, _, rfl, hs, k0, k1, k2, fun _ => rfl⟩
end Go.Proofs.YtdchdajjhofmnaaGreat
