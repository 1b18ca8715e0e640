/- The plain law TurnBack: there and back. -/
import Derived.Test.YtoagcpfklkmolaaT2
namespace Go.Proofs.Ytoagcpfklkmolaa
open Go Go.Sx
theorem f53_in {a b : Int} (a0 : -34359738368 ≤ a) (a1 : a ≤ 34359738368) (b0 : 0 ≤ b) (b1 : b ≤ 8589934592) : f53 a b = (rnd (a * b), false) ∧ -68719476736 ≤ rnd (a * b) ∧ rnd (a * b) ≤ 68719476736 := by
  obtain ⟨p1, p2⟩ := ab_le2 (n := 34359738368) (k := 8589934592) a0 a1 (show -8589934592 ≤ b by omega) b1
  have h := rnd_bounds (a * b)
  refine ⟨?_, by omega, by omega⟩
  rw [f53_eq, cl_in (n := a) (by omega) (by omega), cl_in (n := b) (by omega) (by omega), cl_in (n := rnd (a * b)) (by omega) (by omega)]; simp
/-- Move, where all is in range -/
theorem move_in {q0 q1 q2 q3 : Int} (hs : SaneQ q0 q1 q2 q3) {v0 v1 v2 dt : Int} (l0 : -34359738368 ≤ v0) (r0 : v0 ≤ 34359738368) (l1 : -34359738368 ≤ v1) (r1 : v1 ≤ 34359738368) (l2 : -34359738368 ≤ v2) (r2 : v2 ≤ 34359738368) (d0 : 0 ≤ dt) (d1 : dt ≤ 8589934592)
    {s0 s1 s2 s3 p0 p1 p2 p3 u0 u1 u2 u3 : Int} (e1 : f21 (rnd (v0 * dt)) (rnd (v1 * dt)) (rnd (v2 * dt)) = (s0, s1, s2, s3, false)) (e2 : f15 q0 q1 q2 q3 s0 s1 s2 s3 = (p0, p1, p2, p3, false)) (e3 : f19 p0 p1 p2 p3 = (u0, u1, u2, u3, false)) :
    f31 q0 q1 q2 q3 0 0 0 false v0 v1 v2 dt = (u0, u1, u2, u3, 0, 0, 0, false) := by
  have z : chg 0 = false := small_chg (by omega) (by omega)
  have h33 : f33 q0 q1 q2 q3 0 0 0 false = true := (f33_iff ..).2 ⟨hs, z, z, z⟩
  have he : f65 q0 q1 q2 q3 0 0 0 false = (q0, q1, q2, q3, 0, 0, 0, false) := by
    rcases f65_is q0 q1 q2 q3 0 0 0 false with ⟨_, e⟩ | ⟨h', _⟩
    · exact e
    · rw [h33] at h'; simp at h'
  have h63 : f63 v0 v1 v2 0 0 0 = (v0, v1, v2, false) := by
    unfold f63; rw [f97_in (by omega) (by omega) (by omega) (by omega), f97_in (by omega) (by omega) (by omega) (by omega), f97_in (by omega) (by omega) (by omega) (by omega)]
    simp
  have h62 : f62 v0 v1 v2 dt = (rnd (v0 * dt), rnd (v1 * dt), rnd (v2 * dt), false) := by
    unfold f62; rw [(f53_in l0 r0 d0 d1).1, (f53_in l1 r1 d0 d1).1, (f53_in l2 r2 d0 d1).1]; rfl
  have hG : (!!decide ((bif (f29 v0).snd then (0 : Int) else bif (f29 v1).snd then IntKind.i64.wrap (0 + 1) else bif (f29 v2).snd then IntKind.i64.wrap (IntKind.i64.wrap (0 + 1) + 1) else -1) ≥ 0) || decide (dt < 0) || decide (dt > 68719476736)) = false := by
    rw [first_any3, chg_f, chg_f, chg_f, small_chg (a := v0) (by omega) (by omega), small_chg (a := v1) (by omega) (by omega), small_chg (a := v2) (by omega) (by omega), decide_eq_false (show ¬ dt < 0 by omega), decide_eq_false (show ¬ dt > 68719476736 by omega)]; rfl
  unfold f31
  simp only [he, h63, h62, e1, e2, e3, hG]
  simp
theorem f15_id {s0 s1 s2 s3 : Int} (l0 : -4294967296 ≤ s0) (r0 : s0 ≤ 4294967296) (l1 : -4294967296 ≤ s1) (r1 : s1 ≤ 4294967296) (l2 : -4294967296 ≤ s2) (r2 : s2 ≤ 4294967296) (l3 : -4294967296 ≤ s3) (r3 : s3 ≤ 4294967296) :
    f15 4294967296 0 0 0 s0 s1 s2 s3 = (s0, s1, s2, s3, false) := by
  have e0 : m0 4294967296 0 0 0 s0 s1 s2 s3 = s0 * 4294967296 := by unfold m0; omega
  have e1 : m1 4294967296 0 0 0 s0 s1 s2 s3 = s1 * 4294967296 := by unfold m1; omega
  have e2 : m2 4294967296 0 0 0 s0 s1 s2 s3 = s2 * 4294967296 := by unfold m2; omega
  have e3 : m3 4294967296 0 0 0 s0 s1 s2 s3 = s3 * 4294967296 := by unfold m3; omega
  have hf := f15_in (a0 := 4294967296) (a1 := 0) (a2 := 0) (a3 := 0) (b0 := s0) (b1 := s1) (b2 := s2) (b3 := s3) (small_chg (by omega) (by omega)) (small_chg (by omega) (by omega)) (small_chg (by omega) (by omega)) (small_chg (by omega) (by omega)) (small_chg (by omega) (by omega)) (small_chg (by omega) (by omega)) (small_chg (by omega) (by omega)) (small_chg (by omega) (by omega)) (by omega) (by omega) (by omega) (by omega)
  rw [hf, e0, e1, e2, e3, rnd_mul, rnd_mul, rnd_mul, rnd_mul]
theorem back_mul {s0 s1 s2 s3 : Int} : m0 s0 s1 s2 s3 s0 (-s1) (-s2) (-s3) = s0 * s0 + s1 * s1 + s2 * s2 + s3 * s3 ∧ m1 s0 s1 s2 s3 s0 (-s1) (-s2) (-s3) = 0 ∧ m2 s0 s1 s2 s3 s0 (-s1) (-s2) (-s3) = 0 ∧ m3 s0 s1 s2 s3 s0 (-s1) (-s2) (-s3) = 0 := by
  unfold m0 m1 m2 m3; refine ⟨?_, ?_, ?_, ?_⟩ <;> grind
theorem m_add_l (a0 a1 a2 a3 c0 c1 c2 c3 b0 b1 b2 b3 : Int) : m0 (a0 + c0) (a1 + c1) (a2 + c2) (a3 + c3) b0 b1 b2 b3 = m0 a0 a1 a2 a3 b0 b1 b2 b3 + m0 c0 c1 c2 c3 b0 b1 b2 b3 ∧ m1 (a0 + c0) (a1 + c1) (a2 + c2) (a3 + c3) b0 b1 b2 b3 = m1 a0 a1 a2 a3 b0 b1 b2 b3 + m1 c0 c1 c2 c3 b0 b1 b2 b3 ∧
    m2 (a0 + c0) (a1 + c1) (a2 + c2) (a3 + c3) b0 b1 b2 b3 = m2 a0 a1 a2 a3 b0 b1 b2 b3 + m2 c0 c1 c2 c3 b0 b1 b2 b3 ∧ m3 (a0 + c0) (a1 + c1) (a2 + c2) (a3 + c3) b0 b1 b2 b3 = m3 a0 a1 a2 a3 b0 b1 b2 b3 + m3 c0 c1 c2 c3 b0 b1 b2 b3 := by
  unfold m0 m1 m2 m3; refine ⟨?_, ?_, ?_, ?_⟩ <;> grind
theorem m_add_r (a0 a1 a2 a3 c0 c1 c2 c3 b0 b1 b2 b3 : Int) : m0 b0 b1 b2 b3 (a0 + c0) (a1 + c1) (a2 + c2) (a3 + c3) = m0 b0 b1 b2 b3 a0 a1 a2 a3 + m0 b0 b1 b2 b3 c0 c1 c2 c3 ∧ m1 b0 b1 b2 b3 (a0 + c0) (a1 + c1) (a2 + c2) (a3 + c3) = m1 b0 b1 b2 b3 a0 a1 a2 a3 + m1 b0 b1 b2 b3 c0 c1 c2 c3 ∧
    m2 b0 b1 b2 b3 (a0 + c0) (a1 + c1) (a2 + c2) (a3 + c3) = m2 b0 b1 b2 b3 a0 a1 a2 a3 + m2 b0 b1 b2 b3 c0 c1 c2 c3 ∧ m3 b0 b1 b2 b3 (a0 + c0) (a1 + c1) (a2 + c2) (a3 + c3) = m3 b0 b1 b2 b3 a0 a1 a2 a3 + m3 b0 b1 b2 b3 c0 c1 c2 c3 := by
  unfold m0 m1 m2 m3; refine ⟨?_, ?_, ?_, ?_⟩ <;> grind
/-- a turn near s, behind it one near its way back: nearly one -/
theorem there_back {s0 s1 s2 s3 q0 q1 q2 q3 t0 t1 t2 t3 : Int} (S0 : 18446744056529682432 ≤ s0 * s0 + s1 * s1 + s2 * s2 + s3 * s3) (S1 : s0 * s0 + s1 * s1 + s2 * s2 + s3 * s3 ≤ 18446744099479748610)
    (l0 : -4294967296 ≤ s0) (r0 : s0 ≤ 4294967296) (l1 : -4294967296 ≤ s1) (r1 : s1 ≤ 4294967296) (l2 : -4294967296 ≤ s2) (r2 : s2 ≤ 4294967296) (l3 : -4294967296 ≤ s3) (r3 : s3 ≤ 4294967296)
    (a0 : -300 ≤ q0 - s0 ∧ q0 - s0 ≤ 300) (a1 : -300 ≤ q1 - s1 ∧ q1 - s1 ≤ 300) (a2 : -300 ≤ q2 - s2 ∧ q2 - s2 ≤ 300) (a3 : -300 ≤ q3 - s3 ∧ q3 - s3 ≤ 300)
    (b0 : -16 ≤ t0 - s0 ∧ t0 - s0 ≤ 16) (b1 : -16 ≤ t1 + s1 ∧ t1 + s1 ≤ 16) (b2 : -16 ≤ t2 + s2 ∧ t2 + s2 ≤ 16) (b3 : -16 ≤ t3 + s3 ∧ t3 + s3 ≤ 16) :
    (18446735277616529408 ≤ m0 q0 q1 q2 q3 t0 t1 t2 t3 ∧ m0 q0 q1 q2 q3 t0 t1 t2 t3 ≤ 18446752869802573824) ∧ (-8796093022208 ≤ m1 q0 q1 q2 q3 t0 t1 t2 t3 ∧ m1 q0 q1 q2 q3 t0 t1 t2 t3 ≤ 8796093022208) ∧
    (-8796093022208 ≤ m2 q0 q1 q2 q3 t0 t1 t2 t3 ∧ m2 q0 q1 q2 q3 t0 t1 t2 t3 ≤ 8796093022208) ∧ (-8796093022208 ≤ m3 q0 q1 q2 q3 t0 t1 t2 t3 ∧ m3 q0 q1 q2 q3 t0 t1 t2 t3 ≤ 8796093022208) := by
  obtain ⟨c0, c1, c2, c3⟩ := m_add_l s0 s1 s2 s3 (q0 - s0) (q1 - s1) (q2 - s2) (q3 - s3) t0 t1 t2 t3
  obtain ⟨d0, d1, d2, d3⟩ := m_add_r s0 (-s1) (-s2) (-s3) (t0 - s0) (t1 + s1) (t2 + s2) (t3 + s3) s0 s1 s2 s3
  rw [show s0 + (q0 - s0) = q0 by omega, show s1 + (q1 - s1) = q1 by omega, show s2 + (q2 - s2) = q2 by omega, show s3 + (q3 - s3) = q3 by omega] at c0 c1 c2 c3
  rw [show s0 + (t0 - s0) = t0 by omega, show -s1 + (t1 + s1) = t1 by omega, show -s2 + (t2 + s2) = t2 by omega, show -s3 + (t3 + s3) = t3 by omega] at d0 d1 d2 d3
  obtain ⟨e0, e1, e2, e3⟩ := @back_mul s0 s1 s2 s3
  obtain ⟨x0, x1, x2, x3⟩ := m_le (n := 300) (k := 4294967312) (b0 := t0) (b1 := t1) (b2 := t2) (b3 := t3) a0.1 a0.2 a1.1 a1.2 a2.1 a2.2 a3.1 a3.2 (by omega) (by omega) (by omega) (by omega) (by omega) (by omega) (by omega) (by omega)
  obtain ⟨y0, y1, y2, y3⟩ := m_le (n := 4294967296) (k := 16) l0 r0 l1 r1 l2 r2 l3 r3 b0.1 b0.2 b1.1 b1.2 b2.1 b2.2 b3.1 b3.2
  refine ⟨⟨?_, ?_⟩, ⟨?_, ?_⟩, ⟨?_, ?_⟩, ⟨?_, ?_⟩⟩ <;> omega
theorem neg_half {v w : Int} (h : w = -v ∨ w = -v + 1) : ∃ d, (w + 1) / 2 = d - (v + 1) / 2 ∧ (d = 0 ∨ d = 1) := ⟨(w + 1) / 2 + (v + 1) / 2, by omega, by omega⟩
theorem f11_eq (v0 v1 v2 dt : Int) : f11 v0 v1 v2 dt = true := by
  unfold f11
  simp only [f30_eq, show f34 = (4294967296, 0, 0, 0, 0, 0, 0, false) from rfl, show f27 = (4294967296, 0, 0, 0) from rfl]
  by_cases h : -34359738368 ≤ v0 ∧ v0 ≤ 34359738368 ∧ -34359738368 ≤ v1 ∧ v1 ≤ 34359738368 ∧ -34359738368 ≤ v2 ∧ v2 ≤ 34359738368 ∧ 0 ≤ dt ∧ dt ≤ 8589934592
  · obtain ⟨l0, r0, l1, r1, l2, r2, d0, d1⟩ := h
    have e0 : IntKind.i64.wrap (0 - v0) = -v0 := by rw [wS (by omega) (by omega)]; omega
    have e1 : IntKind.i64.wrap (0 - v1) = -v1 := by rw [wS (by omega) (by omega)]; omega
    have e2 : IntKind.i64.wrap (0 - v2) = -v2 := by rw [wS (by omega) (by omega)]; omega
    obtain ⟨-, g0, g0'⟩ := f53_in l0 r0 d0 d1
    obtain ⟨-, g1, g1'⟩ := f53_in l1 r1 d0 d1
    obtain ⟨-, g2, g2'⟩ := f53_in l2 r2 d0 d1
    have n0 := rnd_neg (v0 * dt); have n1 := rnd_neg (v1 * dt); have n2 := rnd_neg (v2 * dt)
    rw [← Int.neg_mul] at n0 n1 n2
    obtain ⟨n, s0, s1, s2, s3, hf, hl, hn, hn2, o0, o1, o2, o3⟩ := small_in (w1 := rnd (v0 * dt)) (w2 := rnd (v1 * dt)) (w3 := rnd (v2 * dt)) (by omega) (by omega) (by omega) (by omega) (by omega) (by omega)
    obtain ⟨k, t0, t1, t2, t3, hg, hl', hm, hm2, p0, p1, p2, p3⟩ := small_in (w1 := rnd (-v0 * dt)) (w2 := rnd (-v1 * dt)) (w3 := rnd (-v2 * dt)) (by omega) (by omega) (by omega) (by omega) (by omega) (by omega)
    obtain ⟨c1, j1, j1'⟩ := neg_half (v := rnd (v0 * dt)) (w := rnd (-v0 * dt)) (by omega)
    obtain ⟨c2, j2, j2'⟩ := neg_half (v := rnd (v1 * dt)) (w := rnd (-v1 * dt)) (by omega)
    obtain ⟨c3, j3, j3'⟩ := neg_half (v := rnd (v2 * dt)) (w := rnd (-v2 * dt)) (by omega)
    have hd := near_len hn hl (by rw [← j1, ← j2, ← j3]; exact hl') j1' j2' j3'
    have y0 := near_one' hn o0 p0 hd
    have y1 := near_one hn o1 p1 j1 j1' hd
    have y2 := near_one hn o2 p2 j2 j2' hd
    have y3 := near_one hn o3 p3 j3 j3' hd
    have a0 := o0.lo; have a1 := o1.lo; have a2 := o2.lo; have a3 := o3.lo
    have b0 := o0.hi; have b1 := o1.hi; have b2 := o2.hi; have b3 := o3.hi
    obtain ⟨S0, -, S1⟩ := one_sq (by omega) hl o0 o1 o2 o3
    have S1 := S1 (by omega)
    -- the first way
    obtain ⟨m, hmn, m0', m1', hlm⟩ := one_len (L := 4294967290) (H := 4294967306) a0 b0 a1 b1 a2 b2 a3 b3 (by omega) (by omega) (by omega)
    obtain ⟨u0, u1, u2, u3, hu, x0, x1, x2, x3⟩ := unit_all (small_chg (a := s0) (by omega) (by omega)) (small_chg (a := s1) (by omega) (by omega)) (small_chg (a := s2) (by omega) (by omega)) (small_chg (a := s3) (by omega) (by omega)) (by omega) (by omega) hlm
    have z0 := one_near2 x0 (by omega) (by omega); have z1 := one_near2 x1 (by omega) (by omega); have z2 := one_near2 x2 (by omega) (by omega); have z3 := one_near2 x3 (by omega) (by omega)
    have first := move_in start_sane l0 r0 l1 r1 l2 r2 d0 d1 hf (f15_id a0 b0 a1 b1 a2 b2 a3 b3) hu
    obtain ⟨U0, -, U1⟩ := one_sq (by omega) hlm x0 x1 x2 x3
    have U1 := U1 (by omega)
    obtain ⟨i, -, i0, i1, hli⟩ := one_len (L := 4294967290) (H := 4294967306) x0.lo x0.hi x1.lo x1.hi x2.lo x2.hi x3.lo x3.hi (by omega) (by omega) (by omega)
    have hsu : SaneQ u0 u1 u2 u3 := ⟨i, hli, by omega, by omega⟩
    -- the way back
    obtain ⟨T0, -, T1⟩ := one_sq (by omega) hl' p0 p1 p2 p3
    have T1 := T1 (by omega)
    obtain ⟨w0, w1, w2, w3, nw, hw, ⟨rw0, rw1, rw2, rw3⟩, hlw, nw0, nw1, kw0, kw1, kw2, kw3⟩ := mul_len hsu T0 T1 p0.lo p0.hi p1.lo p1.hi p2.lo p2.hi p3.lo p3.hi
    obtain ⟨f0, f1, f2, f3, hff, q0, q1, q2, q3⟩ := unit_all kw0 kw1 kw2 kw3 (by omega) (by omega) hlw
    have second := move_in hsu (v0 := -v0) (v1 := -v1) (v2 := -v2) (by omega) (by omega) (by omega) (by omega) (by omega) (by omega) d0 d1 hg hw hff
    obtain ⟨M0, M1, M2, M3⟩ := there_back S0 S1 a0 b0 a1 b1 a2 b2 a3 b3 z0 z1 z2 z3 y0 y1 y2 y3
    have v0' := one_near q0 nw0 nw1; have v1' := one_near q1 nw0 nw1; have v2' := one_near q2 nw0 nw1; have v3' := one_near q3 nw0 nw1
    unfold Rd at rw0 rw1 rw2 rw3
    have W0 : -4096 ≤ w0 - 4294967296 ∧ w0 - 4294967296 ≤ 4096 := by omega
    have W1 : -4096 ≤ w1 ∧ w1 ≤ 4096 := by omega
    have W2 : -4096 ≤ w2 ∧ w2 ≤ 4096 := by omega
    have W3 : -4096 ≤ w3 ∧ w3 ≤ 4096 := by omega
    simp only [e0, e1, e2, first, second]
    have g0 : IntKind.i64.wrap (f0 - 4294967296) = f0 - 4294967296 := wS (by omega) (by omega)
    have g0' : IntKind.i64.wrap (4294967296 - f0) = 4294967296 - f0 := wS (by omega) (by omega)
    have g1 : IntKind.i64.wrap (f1 - 0) = f1 := by rw [wS (by omega) (by omega)]; omega
    have g1' : IntKind.i64.wrap (0 - f1) = -f1 := by rw [wS (by omega) (by omega)]; omega
    have g2 : IntKind.i64.wrap (f2 - 0) = f2 := by rw [wS (by omega) (by omega)]; omega
    have g2' : IntKind.i64.wrap (0 - f2) = -f2 := by rw [wS (by omega) (by omega)]; omega
    have g3 : IntKind.i64.wrap (f3 - 0) = f3 := by rw [wS (by omega) (by omega)]; omega
    have g3' : IntKind.i64.wrap (0 - f3) = -f3 := by rw [wS (by omega) (by omega)]; omega
    rw [g0, g0', g1, g1', g2, g2', g3, g3']
    simp
    omega
  · simp only [Bool.cond_eq_ite]
    repeat' split
    all_goals first | rfl | skip
    exfalso
    simp only [Bool.or_eq_true, decide_eq_true_eq] at *
    omega
end Go.Proofs.Ytoagcpfklkmolaa
