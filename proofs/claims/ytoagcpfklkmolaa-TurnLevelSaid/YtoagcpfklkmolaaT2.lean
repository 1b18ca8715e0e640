/- The plain law TurnUp: up has the length 1. -/
import Derived.Test.YtoagcpfklkmolaaT1
namespace Go.Proofs.Ytoagcpfklkmolaa
open Go Go.Sx
theorem f35_is (a b c : Int) : f35 a b c = f17 0 a b c := by
  have p1 := pb a a; have p2 := pb b b; have p3 := pb c c
  have p0 := pb 0 0
  have z : cl 0 * cl 0 = 0 := by decide
  have e3 := addL_three p1.1 p1.2 p2.1 p2.2 p3.1 p3.2
  have e4 := addL_four p0.1 p0.2 p1.1 p1.2 p2.1 p2.2 p3.1 p3.2
  rw [z, Int.zero_add] at e4
  unfold f35 f17
  simp only [f89_eq]
  rw [z, e3, e4]
  have hz : (f29 0).snd = false := by decide
  rw [hz]
  simp [anyB]
theorem SaneQ.sq_in {q0 q1 q2 q3 : Int} (h : SaneQ q0 q1 q2 q3) : 18446735277616529408 ≤ sq q0 q1 q2 q3 ∧ sq q0 q1 q2 q3 ≤ 18446752869802573824 := by
  obtain ⟨n, h1, h2, h3⟩ := h
  have lo := h1.lo; have hi := h1.hi
  have a := Int.mul_le_mul h2 h2 (by omega) (by omega)
  have b := Int.mul_le_mul (show n + 1 ≤ 4294967553 by omega) (show n + 1 ≤ 4294967553 by omega) (by omega) (by omega)
  unfold sq; omega
theorem SaneQ.comp {q0 q1 q2 q3 : Int} (h : SaneQ q0 q1 q2 q3) : (-4294967552 ≤ q0 ∧ q0 ≤ 4294967552) ∧ (-4294967552 ≤ q1 ∧ q1 ≤ 4294967552) ∧ (-4294967552 ≤ q2 ∧ q2 ≤ 4294967552) ∧ (-4294967552 ≤ q3 ∧ q3 ≤ 4294967552) := by
  obtain ⟨n, h1, h2, h3⟩ := h
  have := h1.comp; omega
/-- where up is: its three numbers, in range, and its length -/
theorem up_in {q0 q1 q2 q3 : Int} (h : SaneQ q0 q1 q2 q3) : ∃ b1 b2 b3 e1 e2 e3 m : Int, f23 q0 (-q1) (-q2) (-q3) 0 0 4294967296 = (b1, b2, b3, false) ∧
      (b1 * 18446744073709551616 = ro1 q0 (-q1) (-q2) (-q3) 0 0 4294967296 + e1 ∧ b2 * 18446744073709551616 = ro2 q0 (-q1) (-q2) (-q3) 0 0 4294967296 + e2 ∧ b3 * 18446744073709551616 = ro3 q0 (-q1) (-q2) (-q3) 0 0 4294967296 + e3) ∧
      (-73786976294838206464 ≤ e1 ∧ e1 ≤ 73786976294838206464) ∧ (-73786976294838206464 ≤ e2 ∧ e2 ≤ 73786976294838206464) ∧ (-73786976294838206464 ≤ e3 ∧ e3 ≤ 73786976294838206464) ∧
      f17 0 b1 b2 b3 = (m, false) ∧ Len m 0 b1 b2 b3 ∧ 4294965200 ≤ m ∧ m ≤ 4294969400 := by
  have hc := h.comp
  obtain ⟨b1, b2, b3, e1, e2, e3, hf, ⟨y1, y2, y3⟩, x1, x2, x3⟩ := rot_lin (u0 := q0) (u1 := -q1) (u2 := -q2) (u3 := -q3) (v1 := 0) (v2 := 0) (v3 := 4294967296) (by omega) (by omega) (by omega) (by omega) (by omega) (by omega) (by omega) (by omega) (by omega) (by omega) (by omega) (by omega) (by omega) (by omega)
  obtain ⟨U0, U1⟩ := h.sq_in
  rw [← sq_neg] at U0 U1
  obtain ⟨z1, z2, z3⟩ := ro_le (u0 := q0) (u1 := -q1) (u2 := -q2) (u3 := -q3) (e1 := 0) (e2 := 0) (e3 := 4294967296) (k := 4294967296) (by omega) (by omega) (by omega) (by omega) (by omega) (by omega)
  have T1 : -17179869184 ≤ b1 ∧ b1 ≤ 17179869184 := by omega
  have T2 : -17179869184 ≤ b2 ∧ b2 ≤ 17179869184 := by omega
  have T3 : -17179869184 ≤ b3 ∧ b3 ≤ 17179869184 := by omega
  have q1' := sq_abs_le (x := b1) (n := 17179869184) (by omega) (by omega)
  have q2' := sq_abs_le (x := b2) (n := 17179869184) (by omega) (by omega)
  have q3' := sq_abs_le (x := b3) (n := 17179869184) (by omega) (by omega)
  obtain ⟨m, hm, -, hl⟩ := f17_len (a0 := 0) (a1 := b1) (a2 := b2) (a3 := b3) (small_chg (by omega) (by omega)) (small_chg (by omega) (by omega)) (small_chg (by omega) (by omega)) (small_chg (by omega) (by omega)) (by omega)
  obtain ⟨L1, L2⟩ := ro_len (n := 4294967296) U0 U1 (ro_norm q0 (-q1) (-q2) (-q3) 0 0 4294967296) y1 y2 y3 x1.1 x1.2 x2.1 x2.2 x3.1 x3.2 ⟨by omega, by omega, by omega⟩ hl
  have L2 := L2 (by omega)
  exact ⟨b1, b2, b3, e1, e2, e3, m, hf, ⟨y1, y2, y3⟩, x1, x2, x3, hm, hl, by omega, by omega⟩
theorem f36_in {q0 q1 q2 q3 w0 w1 w2 : Int} {b : Bool} {p0 p1 p2 p3 y0 y1 y2 : Int} {c : Bool} (he : f65 q0 q1 q2 q3 w0 w1 w2 b = (p0, p1, p2, p3, y0, y1, y2, c)) (hs : SaneQ p0 p1 p2 p3) {b1 b2 b3 : Int} (hf : f23 p0 (-p1) (-p2) (-p3) 0 0 4294967296 = (b1, b2, b3, false)) :
    f36 q0 q1 q2 q3 w0 w1 w2 b = (b1, b2, b3) := by
  have hc := hs.comp
  unfold f36
  simp only [he, f25_in (a0 := p0) (a1 := p1) (a2 := p2) (a3 := p3) (small_chg (by omega) (by omega)) (small_chg (by omega) (by omega)) (small_chg (by omega) (by omega)) (small_chg (by omega) (by omega)), hf]
theorem rnd_mul (x : Int) : rnd (x * 4294967296) = x := by unfold rnd; omega
theorem f15_one {q0 q1 q2 q3 : Int} (h : SaneQ q0 q1 q2 q3) : f15 q0 q1 q2 q3 4294967296 0 0 0 = (q0, q1, q2, q3, false) := by
  have hc := h.comp
  have e0 : m0 q0 q1 q2 q3 4294967296 0 0 0 = q0 * 4294967296 := by unfold m0; omega
  have e1 : m1 q0 q1 q2 q3 4294967296 0 0 0 = q1 * 4294967296 := by unfold m1; omega
  have e2 : m2 q0 q1 q2 q3 4294967296 0 0 0 = q2 * 4294967296 := by unfold m2; omega
  have e3 : m3 q0 q1 q2 q3 4294967296 0 0 0 = q3 * 4294967296 := by unfold m3; omega
  have hf := f15_in (a0 := q0) (a1 := q1) (a2 := q2) (a3 := q3) (b0 := 4294967296) (b1 := 0) (b2 := 0) (b3 := 0) (small_chg (by omega) (by omega)) (small_chg (by omega) (by omega)) (small_chg (by omega) (by omega)) (small_chg (by omega) (by omega)) (small_chg (by omega) (by omega)) (small_chg (by omega) (by omega)) (small_chg (by omega) (by omega)) (small_chg (by omega) (by omega)) (by omega) (by omega) (by omega) (by omega)
  rw [hf, e0, e1, e2, e3, rnd_mul, rnd_mul, rnd_mul, rnd_mul]
/-- of what is nearly of the length 1, made of the length 1 -/
theorem one_near {n q u : Int} (h : One n q u) (h0 : 4294966016 ≤ n) (h1 : n ≤ 4294968576) : -1300 ≤ u - q ∧ u - q ≤ 1300 := by
  have x1 := h.dl; have x2 := h.dh
  obtain ⟨p1, p2⟩ := ab_le2 (a := 8589934592 - 2 * n) (e := q) (n := 2560) (k := n) (by omega) (by omega) h.al h.ah
  have e : 2 * (n * (u - q)) = 2 * (n * u) - 8589934592 * q + (8589934592 - 2 * n) * q := by grind
  constructor
  · rcases Int.lt_or_le (u - q) (-1300) with hh | hh
    · have := Int.mul_le_mul_of_nonneg_left (show u - q ≤ -1301 by omega) (show 0 ≤ n by omega)
      omega
    · exact hh
  · rcases Int.lt_or_le 1300 (u - q) with hh | hh
    · have := Int.mul_le_mul_of_nonneg_left (show 1301 ≤ u - q by omega) (show 0 ≤ n by omega)
      omega
    · exact hh
theorem one_near2 {n q u : Int} (h : One n q u) (h0 : 4294967040 ≤ n) (h1 : n ≤ 4294967552) : -300 ≤ u - q ∧ u - q ≤ 300 := by
  have x1 := h.dl; have x2 := h.dh
  obtain ⟨p1, p2⟩ := ab_le2 (a := 8589934592 - 2 * n) (e := q) (n := 512) (k := n) (by omega) (by omega) h.al h.ah
  have e : 2 * (n * (u - q)) = 2 * (n * u) - 8589934592 * q + (8589934592 - 2 * n) * q := by grind
  constructor
  · rcases Int.lt_or_le (u - q) (-300) with hh | hh
    · have := Int.mul_le_mul_of_nonneg_left (show u - q ≤ -301 by omega) (show 0 ≤ n by omega)
      omega
    · exact hh
  · rcases Int.lt_or_le 300 (u - q) with hh | hh
    · have := Int.mul_le_mul_of_nonneg_left (show 301 ≤ u - q by omega) (show 0 ≤ n by omega)
      omega
    · exact hh
theorem f97_in {a b : Int} (a0 : -144115188075855872 ≤ a) (a1 : a ≤ 144115188075855872) (b0 : -144115188075855872 ≤ b) (b1 : b ≤ 144115188075855872) : f97 a b = (a - b, false) := by
  rw [f97_eq, cl_in (n := a) (by omega) (by omega), cl_in (n := b) (by omega) (by omega), cl_in (n := a - b) (by omega) (by omega)]; simp
theorem chg_rng {a : Int} (h : chg a = false) : -288230376151711744 ≤ a ∧ a ≤ 288230376151711744 := by
  have := ne_false h; have := cl_lo a; have := cl_hi a; omega
theorem f97_zero {w : Int} (h : chg w = false) : f97 0 w = (-w, false) := by
  have := chg_rng h
  rw [f97_eq, cl_in (n := 0) (by omega) (by omega), ne_false h, show (0 : Int) - w = -w by omega, cl_in (n := -w) (by omega) (by omega)]; simp
theorem f53_zero {w : Int} (h : chg w = false) : f53 w 0 = (0, false) := by
  rw [f53_eq, ne_false h, show cl 0 = 0 by decide, Int.mul_zero, show rnd 0 = 0 by decide, show cl 0 = 0 by decide]; simp
/-- a turn of nothing for no time -/
theorem move_zero {q0 q1 q2 q3 w0 w1 w2 : Int} {b : Bool} (h : f33 q0 q1 q2 q3 w0 w1 w2 b = true) : ∃ n u0 u1 u2 u3, f31 q0 q1 q2 q3 w0 w1 w2 b 0 0 0 0 = (u0, u1, u2, u3, w0, w1, w2, b) ∧ One n q0 u0 ∧ One n q1 u1 ∧ One n q2 u2 ∧ One n q3 u3 ∧ 4294967040 ≤ n ∧ n ≤ 4294967552 := by
  obtain ⟨hs, k0, k1, k2⟩ := (f33_iff ..).1 h
  have he : f65 q0 q1 q2 q3 w0 w1 w2 b = (q0, q1, q2, q3, w0, w1, w2, b) := by
    rcases f65_is q0 q1 q2 q3 w0 w1 w2 b with ⟨_, e⟩ | ⟨h', _⟩
    · exact e
    · rw [h] at h'; simp at h'
  have hc := hs.comp
  obtain ⟨n, hn, n0, n1⟩ := id hs
  obtain ⟨u0, u1, u2, u3, hu, o0, o1, o2, o3⟩ := unit_all (a0 := q0) (a1 := q1) (a2 := q2) (a3 := q3) (small_chg (by omega) (by omega)) (small_chg (by omega) (by omega)) (small_chg (by omega) (by omega)) (small_chg (by omega) (by omega)) (by omega) (by omega) hn
  refine ⟨n, u0, u1, u2, u3, ?_, o0, o1, o2, o3, n0, n1⟩
  have kn : ∀ w, chg w = false → chg (-w) = false := fun w h => by have := chg_rng h; exact small_chg (by omega) (by omega)
  have h62 : f62 (-w0) (-w1) (-w2) 0 = (0, 0, 0, false) := by unfold f62; rw [f53_zero (kn _ k0), f53_zero (kn _ k1), f53_zero (kn _ k2)]; rfl
  have h63 : f63 0 0 0 w0 w1 w2 = (-w0, -w1, -w2, false) := by unfold f63; rw [f97_zero k0, f97_zero k1, f97_zero k2]; rfl
  have h21 : f21 0 0 0 = (4294967296, 0, 0, 0, false) := by kernel_rfl
  have hG : (!!decide ((bif (f29 0).snd then (0 : Int) else bif (f29 0).snd then IntKind.i64.wrap (0 + 1) else bif (f29 0).snd then IntKind.i64.wrap (IntKind.i64.wrap (0 + 1) + 1) else -1) ≥ 0) || decide ((0 : Int) < 0) || decide ((0 : Int) > 68719476736)) = false := by decide
  unfold f31
  simp only [he, h63, h62, h21, f15_one hs, hu, hG]
  simp
theorem f12_eq (q0 q1 q2 q3 w0 w1 w2 : Int) (b : Bool) : f12 q0 q1 q2 q3 w0 w1 w2 b = true := by
  obtain ⟨p0, p1, p2, p3, y0, y1, y2, c, he, hs, -⟩ := f65_sane q0 q1 q2 q3 w0 w1 w2 b
  obtain ⟨b1, b2, b3, _, _, _, m, hf, -, -, -, -, hm, -, m0, m1⟩ := up_in hs
  unfold f12
  simp only [f36_in he hs hf, f35_is, hm, f30_eq]
  rw [decide_eq_false (show ¬ m > 4294971392 by omega), decide_eq_false (show ¬ m < 4294963200 by omega)]
  cases h : f33 q0 q1 q2 q3 w0 w1 w2 b
  · obtain ⟨_, _, _, _, _, _, _, c', e, -, -, -, -, hc⟩ := move_sane q0 q1 q2 q3 w0 w1 w2 b 0 0 0 0
    have := hc (.inr h)
    subst this
    simp only [e]; rfl
  · obtain ⟨n, u0, u1, u2, u3, e, o0, o1, o2, o3, n0, n1⟩ := move_zero h
    have hc := ((f33_iff ..).1 h).1.comp
    have c0 := one_near2 o0 n0 n1; have c1 := one_near2 o1 n0 n1; have c2 := one_near2 o2 n0 n1; have c3 := one_near2 o3 n0 n1
    simp only [e]
    have w0' : IntKind.i64.wrap (u0 - q0) = u0 - q0 := wS (by omega) (by omega)
    have w1' : IntKind.i64.wrap (u1 - q1) = u1 - q1 := wS (by omega) (by omega)
    have w2' : IntKind.i64.wrap (u2 - q2) = u2 - q2 := wS (by omega) (by omega)
    have w3' : IntKind.i64.wrap (u3 - q3) = u3 - q3 := wS (by omega) (by omega)
    have v0' : IntKind.i64.wrap (q0 - u0) = q0 - u0 := wS (by omega) (by omega)
    have v1' : IntKind.i64.wrap (q1 - u1) = q1 - u1 := wS (by omega) (by omega)
    have v2' : IntKind.i64.wrap (q2 - u2) = q2 - u2 := wS (by omega) (by omega)
    have v3' : IntKind.i64.wrap (q3 - u3) = q3 - u3 := wS (by omega) (by omega)
    rw [w0', w1', w2', w3', v0', v1', v2', v3']
    simp
    omega
end Go.Proofs.Ytoagcpfklkmolaa
