/- The plain law QuatSmall; what is made of the length 1, with its bounds. -/
import Derived.Test.YtmnglkcodbecbaaGreatQ5
namespace Go.Proofs.YtmnglkcodbecbaaGreat
open Go Go.Sx
theorem unit_one' {n a : Int} (hn : 1 ≤ n) (hn2 : n ≤ 288230376151711744) (ha0 : -n ≤ a) (ha1 : a ≤ n) :
    ∃ u, f105 a n = (u, false) ∧ -4294967296 ≤ u ∧ u ≤ 4294967296 ∧ (0 ≤ a → 0 ≤ u) ∧ (a ≤ 0 → u ≤ 0) ∧ -n ≤ 2 * (n * u) - 8589934592 * a ∧ 2 * (n * u) - 8589934592 * a ≤ n := by
  obtain ⟨N, Y, -, hY, hc, l1, l2⟩ := ov_bounds (A := a) (B := n) (by omega)
  rw [show N = a by omega, show Y = n by omega] at l1 l2
  have h := unit_num (u := ov a n) (by omega) ha0 ha1 l1 l2
  refine ⟨ov a n, ?_, h⟩
  rw [f105_eq, cl_in (n := a) (by omega) (by omega), cl_in (n := n) (by omega) (by omega), ovr_ne (by omega) (by omega), cl_in (n := ov a n) (by omega) (by omega)]
  simp
/-- one number of what has the length 1 -/
structure One (n a u : Int) : Prop where
  lo : -4294967296 ≤ u
  hi : u ≤ 4294967296
  pos : 0 ≤ a → 0 ≤ u
  neg : a ≤ 0 → u ≤ 0
  dl : -n ≤ 2 * (n * u) - 8589934592 * a
  dh : 2 * (n * u) - 8589934592 * a ≤ n
  al : -n ≤ a
  ah : a ≤ n
/-- the length of some numbers: the whole root of the squares' sum -/
structure Len (n a0 a1 a2 a3 : Int) : Prop where
  lo : n * n ≤ a0 * a0 + a1 * a1 + a2 * a2 + a3 * a3
  hi : a0 * a0 + a1 * a1 + a2 * a2 + a3 * a3 < (n + 1) * (n + 1)
  nn : 0 ≤ n
theorem Len.uniq {n m a0 a1 a2 a3 : Int} (h : Len n a0 a1 a2 a3) (h' : Len m a0 a1 a2 a3) : n = m := by
  have h1 := h.lo; have h2 := h.hi; have h3 := h'.lo; have h4 := h'.hi; have h5 := h.nn; have h6 := h'.nn
  have g1 : n < m + 1 := lt_of_sq (by omega) (by omega)
  have g2 : m < n + 1 := lt_of_sq (by omega) (by omega)
  omega
theorem Len.comp {n a0 a1 a2 a3 : Int} (h : Len n a0 a1 a2 a3) : (-n ≤ a0 ∧ a0 ≤ n) ∧ (-n ≤ a1 ∧ a1 ≤ n) ∧ (-n ≤ a2 ∧ a2 ≤ n) ∧ (-n ≤ a3 ∧ a3 ≤ n) := by
  have q0 := sq_nn a0; have q1 := sq_nn a1; have q2 := sq_nn a2; have q3 := sq_nn a3
  have h2 := h.hi; have h5 := h.nn
  have lim : ∀ a : Int, a * a < (n + 1) * (n + 1) → -n ≤ a ∧ a ≤ n := fun a h => by
    have h1 := lt_of_sq h (by omega)
    have h2 : -a < n + 1 := lt_of_sq (by rw [Int.neg_mul_neg]; exact h) (by omega)
    omega
  exact ⟨lim a0 (by omega), lim a1 (by omega), lim a2 (by omega), lim a3 (by omega)⟩
/-- the length, where nothing is clamped -/
theorem f34_len {a0 a1 a2 a3 : Int} (k0 : chg a0 = false) (k1 : chg a1 = false) (k2 : chg a2 = false) (k3 : chg a3 = false) (h : a0 * a0 + a1 * a1 + a2 * a2 + a3 * a3 < 83076749736557242056487941267521536) :
    ∃ n, f34 a0 a1 a2 a3 = (n, false) ∧ n < 288230376151711744 ∧ Len n a0 a1 a2 a3 := by
  obtain ⟨n, c, e1, n0, n1, n2, n3, n4⟩ := f34_eq a0 a1 a2 a3
  have s1 : sq4 a0 a1 a2 a3 = a0 * a0 + a1 * a1 + a2 * a2 + a3 * a3 := by unfold sq4; rw [ne_false k0, ne_false k1, ne_false k2, ne_false k3]
  rw [s1] at n2 n3
  have hl : n < 288230376151711744 := lt_of_sq (by omega) (by omega)
  obtain ⟨n5, hc⟩ := n3 hl
  subst hc
  refine ⟨n, ?_, hl, n2, n5, n0⟩
  rw [e1, k0, k1, k2, k3]; rfl
theorem f34_known {a0 a1 a2 a3 n : Int} (k0 : chg a0 = false) (k1 : chg a1 = false) (k2 : chg a2 = false) (k3 : chg a3 = false) (h : Len n a0 a1 a2 a3) (hn : n < 288230376151711744) : f34 a0 a1 a2 a3 = (n, false) := by
  have h1 := h.hi
  have h2 := h.nn
  have h3 := Int.mul_le_mul (show n + 1 ≤ 288230376151711744 by omega) (show n + 1 ≤ 288230376151711744 by omega) (by omega) (by omega)
  obtain ⟨m, e, _, hm⟩ := f34_len k0 k1 k2 k3 (by omega)
  rw [e, hm.uniq h]
/-- what is known of a length, from the call -/
theorem f34_back {a0 a1 a2 a3 n : Int} (h : f34 a0 a1 a2 a3 = (n, false)) (hn : n < 288230376151711744) : chg a0 = false ∧ chg a1 = false ∧ chg a2 = false ∧ chg a3 = false ∧ Len n a0 a1 a2 a3 := by
  obtain ⟨m, c, e1, n0, n1, n2, n3, n4⟩ := f34_eq a0 a1 a2 a3
  rw [h] at e1
  simp only [Prod.mk.injEq] at e1
  obtain ⟨rfl, e2⟩ := e1
  have e3 := e2.symm
  simp only [Bool.or_eq_false_iff] at e3
  obtain ⟨hc, k0, k1, k2, k3⟩ := e3
  have s1 : sq4 a0 a1 a2 a3 = a0 * a0 + a1 * a1 + a2 * a2 + a3 * a3 := by unfold sq4; rw [ne_false k0, ne_false k1, ne_false k2, ne_false k3]
  rw [s1] at n2 n3
  exact ⟨k0, k1, k2, k3, n2, (n3 hn).1, n0⟩
theorem unit_all {a0 a1 a2 a3 n : Int} (k0 : chg a0 = false) (k1 : chg a1 = false) (k2 : chg a2 = false) (k3 : chg a3 = false) (hn : 1 ≤ n) (hn2 : n < 288230376151711744) (h : Len n a0 a1 a2 a3) :
    ∃ u0 u1 u2 u3, f93 a0 a1 a2 a3 = (u0, u1, u2, u3, false) ∧ One n a0 u0 ∧ One n a1 u1 ∧ One n a2 u2 ∧ One n a3 u3 := by
  obtain ⟨⟨l0, r0⟩, ⟨l1, r1⟩, ⟨l2, r2⟩, ⟨l3, r3⟩⟩ := h.comp
  obtain ⟨u0, d0, a00, b00, sp0, sn0, x0, y0⟩ := unit_one' (a := a0) (n := n) hn (by omega) l0 r0
  obtain ⟨u1, d1, a01, b01, sp1, sn1, x1, y1⟩ := unit_one' (a := a1) (n := n) hn (by omega) l1 r1
  obtain ⟨u2, d2, a02, b02, sp2, sn2, x2, y2⟩ := unit_one' (a := a2) (n := n) hn (by omega) l2 r2
  obtain ⟨u3, d3, a03, b03, sp3, sn3, x3, y3⟩ := unit_one' (a := a3) (n := n) hn (by omega) l3 r3
  refine ⟨u0, u1, u2, u3, ?_, ⟨a00, b00, sp0, sn0, x0, y0, l0, r0⟩, ⟨a01, b01, sp1, sn1, x1, y1, l1, r1⟩, ⟨a02, b02, sp2, sn2, x2, y2, l2, r2⟩, ⟨a03, b03, sp3, sn3, x3, y3, l3, r3⟩⟩
  unfold f93
  simp only [f34_known k0 k1 k2 k3 h hn2, d0, d1, d2, d3]
  rw [show (n == 0) = false by simp; omega]; rfl
/-- the squares' sum of what has the length 1 -/
theorem one_sq {n a0 a1 a2 a3 u0 u1 u2 u3 : Int} (hn : 16777216 ≤ n) (h : Len n a0 a1 a2 a3) (h0 : One n a0 u0) (h1 : One n a1 u1) (h2 : One n a2 u2) (h3 : One n a3 u3) :
    18446744056529682432 ≤ u0 * u0 + u1 * u1 + u2 * u2 + u3 * u3 ∧ u0 * u0 + u1 * u1 + u2 * u2 + u3 * u3 ≤ 18446746289912938497 ∧ (4294901760 ≤ n → u0 * u0 + u1 * u1 + u2 * u2 + u3 * u3 ≤ 18446744099479748610) := by
  obtain ⟨t0, t0'⟩ := unit_sq h0.dl h0.dh h0.al h0.ah
  obtain ⟨t1, t1'⟩ := unit_sq h1.dl h1.dh h1.al h1.ah
  obtain ⟨t2, t2'⟩ := unit_sq h2.dl h2.dh h2.al h2.ah
  obtain ⟨t3, t3'⟩ := unit_sq h3.dl h3.dh h3.al h3.ah
  have n2 := h.lo; have n3 := h.hi
  have nn : 0 < n * n := Int.mul_pos (by omega) (by omega)
  have nb := Int.mul_le_mul_of_nonneg_right (show (16777216 : Int) ≤ n by omega) (show 0 ≤ n by omega)
  have n5 : (n + 1) * (n + 1) = n * n + 2 * n + 1 := by grind
  rw [n5] at n3
  have eU : n * n * (4 * (u0 * u0 + u1 * u1 + u2 * u2 + u3 * u3)) = 4 * (n * n * (u0 * u0)) + 4 * (n * n * (u1 * u1)) + 4 * (n * n * (u2 * u2)) + 4 * (n * n * (u3 * u3)) := by grind
  have hU : 4 * (u0 * u0 + u1 * u1 + u2 * u2 + u3 * u3) ≤ 73786976294838206464 + 8796093022208 + 68719476740 + 1048576 := by
    refine Int.le_of_mul_le_mul_left (a := n * n) ?_ nn
    rw [eU]; omega
  have hL : 73786976294838206464 - 68719476736 ≤ 4 * (u0 * u0 + u1 * u1 + u2 * u2 + u3 * u3) := by
    refine Int.le_of_mul_le_mul_left (a := n * n) ?_ nn
    rw [eU]; omega
  refine ⟨by omega, by omega, fun hb => ?_⟩
  have nb2 := Int.mul_le_mul_of_nonneg_right hb (show 0 ≤ n by omega)
  have hU2 : 4 * (u0 * u0 + u1 * u1 + u2 * u2 + u3 * u3) ≤ 73786976294838206464 + 34360262656 + 68719476740 + 20000 := by
    refine Int.le_of_mul_le_mul_left (a := n * n) ?_ nn
    rw [eU]; omega
  omega
theorem Len.mk' {a0 a1 a2 a3 : Int} (h0 : chg a0 = false) (h1 : chg a1 = false) (h2 : chg a2 = false) (h3 : chg a3 = false) (h : a0 * a0 + a1 * a1 + a2 * a2 + a3 * a3 < 83076749736557242056487941267521536) : ∃ n, Len n a0 a1 a2 a3 ∧ n < 288230376151711744 := by
  obtain ⟨n, _, h4, h5⟩ := f34_len h0 h1 h2 h3 h; exact ⟨n, h5, h4⟩
/-- the length of what has the length 1 -/
theorem one_len {u0 u1 u2 u3 L H : Int} (l0 : -4294967296 ≤ u0) (r0 : u0 ≤ 4294967296) (l1 : -4294967296 ≤ u1) (r1 : u1 ≤ 4294967296) (l2 : -4294967296 ≤ u2) (r2 : u2 ≤ 4294967296) (l3 : -4294967296 ≤ u3) (r3 : u3 ≤ 4294967296)
    (hL : L * L ≤ u0 * u0 + u1 * u1 + u2 * u2 + u3 * u3) (hH : u0 * u0 + u1 * u1 + u2 * u2 + u3 * u3 < H * H) (hH0 : 0 ≤ H) : ∃ m, f34 u0 u1 u2 u3 = (m, false) ∧ L ≤ m ∧ m < H ∧ Len m u0 u1 u2 u3 := by
  have v0 := sq_abs_le (x := u0) (n := 4294967296) (by omega) (by omega)
  have v1 := sq_abs_le (x := u1) (n := 4294967296) (by omega) (by omega)
  have v2 := sq_abs_le (x := u2) (n := 4294967296) (by omega) (by omega)
  have v3 := sq_abs_le (x := u3) (n := 4294967296) (by omega) (by omega)
  obtain ⟨m, e, _, hm⟩ := f34_len (a0 := u0) (a1 := u1) (a2 := u2) (a3 := u3) (small_chg (by omega) (by omega)) (small_chg (by omega) (by omega)) (small_chg (by omega) (by omega)) (small_chg (by omega) (by omega)) (by omega)
  have h1 := hm.lo; have h2 := hm.hi; have h3 := hm.nn
  have g1 : m < H := lt_of_sq (by omega) (by omega)
  have g2 : L < m + 1 := lt_of_sq (by omega) (by omega)
  exact ⟨m, e, by omega, g1, hm⟩
theorem f96_half {w : Int} (h0 : -288230376151711744 ≤ w) (h1 : w ≤ 288230376151711744) : f96 w 2147483648 = ((w + 1) / 2, false) := by
  rw [f96_eq, cl_in h0 h1, cl_in (n := 2147483648) (by omega) (by omega)]
  have e : rnd (w * 2147483648) = (w + 1) / 2 := by unfold rnd; omega
  rw [e, cl_in (by omega) (by omega)]; simp
theorem near_len {n m x1 x2 x3 d1 d2 d3 : Int} (hn : 4294967296 ≤ n) (h : Len n 4294967296 x1 x2 x3) (h' : Len m 4294967296 (d1 - x1) (d2 - x2) (d3 - x3)) (e1 : d1 = 0 ∨ d1 = 1) (e2 : d2 = 0 ∨ d2 = 1) (e3 : d3 = 0 ∨ d3 = 1) : m - n ≤ 3 ∧ n - m ≤ 5 := by
  obtain ⟨-, ⟨l1, r1⟩, ⟨l2, r2⟩, ⟨l3, r3⟩⟩ := h.comp
  have lo := h.lo; have hi := h.hi; have lo' := h'.lo; have hi' := h'.hi; have nn := h'.nn
  have sq : ∀ d x : Int, (d = 0 ∨ d = 1) → -n ≤ x → x ≤ n → (d - x) * (d - x) ≤ x * x + 2 * n + 1 ∧ x * x - 2 * n - 1 ≤ (d - x) * (d - x) := fun d x hd hl hr => by
    rcases hd with rfl | rfl
    · have : (0 - x) * (0 - x) = x * x := by grind
      omega
    · have : (1 - x) * (1 - x) = x * x - 2 * x + 1 := by grind
      omega
  have s1 := sq d1 x1 e1 l1 r1; have s2 := sq d2 x2 e2 l2 r2; have s3 := sq d3 x3 e3 l3 r3
  have q1 : (n + 1) * (n + 1) = n * n + 2 * n + 1 := by grind
  have q2 : (n + 4) * (n + 4) = n * n + 8 * n + 16 := by grind
  have q3 : (n - 4) * (n - 4) = n * n - 8 * n + 16 := by grind
  rw [q1] at hi
  have g1 : m < n + 4 := lt_of_sq (by omega) (by omega)
  have g2 : n - 4 < m + 1 := lt_of_sq (by omega) (by omega)
  omega
theorem near_one {n m a b u v d : Int} (hn : 4294967296 ≤ n) (h : One n a u) (h' : One m b v) (hd : b = d - a) (hd1 : d = 0 ∨ d = 1) (hm : m - n ≤ 3 ∧ n - m ≤ 5) : -16 ≤ v + u ∧ v + u ≤ 16 := by
  have x1 := h.dl; have x2 := h.dh; have y1 := h'.dl; have y2 := h'.dh
  have e : 2 * (n * (v + u)) = 2 * (n * u) + 2 * (m * v) + 2 * ((n - m) * v) := by grind
  obtain ⟨p1, p2⟩ := ab_le2 (a := n - m) (e := v) (n := 5) (k := 4294967296) (by omega) (by omega) h'.lo h'.hi
  constructor
  · rcases Int.lt_or_le (v + u) (-16) with hh | hh
    · have := Int.mul_le_mul_of_nonneg_left (show v + u ≤ -17 by omega) (show 0 ≤ n by omega)
      omega
    · exact hh
  · rcases Int.lt_or_le 16 (v + u) with hh | hh
    · have := Int.mul_le_mul_of_nonneg_left (show 17 ≤ v + u by omega) (show 0 ≤ n by omega)
      omega
    · exact hh
theorem near_one' {n m a u v : Int} (hn : 4294967296 ≤ n) (h : One n a u) (h' : One m a v) (hm : m - n ≤ 3 ∧ n - m ≤ 5) : -16 ≤ v - u ∧ v - u ≤ 16 := by
  have x1 := h.dl; have x2 := h.dh; have y1 := h'.dl; have y2 := h'.dh
  have e : 2 * (n * (v - u)) = 2 * (m * v) - 2 * (n * u) + 2 * ((n - m) * v) := by grind
  obtain ⟨p1, p2⟩ := ab_le2 (a := n - m) (e := v) (n := 5) (k := 4294967296) (by omega) (by omega) h'.lo h'.hi
  constructor
  · rcases Int.lt_or_le (v - u) (-16) with hh | hh
    · have := Int.mul_le_mul_of_nonneg_left (show v - u ≤ -17 by omega) (show 0 ≤ n by omega)
      omega
    · exact hh
  · rcases Int.lt_or_le 16 (v - u) with hh | hh
    · have := Int.mul_le_mul_of_nonneg_left (show 17 ≤ v - u by omega) (show 0 ≤ n by omega)
      omega
    · exact hh
/-- a small turn, of numbers in range -/
theorem small_in {w1 w2 w3 : Int} (l1 : -288230376151711744 ≤ w1) (r1 : w1 ≤ 288230376151711744) (l2 : -288230376151711744 ≤ w2) (r2 : w2 ≤ 288230376151711744) (l3 : -288230376151711744 ≤ w3) (r3 : w3 ≤ 288230376151711744) :
    ∃ n u0 u1 u2 u3, f92 w1 w2 w3 = (u0, u1, u2, u3, false) ∧ Len n 4294967296 ((w1 + 1) / 2) ((w2 + 1) / 2) ((w3 + 1) / 2) ∧ 4294967296 ≤ n ∧ n < 288230376151711744 ∧
      One n 4294967296 u0 ∧ One n ((w1 + 1) / 2) u1 ∧ One n ((w2 + 1) / 2) u2 ∧ One n ((w3 + 1) / 2) u3 := by
  have p1 := sq_abs_le (x := (w1 + 1) / 2) (n := 144115188075855872) (by omega) (by omega)
  have p2 := sq_abs_le (x := (w2 + 1) / 2) (n := 144115188075855872) (by omega) (by omega)
  have p3 := sq_abs_le (x := (w3 + 1) / 2) (n := 144115188075855872) (by omega) (by omega)
  have k0 : chg 4294967296 = false := small_chg (by omega) (by omega)
  have k1 : chg ((w1 + 1) / 2) = false := small_chg (by omega) (by omega)
  have k2 : chg ((w2 + 1) / 2) = false := small_chg (by omega) (by omega)
  have k3 : chg ((w3 + 1) / 2) = false := small_chg (by omega) (by omega)
  obtain ⟨n, hn, hn2⟩ := Len.mk' k0 k1 k2 k3 (by omega)
  have hn1 : 4294967296 ≤ n := by have := hn.comp; omega
  obtain ⟨u0, u1, u2, u3, e, o0, o1, o2, o3⟩ := unit_all k0 k1 k2 k3 (by omega) hn2 hn
  refine ⟨n, u0, u1, u2, u3, ?_, hn, hn1, hn2, o0, o1, o2, o3⟩
  unfold f92
  rw [show f40 = (4294967296, 0, 0, 0) from rfl]
  simp only [f96_half l1 r1, f96_half l2 r2, f96_half l3 r3, e]
  rfl
end Go.Proofs.YtmnglkcodbecbaaGreat
