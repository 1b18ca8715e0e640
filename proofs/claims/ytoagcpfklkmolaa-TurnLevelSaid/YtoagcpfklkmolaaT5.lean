/- The plain law TurnLevel, joined. -/
import Derived.Test.YtoagcpfklkmolaaT4
namespace Go.Proofs.Ytoagcpfklkmolaa
open Go Go.Sx
theorem One.zero {n u : Int} (h : One n 0 u) : u = 0 := by have := h.pos (by omega); have := h.neg (by omega); omega
theorem f65_of {q0 q1 q2 q3 w0 w1 w2 : Int} {b : Bool} (h : f33 q0 q1 q2 q3 w0 w1 w2 b = true) : f65 q0 q1 q2 q3 w0 w1 w2 b = (q0, q1, q2, q3, w0, w1, w2, b) := by
  rcases f65_is q0 q1 q2 q3 w0 w1 w2 b with ⟨_, e⟩ | ⟨h', _⟩
  · exact e
  · rw [h] at h'; simp at h'
theorem start33 : f33 4294967296 0 0 0 0 0 0 false = true := (f33_iff ..).2 ⟨start_sane, small_chg (by omega) (by omega), small_chg (by omega) (by omega), small_chg (by omega) (by omega)⟩
theorem guardL {v0 v1 v2 g : Int} (h0 : chg v0 = false) (h1 : chg v1 = false) (h2 : chg v2 = false) (g0 : 0 ≤ g) (g1 : g ≤ 4294967296) :
    (!!decide ((bif (f29 v0).snd then (0 : Int) else bif (f29 v1).snd then IntKind.i64.wrap (0 + 1) else bif (f29 v2).snd then IntKind.i64.wrap (IntKind.i64.wrap (0 + 1) + 1) else -1) ≥ 0) || decide (g < 0) || decide (g > 4294967296)) = false := by
  rw [first_any3, chg_f, chg_f, chg_f, h0, h1, h2, decide_eq_false (show ¬ g < 0 by omega), decide_eq_false (show ¬ g > 4294967296 by omega)]; rfl
/-- nothing is told -/
theorem level_none {g : Int} (g0 : 0 ≤ g) (g1 : g ≤ 4294967296) : f32 4294967296 0 0 0 0 0 0 false 0 0 0 g = (4294967296, 0, 0, 0, 0, 0, 0, false) := by
  have hG := guardL (v0 := 0) (v1 := 0) (v2 := 0) (small_chg (by omega) (by omega)) (small_chg (by omega) (by omega)) (small_chg (by omega) (by omega)) g0 g1
  have h37 : (f37 0 0 0).snd.snd.snd = true := by kernel_rfl
  unfold f32
  simp only [hG, f65_of start33, h37]
  simp
theorem level_start {a0 a1 a2 g n : Int} (hn : f35 a0 a1 a2 = (n, false)) (n0 : 4294967296 ≤ n) (n1 : n ≤ 4398046511104) (hz : 0 ≤ a2) (g0 : 0 ≤ g) (g1 : g ≤ 4294967296) :
    ∃ u0 u1 u2 q0 q1 q2 w0 w1 b1 b2 b3, f37 a0 a1 a2 = (u0, u1, u2, false) ∧ f32 4294967296 0 0 0 0 0 0 false a0 a1 a2 g = (q0, q1, q2, 0, w0, w1, 0, false) ∧ f36 q0 q1 q2 0 w0 w1 0 false = (b1, b2, b3) ∧
      (f38 u0 u1 u2 0 0 4294967296).fst = u2 ∧ u2 - 64 ≤ (f38 u0 u1 u2 b1 b2 b3).fst ∧ 0 ≤ u2 ∧ u2 ≤ 4294967296 ∧ (a0 = 0 → a1 = 0 → q0 = 4294967296 ∧ q1 = 0 ∧ q2 = 0 ∧ w0 = 0 ∧ w1 = 0) := by
  obtain ⟨u0, u1, u2, hu, o0, o1, o2⟩ := f37_in hn (by omega) (by omega)
  have hl := (f17_back ((f35_is a0 a1 a2).symm.trans hn) (by omega))
  obtain ⟨-, ka0, ka1, ka2, -⟩ := hl
  have l0 := o0.lo; have r0 := o0.hi; have l1 := o1.lo; have r1 := o1.hi; have l2 := o2.pos hz; have r2 := o2.hi
  have hx := cross_up l0 r0 l1 r1 (show -4294967296 ≤ u2 by omega) r2
  obtain ⟨v1, G1, G1'⟩ := f53_g l1 r1 g0 g1
  obtain ⟨v2, G2, G2'⟩ := f53_g (a := -u0) (by omega) (by omega) g0 g1
  obtain ⟨v3, -, -⟩ := f53_g (a := 0) (by omega) (by omega) g0 g1
  rw [Int.zero_mul, show rnd 0 = 0 by decide] at v3
  obtain ⟨k1, hk1, k1l, k1h⟩ := half_k u1 g
  obtain ⟨k2, hk2, k2l, k2h⟩ := half_k (-u0) g
  obtain ⟨N, s0, s1, s2, s3, hf, hl, hN, hN2, p0, p1, p2, p3⟩ := small_in (w1 := rnd (u1 * g)) (w2 := rnd (-u0 * g)) (w3 := 0) (by omega) (by omega) (by omega) (by omega) (by omega) (by omega)
  rw [show (0 + 1 : Int) / 2 = 0 by decide] at hl p3
  have hs3 := p3.zero
  subst hs3
  obtain ⟨y1, W1l, W1h⟩ := f53_g (a := rnd (u1 * g)) (b := 268435456) G1 G1' (by omega) (by omega)
  obtain ⟨y2, W2l, W2h⟩ := f53_g (a := rnd (-u0 * g)) (b := 268435456) G2 G2' (by omega) (by omega)
  obtain ⟨y3, -, -⟩ := f53_g (a := 0) (b := 268435456) (by omega) (by omega) (by omega) (by omega)
  rw [Int.zero_mul, show rnd 0 = 0 by decide] at y3
  have hg1 : rnd (u1 * g) = rnd (u1 * g) := rfl
  obtain ⟨X1l, X1h, X2l, X2h⟩ : -2147483648 ≤ (rnd (u1 * g) + 1) / 2 ∧ (rnd (u1 * g) + 1) / 2 ≤ 2147483649 ∧ -2147483648 ≤ (rnd (-u0 * g) + 1) / 2 ∧ (rnd (-u0 * g) + 1) / 2 ≤ 2147483649 := by omega
  have hz0 : a0 = 0 → a1 = 0 → rnd (u1 * g) = 0 ∧ rnd (-u0 * g) = 0 := fun e0 e1 => by
    subst e0; subst e1
    rw [o0.zero, o1.zero]
    rw [Int.zero_mul, show -(0 : Int) * g = 0 by rw [Int.neg_zero, Int.zero_mul]]; decide
  generalize rnd (u1 * g) = t1 at *
  generalize rnd (-u0 * g) = t2 at *
  obtain ⟨S0, -, S1⟩ := one_sq (by omega) hl p0 p1 p2 p3
  have S1 := S1 (by omega)
  obtain ⟨m, hmn, m0', m1', hlm⟩ := one_len (L := 4294967290) (H := 4294967306) p0.lo p0.hi p1.lo p1.hi p2.lo p2.hi (show (-4294967296 : Int) ≤ 0 by omega) (show (0 : Int) ≤ 4294967296 by omega) (by omega) (by omega) (by omega)
  have ks : ∀ {a : Int}, -4294967296 ≤ a → a ≤ 4294967296 → chg a = false := fun h h' => small_chg (by omega) (by omega)
  obtain ⟨q0, q1, q2, q3, hq, x0, x1, x2, x3⟩ := unit_all (ks p0.lo p0.hi) (ks p1.lo p1.hi) (ks p2.lo p2.hi) (ks (a := 0) (by omega) (by omega)) (by omega) (by omega) hlm
  have hq3 := x3.zero
  subst hq3
  obtain ⟨U0, -, U1⟩ := one_sq (by omega) hlm x0 x1 x2 x3
  have U1 := U1 (by omega)
  obtain ⟨i, -, i0, i1, hli⟩ := one_len (L := 4294967290) (H := 4294967306) x0.lo x0.hi x1.lo x1.hi x2.lo x2.hi (show (-4294967296 : Int) ≤ 0 by omega) (show (0 : Int) ≤ 4294967296 by omega) (by omega) (by omega) (by omega)
  have hsq : SaneQ q0 q1 q2 0 := ⟨i, hli, by omega, by omega⟩
  have h33 : f33 q0 q1 q2 0 (0 - rnd (t1 * 268435456)) (0 - rnd (t2 * 268435456)) 0 false = true := (f33_iff ..).2 ⟨hsq, ks (by omega) (by omega), ks (by omega) (by omega), ks (by omega) (by omega)⟩
  obtain ⟨b1, b2, b3, e1, e2, e3, M, hb, ⟨y1', y2', y3'⟩, ⟨E1, E1'⟩, ⟨E2, E2'⟩, ⟨E3, E3'⟩, -, hlM, M0, M1⟩ := up_in hsq
  have hbc := hlM.comp
  have hup := f36_in (f65_of h33) hsq hb
  -- the call
  have hcall : f32 4294967296 0 0 0 0 0 0 false a0 a1 a2 g = (q0, q1, q2, 0, 0 - rnd (t1 * 268435456), 0 - rnd (t2 * 268435456), 0, false) := by
    have hG := guardL ka0 ka1 ka2 g0 g1
    have h36 : f36 4294967296 0 0 0 0 0 0 false = (0, 0, 4294967296) := by kernel_rfl
    have h62 : f62 u1 (-u0) 0 g = (t1, t2, 0, false) := by unfold f62; rw [v1, v2, v3]; rfl
    have h62' : f62 t1 t2 0 268435456 = (rnd (t1 * 268435456), rnd (t2 * 268435456), 0, false) := by unfold f62; rw [y1, y2, y3]; rfl
    have h63 : f63 0 0 0 (rnd (t1 * 268435456)) (rnd (t2 * 268435456)) 0 = (0 - rnd (t1 * 268435456), 0 - rnd (t2 * 268435456), 0, false) := by
      unfold f63; rw [f97_in (by omega) (by omega) (by omega) (by omega), f97_in (by omega) (by omega) (by omega) (by omega), f97_in (by omega) (by omega) (by omega) (by omega)]; rfl
    unfold f32
    simp only [hG, f65_of start33, hu, h36, hx, h62, h62', h63, hf, f15_id p0.lo p0.hi p1.lo p1.hi p2.lo p2.hi (show (-4294967296 : Int) ≤ 0 by omega) (show (0 : Int) ≤ 4294967296 by omega), hq]
    simp
  -- the angle
  have hNb : N ≤ 5368709120 := by
    have h1 := sq_abs_le (x := (t1 + 1) / 2) (n := 2147483649) (by omega) (by omega)
    have h2 := sq_abs_le (x := (t2 + 1) / 2) (n := 2147483649) (by omega) (by omega)
    have := hl.lo
    have := hl.nn
    have : N < 5368709121 := lt_of_sq (by omega) (by omega)
    omega
  have hM := main_term l0 r0 l1 r1 l2 r2 g0 g1 hk1 hk2 k1l k1h k2l k2h
  obtain ⟨R1, R1', q0p⟩ := ratio hN hNb (by omega) X1l X1h p0 p1 x0 x1
  obtain ⟨R2, R2', -⟩ := ratio hN hNb (by omega) X2l X2h p0 p2 x0 x2
  have hA := angle l0 r0 l1 r1 l2 r2 q0p x0.hi X1l X1h X2l X2h (show 4294967296 * q1 = q0 * ((t1 + 1) / 2) + (4294967296 * q1 - q0 * ((t1 + 1) / 2)) by omega) (show 4294967296 * q2 = q0 * ((t2 + 1) / 2) + (4294967296 * q2 - q0 * ((t2 + 1) / 2)) by omega) R1 R1' R2 R2' hM
  have hro : u0 * ro1 q0 (-q1) (-q2) (-0) 0 0 4294967296 + u1 * ro2 q0 (-q1) (-q2) (-0) 0 0 4294967296 + u2 * ro3 q0 (-q1) (-q2) (-0) 0 0 4294967296 =
      4294967296 * (2 * (q0 * (u1 * q1 - u0 * q2)) - 2 * (u2 * (q1 * q1 + q2 * q2)) + u2 * (q0 * q0 + q1 * q1 + q2 * q2 + 0 * 0)) := by
    unfold ro1 ro2 ro3; grind
  have huU := Int.mul_le_mul_of_nonneg_left (show 18446744056529682432 ≤ q0 * q0 + q1 * q1 + q2 * q2 + 0 * 0 from U0) l2
  have z1 := ab_le2 l0 r0 E1 E1'
  have z2 := ab_le2 l1 r1 E2 E2'
  have z3 := ab_le2 (show -4294967296 ≤ u2 by omega) r2 E3 E3'
  have hd : (u0 * b1 + u1 * b2 + u2 * b3) * 18446744073709551616 = (u0 * ro1 q0 (-q1) (-q2) (-0) 0 0 4294967296 + u1 * ro2 q0 (-q1) (-q2) (-0) 0 0 4294967296 + u2 * ro3 q0 (-q1) (-q2) (-0) 0 0 4294967296) + (u0 * e1 + u1 * e2 + u2 * e3) := by
    have : (u0 * b1 + u1 * b2 + u2 * b3) * 18446744073709551616 = u0 * (b1 * 18446744073709551616) + u1 * (b2 * 18446744073709551616) + u2 * (b3 * 18446744073709551616) := by grind
    rw [this, y1', y2', y3']; grind
  rw [hro] at hd
  obtain ⟨D1, -, -⟩ := dot_val (a0 := u0) (a1 := u1) (a2 := u2) (b0 := b1) (b1 := b2) (b2 := b3) (by omega) (by omega) (by omega) (by omega) (by omega) (by omega) (by omega) (by omega) (by omega) (by omega) (by omega) (by omega)
  obtain ⟨D2, -, -⟩ := dot_val (a0 := u0) (a1 := u1) (a2 := u2) (b0 := 0) (b1 := 0) (b2 := 4294967296) (by omega) (by omega) (by omega) (by omega) (by omega) (by omega) (by omega) (by omega) (by omega) (by omega) (by omega) (by omega)
  rw [show u0 * 0 + u1 * 0 + u2 * 4294967296 = u2 * 4294967296 by omega, rnd_mul] at D2
  have hR := rnd_bounds (u0 * b1 + u1 * b2 + u2 * b3)
  refine ⟨u0, u1, u2, q0, q1, q2, _, _, b1, b2, b3, hu, hcall, hup, D2, ?_, l2, r2, fun e0 e1 => ?_⟩
  · rw [D1]; omega
  · obtain ⟨rfl, rfl⟩ := hz0 e0 e1
    have h21 : f21 0 0 0 = (4294967296, 0, 0, 0, false) := by kernel_rfl
    have h19 : f19 4294967296 0 0 0 = (4294967296, 0, 0, 0, false) := by kernel_rfl
    rw [h21] at hf
    simp only [Prod.mk.injEq] at hf
    obtain ⟨rfl, rfl, rfl, -, -⟩ := hf
    rw [h19] at hq
    simp only [Prod.mk.injEq] at hq
    obtain ⟨rfl, rfl, rfl, -, -⟩ := hq
    exact ⟨rfl, rfl, rfl, by decide, by decide⟩
theorem f13_eq (a0 a1 a2 g : Int) : f13 a0 a1 a2 g = true := by
  unfold f13
  simp only [f30_eq, show f34 = (4294967296, 0, 0, 0, 0, 0, 0, false) from rfl]
  have hm : 0 ≤ mxI 0 (mnI g 4294967296) ∧ mxI 0 (mnI g 4294967296) ≤ 4294967296 := by unfold mxI mnI; split <;> split <;> omega
  simp only [level_none hm.1 hm.2]
  cases hG : ((f35 a0 a1 a2).snd || decide ((f35 a0 a1 a2).fst < 4294967296) || decide ((f35 a0 a1 a2).fst > 4398046511104) || decide (a2 < 0) || decide (g < 0) || decide (g > 4294967296))
  · simp only [Bool.or_eq_false_iff, decide_eq_false_iff_not] at hG
    obtain ⟨⟨⟨⟨⟨h1, h2⟩, h3⟩, h4⟩, h5⟩, h6⟩ := hG
    obtain ⟨u0, u1, u2, q0, q1, q2, w0, w1, b1, b2, b3, hu, hc, hup, hb, ha, l2, r2, hz⟩ := level_start (a0 := a0) (a1 := a1) (a2 := a2) (g := g) (n := (f35 a0 a1 a2).fst) (Prod.ext rfl h1) (by omega) (by omega) (by omega) (by omega) (by omega)
    have h36 : f36 4294967296 0 0 0 0 0 0 false = (0, 0, 4294967296) := by kernel_rfl
    simp only [hu, hc, hup, h36, hb]
    have hw : IntKind.i64.wrap (u2 - 64) = u2 - 64 := wS (by omega) (by omega)
    rw [hw, decide_eq_true (show (f38 u0 u1 u2 b1 b2 b3).fst ≥ u2 - 64 from ha)]
    by_cases e0 : a0 = 0
    · by_cases e1 : a1 = 0
      · obtain ⟨rfl, rfl, rfl, rfl, rfl⟩ := hz e0 e1
        simp
      · simp [e1]
    · simp [e0]
  · rfl
end Go.Proofs.Ytoagcpfklkmolaa
