/- The plain law FilterTwice. -/
import Derived.Test.YtmnglkcodbecbaaGreatFf
import Derived.Test.YtmnglkcodbecbaaGreatGu
namespace Go.Proofs.YtmnglkcodbecbaaGreat
open Go Go.Sx
set_option maxRecDepth 100000
set_option linter.unusedSimpArgs false
set_option linter.unusedVariables false
set_option maxHeartbeats 4000000
theorem z96 {v : Int} (h0 : -2199023255552 ≤ v) (h1 : v ≤ 2199023255552) : f96 0 v = (0, false) := by
  rw [f96_eq, cl_in (n := v) (by omega) (by omega), show cl 0 = 0 from rfl, Int.zero_mul]; simp [rnd]; decide
theorem z105 : f105 0 (f170 17592186044416 4294967296).fst = (0, false) := by kernel_rfl
theorem updA (v : Int) (h0 : -2199023255552 ≤ v) (h1 : v ≤ 2199023255552) : ∃ b, f202 0 0 17592186044416 0 17592186044416 false v 4294967296 68719476736 = (rnd (4293918976 * v), 0, 4293918720, 0, 17592186044416, b, true) := by
  have e2 : (!f114 v || !f134 4294967296 || decide ((68719476736 : Int) < 0) || decide ((68719476736 : Int) > 1099511627776)) = false := by rw [f114_v h0 h1]; rfl
  unfold f202
  simp only [f72_lit, Bool.not_true, cond_false, e2, sub0 h0 h1, gate2_lit, gate_v h0 h1 (show (2199023255552 : Int) ≤ 4398583349248 by omega), k2_lit, z105, z96 h0 h1, Bool.not_false, Bool.and_self]
  have n1 : mxI 4096 (mnI (f98 17592186044416 (f96 4293918976 17592186044416).fst).fst 4503599627370496) = 4293918720 := by kernel_rfl
  have n2 : (f98 0 (f96 4293918976 0).fst).fst = 0 := by kernel_rfl
  have n3 : mxI 4096 (mnI (f98 17592186044416 (f96 0 0).fst).fst 4503599627370496) = 17592186044416 := by kernel_rfl
  have n4 : (f170 0 0).fst = 0 := by kernel_rfl
  exact ⟨_, Prod.ext (upd_num h0 h1 (by omega) (by omega)) (Prod.ext n4 (Prod.ext n1 (Prod.ext n2 (Prod.ext n3 (Prod.ext rfl rfl)))))⟩
theorem feedA {v0 v1 v2 : Int} (a0 : -2199023255552 ≤ v0) (a1 : v0 ≤ 2199023255552) (b0 : -2199023255552 ≤ v1) (b1 : v1 ≤ 2199023255552) (c0 : -2199023255552 ≤ v2) (c1 : v2 ≤ 2199023255552) : ∃ f0 f1 f2, f24 0 0 0 4294967296 0 0 0 0 0 0 false 0 0 17592186044416 0 17592186044416 false 0 0 17592186044416 0 17592186044416 false 0 0 17592186044416 0 17592186044416 false 0 0 0 4294967296 4503599627370496 0 0 0 4294967296 4503599627370496 0 0 0 4294967296 4503599627370496 0 0 0 4294967296 4503599627370496 0 2 v0 v1 v2 = (0, 1, 0, 4294967296, 0, 0, 0, 0, 0, 0, false, rnd (4293918976 * v0), 0, 4293918720, 0, 17592186044416, f0, rnd (4293918976 * v1), 0, 4293918720, 0, 17592186044416, f1, rnd (4293918976 * v2), 0, 4293918720, 0, 17592186044416, f2, 0) := by
  have e : f24 0 0 0 4294967296 0 0 0 0 0 0 false 0 0 17592186044416 0 17592186044416 false 0 0 17592186044416 0 17592186044416 false 0 0 17592186044416 0 17592186044416 false 0 0 0 4294967296 4503599627370496 0 0 0 4294967296 4503599627370496 0 0 0 4294967296 4503599627370496 0 0 0 4294967296 4503599627370496 0 2 v0 v1 v2 = f24p2 0 0 0 4294967296 0 0 0 0 0 0 false 0 0 17592186044416 0 17592186044416 false 0 0 17592186044416 0 17592186044416 false 0 0 17592186044416 0 17592186044416 false 0 0 0 4294967296 4503599627370496 0 0 0 4294967296 4503599627370496 0 0 0 4294967296 4503599627370496 0 0 0 4294967296 4503599627370496 0 v0 v1 v2 := rfl
  obtain ⟨x, hx⟩ := updA v0 a0 a1
  obtain ⟨y, hy⟩ := updA v1 b0 b1
  obtain ⟨z, hz⟩ := updA v2 c0 c1
  rw [e]
  unfold f24p2
  simp only [f60_sane _ _ _ _ _ _ _ _ _ _ _ _ _ _ _ _ _ _ _ _ _ _ _ _ _ _ _ _ _  f26_start, read2 a0 a1 b0 b1 c0 c1, dt0, pred_lit, hx, hy, hz, bne_self_eq_false, cond_false, Bool.and_self, Bool.not_true]
  exact ⟨_, _, _, rfl⟩
theorem f72_two {p : Int} (h0 : -2199023255552 ≤ p) (h1 : p ≤ 2199023255552) (b : Bool) : f72 (p) 0 4293918720 0 17592186044416 b = true := by
  unfold f72; rw [f114_v h0 h1]; rfl
theorem f26_two {p0 p1 p2 : Int} (f0 f1 f2 : Bool) (s0 : -2199023255552 ≤ p0) (s1 : p0 ≤ 2199023255552) (t0 : -2199023255552 ≤ p1) (t1 : p1 ≤ 2199023255552) (u0 : -2199023255552 ≤ p2) (u1 : p2 ≤ 2199023255552) : f26 0 1 0 4294967296 0 0 0 0 0 0 false (p0) 0 4293918720 0 17592186044416 f0 (p1) 0 4293918720 0 17592186044416 f1 (p2) 0 4293918720 0 17592186044416 f2 = true := by
  unfold f26
  simp only [f72_two s0 s1, f72_two t0 t1, f72_two u0 u1]
  kernel_rfl
theorem p170 {p : Int} (h0 : -2199023255552 ≤ p) (h1 : p ≤ 2199023255552) {q : Int} (g0 : -2199023255552 ≤ q) (g1 : q ≤ 2199023255552) : (f170 p q).fst = p + q := by
  unfold f170
  rw [show f153 p = cl p from rfl, show f153 q = cl q from rfl, cl_in (n := p) (by omega) (by omega), cl_in (n := q) (by omega) (by omega), wS (by omega) (by omega), f82_eq]
  simp only
  exact cl_in (by omega) (by omega)
theorem pred_two {p : Int} (h0 : -2199023255552 ≤ p) (h1 : p ≤ 2199023255552) (b : Bool) : ∃ c, f63 (p) 0 4293918720 0 17592186044416 b 0 0 1073741824 = (p, 0, 4293918720, 0, 17592186044416, c) := by
  have e2 : (!f114 0 || decide ((0 : Int) < 0) || decide ((0 : Int) > 1099511627776) || decide ((1073741824 : Int) < 0) || decide ((1073741824 : Int) > 1099511627776)) = false := by kernel_rfl
  unfold f63
  simp only [f72_two h0 h1, Bool.not_true, cond_false, e2]
  have z : (f96 0 0).fst = 0 := by kernel_rfl
  have m0 : (f170 p (f96 0 0).fst).fst = p := by rw [z, p170 h0 h1 (by omega) (by omega), Int.add_zero]
  have m1 : (f170 0 (f96 0 0).fst).fst = 0 := by kernel_rfl
  exact ⟨_, Prod.ext m0 (Prod.ext m1 (Prod.ext (by kernel_rfl) (Prod.ext (by kernel_rfl) (Prod.ext (by kernel_rfl) rfl))))⟩
theorem k_two : f105 4293918720 (f170 4293918720 4294967296).fst = (2147221472, false) := by kernel_rfl
theorem gate_two : (f96 68719476736 (f211 (f170 4293918720 4294967296).fst).fst).fst = 97178084176 := by kernel_rfl
theorem sub_two {v p : Int} (h0 : -2199023255552 ≤ v) (h1 : v ≤ 2199023255552) (p0 : -2199023255552 ≤ p) (p1 : p ≤ 2199023255552) : f98 v p = (v - p, false) := by
  rw [f98_eq, cl_in (n := v) (by omega) (by omega), cl_in (n := p) (by omega) (by omega), cl_in (n := v - p) (by omega) (by omega)]; simp
theorem updB (v p : Int) (b : Bool) (h0 : -2199023255552 ≤ v) (h1 : v ≤ 2199023255552) (p0 : -2199023255552 ≤ p) (p1 : p ≤ 2199023255552) (d0 : -2147483648 ≤ v - p) (d1 : v - p ≤ 2147483648) :
    (f202 (p) 0 4293918720 0 17592186044416 b v 4294967296 68719476736).fst = p + rnd (2147221472 * (v - p)) ∧ (f202 (p) 0 4293918720 0 17592186044416 b v 4294967296 68719476736).snd.snd.fst = 2147221472 ∧ (f202 (p) 0 4293918720 0 17592186044416 b v 4294967296 68719476736).snd.snd.snd.snd.snd.snd = true := by
  have e2 : (!f114 v || !f134 4294967296 || decide ((68719476736 : Int) < 0) || decide ((68719476736 : Int) > 1099511627776)) = false := by rw [f114_v h0 h1]; rfl
  have hg : decide (f163 (v - p) > 97178084176) = false := by
    rw [f163_eq, cl_in (n := v - p) (by omega) (by omega)]; exact decide_eq_false (by omega)
  have hr : -2199023255552 ≤ rnd (2147221472 * (v - p)) ∧ rnd (2147221472 * (v - p)) ≤ 2199023255552 := by unfold rnd; omega
  have hm : (f96 2147221472 (v - p)).fst = rnd (2147221472 * (v - p)) := by
    rw [f96_eq, cl_in (n := 2147221472) (by omega) (by omega), cl_in (n := v - p) (by omega) (by omega)]
    exact cl_in (by omega) (by omega)
  unfold f202
  simp only [f72_two p0 p1, Bool.not_true, cond_false, e2, sub_two h0 h1 p0 p1, gate_two, hg, k_two, Bool.not_false, Bool.and_self, and_true]
  refine ⟨?_, by kernel_rfl⟩
  rw [hm, p170 p0 p1 hr.1 hr.2]
theorem readB {v0 v1 v2 p0 p1 p2 : Int} (f0 f1 f2 : Bool) (a0 : -2199023255552 ≤ v0) (a1 : v0 ≤ 2199023255552) (b0 : -2199023255552 ≤ v1) (b1 : v1 ≤ 2199023255552) (c0 : -2199023255552 ≤ v2) (c1 : v2 ≤ 2199023255552) : f61 0 1 0 4294967296 0 0 0 0 0 0 false (p0) 0 4293918720 0 17592186044416 f0 (p1) 0 4293918720 0 17592186044416 f1 (p2) 0 4293918720 0 17592186044416 f2 0 0 0 4294967296 4503599627370496 0 0 0 4294967296 4503599627370496 0 0 0 4294967296 4503599627370496 0 0 0 4294967296 4503599627370496 0 2 v0 v1 v2 = (v0, v1, v2, 0) := by
  have e : f61 0 1 0 4294967296 0 0 0 0 0 0 false (p0) 0 4293918720 0 17592186044416 f0 (p1) 0 4293918720 0 17592186044416 f1 (p2) 0 4293918720 0 17592186044416 f2 0 0 0 4294967296 4503599627370496 0 0 0 4294967296 4503599627370496 0 0 0 4294967296 4503599627370496 0 0 0 4294967296 4503599627370496 0 2 v0 v1 v2 = f61p2 0 1 0 4294967296 0 0 0 0 0 0 false (p0) 0 4293918720 0 17592186044416 f0 (p1) 0 4293918720 0 17592186044416 f1 (p2) 0 4293918720 0 17592186044416 f2 0 0 0 4294967296 4503599627370496 0 0 0 4294967296 4503599627370496 0 0 0 4294967296 4503599627370496 0 0 0 4294967296 4503599627370496 0 v0 v1 v2 := rfl
  rw [e]
  unfold f61p2
  simp only [f112_plain a0 a1 b0 b1 c0 c1, f111_v (s := 2) (by omega) (by omega) a0 a1 b0 b1 c0 c1]
  rfl
theorem feedB {v0 v1 v2 p0 p1 p2 : Int} (f0 f1 f2 : Bool) (a0 : -2199023255552 ≤ v0) (a1 : v0 ≤ 2199023255552) (b0 : -2199023255552 ≤ v1) (b1 : v1 ≤ 2199023255552) (c0 : -2199023255552 ≤ v2) (c1 : v2 ≤ 2199023255552) (s0 : -2199023255552 ≤ p0) (s1 : p0 ≤ 2199023255552) (t0 : -2199023255552 ≤ p1) (t1 : p1 ≤ 2199023255552) (u0 : -2199023255552 ≤ p2) (u1 : p2 ≤ 2199023255552) (d0 : -2147483648 ≤ v0 - p0) (d1 : v0 - p0 ≤ 2147483648) (e0 : -2147483648 ≤ v1 - p1) (e1 : v1 - p1 ≤ 2147483648) (g0 : -2147483648 ≤ v2 - p2) (g1 : v2 - p2 ≤ 2147483648) : ∃ x1 x3 x4 x5 y1 y3 y4 y5 z1 z3 z4 z5 q0 q1 q2 q3 w0 w1 w2 qb,
    f24 0 1 0 4294967296 0 0 0 0 0 0 false (p0) 0 4293918720 0 17592186044416 f0 (p1) 0 4293918720 0 17592186044416 f1 (p2) 0 4293918720 0 17592186044416 f2 0 0 0 4294967296 4503599627370496 0 0 0 4294967296 4503599627370496 0 0 0 4294967296 4503599627370496 0 0 0 4294967296 4503599627370496 0 2 v0 v1 v2 = (0, 2, 0, q0, q1, q2, q3, w0, w1, w2, qb, p0 + rnd (2147221472 * (v0 - p0)), x1, 2147221472, x3, x4, x5, p1 + rnd (2147221472 * (v1 - p1)), y1, 2147221472, y3, y4, y5, p2 + rnd (2147221472 * (v2 - p2)), z1, 2147221472, z3, z4, z5, 0) := by
  have e : f24 0 1 0 4294967296 0 0 0 0 0 0 false (p0) 0 4293918720 0 17592186044416 f0 (p1) 0 4293918720 0 17592186044416 f1 (p2) 0 4293918720 0 17592186044416 f2 0 0 0 4294967296 4503599627370496 0 0 0 4294967296 4503599627370496 0 0 0 4294967296 4503599627370496 0 0 0 4294967296 4503599627370496 0 2 v0 v1 v2 = f24p2 0 1 0 4294967296 0 0 0 0 0 0 false (p0) 0 4293918720 0 17592186044416 f0 (p1) 0 4293918720 0 17592186044416 f1 (p2) 0 4293918720 0 17592186044416 f2 0 0 0 4294967296 4503599627370496 0 0 0 4294967296 4503599627370496 0 0 0 4294967296 4503599627370496 0 0 0 4294967296 4503599627370496 0 v0 v1 v2 := rfl
  obtain ⟨x, hx⟩ := pred_two s0 s1 f0
  obtain ⟨y, hy⟩ := pred_two t0 t1 f1
  obtain ⟨z, hz⟩ := pred_two u0 u1 f2
  have hx2 := updB v0 p0 x a0 a1 s0 s1 d0 d1
  have hy2 := updB v1 p1 y b0 b1 t0 t1 e0 e1
  have hz2 := updB v2 p2 z c0 c1 u0 u1 g0 g1
  rw [e]
  unfold f24p2
  simp only [f60_sane _ _ _ _ _ _ _ _ _ _ _ _ _ _ _ _ _ _ _ _ _ _ _ _ _ _ _ _ _  (f26_two f0 f1 f2 s0 s1 t0 t1 u0 u1), readB f0 f1 f2 a0 a1 b0 b1 c0 c1, dt0, hx, hy, hz, hx2.1, hx2.2.1, hx2.2.2, hy2.1, hy2.2.1, hy2.2.2, hz2.1, hz2.2.1, hz2.2.2, bne_self_eq_false, cond_false, Bool.and_self, Bool.not_true]
  exact ⟨_, _, _, _, _, _, _, _, _, _, _, _, _, _, _, _, _, _, _, _, rfl⟩
theorem nearer {v p q : Int} (h0 : -2199023255552 ≤ v) (h1 : v ≤ 2199023255552) (p0 : -2199023255552 ≤ p) (p1 : p ≤ 2199023255552) (d0 : -2147483648 ≤ v - p) (d1 : v - p ≤ 2147483648) (hq : q = p + rnd (2147221472 * (v - p))) :
    decide (mxI (IntKind.i64.wrap (q - v)) (IntKind.i64.wrap (0 - IntKind.i64.wrap (q - v))) > mxI (IntKind.i64.wrap (p - v)) (IntKind.i64.wrap (0 - IntKind.i64.wrap (p - v)))) = false := by
  unfold rnd at hq
  rw [wS (n := q - v) (by omega) (by omega), wS (n := p - v) (by omega) (by omega), wS (n := 0 - (q - v)) (by omega) (by omega), wS (n := 0 - (p - v)) (by omega) (by omega)]
  refine decide_eq_false ?_
  unfold mxI
  split <;> split <;> omega
theorem f11_eq (v0 v1 v2 : Int) : f11 v0 v1 v2 = true := by
  unfold f11
  simp only [f28_lit, f35_lit, f60_sane _ _ _ _ _ _ _ _ _ _ _ _ _ _ _ _ _ _ _ _ _ _ _ _ _ _ _ _ _  f26_start]
  by_cases ha : -2199023255552 ≤ v0 ∧ v0 ≤ 2199023255552
  · by_cases hb : -2199023255552 ≤ v1 ∧ v1 ≤ 2199023255552
    · by_cases hc : -2199023255552 ≤ v2 ∧ v2 ≤ 2199023255552
      · obtain ⟨a0, a1⟩ := ha; obtain ⟨b0, b1⟩ := hb; obtain ⟨c0, c1⟩ := hc
        obtain ⟨f0, f1, f2, e2⟩ := feedA a0 a1 b0 b1 c0 c1
        have r0 := rnd_in a0 a1 (K := 4293918976) (by omega) (by omega)
        have r1 := rnd_in b0 b1 (K := 4293918976) (by omega) (by omega)
        have r2 := rnd_in c0 c1 (K := 4293918976) (by omega) (by omega)
        have q0 : -2147483648 ≤ v0 - rnd (4293918976 * v0) ∧ v0 - rnd (4293918976 * v0) ≤ 2147483648 := by unfold rnd; omega
        have q1 : -2147483648 ≤ v1 - rnd (4293918976 * v1) ∧ v1 - rnd (4293918976 * v1) ≤ 2147483648 := by unfold rnd; omega
        have q2 : -2147483648 ≤ v2 - rnd (4293918976 * v2) ∧ v2 - rnd (4293918976 * v2) ≤ 2147483648 := by unfold rnd; omega
        simp only [e2]
        generalize rnd (4293918976 * v0) = p0 at *
        generalize rnd (4293918976 * v1) = p1 at *
        generalize rnd (4293918976 * v2) = p2 at *
        obtain ⟨x1, x3, x4, x5, y1, y3, y4, y5, z1, z3, z4, z5, k0, k1, k2, k3, w0, w1, w2, qb, e3⟩ := feedB f0 f1 f2 a0 a1 b0 b1 c0 c1 r0.1 r0.2 r1.1 r1.2 r2.1 r2.2 q0.1 q0.2 q1.1 q1.2 q2.1 q2.2
        simp only [e3]
        rw [decide_eq_false (show ¬ v0 > 2199023255552 by omega), decide_eq_false (show ¬ v0 < -2199023255552 by omega), decide_eq_false (show ¬ v1 > 2199023255552 by omega), decide_eq_false (show ¬ v1 < -2199023255552 by omega), decide_eq_false (show ¬ v2 > 2199023255552 by omega), decide_eq_false (show ¬ v2 < -2199023255552 by omega),
          nearer a0 a1 r0.1 r0.2 q0.1 q0.2 rfl, nearer b0 b1 r1.1 r1.2 q1.1 q1.2 rfl, nearer c0 c1 r2.1 r2.2 q2.1 q2.2 rfl]
        rfl
      · rcases Int.lt_or_le 2199023255552 v2 with h | h
        · rw [decide_eq_true (show v2 > 2199023255552 from h), Bool.true_or]
          cases (decide (v0 > 2199023255552) || decide (v0 < -2199023255552)) <;> cases (decide (v1 > 2199023255552) || decide (v1 < -2199023255552)) <;> rfl
        · rw [decide_eq_true (show v2 < -2199023255552 by omega), Bool.or_true]
          cases (decide (v0 > 2199023255552) || decide (v0 < -2199023255552)) <;> cases (decide (v1 > 2199023255552) || decide (v1 < -2199023255552)) <;> rfl
    · rcases Int.lt_or_le 2199023255552 v1 with h | h
      · rw [decide_eq_true (show v1 > 2199023255552 from h), Bool.true_or]
        cases (decide (v0 > 2199023255552) || decide (v0 < -2199023255552)) <;> rfl
      · rw [decide_eq_true (show v1 < -2199023255552 by omega), Bool.or_true]
        cases (decide (v0 > 2199023255552) || decide (v0 < -2199023255552)) <;> rfl
  · rcases Int.lt_or_le 2199023255552 v0 with h | h
    · rw [decide_eq_true (show v0 > 2199023255552 from h), Bool.true_or]; rfl
    · rw [decide_eq_true (show v0 < -2199023255552 by omega), Bool.or_true]; rfl
end Go.Proofs.YtmnglkcodbecbaaGreat
