/- The plain law FilterFinds. -/
import Derived.Test.YtmnglkcodbecbaaGreatFe
namespace Go.Proofs.YtmnglkcodbecbaaGreat
open Go Go.Sx
set_option maxRecDepth 100000
set_option linter.unusedSimpArgs false
set_option linter.unusedVariables false
set_option maxHeartbeats 4000000
theorem sub0 {v : Int} (h0 : -2199023255552 ≤ v) (h1 : v ≤ 2199023255552) : f98 v 0 = (v, false) := by
  rw [f98_eq, cl_in (n := v) (by omega) (by omega), cl_in (n := 0) (by omega) (by omega), Int.sub_zero, cl_in (n := v) (by omega) (by omega)]; simp
theorem mul1 {v : Int} (h0 : -2199023255552 ≤ v) (h1 : v ≤ 2199023255552) : f96 v 4294967296 = (v, false) := by
  have hr : rnd (v * 4294967296) = v := by unfold rnd; omega
  rw [f96_eq, cl_in (n := v) (by omega) (by omega), cl_in (n := 4294967296) (by omega) (by omega), hr, cl_in (n := v) (by omega) (by omega)]; simp
theorem f28_lit : f28 = (0, 0, 0, 4294967296, 0, 0, 0, 0, 0, 0, false, 0, 0, 17592186044416, 0, 17592186044416, false, 0, 0, 17592186044416, 0, 17592186044416, false, 0, 0, 17592186044416, 0, 17592186044416, false) := by kernel_rfl
theorem f26_start : f26 0 0 0 4294967296 0 0 0 0 0 0 false 0 0 17592186044416 0 17592186044416 false 0 0 17592186044416 0 17592186044416 false 0 0 17592186044416 0 17592186044416 false = true := by kernel_rfl
theorem f35_lit : f35 = (0, 0, 0, 4294967296, 4503599627370496, 0, 0, 0, 4294967296, 4503599627370496, 0, 0, 0, 4294967296, 4503599627370496, 0, 0, 0, 4294967296, 4503599627370496) := rfl
theorem pred_lit : f63 0 0 17592186044416 0 17592186044416 false 0 0 1073741824 = (0, 0, 17592186044416, 0, 17592186044416, false) := by kernel_rfl
theorem k2_lit : f105 17592186044416 (f170 17592186044416 4294967296).fst = (4293918976, false) := by kernel_rfl
theorem k3_lit : f105 17592186044416 (f170 17592186044416 1073741824).fst = (4294705168, false) := by kernel_rfl
theorem gate2_lit : (f96 68719476736 (f211 (f170 17592186044416 4294967296).fst).fst).fst = 4398583349248 := by kernel_rfl
theorem gate3_lit : (f96 68719476736 (f211 (f170 17592186044416 1073741824).fst).fst).fst = 4398180726784 := by kernel_rfl
theorem f72_lit : f72 0 0 17592186044416 0 17592186044416 false = true := by kernel_rfl
theorem f114_v {v : Int} (h0 : -2199023255552 ≤ v) (h1 : v ≤ 2199023255552) : f114 v = true := by
  unfold f114; rw [f82_eq, cl_in (n := v) (by omega) (by omega)]; simp
theorem gate_v {v g : Int} (h0 : -2199023255552 ≤ v) (h1 : v ≤ 2199023255552) (hg : 2199023255552 ≤ g) : decide (f163 v > g) = false := by
  rw [f163_eq, cl_in (n := v) (by omega) (by omega)]; exact decide_eq_false (by omega)
theorem upd (K g r v : Int) (h0 : -2199023255552 ≤ v) (h1 : v ≤ 2199023255552) (hK : f105 17592186044416 (f170 17592186044416 r).fst = (K, false)) (hG : (f96 68719476736 (f211 (f170 17592186044416 r).fst).fst).fst = g) (hg : 2199023255552 ≤ g) (hr : f134 r = true) :
    (f202 0 0 17592186044416 0 17592186044416 false v r 68719476736).fst = (f170 0 (f96 K v).fst).fst ∧ (f202 0 0 17592186044416 0 17592186044416 false v r 68719476736).snd.snd.snd.snd.snd.snd = true := by
  have e2 : (!f114 v || !f134 r || decide ((68719476736 : Int) < 0) || decide ((68719476736 : Int) > 1099511627776)) = false := by rw [f114_v h0 h1, hr]; rfl
  unfold f202
  simp only [f72_lit, Bool.not_true, cond_false, e2, sub0 h0 h1, hG, gate_v h0 h1 hg, hK, Bool.not_false, Bool.and_self, and_self]
theorem rnd_in {K v : Int} (h0 : -2199023255552 ≤ v) (h1 : v ≤ 2199023255552) (k0 : 0 ≤ K) (k1 : K ≤ 4294967296) : -2199023255552 ≤ rnd (K * v) ∧ rnd (K * v) ≤ 2199023255552 := by
  have a := Int.mul_nonneg k0 (show 0 ≤ v + 2199023255552 by omega)
  have b := Int.mul_nonneg k0 (show 0 ≤ 2199023255552 - v by omega)
  rw [Int.mul_add] at a; rw [Int.mul_sub] at b
  unfold rnd; omega
theorem upd_num {K v : Int} (h0 : -2199023255552 ≤ v) (h1 : v ≤ 2199023255552) (k0 : 0 ≤ K) (k1 : K ≤ 4294967296) : (f170 0 (f96 K v).fst).fst = rnd (K * v) := by
  have hb := rnd_in h0 h1 k0 k1
  rw [f96_eq, cl_in (n := K) (by omega) (by omega), cl_in (n := v) (by omega) (by omega)]
  generalize rnd (K * v) = p at *
  simp only
  rw [cl_in (n := p) (by omega) (by omega)]
  unfold f170
  rw [show f153 0 = cl 0 from rfl, show f153 p = cl p from rfl, cl_in (n := p) (by omega) (by omega), cl_in (n := 0) (by omega) (by omega), Int.zero_add, wS (by omega) (by omega), f82_eq]
  simp only
  rw [cl_in (n := p) (by omega) (by omega)]
theorem f112_plain {v0 v1 v2 : Int} (a0 : -2199023255552 ≤ v0) (a1 : v0 ≤ 2199023255552) (b0 : -2199023255552 ≤ v1) (b1 : v1 ≤ 2199023255552) (c0 : -2199023255552 ≤ v2) (c1 : v2 ≤ 2199023255552) :
    f112 0 0 0 4294967296 4503599627370496 v0 v1 v2 = (v0, v1, v2, true) := by
  have e52 : f52 v0 v1 v2 0 0 0 = (v0, v1, v2, false) := by unfold f52; simp only [sub0 a0 a1, sub0 b0 b1, sub0 c0 c1]; rfl
  have e51 : f51 v0 v1 v2 4294967296 = (v0, v1, v2, false) := by unfold f51; simp only [mul1 a0 a1, mul1 b0 b1, mul1 c0 c1]; rfl
  have e7 : f167 0 0 0 4294967296 4503599627370496 = true := by kernel_rfl
  have e8 : ∀ v : Int, -2199023255552 ≤ v → v ≤ 2199023255552 → f168 0 0 0 4294967296 4503599627370496 v = false := fun v h0 h1 => by
    show (decide (v > 4503599627370496) || decide (v < IntKind.i64.wrap (0 - 4503599627370496))) = false
    rw [wS (n := 0 - 4503599627370496) (by omega) (by omega), decide_eq_false (show ¬ v > 4503599627370496 by omega), decide_eq_false (show ¬ v < 0 - 4503599627370496 by omega)]; rfl
  unfold f112
  simp only [e52, e51, e7, e8 v0 a0 a1, e8 v1 b0 b1, e8 v2 c0 c1]
  rfl
theorem f111_v {s v0 v1 v2 : Int} (s0 : 0 ≤ s) (s1 : s < 4) (a0 : -2199023255552 ≤ v0) (a1 : v0 ≤ 2199023255552) (b0 : -2199023255552 ≤ v1) (b1 : v1 ≤ 2199023255552) (c0 : -2199023255552 ≤ v2) (c1 : v2 ≤ 2199023255552) : f111 0 s v0 v1 v2 = true := by
  unfold f111
  rw [decide_eq_false (show ¬ v0 < -288230376151711744 by omega), decide_eq_false (show ¬ v0 > 288230376151711744 by omega), decide_eq_false (show ¬ v1 < -288230376151711744 by omega), decide_eq_false (show ¬ v1 > 288230376151711744 by omega),
    decide_eq_false (show ¬ v2 < -288230376151711744 by omega), decide_eq_false (show ¬ v2 > 288230376151711744 by omega), decide_eq_true (show s ≥ 0 from s0), decide_eq_true s1]
  rfl
theorem near {v p : Int} (h0 : -2199023255552 ≤ v) (h1 : v ≤ 2199023255552) (p0 : -2199023255552 ≤ p) (p1 : p ≤ 2199023255552) (k0 : (p - v) * 2048 ≤ v.natAbs + 4096 - 2048) (k1 : (v - p) * 2048 ≤ v.natAbs + 4096 - 2048) :
    IntKind.i64.wrap (p - v) ≤ IntKind.i64.wrap (IntKind.i64.wrap ((mxI v (IntKind.i64.wrap (0 - v))).tdiv 2048) + 2) ∧ IntKind.i64.wrap (v - p) ≤ IntKind.i64.wrap (IntKind.i64.wrap ((mxI v (IntKind.i64.wrap (0 - v))).tdiv 2048) + 2) := by
  have hm : mxI v (IntKind.i64.wrap (0 - v)) = v.natAbs := by
    rw [wS (n := 0 - v) (by omega) (by omega)]; unfold mxI; split <;> omega
  rw [hm, Int.tdiv_eq_ediv_of_nonneg (by omega), wS (n := p - v) (by omega) (by omega), wS (n := v - p) (by omega) (by omega), wS (n := (v.natAbs : Int) / 2048) (by omega) (by omega), wS (n := (v.natAbs : Int) / 2048 + 2) (by omega) (by omega)]
  omega
theorem read2 {v0 v1 v2 : Int} (a0 : -2199023255552 ≤ v0) (a1 : v0 ≤ 2199023255552) (b0 : -2199023255552 ≤ v1) (b1 : v1 ≤ 2199023255552) (c0 : -2199023255552 ≤ v2) (c1 : v2 ≤ 2199023255552) : f61 0 0 0 4294967296 0 0 0 0 0 0 false 0 0 17592186044416 0 17592186044416 false 0 0 17592186044416 0 17592186044416 false 0 0 17592186044416 0 17592186044416 false 0 0 0 4294967296 4503599627370496 0 0 0 4294967296 4503599627370496 0 0 0 4294967296 4503599627370496 0 0 0 4294967296 4503599627370496 0 2 v0 v1 v2 = (v0, v1, v2, 0) := by
  have e : f61 0 0 0 4294967296 0 0 0 0 0 0 false 0 0 17592186044416 0 17592186044416 false 0 0 17592186044416 0 17592186044416 false 0 0 17592186044416 0 17592186044416 false 0 0 0 4294967296 4503599627370496 0 0 0 4294967296 4503599627370496 0 0 0 4294967296 4503599627370496 0 0 0 4294967296 4503599627370496 0 2 v0 v1 v2 = f61p2 0 0 0 4294967296 0 0 0 0 0 0 false 0 0 17592186044416 0 17592186044416 false 0 0 17592186044416 0 17592186044416 false 0 0 17592186044416 0 17592186044416 false 0 0 0 4294967296 4503599627370496 0 0 0 4294967296 4503599627370496 0 0 0 4294967296 4503599627370496 0 0 0 4294967296 4503599627370496 0 v0 v1 v2 := rfl
  rw [e]
  unfold f61p2
  simp only [f112_plain a0 a1 b0 b1 c0 c1, f111_v (s := 2) (by omega) (by omega) a0 a1 b0 b1 c0 c1]
  rfl
theorem read3 {v0 v1 v2 : Int} (a0 : -2199023255552 ≤ v0) (a1 : v0 ≤ 2199023255552) (b0 : -2199023255552 ≤ v1) (b1 : v1 ≤ 2199023255552) (c0 : -2199023255552 ≤ v2) (c1 : v2 ≤ 2199023255552) : f61 0 0 0 4294967296 0 0 0 0 0 0 false 0 0 17592186044416 0 17592186044416 false 0 0 17592186044416 0 17592186044416 false 0 0 17592186044416 0 17592186044416 false 0 0 0 4294967296 4503599627370496 0 0 0 4294967296 4503599627370496 0 0 0 4294967296 4503599627370496 0 0 0 4294967296 4503599627370496 0 3 v0 v1 v2 = (v0, v1, v2, 0) := by
  have e : f61 0 0 0 4294967296 0 0 0 0 0 0 false 0 0 17592186044416 0 17592186044416 false 0 0 17592186044416 0 17592186044416 false 0 0 17592186044416 0 17592186044416 false 0 0 0 4294967296 4503599627370496 0 0 0 4294967296 4503599627370496 0 0 0 4294967296 4503599627370496 0 0 0 4294967296 4503599627370496 0 3 v0 v1 v2 = f61p3 0 0 0 4294967296 0 0 0 0 0 0 false 0 0 17592186044416 0 17592186044416 false 0 0 17592186044416 0 17592186044416 false 0 0 17592186044416 0 17592186044416 false 0 0 0 4294967296 4503599627370496 0 0 0 4294967296 4503599627370496 0 0 0 4294967296 4503599627370496 0 0 0 4294967296 4503599627370496 0 v0 v1 v2 := rfl
  rw [e]
  unfold f61p3
  simp only [f112_plain a0 a1 b0 b1 c0 c1, f111_v (s := 3) (by omega) (by omega) a0 a1 b0 b1 c0 c1]
  rfl
theorem dt0 : IntKind.i64.wrap (mnI (IntKind.i64.wrap (0 - 0)) 16384 * 4194304) = 0 := by kernel_rfl
theorem feed2 {v0 v1 v2 : Int} (a0 : -2199023255552 ≤ v0) (a1 : v0 ≤ 2199023255552) (b0 : -2199023255552 ≤ v1) (b1 : v1 ≤ 2199023255552) (c0 : -2199023255552 ≤ v2) (c1 : v2 ≤ 2199023255552) : ∃ n q0 q1 q2 q3 w0 w1 w2 qb x1 x2 x3 x4 x5 y1 y2 y3 y4 y5 z1 z2 z3 z4 z5,
    f24 0 0 0 4294967296 0 0 0 0 0 0 false 0 0 17592186044416 0 17592186044416 false 0 0 17592186044416 0 17592186044416 false 0 0 17592186044416 0 17592186044416 false 0 0 0 4294967296 4503599627370496 0 0 0 4294967296 4503599627370496 0 0 0 4294967296 4503599627370496 0 0 0 4294967296 4503599627370496 0 2 v0 v1 v2 = (0, n, 0, q0, q1, q2, q3, w0, w1, w2, qb, rnd (4293918976 * v0), x1, x2, x3, x4, x5, rnd (4293918976 * v1), y1, y2, y3, y4, y5, rnd (4293918976 * v2), z1, z2, z3, z4, z5, 0) := by
  have e : f24 0 0 0 4294967296 0 0 0 0 0 0 false 0 0 17592186044416 0 17592186044416 false 0 0 17592186044416 0 17592186044416 false 0 0 17592186044416 0 17592186044416 false 0 0 0 4294967296 4503599627370496 0 0 0 4294967296 4503599627370496 0 0 0 4294967296 4503599627370496 0 0 0 4294967296 4503599627370496 0 2 v0 v1 v2 = f24p2 0 0 0 4294967296 0 0 0 0 0 0 false 0 0 17592186044416 0 17592186044416 false 0 0 17592186044416 0 17592186044416 false 0 0 17592186044416 0 17592186044416 false 0 0 0 4294967296 4503599627370496 0 0 0 4294967296 4503599627370496 0 0 0 4294967296 4503599627370496 0 0 0 4294967296 4503599627370496 0 v0 v1 v2 := rfl
  rw [e]
  unfold f24p2
  simp only [f60_sane _ _ _ _ _ _ _ _ _ _ _ _ _ _ _ _ _ _ _ _ _ _ _ _ _ _ _ _ _ f26_start, read2 a0 a1 b0 b1 c0 c1, dt0, pred_lit,
    (upd _ _ 4294967296 v0 a0 a1 k2_lit gate2_lit (by omega) rfl).1, (upd _ _ 4294967296 v0 a0 a1 k2_lit gate2_lit (by omega) rfl).2,
    (upd _ _ 4294967296 v1 b0 b1 k2_lit gate2_lit (by omega) rfl).1, (upd _ _ 4294967296 v1 b0 b1 k2_lit gate2_lit (by omega) rfl).2,
    (upd _ _ 4294967296 v2 c0 c1 k2_lit gate2_lit (by omega) rfl).1, (upd _ _ 4294967296 v2 c0 c1 k2_lit gate2_lit (by omega) rfl).2,
    upd_num a0 a1 (K := 4293918976) (by omega) (by omega), upd_num b0 b1 (K := 4293918976) (by omega) (by omega), upd_num c0 c1 (K := 4293918976) (by omega) (by omega),
    bne_self_eq_false, cond_false, Bool.and_self, Bool.not_true]
  exact ⟨_, _, _, _, _, _, _, _, _, _, _, _, _, _, _, _, _, _, _, _, _, _, _, _, rfl⟩
theorem feed3 {v0 v1 v2 : Int} (a0 : -2199023255552 ≤ v0) (a1 : v0 ≤ 2199023255552) (b0 : -2199023255552 ≤ v1) (b1 : v1 ≤ 2199023255552) (c0 : -2199023255552 ≤ v2) (c1 : v2 ≤ 2199023255552) : ∃ n q0 q1 q2 q3 w0 w1 w2 qb x1 x2 x3 x4 x5 y1 y2 y3 y4 y5 z1 z2 z3 z4 z5,
    f24 0 0 0 4294967296 0 0 0 0 0 0 false 0 0 17592186044416 0 17592186044416 false 0 0 17592186044416 0 17592186044416 false 0 0 17592186044416 0 17592186044416 false 0 0 0 4294967296 4503599627370496 0 0 0 4294967296 4503599627370496 0 0 0 4294967296 4503599627370496 0 0 0 4294967296 4503599627370496 0 3 v0 v1 v2 = (0, n, 0, q0, q1, q2, q3, w0, w1, w2, qb, 0, x1, x2, x3, x4, x5, 0, y1, y2, y3, y4, y5, rnd (4294705168 * v0), z1, z2, z3, z4, z5, 0) := by
  have e : f24 0 0 0 4294967296 0 0 0 0 0 0 false 0 0 17592186044416 0 17592186044416 false 0 0 17592186044416 0 17592186044416 false 0 0 17592186044416 0 17592186044416 false 0 0 0 4294967296 4503599627370496 0 0 0 4294967296 4503599627370496 0 0 0 4294967296 4503599627370496 0 0 0 4294967296 4503599627370496 0 3 v0 v1 v2 = f24p3 0 0 0 4294967296 0 0 0 0 0 0 false 0 0 17592186044416 0 17592186044416 false 0 0 17592186044416 0 17592186044416 false 0 0 17592186044416 0 17592186044416 false 0 0 0 4294967296 4503599627370496 0 0 0 4294967296 4503599627370496 0 0 0 4294967296 4503599627370496 0 0 0 4294967296 4503599627370496 0 v0 v1 v2 := rfl
  rw [e]
  unfold f24p3
  simp only [f60_sane _ _ _ _ _ _ _ _ _ _ _ _ _ _ _ _ _ _ _ _ _ _ _ _ _ _ _ _ _ f26_start, read3 a0 a1 b0 b1 c0 c1, dt0, pred_lit,
    (upd _ _ 1073741824 v0 a0 a1 k3_lit gate3_lit (by omega) rfl).1, (upd _ _ 1073741824 v0 a0 a1 k3_lit gate3_lit (by omega) rfl).2,
    upd_num a0 a1 (K := 4294705168) (by omega) (by omega),
    bne_self_eq_false, cond_false, Bool.and_self, Bool.not_true]
  exact ⟨_, _, _, _, _, _, _, _, _, _, _, _, _, _, _, _, _, _, _, _, _, _, _, _, rfl⟩
theorem f8_eq (v0 v1 v2 : Int) : f8 v0 v1 v2 = true := by
  unfold f8
  simp only [f28_lit, f35_lit]
  by_cases ha : -2199023255552 ≤ v0 ∧ v0 ≤ 2199023255552
  · by_cases hb : -2199023255552 ≤ v1 ∧ v1 ≤ 2199023255552
    · by_cases hc : -2199023255552 ≤ v2 ∧ v2 ≤ 2199023255552
      · obtain ⟨a0, a1⟩ := ha; obtain ⟨b0, b1⟩ := hb; obtain ⟨c0, c1⟩ := hc
        obtain ⟨n, q0, q1, q2, q3, w0, w1, w2, qb, x1, x2, x3, x4, x5, y1, y2, y3, y4, y5, z1, z2, z3, z4, z5, e2⟩ := feed2 a0 a1 b0 b1 c0 c1
        obtain ⟨m, r0, r1, r2, r3, u0, u1, u2, rb, k1, k2, k3, k4, k5, l1, l2, l3, l4, l5, m1, m2, m3, m4, m5, e3⟩ := feed3 a0 a1 b0 b1 c0 c1
        have g0 := rnd_in a0 a1 (K := 4293918976) (by omega) (by omega)
        have g1 := rnd_in b0 b1 (K := 4293918976) (by omega) (by omega)
        have g2 := rnd_in c0 c1 (K := 4293918976) (by omega) (by omega)
        have g3 := rnd_in a0 a1 (K := 4294705168) (by omega) (by omega)
        have n0 := near a0 a1 g0.1 g0.2 (by unfold rnd; omega) (by unfold rnd; omega)
        have n1 := near b0 b1 g1.1 g1.2 (by unfold rnd; omega) (by unfold rnd; omega)
        have n2 := near c0 c1 g2.1 g2.2 (by unfold rnd; omega) (by unfold rnd; omega)
        have n3 := near a0 a1 g3.1 g3.2 (by unfold rnd; omega) (by unfold rnd; omega)
        simp only [e2, e3]
        rw [decide_eq_false (show ¬ v0 > 2199023255552 by omega), decide_eq_false (show ¬ v0 < -2199023255552 by omega), decide_eq_false (show ¬ v1 > 2199023255552 by omega), decide_eq_false (show ¬ v1 < -2199023255552 by omega), decide_eq_false (show ¬ v2 > 2199023255552 by omega), decide_eq_false (show ¬ v2 < -2199023255552 by omega),
          decide_eq_false (Int.not_lt.2 n0.1), decide_eq_false (Int.not_lt.2 n0.2), decide_eq_false (Int.not_lt.2 n1.1), decide_eq_false (Int.not_lt.2 n1.2), decide_eq_false (Int.not_lt.2 n2.1), decide_eq_false (Int.not_lt.2 n2.2), decide_eq_true n3.1, decide_eq_true n3.2]
        rfl
      · rcases Int.lt_or_le 2199023255552 v2 with h | h
        · rw [decide_eq_true (show v2 > 2199023255552 from h), Bool.true_or]
          cases (decide (v0 > 2199023255552) || decide (v0 < -2199023255552)) <;> cases (decide (v1 > 2199023255552) || decide (v1 < -2199023255552)) <;> rfl
        · rw [decide_eq_true (show v2 < -2199023255552 by omega), Bool.or_true]
          cases (decide (v0 > 2199023255552) || decide (v0 < -2199023255552)) <;> cases (decide (v1 > 2199023255552) || decide (v1 < -2199023255552)) <;> rfl
    · rcases Int.lt_or_le 2199023255552 v1 with h | h
      · rw [decide_eq_true (show v1 > 2199023255552 from h), Bool.true_or]
        cases (decide (v0 > 2199023255552) || decide (v0 < -2199023255552)) <;> rfl
      · rw [decide_eq_true (show v1 < -2199023255552 by omega), Bool.or_true]
        cases (decide (v0 > 2199023255552) || decide (v0 < -2199023255552)) <;> rfl
  · rcases Int.lt_or_le 2199023255552 v0 with h | h
    · rw [decide_eq_true (show v0 > 2199023255552 from h), Bool.true_or]; rfl
    · rw [decide_eq_true (show v0 < -2199023255552 by omega), Bool.or_true]; rfl
end Go.Proofs.YtmnglkcodbecbaaGreat
