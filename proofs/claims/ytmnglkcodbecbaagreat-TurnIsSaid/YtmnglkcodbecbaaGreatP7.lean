/- The reference's Mul, Times and Mix answer as scale's. -/
import Derived.Test.YtmnglkcodbecbaaGreatP6
namespace Go.Proofs.YtmnglkcodbecbaaGreat
open Go Go.Sx
theorem sgn_prod (x y : Int) : (bif (!decide (x < 0) == decide (y < 0)) then -((x * y).natAbs : Int) else ((x * y).natAbs : Int)) = x * y := by
  have s1 : 0 ≤ x → 0 ≤ y → 0 ≤ x * y := Int.mul_nonneg
  have s2 : x < 0 → y < 0 → 0 ≤ x * y := fun h1 h2 => Int.le_of_lt (Int.mul_pos_of_neg_of_neg h1 h2)
  have s3 : x < 0 → 0 ≤ y → x * y ≤ 0 := fun h1 h2 => Int.mul_nonpos_of_nonpos_of_nonneg (Int.le_of_lt h1) h2
  have s4 : 0 ≤ x → y < 0 → x * y ≤ 0 := fun h1 h2 => Int.mul_nonpos_of_nonneg_of_nonpos h1 (Int.le_of_lt h2)
  by_cases ha : x < 0 <;> by_cases hb : y < 0
  · rw [decide_eq_true ha, decide_eq_true hb, show (!(true == true)) = false from rfl, cond_false]; have := s2 ha hb; omega
  · rw [decide_eq_true ha, decide_eq_false hb, show (!(true == false)) = true from rfl, cond_true]; have := s3 ha (by omega); omega
  · rw [decide_eq_false ha, decide_eq_true hb, show (!(false == true)) = true from rfl, cond_true]; have := s4 (by omega) hb; omega
  · rw [decide_eq_false ha, decide_eq_false hb, show (!(false == false)) = false from rfl, cond_false]; have := s1 (by omega) (by omega); omega
theorem split31 (x1 x0 y1 y0 : Int) : (x1 * 2147483648 + x0) * (y1 * 2147483648 + y0) = x1 * y1 * 4611686018427387904 + (x1 * y0 + x0 * y1) * 2147483648 + x0 * y0 := by
  grind
theorem wd_of {h l : Int} (h0 : 0 ≤ l) (h1 : l < 4611686018427387904) : wd (h * 4611686018427387904 + l) = (h, l) := by
  simp only [wd, Prod.mk.injEq]; omega
theorem pair_neg (neg : Bool) {h l v : Int} (g : wd v = (h, l)) (h0 : -10633823966279326983230456482242756608 < v) (h1 : v < 10633823966279326983230456482242756608) :
    (bif neg then ((f198 h l).1, (f198 h l).2) else (h, l)) = wd (bif neg then -v else v) := by
  have f := f198_wd h0 h1
  rw [g] at f
  cases neg
  · exact g.symm
  · exact f
theorem f161_end (neg : Bool) (H T : Int) (b1 : 0 ≤ H) (b2 : H ≤ 18014398509481984 + 536870912) (b3 : 0 ≤ T) (b4 : T < 9223372036854775808) :
    (bif decide (T ≥ 4611686018427387904) then (bif neg then ((f198 (H + 1) (IntKind.i64.wrap (T - 4611686018427387904))).1, (f198 (H + 1) (IntKind.i64.wrap (T - 4611686018427387904))).2) else (H + 1, IntKind.i64.wrap (T - 4611686018427387904)))
      else bif neg then ((f198 H T).1, (f198 H T).2) else (H, T)) = wd (bif neg then -(H * 4611686018427387904 + T) else H * 4611686018427387904 + T) := by
  by_cases hc : T ≥ 4611686018427387904
  · rw [decide_eq_true hc, cond_true, wS (n := T - 4611686018427387904) (by omega) (by omega)]
    refine pair_neg neg (v := H * 4611686018427387904 + T) ?_ (by omega) (by omega)
    have e : H * 4611686018427387904 + T = (H + 1) * 4611686018427387904 + (T - 4611686018427387904) := by omega
    rw [e]; exact wd_of (by omega) (by omega)
  · rw [decide_eq_false hc, cond_false]
    exact pair_neg neg (v := H * 4611686018427387904 + T) (wd_of (by omega) (by omega)) (by omega) (by omega)
theorem f161_eq (a b : Int) : f161 a b = wd (cl a * cl b) := by
  unfold f161
  have a1 := cl_lo a; have a2 := cl_hi a; have b1 := cl_lo b; have b2 := cl_hi b
  rw [f132_eq, f132_eq]
  have hP : (((cl a).natAbs : Int) * ((cl b).natAbs : Int)) = ((cl a * cl b).natAbs : Int) := by rw [Int.natAbs_mul, Int.natCast_mul]
  have hs : (a < 0) ↔ (cl a < 0) := by have := cl_def a; omega
  have ht : (b < 0) ↔ (cl b < 0) := by have := cl_def b; omega
  have hX0 : 0 ≤ ((cl a).natAbs : Int) := by omega
  have hX : ((cl a).natAbs : Int) ≤ 288230376151711744 := by omega
  have hY0 : 0 ≤ ((cl b).natAbs : Int) := by omega
  have hY : ((cl b).natAbs : Int) ≤ 288230376151711744 := by omega
  have d1 : decide (a < 0) = decide (cl a < 0) := by rw [decide_eq_decide]; exact hs
  have d2 : decide (b < 0) = decide (cl b < 0) := by rw [decide_eq_decide]; exact ht
  have hsg := sgn_prod (cl a) (cl b)
  rw [d1, d2]
  rw [← hP] at hsg
  generalize ((cl a).natAbs : Int) = X at *
  generalize ((cl b).natAbs : Int) = Y at *
  rw [← hsg]
  generalize (!decide (cl a < 0) == decide (cl b < 0)) = neg
  clear hsg hs ht a1 a2 b1 b2 d1 d2 hP
  have ex : X = X / 2147483648 * 2147483648 + X % 2147483648 := by omega
  have ey : Y = Y / 2147483648 * 2147483648 + Y % 2147483648 := by omega
  have e1 : X.tdiv 2147483648 = X / 2147483648 := Int.tdiv_eq_ediv_of_nonneg hX0
  have e2 : X.tmod 2147483648 = X % 2147483648 := Int.tmod_eq_emod_of_nonneg hX0
  have e3 : Y.tdiv 2147483648 = Y / 2147483648 := Int.tdiv_eq_ediv_of_nonneg hY0
  have e4 : Y.tmod 2147483648 = Y % 2147483648 := Int.tmod_eq_emod_of_nonneg hY0
  rw [e1, e2, e3, e4]
  have bx1 : 0 ≤ X / 2147483648 ∧ X / 2147483648 ≤ 134217728 := by omega
  have bx0 : 0 ≤ X % 2147483648 ∧ X % 2147483648 ≤ 2147483647 := by omega
  have by1 : 0 ≤ Y / 2147483648 ∧ Y / 2147483648 ≤ 134217728 := by omega
  have by0 : 0 ≤ Y % 2147483648 ∧ Y % 2147483648 ≤ 2147483647 := by omega
  have hXY := split31 (X / 2147483648) (X % 2147483648) (Y / 2147483648) (Y % 2147483648)
  rw [← ex, ← ey] at hXY
  rw [hXY]
  clear hXY ex ey e1 e2 e3 e4
  generalize X / 2147483648 = x1 at *
  generalize X % 2147483648 = x0 at *
  generalize Y / 2147483648 = y1 at *
  generalize Y % 2147483648 = y0 at *
  have p1 : 0 ≤ x1 * y1 ∧ x1 * y1 ≤ 134217728 * 134217728 := ⟨Int.mul_nonneg bx1.1 by1.1, Int.mul_le_mul bx1.2 by1.2 by1.1 (by omega)⟩
  have p2 : 0 ≤ x1 * y0 ∧ x1 * y0 ≤ 134217728 * 2147483647 := ⟨Int.mul_nonneg bx1.1 by0.1, Int.mul_le_mul bx1.2 by0.2 by0.1 (by omega)⟩
  have p3 : 0 ≤ x0 * y1 ∧ x0 * y1 ≤ 2147483647 * 134217728 := ⟨Int.mul_nonneg bx0.1 by1.1, Int.mul_le_mul bx0.2 by1.2 by1.1 (by omega)⟩
  have p4 : 0 ≤ x0 * y0 ∧ x0 * y0 ≤ 2147483647 * 2147483647 := ⟨Int.mul_nonneg bx0.1 by0.1, Int.mul_le_mul bx0.2 by0.2 by0.1 (by omega)⟩
  rw [wS (n := x1) (by omega) (by omega), wS (n := y1) (by omega) (by omega)]
  generalize x1 * y1 = A at *
  generalize x1 * y0 = B at *
  generalize x0 * y1 = C at *
  generalize x0 * y0 = D at *
  rw [wS (n := A) (by omega) (by omega), wS (n := B) (by omega) (by omega), wS (n := C) (by omega) (by omega), wS (n := D) (by omega) (by omega), wS (n := B + C) (by omega) (by omega)]
  have q1 : (B + C).tdiv 2147483648 = (B + C) / 2147483648 := Int.tdiv_eq_ediv_of_nonneg (by omega)
  have q2 : (B + C).tmod 2147483648 = (B + C) % 2147483648 := Int.tmod_eq_emod_of_nonneg (by omega)
  rw [q1, q2, wS (n := (B + C) / 2147483648) (by omega) (by omega), wS (n := (B + C) % 2147483648 * 2147483648) (by omega) (by omega), wS (n := D + (B + C) % 2147483648 * 2147483648) (by omega) (by omega),
    wS (n := A + (B + C) / 2147483648) (by omega) (by omega), wS (n := A + (B + C) / 2147483648 + 1) (by omega) (by omega)]
  have hVe : A * 4611686018427387904 + (B + C) * 2147483648 + D = (A + (B + C) / 2147483648) * 4611686018427387904 + (D + (B + C) % 2147483648 * 2147483648) := by
    clear p1 p2 p3 p4; omega
  have bH : 0 ≤ A + (B + C) / 2147483648 ∧ A + (B + C) / 2147483648 ≤ 18014398509481984 + 536870912 := by omega
  have bL : 0 ≤ D + (B + C) % 2147483648 * 2147483648 ∧ D + (B + C) % 2147483648 * 2147483648 < 9223372036854775808 := by omega
  rw [hVe]
  clear hVe q1 q2 p1 p2 p3 p4
  generalize A + (B + C) / 2147483648 = H at *
  generalize D + (B + C) % 2147483648 * 2147483648 = T at *
  exact f161_end neg H T bH.1 bH.2 bL.1 bL.2
theorem f100_eq (a b : Int) : f100 a b = f96 a b := by
  unfold f100 f96
  rw [f161_eq, f158_eq, f160_eq, f162_eq, f162_eq, f159_two]
  cases (f157 (wd (cl a * cl b)).1 (wd (cl a * cl b)).2).2 <;> simp
end Go.Proofs.YtmnglkcodbecbaaGreat
