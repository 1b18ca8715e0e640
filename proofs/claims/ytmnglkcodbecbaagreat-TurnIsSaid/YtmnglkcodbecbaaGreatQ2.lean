/- The plain law QuatUnit. -/
import Derived.Test.YtmnglkcodbecbaaGreatQ1
namespace Go.Proofs.YtmnglkcodbecbaaGreat
open Go Go.Sx
theorem small_chg {a : Int} (h0 : -288230376151711744 ≤ a) (h1 : a ≤ 288230376151711744) : chg a = false := by unfold chg; rw [cl_in h0 h1]; simp
theorem lt_of_sq {x y : Int} (h : x * x < y * y) (hy : 0 ≤ y) : x < y := by
  rcases Int.lt_or_le x y with h1 | h1
  · exact h1
  · have := Int.mul_le_mul h1 h1 hy (by omega)
    omega
theorem sq_nn (x : Int) : 0 ≤ x * x := by
  rcases Int.le_total 0 x with h | h
  · exact Int.mul_nonneg h h
  · exact Int.mul_nonneg_of_nonpos_of_nonpos h h
theorem sq_abs_le {x n : Int} (h0 : -n ≤ x) (h1 : x ≤ n) : x * x ≤ n * n := by
  have := Int.mul_nonneg (show 0 ≤ n - x by omega) (show 0 ≤ n + x by omega)
  have e : (n - x) * (n + x) = n * n - x * x := by grind
  omega
theorem unit_num {n a u : Int} (hn : 0 < n) (ha0 : -n ≤ a) (ha1 : a ≤ n) (l1 : u * (2 * n) ≤ 2 * a * 4294967296 + n) (l2 : 2 * a * 4294967296 + n < (u + 1) * (2 * n)) :
    -4294967296 ≤ u ∧ u ≤ 4294967296 ∧ (0 ≤ a → 0 ≤ u) ∧ (a ≤ 0 → u ≤ 0) ∧ -n ≤ 2 * (n * u) - 8589934592 * a ∧ 2 * (n * u) - 8589934592 * a ≤ n := by
  have e1 : u * (2 * n) = 2 * (n * u) := by grind
  have e2 : (u + 1) * (2 * n) = 2 * (n * u) + 2 * n := by grind
  rw [e1] at l1; rw [e2] at l2
  have up : ∀ k : Int, n * (k + 1) > n * u ∨ k < u := fun k => by
    rcases Int.lt_or_le k u with h | h
    · exact .inr h
    · have := Int.mul_le_mul_of_nonneg_left h (show 0 ≤ n by omega)
      have e : n * (k + 1) = n * k + n := by grind
      omega
  have ge : ∀ k : Int, k ≤ u → n * k ≤ n * u := fun k h => Int.mul_le_mul_of_nonneg_left h (show 0 ≤ n by omega)
  have le : ∀ k : Int, u ≤ k → n * u ≤ n * k := fun k h => Int.mul_le_mul_of_nonneg_left h (show 0 ≤ n by omega)
  refine ⟨?_, ?_, ?_, ?_, by omega, by omega⟩
  · rcases Int.lt_or_le u (-4294967296) with h | h
    · have := le (-4294967297) (by omega)
      omega
    · exact h
  · rcases Int.lt_or_le 4294967296 u with h | h
    · have := ge 4294967297 (by omega)
      omega
    · exact h
  · intro h0
    rcases Int.lt_or_le u 0 with h | h
    · have := le (-1) (by omega)
      omega
    · exact h
  · intro h0
    rcases Int.lt_or_le 0 u with h | h
    · have := ge 1 (by omega)
      omega
    · exact h
theorem unit_one {n a : Int} (hn : 16777216 ≤ n) (hn2 : n ≤ 4503599627370496) (ha0 : -n ≤ a) (ha1 : a ≤ n) :
    ∃ u, f105 a n = (u, false) ∧ -4294967296 ≤ u ∧ u ≤ 4294967296 ∧ (0 ≤ a → 0 ≤ u) ∧ (a ≤ 0 → u ≤ 0) ∧ -n ≤ 2 * (n * u) - 8589934592 * a ∧ 2 * (n * u) - 8589934592 * a ≤ n := by
  obtain ⟨N, Y, -, hY, hc, l1, l2⟩ := ov_bounds (A := a) (B := n) (by omega)
  rw [show N = a by omega, show Y = n by omega] at l1 l2
  have h := unit_num (u := ov a n) (by omega) ha0 ha1 l1 l2
  refine ⟨ov a n, ?_, h⟩
  rw [f105_eq, cl_in (n := a) (by omega) (by omega), cl_in (n := n) (by omega) (by omega), ovr_ne (by omega) (by omega), cl_in (n := ov a n) (by omega) (by omega)]
  simp
theorem ab_le {a e n : Int} (ha0 : -n ≤ a) (ha1 : a ≤ n) (he0 : -n ≤ e) (he1 : e ≤ n) : -(n * n) ≤ a * e ∧ a * e ≤ n * n := by
  have h1 := sq_nn (a - e); have h2 := sq_nn (a + e)
  have h3 := sq_abs_le ha0 ha1; have h4 := sq_abs_le he0 he1
  have e1 : (a - e) * (a - e) = a * a + e * e - 2 * (a * e) := by grind
  have e2 : (a + e) * (a + e) = a * a + e * e + 2 * (a * e) := by grind
  omega
theorem unit_sq {n a u : Int} (h0 : -n ≤ 2 * (n * u) - 8589934592 * a) (h1 : 2 * (n * u) - 8589934592 * a ≤ n) (ha0 : -n ≤ a) (ha1 : a ≤ n) :
    73786976294838206464 * (a * a) - 17179869184 * (n * n) ≤ 4 * (n * n * (u * u)) ∧ 4 * (n * n * (u * u)) ≤ 73786976294838206464 * (a * a) + 17179869185 * (n * n) := by
  obtain ⟨p1, p2⟩ := ab_le ha0 ha1 h0 h1
  have p3 := sq_abs_le h0 h1
  have p4 := sq_nn (2 * (n * u) - 8589934592 * a)
  generalize he : 2 * (n * u) - 8589934592 * a = e at *
  have e1 : 4 * (n * n * (u * u)) = 73786976294838206464 * (a * a) + 17179869184 * (a * e) + e * e := by
    have : 2 * (n * u) = 8589934592 * a + e := by omega
    have e2 : 4 * (n * n * (u * u)) = (2 * (n * u)) * (2 * (n * u)) := by grind
    rw [e2, this]; grind
  omega
end Go.Proofs.YtmnglkcodbecbaaGreat
