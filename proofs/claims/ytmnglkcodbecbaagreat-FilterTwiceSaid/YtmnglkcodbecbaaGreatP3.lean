/- The laws of scale, as numbers: each returns true. -/
import Derived.Test.YtmnglkcodbecbaaGreatP2
namespace Go.Proofs.YtmnglkcodbecbaaGreat
open Go Go.Sx
theorem ov_zero {B : Int} (hB : B ≠ 0) : ov 0 B = 0 := by
  unfold ov
  have h : 2 * (bif decide (B < 0) then -0 else 0) * 4294967296 + (B.natAbs : Int) = B.natAbs := by cases decide (B < 0) <;> simp
  rw [h]
  exact Int.ediv_eq_zero_of_lt (by omega) (by omega)
theorem ovr_ne {A B : Int} (hB : B ≠ 0) (hA0 : -288230376151711744 ≤ A) (c : Bool) : ovr A B c = (cl (ov A B), c || cl (ov A B) != ov A B) := by
  unfold ovr
  have hB2 : (B == 0) = false := by simpa using hB
  rw [hB2]
  by_cases hA : A = 0
  · subst hA
    rw [ov_zero hB]
    cases c <;> rfl
  · have hA2 : (A == 0) = false := by simpa using hA
    rw [hA2]; rfl
/-- what the rounded quotient is between -/
theorem ov_bounds {A B : Int} (hB : B ≠ 0) : ∃ N Y : Int, Y = B.natAbs ∧ 0 < Y ∧ ((0 < B ∧ N = A ∧ Y = B) ∨ (B < 0 ∧ N = -A ∧ Y = -B)) ∧ ov A B * (2 * Y) ≤ 2 * N * 4294967296 + Y ∧ 2 * N * 4294967296 + Y < (ov A B + 1) * (2 * Y) := by
  refine ⟨if B < 0 then -A else A, B.natAbs, rfl, by omega, by split <;> omega, ?_⟩
  have e : ov A B = (2 * (if B < 0 then -A else A) * 4294967296 + (B.natAbs : Int)) / (2 * B.natAbs) := by
    unfold ov
    by_cases h : B < 0
    · rw [decide_eq_true h, if_pos h, cond_true]
    · rw [decide_eq_false h, if_neg h, cond_false]
  rw [e]
  generalize 2 * (if B < 0 then -A else A) * 4294967296 + (B.natAbs : Int) = T
  have hY : 0 < 2 * (B.natAbs : Int) := by omega
  generalize 2 * (B.natAbs : Int) = Z at *
  have e1 := Int.mul_ediv_add_emod T Z
  have r0 := Int.emod_nonneg T (b := Z) (by omega)
  have r1 := Int.emod_lt_of_pos T hY
  rw [Int.mul_comm] at e1
  rw [Int.add_mul, Int.one_mul]
  omega
theorem flags2 {x y z : Bool} (h : (x || (y || z)) = false) : x = false ∧ y = false ∧ z = false := by
  cases x <;> cases y <;> cases z <;> simp_all
theorem ne_false {a b : Int} (h : (a != b) = false) : a = b := by simpa using h
theorem rnd_bounds (p : Int) : rnd p * 4294967296 ≤ p + 2147483648 ∧ p + 2147483648 < rnd p * 4294967296 + 4294967296 := by unfold rnd; omega
theorem back_near {a b t o N Y : Int} (hY : 4294967296 ≤ Y) (ht : t * 4294967296 ≤ a * b + 2147483648) (ht1 : a * b + 2147483648 < t * 4294967296 + 4294967296)
    (hs : (0 < b ∧ N = t ∧ Y = b) ∨ (b < 0 ∧ N = -t ∧ Y = -b)) (h1 : o * (2 * Y) ≤ 2 * N * 4294967296 + Y) (h2 : 2 * N * 4294967296 + Y < (o + 1) * (2 * Y)) : a ≤ o ∧ o ≤ a + 1 := by
  have haY : a * Y = a * b ∨ a * Y = -(a * b) := by
    rcases hs with ⟨_, _, rfl⟩ | ⟨_, _, rfl⟩
    · exact .inl rfl
    · exact .inr (by rw [Int.mul_neg])
  have hN : 2 * N * 4294967296 - 2 * (a * Y) ≤ 4294967296 ∧ -4294967296 ≤ 2 * N * 4294967296 - 2 * (a * Y) := by
    rcases hs with ⟨_, rfl, rfl⟩ | ⟨_, rfl, rfl⟩
    · omega
    · have := Int.mul_neg a b; omega
  have e1 : o * (2 * Y) = 2 * (o * Y) := by rw [Int.mul_left_comm]
  have e2 : (o + 1) * (2 * Y) = 2 * ((o + 1) * Y) := by rw [Int.mul_left_comm]
  have e3 : (a + 1) * Y = a * Y + Y := by rw [Int.add_mul, Int.one_mul]
  constructor
  · have : a * Y < (o + 1) * Y := by omega
    have := Int.lt_of_mul_lt_mul_right this (by omega)
    omega
  · have : o * Y ≤ (a + 1) * Y := by omega
    exact Int.le_of_mul_le_mul_right this (by omega)
theorem rnd_neg (p : Int) : rnd p + rnd (-p) = 0 ∨ rnd p + rnd (-p) = 1 := by unfold rnd; omega
theorem ov_neg_sum {A B : Int} (hB : B ≠ 0) : ov A B + ov (-A) B = 0 ∨ ov A B + ov (-A) B = 1 := by
  obtain ⟨N, Y, hY, hY0, hs, o1, o2⟩ := ov_bounds (A := A) hB
  obtain ⟨N', Y', hY', _, hs', p1, p2⟩ := ov_bounds (A := -A) hB
  have eY : Y' = Y := by omega
  have eN : N' = -N := by omega
  subst eY; subst eN
  have e1 : (ov A B + ov (-A) B) * (2 * Y') = ov A B * (2 * Y') + ov (-A) B * (2 * Y') := Int.add_mul _ _ _
  have e2 : (ov A B + 1) * (2 * Y') = ov A B * (2 * Y') + 2 * Y' := by rw [Int.add_mul, Int.one_mul]
  have e3 : (ov (-A) B + 1) * (2 * Y') = ov (-A) B * (2 * Y') + 2 * Y' := by rw [Int.add_mul, Int.one_mul]
  have l1 : (ov A B + ov (-A) B) * (2 * Y') < 2 * (2 * Y') := by omega
  have l2 : -1 * (2 * Y') < (ov A B + ov (-A) B) * (2 * Y') := by omega
  have h1 := Int.lt_of_mul_lt_mul_right l1 (by omega)
  have h2 := Int.lt_of_mul_lt_mul_right l2 (by omega)
  omega
theorem ov_neg_neg {A B : Int} (hB : B ≠ 0) : ov (-A) (-B) = ov A B := by
  unfold ov
  rw [Int.natAbs_neg]
  by_cases h : B < 0
  · rw [decide_eq_true h, decide_eq_false (show ¬ -B < 0 by omega)]; rfl
  · rw [decide_eq_false h, decide_eq_true (show -B < 0 by omega), cond_true, cond_false, Int.neg_neg]
theorem flag_ok {x y : Bool} (h : x = false → y = true) : (x || y) = true := by
  cases x
  · exact h rfl
  · rfl
theorem cl_neg (n : Int) : cl (-n) = - cl n := by
  have := cl_def n; have := cl_def (-n); omega
end Go.Proofs.YtmnglkcodbecbaaGreat
