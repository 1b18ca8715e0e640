/- The reference's division is division. -/
import Derived.Test.YtmnglkcodbecbaaGreatP7
namespace Go.Proofs.YtmnglkcodbecbaaGreat
open Go Go.Sx
/-- what is done of the division after k rounds -/
def part (x : Int) (k : Nat) : Int := x * 4294967296 / 2 ^ (91 - k)
theorem bit_is (x : Int) (k : Nat) (hk : k < 91) : part x (k + 1) = 2 * part x k + dbit x (90 - k) := by
  unfold part dbit
  have e : 91 - k = (91 - (k + 1)) + 1 := by omega
  rw [e, Int.pow_succ]
  have hp : (0:Int) < 2 ^ (91 - (k + 1)) := Int.pow_pos (by omega)
  rw [← Int.ediv_ediv_of_nonneg (by omega)]
  have key : dbit x (90 - k) = x * 4294967296 / 2 ^ (91 - (k + 1)) % 2 := by
    unfold dbit
    by_cases h : 32 ≤ 90 - k
    · rw [if_pos h, show min (90 - k - 32) 64 = 90 - k - 32 by omega]
      have e2 : (2:Int) ^ (91 - (k + 1)) = 2 ^ (90 - k - 32) * 4294967296 := by
        rw [show 91 - (k + 1) = (90 - k - 32) + 32 by omega, Int.pow_add]; rfl
      rw [e2, Int.mul_ediv_mul_of_pos_left _ _ (by omega)]
    · rw [if_neg h]
      have e2 : x * 4294967296 = x * 2 ^ (32 - (90 - k)) * 2 ^ (91 - (k + 1)) := by
        rw [Int.mul_assoc, ← Int.pow_add, show 32 - (90 - k) + (91 - (k + 1)) = 32 by omega]; rfl
      rw [e2, Int.mul_ediv_cancel _ (by omega)]
      have e3 : 32 - (90 - k) = (31 - (90 - k)) + 1 := by omega
      rw [e3, Int.pow_succ, ← Int.mul_assoc]; omega
  unfold dbit at key
  rw [key]; omega
theorem drun_is {x y : Int} (hx0 : 0 ≤ x) (hx : x ≤ 288230376151711744) (hy0 : 0 < y) (hy : y ≤ 288230376151711744) : ∀ k : Nat, k ≤ 91 →
    (drun x y k).2 = part x k % y ∧ ((part x k / y < 576460752303423488 ∧ (drun x y k).1 = part x k / y) ∨ (576460752303423488 ≤ part x k / y ∧ 576460752303423488 ≤ (drun x y k).1 ∧ (drun x y k).1 ≤ 576460752303423489))
  | 0, _ => by
    have : part x 0 = 0 := by unfold part; exact Int.ediv_eq_zero_of_lt (by omega) (by have : (2:Int) ^ (91 - 0) = 2475880078570760549798248448 := rfl; omega)
    rw [this, Int.zero_emod, Int.zero_ediv]
    exact ⟨rfl, .inl ⟨by omega, rfl⟩⟩
  | k + 1, hk => by
    obtain ⟨h1, h2⟩ := drun_is hx0 hx hy0 hy k (by omega)
    have hb := bit_is x k (by omega)
    have hbb : 0 ≤ dbit x (90 - k) ∧ dbit x (90 - k) ≤ 1 := by unfold dbit; split <;> omega
    have hT : 0 ≤ part x k := Int.ediv_nonneg (by omega) (Int.le_of_lt (Int.pow_pos (by omega)))
    have e1 := Int.mul_ediv_add_emod (part x k) y
    have r0 := Int.emod_nonneg (part x k) (b := y) (by omega)
    have r1 := Int.emod_lt_of_pos (part x k) hy0
    have q0 : 0 ≤ part x k / y := Int.ediv_nonneg hT (by omega)
    rw [hb]
    show (dstep y (dbit x (90 - k)) (drun x y k)).2 = _ ∧ _
    have hd : drun x y (k + 1) = dstep y (dbit x (90 - k)) (drun x y k) := rfl
    rw [hd]
    generalize dbit x (90 - k) = c at *
    generalize drun x y k = s at *
    generalize part x k / y = q at *
    generalize part x k % y = r at *
    generalize part x k = T at *
    clear hd hb
    have w1 : IntKind.i64.wrap (IntKind.i64.wrap (2 * s.2) + c) = 2 * r + c := by rw [h1, wS (n := 2 * r) (by omega) (by omega), wS (by omega) (by omega)]
    have hq1 : 0 ≤ s.1 ∧ s.1 ≤ 576460752303423489 := by omega
    have w2 : IntKind.i64.wrap (2 * s.1) = 2 * s.1 := wS (by omega) (by omega)
    have hm : (2 * s.1 ≤ 576460752303423488 ∧ mnI (2 * s.1) 576460752303423488 = 2 * s.1) ∨ (576460752303423488 < 2 * s.1 ∧ mnI (2 * s.1) 576460752303423488 = 576460752303423488) := by unfold mnI; split <;> omega
    by_cases hc : y ≤ 2 * r + c
    · have e : dstep y c s = (mnI (2 * s.1) 576460752303423488 + 1, 2 * r + c - y) := by
        have : dstep y c s = (IntKind.i64.wrap (mnI (IntKind.i64.wrap (2 * s.1)) 576460752303423488 + 1), IntKind.i64.wrap (IntKind.i64.wrap (IntKind.i64.wrap (2 * s.2) + c) - y)) := if_pos (by rw [w1]; exact hc)
        rw [this, w1, w2, wS (n := mnI (2 * s.1) 576460752303423488 + 1) (by omega) (by omega), wS (by omega) (by omega)]
      have hu := (Int.ediv_emod_unique (a := 2 * T + c) (b := y) (r := 2 * r + c - y) (q := 2 * q + 1) hy0).2 ⟨by rw [Int.mul_add, Int.mul_one, Int.mul_left_comm]; omega, by omega, by omega⟩
      rw [e, hu.1, hu.2]
      exact ⟨rfl, by simp only; omega⟩
    · have e : dstep y c s = (mnI (2 * s.1) 576460752303423488, 2 * r + c) := by
        have : dstep y c s = (mnI (IntKind.i64.wrap (2 * s.1)) 576460752303423488, IntKind.i64.wrap (IntKind.i64.wrap (2 * s.2) + c)) := if_neg (by rw [w1]; exact hc)
        rw [this, w1, w2]
      have hu := (Int.ediv_emod_unique (a := 2 * T + c) (b := y) (r := 2 * r + c) (q := 2 * q) hy0).2 ⟨by rw [Int.mul_left_comm]; omega, by omega, by omega⟩
      rw [e, hu.1, hu.2]
      exact ⟨rfl, by simp only; omega⟩
end Go.Proofs.YtmnglkcodbecbaaGreat
