/- The laws of scale that compare wide numbers: ScaleTimes, ScaleOver. -/
import Derived.Test.YtmnglkcodbecbaaGreatP3
namespace Go.Proofs.YtmnglkcodbecbaaGreat
open Go Go.Sx
theorem f213_eq (a : Int) : f213 a = false := by unfold f213; simp
theorem f205_eq (a b : Int) : f205 a b = if a < b then -1 else if b < a then 1 else 0 := by
  unfold f205
  rw [f213_eq, f213_eq, cond_false, cond_false]
  by_cases h : a < b
  · rw [decide_eq_true h, if_pos h, cond_true]
  · rw [decide_eq_false h, if_neg h, cond_false]
    by_cases h2 : b < a
    · rw [decide_eq_true (show a > b from h2), if_pos h2, cond_true]
    · rw [decide_eq_false (show ¬ a > b from h2), if_neg h2, cond_false]
theorem f177_wd {u v : Int} (h0 : -10633823966279326983230456482242756608 ≤ u) (h1 : u < 10633823966279326983230456482242756608) (h2 : -10633823966279326983230456482242756608 ≤ v) (h3 : v < 10633823966279326983230456482242756608) :
    (f177 (wd u).1 (wd u).2 (wd v).1 (wd v).2 ≤ 0 ↔ u ≤ v) ∧ (f177 (wd u).1 (wd u).2 (wd v).1 (wd v).2 < 0 ↔ u < v) := by
  unfold f177
  rw [f203_wd h0 h1, f203_wd h2 h3, f205_eq, f205_eq]
  have eu : u = (wd u).1 * 4611686018427387904 + (wd u).2 ∧ 0 ≤ (wd u).2 ∧ (wd u).2 < 4611686018427387904 := by simp only [wd]; omega
  have ev : v = (wd v).1 * 4611686018427387904 + (wd v).2 ∧ 0 ≤ (wd v).2 ∧ (wd v).2 < 4611686018427387904 := by simp only [wd]; omega
  clear h0 h1 h2 h3
  generalize (wd u).1 = a at *
  generalize (wd u).2 = b at *
  generalize (wd v).1 = c at *
  generalize (wd v).2 = d at *
  unfold orL orL orL
  by_cases c1 : a < c
  · rw [if_pos c1]
    rw [show ((-1 : Int) == 0) = false from rfl, cond_false]
    omega
  · rw [if_neg c1]
    by_cases c2 : c < a
    · rw [if_pos c2]
      rw [show ((1 : Int) == 0) = false from rfl, cond_false]
      omega
    · rw [if_neg c2]
      rw [show ((0 : Int) == 0) = true from rfl, cond_true]
      by_cases c3 : b < d
      · rw [if_pos c3]
        rw [show ((-1 : Int) == 0) = false from rfl, cond_false]
        omega
      · rw [if_neg c3]
        by_cases c4 : d < b
        · rw [if_pos c4]
          rw [show ((1 : Int) == 0) = false from rfl, cond_false]
          omega
        · rw [if_neg c4]
          rw [show ((0 : Int) == 0) = true from rfl, cond_true]
          omega
theorem f179_wd (n : Int) : f179 n = wd n := f179_eq n
theorem ov_self {x : Int} (hx : x ≠ 0) : ov x x = 4294967296 := by
  unfold ov
  have : (bif decide (x < 0) then -x else x) = (x.natAbs : Int) := by
    by_cases h : x < 0
    · rw [decide_eq_true h, cond_true]; omega
    · rw [decide_eq_false h, cond_false]; omega
  rw [this]
  have hp : 0 < (x.natAbs : Int) := by omega
  generalize (x.natAbs : Int) = y at *
  refine ((Int.ediv_emod_unique (a := 2 * y * 4294967296 + y) (b := 2 * y) (r := y) (q := 4294967296) (by omega)).2 ⟨?_, by omega, by omega⟩).1
  omega
theorem ov_one (x : Int) : ov x 4294967296 = x := by
  unfold ov
  rw [decide_eq_false (by omega), cond_false]
  have : ((4294967296 : Int).natAbs : Int) = 4294967296 := rfl
  rw [this]; omega
end Go.Proofs.YtmnglkcodbecbaaGreat
