/- FilterRest: the call. -/
import Derived.Test.YtmnglkcodbecbaaGreatLr
namespace Go.Proofs.YtmnglkcodbecbaaGreat
open Go Go.RowKit Go.Proofs Go.Sx
set_option linter.unusedVariables false
set_option linter.unusedSimpArgs false
set_option linter.constructorNameAsVariable false
set_option maxRecDepth 1000000
set_option maxHeartbeats 100000000
theorem calls7 (w : World) (n step : Int) (hn : Rg .i64 n) (hs : Rg .i64 step) : Calls Go.Proofs.Tryz.prog 7 #[.int .i64 n, .int .i64 step] w fun e w' => e = .returned (.bool true) ∧ Below w.heap.size w w' := by
  by_cases hr : 0 ≤ n ∧ n ≤ 30
  · have hy : (t7 (.lit n) step).yes = true := by
      have : n = 0 ∨ n = 1 ∨ n = 2 ∨ n = 3 ∨ n = 4 ∨ n = 5 ∨ n = 6 ∨ n = 7 ∨ n = 8 ∨ n = 9 ∨ n = 10 ∨ n = 11 ∨ n = 12 ∨ n = 13 ∨ n = 14 ∨ n = 15 ∨ n = 16 ∨ n = 17 ∨ n = 18 ∨ n = 19 ∨ n = 20 ∨ n = 21 ∨ n = 22 ∨ n = 23 ∨ n = 24 ∨ n = 25 ∨ n = 26 ∨ n = 27 ∨ n = 28 ∨ n = 29 ∨ n = 30 := by omega
      rcases this with rfl | rfl | rfl | rfl | rfl | rfl | rfl | rfl | rfl | rfl | rfl | rfl | rfl | rfl | rfl | rfl | rfl | rfl | rfl | rfl | rfl | rfl | rfl | rfl | rfl | rfl | rfl | rfl | rfl | rfl | rfl
      · rw [ev7_0]; exact F7_true 0 (by omega) step
      · rw [ev7_1]; exact F7_true 1 (by omega) step
      · rw [ev7_2]; exact F7_true 2 (by omega) step
      · rw [ev7_3]; exact F7_true 3 (by omega) step
      · rw [ev7_4]; exact F7_true 4 (by omega) step
      · rw [ev7_5]; exact F7_true 5 (by omega) step
      · rw [ev7_6]; exact F7_true 6 (by omega) step
      · rw [ev7_7]; exact F7_true 7 (by omega) step
      · rw [ev7_8]; exact F7_true 8 (by omega) step
      · rw [ev7_9]; exact F7_true 9 (by omega) step
      · rw [ev7_10]; exact F7_true 10 (by omega) step
      · rw [ev7_11]; exact F7_true 11 (by omega) step
      · rw [ev7_12]; exact F7_true 12 (by omega) step
      · rw [ev7_13]; exact F7_true 13 (by omega) step
      · rw [ev7_14]; exact F7_true 14 (by omega) step
      · rw [ev7_15]; exact F7_true 15 (by omega) step
      · rw [ev7_16]; exact F7_true 16 (by omega) step
      · rw [ev7_17]; exact F7_true 17 (by omega) step
      · rw [ev7_18]; exact F7_true 18 (by omega) step
      · rw [ev7_19]; exact F7_true 19 (by omega) step
      · rw [ev7_20]; exact F7_true 20 (by omega) step
      · rw [ev7_21]; exact F7_true 21 (by omega) step
      · rw [ev7_22]; exact F7_true 22 (by omega) step
      · rw [ev7_23]; exact F7_true 23 (by omega) step
      · rw [ev7_24]; exact F7_true 24 (by omega) step
      · rw [ev7_25]; exact F7_true 25 (by omega) step
      · rw [ev7_26]; exact F7_true 26 (by omega) step
      · rw [ev7_27]; exact F7_true 27 (by omega) step
      · rw [ev7_28]; exact F7_true 28 (by omega) step
      · rw [ev7_29]; exact F7_true 29 (by omega) step
      · rw [ev7_30]; exact F7_true 30 (by omega) step
    exact sx_yes (w0 := w) E7_ok (symCall_sound E7_ok 20) (orc0_ok _ w) Tryz.func7 (fuel := 400) (vs := [.int .i64 (.lit n), .int .i64 (.sym step)]) (vals := [.int .i64 n, .int .i64 step]) ⟨_, _, ⟨rfl, hn⟩, ⟨_, _, ⟨rfl, hs⟩, rfl, rfl⟩, rfl⟩ hy
  · obtain ⟨h1, h2, h3⟩ := out7 n step
    have hc : (decide (n < 0) || decide (n > 30) || decide (step < 0) || decide (step > 64)) = true := by
      simp only [Bool.or_eq_true, decide_eq_true_eq]; omega
    exact sx_yes (w0 := w) E7_ok (symCall_sound E7_ok 20) (orc0_ok _ w) Tryz.func7 (fuel := 400) (vs := [.int .i64 (.sym n), .int .i64 (.sym step)]) (vals := [.int .i64 n, .int .i64 step]) ⟨_, _, ⟨rfl, hn⟩, ⟨_, _, ⟨rfl, hs⟩, rfl, rfl⟩, rfl⟩ (yes_left h1 (h2.trans hc) (h3.trans f23_yes))
end Go.Proofs.YtmnglkcodbecbaaGreat
