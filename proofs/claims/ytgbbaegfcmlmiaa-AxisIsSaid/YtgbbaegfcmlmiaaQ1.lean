/- Roots and sums of products, as numbers. -/
import Derived.Test.YtgbbaegfcmlmiaaP4
import Derived.Test.YtgbbaegfcmlmiaaW1
namespace Go.Proofs.Ytgbbaegfcmlmiaa
open Go Go.Sx
theorem sqLe_wd {v m : Int} (h0 : 0 ≤ v) (h1 : v < 10633823966279326983230456482242756608) (h2 : 0 ≤ m) (h3 : m ≤ 288230376151711744) : sqLe (wd v).1 (wd v).2 m = decide (m * m ≤ v) := by
  unfold sqLe
  have hm : cl m = m := cl_in (by omega) h3
  have hp := prod_in m m (by omega) h3 (by omega) h3
  rw [f48_eq, hm]
  exact decide_eq_decide.2 (f63_wd (by omega) (by omega) (by omega) (by omega)).1
theorem bs_wd {v : Int} (h0 : 0 ≤ v) (h1 : v < 10633823966279326983230456482242756608) : ∀ (k : Nat) (lo hi : Int), 0 ≤ lo → lo ≤ hi → hi ≤ 288230376151711744 → hi - lo < 2 ^ k → lo * lo ≤ v → (hi = 288230376151711744 ∨ v < (hi + 1) * (hi + 1)) →
    0 ≤ bs (wd v).1 (wd v).2 k lo hi ∧ bs (wd v).1 (wd v).2 k lo hi ≤ 288230376151711744 ∧ bs (wd v).1 (wd v).2 k lo hi * bs (wd v).1 (wd v).2 k lo hi ≤ v ∧
      (bs (wd v).1 (wd v).2 k lo hi = 288230376151711744 ∨ v < (bs (wd v).1 (wd v).2 k lo hi + 1) * (bs (wd v).1 (wd v).2 k lo hi + 1))
  | 0, lo, hi, a, b, c, d, e, f => by
    have : lo = hi := by rw [Int.pow_zero] at d; omega
    subst this
    exact ⟨a, c, e, f⟩
  | k + 1, lo, hi, a, b, c, d, e, f => by
    by_cases hlt : lo < hi
    · rw [bs_next _ _ k hlt, sqLe_wd h0 h1 (by omega) (by omega)]
      rw [Int.pow_succ] at d
      generalize hm : hi - (hi - lo) / 2 = m
      have m1 : lo < m := by omega
      have m2 : m ≤ hi := by omega
      by_cases hs : m * m ≤ v
      · rw [decide_eq_true hs]
        exact bs_wd h0 h1 k m hi (by omega) m2 c (by omega) hs f
      · rw [decide_eq_false hs]
        exact bs_wd h0 h1 k lo (m - 1) a (by omega) (by omega) (by omega) e (.inr (by rw [Int.sub_add_cancel]; omega))
    · rw [bs_end _ _ _ hlt]
      have : lo = hi := by omega
      subst this
      exact ⟨a, c, e, f⟩
/-- the root of a wide number that is none below 0 -/
theorem f47_wd {v : Int} (h0 : 0 ≤ v) (h1 : v < 10633823966279326983230456482242756608) : ∃ n c, f47 (wd v).1 (wd v).2 = (n, c) ∧ 0 ≤ n ∧ n ≤ 288230376151711744 ∧ n * n ≤ v ∧ (n < 288230376151711744 → v < (n + 1) * (n + 1) ∧ c = false) ∧ (n = 288230376151711744 → c = decide ((n + 1) * (n + 1) ≤ v)) := by
  have hb := bs_wd h0 h1 60 0 288230376151711744 (by omega) (by omega) (by omega) (by decide) (by omega) (.inl rfl)
  unfold f47
  rw [f62_wd (by omega) (by omega)]
  have hh : decide ((wd v).1 < 0) = false := decide_eq_false (by unfold wd; simp only; omega)
  rw [hh]
  simp only [cond_true, cond_false]
  generalize bs (wd v).1 (wd v).2 60 0 288230376151711744 = n at hb
  obtain ⟨b1, b2, b3, b4⟩ := hb
  unfold rootOf
  by_cases hn : n < 288230376151711744
  · rw [decide_eq_true hn]
    refine ⟨n, false, rfl, b1, b2, b3, fun _ => ⟨?_, rfl⟩, fun e => by omega⟩
    rcases b4 with h | h
    · omega
    · exact h
  · rw [decide_eq_false hn]
    have hn' : n = 288230376151711744 := by omega
    subst hn'
    refine ⟨_, _, rfl, b1, b2, b3, fun e => absurd e hn, fun _ => ?_⟩
    have e1 : f48 288230376151711744 288230376151711744 = wd (288230376151711744 * 288230376151711744) := by rw [f48_eq, cl_in (by omega) (by omega)]
    rw [e1, f65_wd, f64_wd (by omega) (by omega) (by omega) (by omega) (by omega) (by omega)]
    have e2 : (288230376151711744 + 1) * (288230376151711744 + 1) = (288230376151711744 * 288230376151711744 + 576460752303423489 : Int) := by omega
    rw [e2]
    exact decide_eq_decide.2 (f63_wd (by omega) (by omega) (by omega) (by omega)).1
end Go.Proofs.Ytgbbaegfcmlmiaa
