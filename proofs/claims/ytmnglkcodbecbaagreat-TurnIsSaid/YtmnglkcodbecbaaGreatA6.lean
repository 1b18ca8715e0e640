/- The reference's root is the root. -/
import Derived.Test.YtmnglkcodbecbaaGreatW3
import Derived.Test.YtmnglkcodbecbaaGreatQ2
import Derived.Test.YtmnglkcodbecbaaGreatP9
namespace Go.Proofs.YtmnglkcodbecbaaGreat
open Go Go.Sx
theorem f189_wd {u v : Int} (h0 : -10633823966279326983230456482242756608 ≤ u) (h1 : u < 10633823966279326983230456482242756608) (h2 : -10633823966279326983230456482242756608 ≤ v) (h3 : v < 10633823966279326983230456482242756608) :
    f189 (wd u).1 (wd u).2 (wd v).1 (wd v).2 ≤ 0 ↔ u ≤ v := by
  unfold f189
  simp only [f184_is]
  rw [f203_wd h0 h1, f203_wd h2 h3]
  have eu : u = (wd u).1 * 4611686018427387904 + (wd u).2 ∧ 0 ≤ (wd u).2 ∧ (wd u).2 < 4611686018427387904 := by simp only [wd]; omega
  have ev : v = (wd v).1 * 4611686018427387904 + (wd v).2 ∧ 0 ≤ (wd v).2 ∧ (wd v).2 < 4611686018427387904 := by simp only [wd]; omega
  clear h0 h1 h2 h3
  generalize (wd u).1 = a at *
  generalize (wd u).2 = b at *
  generalize (wd v).1 = c at *
  generalize (wd v).2 = d at *
  by_cases c1 : a < c
  · rw [decide_eq_true c1, Bool.true_or, cond_true]; omega
  · rw [decide_eq_false c1, Bool.false_or]
    by_cases c2 : a = c
    · subst c2
      rw [show (a == a) = true by simp, Bool.true_and, Bool.true_and]
      by_cases c3 : b < d
      · rw [decide_eq_true c3, cond_true]; omega
      · rw [decide_eq_false c3, cond_false]
        by_cases c4 : b = d
        · subst c4; rw [show (b == b) = true by simp, cond_true]; omega
        · rw [show (b == d) = false by simpa using c4, cond_false]; omega
    · rw [show (a == c) = false by simpa using c2, Bool.false_and, Bool.false_and, cond_false, cond_false]; omega
theorem f185_wd {v m : Int} (h0 : 0 ≤ v) (h1 : v < 10633823966279326983230456482242756608) (h2 : 0 ≤ m) (h3 : m ≤ 288230376151711744) : f185 m (wd v).1 (wd v).2 = decide (m * m ≤ v) := by
  unfold f185
  simp only
  have hm : cl m = m := cl_in (by omega) h3
  have hp := prod_in m m (by omega) h3 (by omega) h3
  rw [f161_eq, hm]
  exact decide_eq_decide.2 (f189_wd (by omega) (by omega) (by omega) (by omega))
theorem try_wd {v n bit : Int} (h0 : 0 ≤ v) (h1 : v < 10633823966279326983230456482242756608) (n0 : 0 ≤ n) (n1 : n ≤ 288230376151711744) (n2 : n * n ≤ v) (b0 : 0 < bit) (b1 : bit ≤ 288230376151711744) (hi : 288230376151711744 < n + 2 * bit ∨ v < (n + 2 * bit) * (n + 2 * bit)) :
    0 ≤ tryB (wd v).1 (wd v).2 n bit ∧ tryB (wd v).1 (wd v).2 n bit ≤ 288230376151711744 ∧ tryB (wd v).1 (wd v).2 n bit * tryB (wd v).1 (wd v).2 n bit ≤ v ∧
      (288230376151711744 < tryB (wd v).1 (wd v).2 n bit + bit ∨ v < (tryB (wd v).1 (wd v).2 n bit + bit) * (tryB (wd v).1 (wd v).2 n bit + bit)) := by
  have ha : addB n bit = n + bit := wS (by omega) (by omega)
  unfold tryB
  rw [ha]
  by_cases c1 : n + bit ≤ 288230376151711744
  · rw [decide_eq_true c1, Bool.true_and, f185_wd h0 h1 (by omega) c1]
    by_cases c2 : (n + bit) * (n + bit) ≤ v
    · rw [decide_eq_true c2, cond_true]
      exact ⟨by omega, c1, c2, by rw [show n + bit + bit = n + 2 * bit by omega]; exact hi⟩
    · rw [decide_eq_false c2, cond_false]
      exact ⟨n0, n1, n2, .inr (by omega)⟩
  · rw [decide_eq_false c1, Bool.false_and, cond_false]
    exact ⟨n0, n1, n2, .inl (by omega)⟩
theorem run_wd {v : Int} (h0 : 0 ≤ v) (h1 : v < 10633823966279326983230456482242756608) : ∀ (k : Nat) (n : Int), 0 ≤ n → n ≤ 288230376151711744 → n * n ≤ v → (2 : Int) ^ k ≤ 288230376151711744 →
    (288230376151711744 < n + 2 * 2 ^ k ∨ v < (n + 2 * 2 ^ k) * (n + 2 * 2 ^ k)) →
    0 ≤ runB (wd v).1 (wd v).2 (k + 2) n (2 ^ k) ∧ runB (wd v).1 (wd v).2 (k + 2) n (2 ^ k) ≤ 288230376151711744 ∧ runB (wd v).1 (wd v).2 (k + 2) n (2 ^ k) * runB (wd v).1 (wd v).2 (k + 2) n (2 ^ k) ≤ v ∧
      (288230376151711744 < runB (wd v).1 (wd v).2 (k + 2) n (2 ^ k) + 1 ∨ v < (runB (wd v).1 (wd v).2 (k + 2) n (2 ^ k) + 1) * (runB (wd v).1 (wd v).2 (k + 2) n (2 ^ k) + 1))
  | 0, n, a, b, c, d, e => by
    rw [Int.pow_zero] at *
    have h2 : runB (wd v).1 (wd v).2 (0 + 2) n 1 = tryB (wd v).1 (wd v).2 n 1 := by
      rw [show (0 + 2 : Nat) = 1 + 1 from rfl]
      unfold runB
      rw [show decide ((1 : Int) > 0) = true from rfl, cond_true]
      exact runB_end _ _ _ _ _ (by omega)
    rw [h2]
    exact try_wd h0 h1 a b c (by omega) d e
  | k + 1, n, a, b, c, d, e => by
    have hp : (0 : Int) < 2 ^ (k + 1) := Int.pow_pos (by omega)
    obtain ⟨t0, t1, t2, t3⟩ := try_wd h0 h1 a b c hp d e
    have h2 : runB (wd v).1 (wd v).2 (k + 1 + 2) n (2 ^ (k + 1)) = runB (wd v).1 (wd v).2 (k + 2) (tryB (wd v).1 (wd v).2 n (2 ^ (k + 1))) (2 ^ k) := by
      rw [show k + 1 + 2 = (k + 2) + 1 from rfl]
      show (bif decide ((2 : Int) ^ (k + 1) > 0) then runB (wd v).1 (wd v).2 (k + 2) (tryB (wd v).1 (wd v).2 n (2 ^ (k + 1))) (2 ^ (k + 1) / 2) else n) = _
      rw [decide_eq_true (show (2 : Int) ^ (k + 1) > 0 from hp), cond_true, show (2 : Int) ^ (k + 1) / 2 = 2 ^ k by rw [Int.pow_succ]; omega]
    rw [h2]
    have hq : (2 : Int) ^ (k + 1) = 2 * 2 ^ k := by rw [Int.pow_succ]; omega
    rw [hq] at t0 t1 t2 t3 d ⊢
    exact run_wd h0 h1 k _ t0 t1 t2 (by have : (0 : Int) < 2 ^ k := Int.pow_pos (by omega)
                                        omega) t3
theorem f184_wd {v : Int} (h0 : -10633823966279326983230456482242756608 ≤ v) (h1 : v < 10633823966279326983230456482242756608) : f184 (wd v).1 (wd v).2 = wd v := by rw [f184_is, f203_wd h0 h1]
theorem f144_nn {v : Int} (h0 : 0 ≤ v) (h1 : v < 10633823966279326983230456482242756608) : f144 (wd v).1 (wd v).2 = f137 (wd v).1 (wd v).2 := by
  obtain ⟨n, c, e, n0, n1, n2, n3, n4⟩ := f137_wd h0 h1
  have hr := run_wd h0 h1 58 0 (by omega) (by omega) (by omega) (by decide) (.inl (by decide))
  have e58 : (2 : Int) ^ 58 = 288230376151711744 := by decide
  rw [e58] at hr
  rw [e]
  unfold f144
  rw [f184_wd (by omega) h1, f186_is, f176_wd (by omega) h1]
  have hh : decide ((wd v).1 < 0) = false := decide_eq_false (by unfold wd; simp only; omega)
  rw [hh, cond_false]
  rw [show (58 + 2 : Nat) = 60 from rfl] at hr
  generalize runB (wd v).1 (wd v).2 60 0 288230376151711744 = m at *
  obtain ⟨m0, m1, m2, m3⟩ := hr
  have hmn : m = n := by
    have a1 : m ≤ n := by
      rcases Int.lt_or_le n 288230376151711744 with h | h
      · have := lt_of_sq (x := m) (y := n + 1) (by have := (n3 h).1; omega) (by omega)
        omega
      · omega
    have a2 : n ≤ m := by
      rcases m3 with h | h
      · omega
      · have := lt_of_sq (x := n) (y := m + 1) (by omega) (by omega)
        omega
    omega
  subst hmn
  by_cases hl : m < 288230376151711744
  · rw [decide_eq_true hl, cond_true, (n3 hl).2]; rfl
  · rw [decide_eq_false hl, cond_false]
    have hm' : m = 288230376151711744 := by omega
    rw [n4 hm', hm']
    have k1 : f161 288230376151711744 288230376151711744 = wd (288230376151711744 * 288230376151711744) := by rw [f161_eq, cl_in (by omega) (by omega)]
    have k2 : (f203 0 576460752303423489) = wd 576460752303423489 := by decide
    have k3 := (f187_gen (u := 288230376151711744 * 288230376151711744) (v := 576460752303423489) (h := (wd (288230376151711744 * 288230376151711744)).1) (l := (wd (288230376151711744 * 288230376151711744)).2) (c := 0) (d := 576460752303423489) ⟨by omega, by omega⟩ ⟨by omega, by omega⟩ (f203_wd (by omega) (by omega)) k2).1 ⟨by omega, by omega⟩
    rw [k1, k3]
    have e2 : (288230376151711744 + 1) * (288230376151711744 + 1) = (288230376151711744 * 288230376151711744 + 576460752303423489 : Int) := by omega
    rw [e2]
    exact congrArg _ (decide_eq_decide.2 (f189_wd (by omega) (by omega) (by omega) (by omega)))
theorem f144_neg {v : Int} (h0 : -10633823966279326983230456482242756608 ≤ v) (h1 : v < 0) : f144 (wd v).1 (wd v).2 = (0, true) ∧ f137 (wd v).1 (wd v).2 = (0, true) := by
  have hh : decide ((wd v).1 < 0) = true := decide_eq_true (by unfold wd; simp only; omega)
  unfold f144 f137
  rw [f184_wd h0 (by omega), f176_wd h0 (by omega), hh]
  exact ⟨rfl, rfl⟩
end Go.Proofs.YtmnglkcodbecbaaGreat
