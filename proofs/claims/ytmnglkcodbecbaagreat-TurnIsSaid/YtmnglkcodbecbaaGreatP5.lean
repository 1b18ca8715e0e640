/- The references of scale as numbers. -/
import Derived.Test.YtmnglkcodbecbaaGreatP4
import Derived.Test.YtmnglkcodbecbaaGreatGc
namespace Go.Proofs.YtmnglkcodbecbaaGreat
open Go Go.Sx
theorem f146_eq (a : Int) : f146 a = (cl a, cl a != a) := by
  unfold f146
  have h := cl_def a
  by_cases h1 : a > 288230376151711744
  · have e := cl_top h1
    rw [decide_eq_true h1, cond_true, e.2, e.1]
  · rw [decide_eq_false h1, cond_false]
    by_cases h2 : a < -288230376151711744
    · have e := cl_bot h2
      rw [decide_eq_true h2, cond_true, e.2, e.1]
    · have e : cl a = a := by omega
      rw [decide_eq_false h2, cond_false, e]; simp
theorem f88_eq (a : Int) : f88 a = cl a := by unfold f88; rw [f146_eq]
theorem f162_eq (a : Int) : f162 a = (cl a != a) := by unfold f162; rw [f146_eq]
theorem f132_eq (a : Int) : f132 a = (cl a).natAbs := by
  unfold f132; rw [f88_eq, wS (by have := cl_hi a; omega) (by have := cl_lo a; omega)]
  unfold mxI; split <;> omega
theorem f186_is (h l : Int) : f186 h l = f176 h l := by
  rw [f176_eq]; unfold f186; rw [Bool.eq_iff_iff]; simp only [Bool.and_eq_true, decide_eq_true_eq, ge_iff_le]; omega
theorem f184_is (h l : Int) : f184 h l = f203 h l := by
  unfold f184 f203; rw [f186_is]; cases f176 h l <;> rfl
theorem f198_wd {v : Int} (h0 : -10633823966279326983230456482242756608 < v) (h1 : v < 10633823966279326983230456482242756608) : f198 (wd v).1 (wd v).2 = wd (-v) := by
  unfold f198
  by_cases hz : (wd v).2 = 0
  · have hb : ((wd v).2 == 0) = true := by simpa using hz
    rw [hb]
    show (_, _) = _
    simp only [w64, wd, Prod.mk.injEq] at *; omega
  · have hb : ((wd v).2 == 0) = false := by simpa using hz
    rw [hb]
    show (_, _) = _
    simp only [w64, wd, Prod.mk.injEq] at *; omega
theorem f196_wd {v : Int} (h0 : -10633823966279326983230456482242756608 ≤ v) (h1 : v < 10633823966279326983230456482242756608) : f196 (wd v).1 (wd v).2 = (cl v, cl v == v) := by
  unfold f196
  rw [f184_is, f203_wd h0 h1]
  have hd := cl_def v
  have eu : v = (wd v).1 * 4611686018427387904 + (wd v).2 ∧ 0 ≤ (wd v).2 ∧ (wd v).2 < 4611686018427387904 := by simp only [wd]; omega
  generalize (wd v).1 = a at *
  generalize (wd v).2 = b at *
  by_cases c1 : a = 0 ∧ b ≤ 288230376151711744
  · have hb : (a == 0 && decide (b ≤ 288230376151711744)) = true := by simpa using c1
    have e : cl v = v := by omega
    rw [hb, cond_true, e]
    simp only [Prod.mk.injEq, beq_self_eq_true, and_true]; omega
  · have hb : (a == 0 && decide (b ≤ 288230376151711744)) = false := by
      rw [Bool.eq_false_iff]; intro h; apply c1; simpa using h
    rw [hb, cond_false]
    by_cases c2 : a = -1 ∧ b ≥ 4323455642275676160
    · have hb : (a == -1 && decide (b ≥ 4323455642275676160)) = true := by
        rw [Bool.and_eq_true]; exact ⟨by simpa using c2.1, decide_eq_true c2.2⟩
      have e : cl v = v := by omega
      rw [hb, cond_true, e, wS (by omega) (by omega)]
      simp only [Prod.mk.injEq, beq_self_eq_true, and_true]; omega
    · have hb : (a == -1 && decide (b ≥ 4323455642275676160)) = false := by
        rw [Bool.eq_false_iff]; intro h; apply c2; rw [Bool.and_eq_true] at h; exact ⟨by simpa using h.1, of_decide_eq_true h.2⟩
      rw [hb, cond_false]
      by_cases hn : a < 0
      · rw [decide_eq_true hn, cond_true]
        have e : cl v = -288230376151711744 := by omega
        have e' : (cl v == v) = false := by rw [e, beq_eq_false_iff_ne]; omega
        rw [e', e]
      · rw [decide_eq_false hn, cond_false]
        have e : cl v = 288230376151711744 := by omega
        have e' : (cl v == v) = false := by rw [e, beq_eq_false_iff_ne]; omega
        rw [e', e]
theorem dn_wd {v : Int} (_h0 : -10633823966279326983230456482242756608 ≤ v) (_h1 : v < 10633823966279326983230456482242756608) : dn (wd v) = wd (v / 2) := by
  unfold dn
  have e1 : bitsv .and .i64 (wd v).1 1 = (wd v).1 % 2 := and_mask (.inl rfl) (wd v).1 1 (by omega) 1 rfl
  have e2 : (wd v).1.fdiv (2 ^ 1) = (wd v).1 / 2 := Int.fdiv_eq_ediv_of_nonneg _ (by decide)
  have e3 : (wd v).2.tdiv 2 = (wd v).2 / 2 := Int.tdiv_eq_ediv_of_nonneg (by simp only [wd]; omega)
  rw [e1, e2, e3]
  simp only [w64, wd, Prod.mk.injEq]; omega
theorem dnN_wd {v : Int} (h0 : -10633823966279326983230456482242756608 ≤ v) (h1 : v < 10633823966279326983230456482242756608) : ∀ n : Nat, dnN n (wd v) = wd (v / 2 ^ n) ∧ -10633823966279326983230456482242756608 ≤ v / 2 ^ n ∧ v / 2 ^ n < 10633823966279326983230456482242756608
  | 0 => by rw [Int.pow_zero, Int.ediv_one]; exact ⟨rfl, h0, h1⟩
  | n + 1 => by
    obtain ⟨e, l, u⟩ := dnN_wd h0 h1 n
    have e2 : v / 2 ^ (n + 1) = v / 2 ^ n / 2 := by
      rw [Int.pow_succ, Int.ediv_ediv_of_nonneg (by have : (0:Int) < 2 ^ n := Int.pow_pos (by omega); omega)]
    unfold dnN
    rw [e, dn_wd l u, e2]
    exact ⟨rfl, by omega, by omega⟩
theorem f197_wd {v : Int} (h0 : -10633823966279326983230456482242756608 ≤ v) (h1 : v < 10633823966279326983230456482242756608) : f197 (wd v).1 (wd v).2 = wd (v / 4294967296) := by
  unfold f197
  rw [f184_is, f203_wd h0 h1, (dnN_wd h0 h1 32).1]; rfl
end Go.Proofs.YtmnglkcodbecbaaGreat
