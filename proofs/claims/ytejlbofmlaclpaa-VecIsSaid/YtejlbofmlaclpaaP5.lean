/- The references of scale as numbers. -/
import Derived.Test.YtejlbofmlaclpaaP4
import Derived.Test.YtejlbofmlaclpaaGc
namespace Go.Proofs.Ytejlbofmlaclpaa
open Go Go.Sx
theorem f63_eq (a : Int) : f63 a = (cl a, cl a != a) := by
  unfold f63
  have h := cl_def a
  by_cases h1 : a > 288230376151711744
  · have e := cl_top h1
    rw [decide_eq_true h1, cond_true, e.2, e.1]
  · rw [decide_eq_false h1, cond_false]
    by_cases h2 : a < -288230376151711744
    · have e := cl_bot h2
      rw [decide_eq_true h2, cond_true, e.2, e.1]
    · have e : cl a = a := by omega
      rw [decide_eq_false h2, cond_false, e]; simp
theorem f60_eq (a : Int) : f60 a = cl a := by unfold f60; rw [f63_eq]
theorem f58_eq (a : Int) : f58 a = (cl a != a) := by unfold f58; rw [f63_eq]
theorem f62_eq (a : Int) : f62 a = (cl a).natAbs := by
  unfold f62; rw [f60_eq, wS (by have := cl_hi a; omega) (by have := cl_lo a; omega)]
  unfold mxI; split <;> omega
theorem f55_is (h l : Int) : f55 h l = f51 h l := by
  rw [f51_eq]; unfold f55; rw [Bool.eq_iff_iff]; simp only [Bool.and_eq_true, decide_eq_true_eq, ge_iff_le]; omega
theorem f86_is (h l : Int) : f86 h l = f71 h l := by
  unfold f86 f71; rw [f55_is]; cases f51 h l <;> rfl
theorem f87_wd {v : Int} (h0 : -10633823966279326983230456482242756608 < v) (h1 : v < 10633823966279326983230456482242756608) : f87 (wd v).1 (wd v).2 = wd (-v) := by
  unfold f87
  by_cases hz : (wd v).2 = 0
  · have hb : ((wd v).2 == 0) = true := by simpa using hz
    rw [hb]
    show (_, _) = _
    simp only [w64, wd, Prod.mk.injEq] at *; omega
  · have hb : ((wd v).2 == 0) = false := by simpa using hz
    rw [hb]
    show (_, _) = _
    simp only [w64, wd, Prod.mk.injEq] at *; omega
theorem f53_wd {v : Int} (h0 : -10633823966279326983230456482242756608 ≤ v) (h1 : v < 10633823966279326983230456482242756608) : f53 (wd v).1 (wd v).2 = (cl v, cl v == v) := by
  unfold f53
  rw [f86_is, f71_wd h0 h1]
  have hd := cl_def v
  have eu : v = (wd v).1 * 4611686018427387904 + (wd v).2 ∧ 0 ≤ (wd v).2 ∧ (wd v).2 < 4611686018427387904 := by simp only [wd]; omega
  generalize (wd v).1 = a at *
  generalize (wd v).2 = b at *
  by_cases c1 : a = 0 ∧ b ≤ 288230376151711744
  · have hb : (a == 0 && decide (b ≤ 288230376151711744)) = true := by simpa using c1
    have e : cl v = v := by omega
    rw [hb, cond_true, e]
    simp only [Prod.mk.injEq, beq_self_eq_true, and_true]; omega
  · have hb : (a == 0 && decide (b ≤ 288230376151711744)) = false := by
      rw [Bool.eq_false_iff]; intro h; apply c1; simpa using h
    rw [hb, cond_false]
    by_cases c2 : a = -1 ∧ b ≥ 4323455642275676160
    · have hb : (a == -1 && decide (b ≥ 4323455642275676160)) = true := by
        rw [Bool.and_eq_true]; exact ⟨by simpa using c2.1, decide_eq_true c2.2⟩
      have e : cl v = v := by omega
      rw [hb, cond_true, e, wS (by omega) (by omega)]
      simp only [Prod.mk.injEq, beq_self_eq_true, and_true]; omega
    · have hb : (a == -1 && decide (b ≥ 4323455642275676160)) = false := by
        rw [Bool.eq_false_iff]; intro h; apply c2; rw [Bool.and_eq_true] at h; exact ⟨by simpa using h.1, of_decide_eq_true h.2⟩
      rw [hb, cond_false]
      by_cases hn : a < 0
      · rw [decide_eq_true hn, cond_true]
        have e : cl v = -288230376151711744 := by omega
        have e' : (cl v == v) = false := by rw [e, beq_eq_false_iff_ne]; omega
        rw [e', e]
      · rw [decide_eq_false hn, cond_false]
        have e : cl v = 288230376151711744 := by omega
        have e' : (cl v == v) = false := by rw [e, beq_eq_false_iff_ne]; omega
        rw [e', e]
theorem dn_wd {v : Int} (_h0 : -10633823966279326983230456482242756608 ≤ v) (_h1 : v < 10633823966279326983230456482242756608) : dn (wd v) = wd (v / 2) := by
  unfold dn
  have e1 : bitsv .and .i64 (wd v).1 1 = (wd v).1 % 2 := and_mask (.inl rfl) (wd v).1 1 (by omega) 1 rfl
  have e2 : (wd v).1.fdiv (2 ^ 1) = (wd v).1 / 2 := Int.fdiv_eq_ediv_of_nonneg _ (by decide)
  have e3 : (wd v).2.tdiv 2 = (wd v).2 / 2 := Int.tdiv_eq_ediv_of_nonneg (by simp only [wd]; omega)
  rw [e1, e2, e3]
  simp only [w64, wd, Prod.mk.injEq]; omega
theorem dnN_wd {v : Int} (h0 : -10633823966279326983230456482242756608 ≤ v) (h1 : v < 10633823966279326983230456482242756608) : ∀ n : Nat, dnN n (wd v) = wd (v / 2 ^ n) ∧ -10633823966279326983230456482242756608 ≤ v / 2 ^ n ∧ v / 2 ^ n < 10633823966279326983230456482242756608
  | 0 => by rw [Int.pow_zero, Int.ediv_one]; exact ⟨rfl, h0, h1⟩
  | n + 1 => by
    obtain ⟨e, l, u⟩ := dnN_wd h0 h1 n
    have e2 : v / 2 ^ (n + 1) = v / 2 ^ n / 2 := by
      rw [Int.pow_succ, Int.ediv_ediv_of_nonneg (by have : (0:Int) < 2 ^ n := Int.pow_pos (by omega); omega)]
    unfold dnN
    rw [e, dn_wd l u, e2]
    exact ⟨rfl, by omega, by omega⟩
theorem f54_wd {v : Int} (h0 : -10633823966279326983230456482242756608 ≤ v) (h1 : v < 10633823966279326983230456482242756608) : f54 (wd v).1 (wd v).2 = wd (v / 4294967296) := by
  unfold f54
  rw [f86_is, f71_wd h0 h1, (dnN_wd h0 h1 32).1]; rfl
end Go.Proofs.Ytejlbofmlaclpaa
