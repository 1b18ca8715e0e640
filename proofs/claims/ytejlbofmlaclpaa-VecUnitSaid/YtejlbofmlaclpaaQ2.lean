/- vec as numbers. -/
import Derived.Test.YtejlbofmlaclpaaQ1
namespace Go.Proofs.Ytejlbofmlaclpaa
open Go Go.Sx
theorem f34_eq : f34 = true := by kernel_rfl
/-- does it count as another one? -/
def chg (a : Int) : Bool := cl a != a
theorem chg_f (a : Int) : (f25 a).snd = chg a := rfl
theorem cl_ncl (a : Int) : cl (-cl a) = -cl a := by rw [cl_neg, cl_cl]
theorem chg_ncl (a : Int) : chg (-cl a) = false := by unfold chg; rw [cl_ncl]; simp
/-- a rounded sum of products, and whether it was clamped -/
def rsum (s : Int) : Int × Bool := (cl (rnd s), cl (rnd s) != rnd s)
theorem f16_rsum {v : Int} (h0 : -10633823966279326983230456482242756608 ≤ v) (h1 : v < 10633823966279326983228309000000000000) : f16 (wd v).1 (wd v).2 = rsum v := by
  rw [f16_wd h0 h1]; rfl
theorem any3 (a b c : Bool) : anyB [a, b, c] = (a || (b || c)) := by simp [anyB]
theorem any2 (a b : Bool) : anyB [a, b] = (a || b) := by simp [anyB]
theorem pb (a b : Int) : -83076749736557242056487941267521536 ≤ cl a * cl b ∧ cl a * cl b ≤ 83076749736557242056487941267521536 := by
  have := prod_in _ _ (cl_lo a) (cl_hi a) (cl_lo b) (cl_hi b); omega
def dot3 (a0 a1 a2 b0 b1 b2 : Int) : Int := cl a0 * cl b0 + cl a1 * cl b1 + cl a2 * cl b2
theorem f40_eq (a0 a1 a2 b0 b1 b2 : Int) : f40 a0 a1 a2 b0 b1 b2 = ((rsum (dot3 a0 a1 a2 b0 b1 b2)).1, (rsum (dot3 a0 a1 a2 b0 b1 b2)).2 || (chg a0 || (chg a1 || chg a2)) || (chg b0 || (chg b1 || chg b2))) := by
  unfold f40
  have p0 := pb a0 b0; have p1 := pb a1 b1; have p2 := pb a2 b2
  simp only [f29_eq, any3, chg_f]
  rw [addL_three p0.1 p0.2 p1.1 p1.2 p2.1 p2.2, f16_rsum (by omega) (by omega)]
  rfl
/-- one number of an outer product -/
def crs (a b c d : Int) : Int := cl a * cl b - cl c * cl d
theorem crs_eq (a b c d : Int) : (let x : Int × Int := addL [((f29 a b).fst, (f29 a b).snd), ((f29 c (f27 d)).fst, (f29 c (f27 d)).snd)]; f16 x.fst x.snd) = rsum (crs a b c d) := by
  have p0 := pb a b; have p1 := pb c d
  simp only [f29_eq, f27_eq, cl_ncl, Int.mul_neg]
  rw [addL_two p0.1 p0.2 (by omega) (by omega), f16_rsum (by omega) (by omega)]
  unfold crs; rw [Int.sub_eq_add_neg]
theorem f37_eq (a0 a1 a2 b0 b1 b2 : Int) : f37 a0 a1 a2 b0 b1 b2 = ((rsum (crs a1 b2 a2 b1)).1, (rsum (crs a2 b0 a0 b2)).1, (rsum (crs a0 b1 a1 b0)).1,
    chg b1 || ((rsum (crs a1 b2 a2 b1)).2 || (chg a1 || chg a2) || (chg b2 || false)) || (chg b2 || ((rsum (crs a2 b0 a0 b2)).2 || (chg a2 || chg a0) || (chg b0 || false))) || (chg b0 || ((rsum (crs a0 b1 a1 b0)).2 || (chg a0 || chg a1) || (chg b1 || false)))) := by
  have e1 := crs_eq a1 b2 a2 b1
  have e2 := crs_eq a2 b0 a0 b2
  have e3 := crs_eq a0 b1 a1 b0
  simp only [f27_eq] at e1 e2 e3
  unfold f37
  simp only [f27_eq, e1, e2, e3, any2, chg_f, chg_ncl]
theorem f39_eq (a0 a1 a2 b0 b1 b2 : Int) : f39 a0 a1 a2 b0 b1 b2 = ((f28 a0 b0).1, (f28 a1 b1).1, (f28 a2 b2).1, (f28 a0 b0).2 || (f28 a1 b1).2 || (f28 a2 b2).2) := rfl
def sq3 (a0 a1 a2 : Int) : Int := cl a0 * cl a0 + cl a1 * cl a1 + cl a2 * cl a2
theorem f35_eq (a0 a1 a2 : Int) : ∃ n c, f35 a0 a1 a2 = (n, c || (chg a0 || (chg a1 || chg a2))) ∧ 0 ≤ n ∧ n ≤ 288230376151711744 ∧ n * n ≤ sq3 a0 a1 a2 ∧ (n < 288230376151711744 → sq3 a0 a1 a2 < (n + 1) * (n + 1) ∧ c = false) ∧ (n = 288230376151711744 → c = decide ((n + 1) * (n + 1) ≤ sq3 a0 a1 a2)) := by
  have p0 := pb a0 a0; have p1 := pb a1 a1; have p2 := pb a2 a2
  have q : ∀ x : Int, 0 ≤ cl x * cl x := fun x => by
    rcases Int.le_total 0 (cl x) with h | h
    · exact Int.mul_nonneg h h
    · exact Int.mul_nonneg_of_nonpos_of_nonpos h h
  have q0 := q a0; have q1 := q a1; have q2 := q a2
  obtain ⟨n, c, h1, h2⟩ := f91_wd (v := sq3 a0 a1 a2) (by unfold sq3; omega) (by unfold sq3; omega)
  refine ⟨n, c, ?_, h2⟩
  unfold f35
  simp only [f29_eq, any3, chg_f]
  rw [addL_three p0.1 p0.2 p1.1 p1.2 p2.1 p2.2]
  rw [show cl a0 * cl a0 + cl a1 * cl a1 + cl a2 * cl a2 = sq3 a0 a1 a2 from rfl, h1]
end Go.Proofs.Ytejlbofmlaclpaa
