/- The plain law QuatOne. -/
import Derived.Test.YtmnglkcodbecbaaGreatQ3
namespace Go.Proofs.YtmnglkcodbecbaaGreat
open Go Go.Sx
theorem chg_ncl (a : Int) : chg (-cl a) = false := by unfold chg; rw [cl_ncl]; simp
theorem f85_ok {a0 a1 a2 a3 b0 b1 b2 b3 : Int} (k0 : chg a0 = false) (k1 : chg a1 = false) (k2 : chg a2 = false) (k3 : chg a3 = false) (j0 : chg b0 = false) (j1 : chg b1 = false) (j2 : chg b2 = false) (j3 : chg b3 = false)
    (h1 : (rsum (qs a0 b0 a1 (-cl b1) a2 (-cl b2) a3 (-cl b3))).2 = false) (h2 : (rsum (qs a0 b1 a1 b0 a2 b3 a3 (-cl b2))).2 = false) (h3 : (rsum (qs a0 b2 a1 (-cl b3) a2 b0 a3 b1)).2 = false) (h4 : (rsum (qs a0 b3 a1 b2 a2 (-cl b1) a3 b0)).2 = false) :
    (f85 a0 a1 a2 a3 b0 b1 b2 b3).2.2.2.2 = false := by
  have e1 := qs_eq a0 b0 a1 (-cl b1) a2 (-cl b2) a3 (-cl b3)
  have e2 := qs_eq a0 b1 a1 b0 a2 b3 a3 (-cl b2)
  have e3 := qs_eq a0 b2 a1 (-cl b3) a2 b0 a3 b1
  have e4 := qs_eq a0 b3 a1 b2 a2 (-cl b1) a3 b0
  unfold f85
  simp only [f147, f149, f150, f151, f86_eq]
  simp only at e1 e2 e3 e4
  rw [e1, e2, e3, e4]
  simp only [chg_f, any4, chg_ncl, k0, k1, k2, k3, j0, j1, j2, j3, h1, h2, h3, h4]
  rfl
theorem rsum_one (x : Int) : rsum (x * 4294967296) = (cl x, cl x != x) := by
  unfold rsum; rw [show rnd (x * 4294967296) = x by unfold rnd; omega]
end Go.Proofs.YtmnglkcodbecbaaGreat
