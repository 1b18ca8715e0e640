/- A product of turns as numbers. -/
import Derived.Test.YtmnglkcodbecbaaGreatQ2
namespace Go.Proofs.YtmnglkcodbecbaaGreat
open Go Go.Sx
/-- a rounded sum of products, and whether it was clamped -/
def rsum (s : Int) : Int × Bool := (cl (rnd s), cl (rnd s) != rnd s)
theorem f157_rsum {v : Int} (h0 : -10633823966279326983230456482242756608 ≤ v) (h1 : v < 10633823966279326983228309000000000000) : f157 (wd v).1 (wd v).2 = rsum v := by
  rw [f157_wd h0 h1]; rfl
theorem cl_ncl (a : Int) : cl (-cl a) = -cl a := by rw [cl_neg, cl_cl]
/-- one number of a product -/
def qs (a b c d e f g h : Int) : Int := cl a * cl b + cl c * cl d + cl e * cl f + cl g * cl h
theorem qs_eq (a b c d e f g h : Int) : (let x : Int × Int := addL [((f158 a b).fst, (f158 a b).snd), ((f158 c d).fst, (f158 c d).snd), ((f158 e f).fst, (f158 e f).snd), ((f158 g h).fst, (f158 g h).snd)]; f157 x.fst x.snd) = rsum (qs a b c d e f g h) := by
  have p0 := pb a b; have p1 := pb c d; have p2 := pb e f; have p3 := pb g h
  simp only [f158_eq]
  rw [addL_four p0.1 p0.2 p1.1 p1.2 p2.1 p2.2 p3.1 p3.2, f157_rsum (by omega) (by omega)]
  rfl
theorem rsum_zero : rsum 0 = (0, false) := by decide
theorem f85_val (a0 a1 a2 a3 b0 b1 b2 b3 : Int) : (f85 a0 a1 a2 a3 b0 b1 b2 b3).1 = (rsum (qs a0 b0 a1 (-cl b1) a2 (-cl b2) a3 (-cl b3))).1 ∧ (f85 a0 a1 a2 a3 b0 b1 b2 b3).2.1 = (rsum (qs a0 b1 a1 b0 a2 b3 a3 (-cl b2))).1 ∧
    (f85 a0 a1 a2 a3 b0 b1 b2 b3).2.2.1 = (rsum (qs a0 b2 a1 (-cl b3) a2 b0 a3 b1)).1 ∧ (f85 a0 a1 a2 a3 b0 b1 b2 b3).2.2.2.1 = (rsum (qs a0 b3 a1 b2 a2 (-cl b1) a3 b0)).1 := by
  have e1 := qs_eq a0 b0 a1 (-cl b1) a2 (-cl b2) a3 (-cl b3)
  have e2 := qs_eq a0 b1 a1 b0 a2 b3 a3 (-cl b2)
  have e3 := qs_eq a0 b2 a1 (-cl b3) a2 b0 a3 b1
  have e4 := qs_eq a0 b3 a1 b2 a2 (-cl b1) a3 b0
  unfold f85
  simp only [f147, f149, f150, f151, f86_eq]
  simp only at e1 e2 e3 e4
  rw [e1, e2, e3, e4]
  exact ⟨rfl, rfl, rfl, rfl⟩
end Go.Proofs.YtmnglkcodbecbaaGreat
