/- A product of turns as numbers. -/
import Derived.Test.YtoagcpfklkmolaaQ2
namespace Go.Proofs.Ytoagcpfklkmolaa
open Go Go.Sx
/-- a rounded sum of products, and whether it was clamped -/
def rsum (s : Int) : Int × Bool := (cl (rnd s), cl (rnd s) != rnd s)
theorem f71_rsum {v : Int} (h0 : -10633823966279326983230456482242756608 ≤ v) (h1 : v < 10633823966279326983228309000000000000) : f71 (wd v).1 (wd v).2 = rsum v := by
  rw [f71_wd h0 h1]; rfl
theorem cl_ncl (a : Int) : cl (-cl a) = -cl a := by rw [cl_neg, cl_cl]
/-- one number of a product -/
def qs (a b c d e f g h : Int) : Int := cl a * cl b + cl c * cl d + cl e * cl f + cl g * cl h
theorem qs_eq (a b c d e f g h : Int) : (let x : Int × Int := addL [((f89 a b).fst, (f89 a b).snd), ((f89 c d).fst, (f89 c d).snd), ((f89 e f).fst, (f89 e f).snd), ((f89 g h).fst, (f89 g h).snd)]; f71 x.fst x.snd) = rsum (qs a b c d e f g h) := by
  have p0 := pb a b; have p1 := pb c d; have p2 := pb e f; have p3 := pb g h
  simp only [f89_eq]
  rw [addL_four p0.1 p0.2 p1.1 p1.2 p2.1 p2.2 p3.1 p3.2, f71_rsum (by omega) (by omega)]
  rfl
theorem rsum_zero : rsum 0 = (0, false) := by decide
theorem f15_val (a0 a1 a2 a3 b0 b1 b2 b3 : Int) : (f15 a0 a1 a2 a3 b0 b1 b2 b3).1 = (rsum (qs a0 b0 a1 (-cl b1) a2 (-cl b2) a3 (-cl b3))).1 ∧ (f15 a0 a1 a2 a3 b0 b1 b2 b3).2.1 = (rsum (qs a0 b1 a1 b0 a2 b3 a3 (-cl b2))).1 ∧
    (f15 a0 a1 a2 a3 b0 b1 b2 b3).2.2.1 = (rsum (qs a0 b2 a1 (-cl b3) a2 b0 a3 b1)).1 ∧ (f15 a0 a1 a2 a3 b0 b1 b2 b3).2.2.2.1 = (rsum (qs a0 b3 a1 b2 a2 (-cl b1) a3 b0)).1 := by
  have e1 := qs_eq a0 b0 a1 (-cl b1) a2 (-cl b2) a3 (-cl b3)
  have e2 := qs_eq a0 b1 a1 b0 a2 b3 a3 (-cl b2)
  have e3 := qs_eq a0 b2 a1 (-cl b3) a2 b0 a3 b1
  have e4 := qs_eq a0 b3 a1 b2 a2 (-cl b1) a3 b0
  unfold f15
  simp only [f39, f41, f42, f43, f55_eq]
  simp only at e1 e2 e3 e4
  rw [e1, e2, e3, e4]
  exact ⟨rfl, rfl, rfl, rfl⟩
theorem f8_eq (a0 a1 a2 a3 : Int) : f8 a0 a1 a2 a3 = true := by
  unfold f8
  simp only [f14_eq]
  have hb : f25 a0 a1 a2 a3 = (cl a0, -cl a1, -cl a2, -cl a3) := by unfold f25; simp only [f55_eq]; rfl
  simp only [hb]
  obtain ⟨v1, v2, v3, v4⟩ := f15_val a0 a1 a2 a3 (cl a0) (-cl a1) (-cl a2) (-cl a3)
  obtain ⟨w1, w2, w3, w4⟩ := f15_val (cl a0) (-cl a1) (-cl a2) (-cl a3) a0 a1 a2 a3
  have hn : (f17 (cl a0) (-cl a1) (-cl a2) (-cl a3)).1 = (f17 a0 a1 a2 a3).1 := by
    unfold f17
    simp only [f89_eq, cl_cl, cl_ncl, Int.neg_mul_neg]
  have z1 : qs a0 (cl a0) a1 (-cl (-cl a1)) a2 (-cl (-cl a2)) a3 (-cl (-cl a3)) = sq4 a0 a1 a2 a3 := by
    unfold qs sq4; simp only [cl_cl, cl_ncl, Int.neg_neg]
  have z2 : qs a0 (-cl a1) a1 (cl a0) a2 (-cl a3) a3 (-cl (-cl a2)) = 0 := by
    unfold qs; simp only [cl_cl, cl_ncl, Int.neg_neg]; grind
  have z3 : qs a0 (-cl a2) a1 (-cl (-cl a3)) a2 (cl a0) a3 (-cl a1) = 0 := by
    unfold qs; simp only [cl_cl, cl_ncl, Int.neg_neg]; grind
  have z4 : qs a0 (-cl a3) a1 (-cl a2) a2 (-cl (-cl a1)) a3 (cl a0) = 0 := by
    unfold qs; simp only [cl_cl, cl_ncl, Int.neg_neg]; grind
  have y1 : qs (cl a0) a0 (-cl a1) (-cl a1) (-cl a2) (-cl a2) (-cl a3) (-cl a3) = sq4 a0 a1 a2 a3 := by
    unfold qs sq4; simp only [cl_cl, cl_ncl, Int.neg_mul_neg]
  have y2 : qs (cl a0) a1 (-cl a1) a0 (-cl a2) a3 (-cl a3) (-cl a2) = 0 := by
    unfold qs; simp only [cl_cl, cl_ncl]; grind
  have y3 : qs (cl a0) a2 (-cl a1) (-cl a3) (-cl a2) a0 (-cl a3) a1 = 0 := by
    unfold qs; simp only [cl_cl, cl_ncl]; grind
  have y4 : qs (cl a0) a3 (-cl a1) a2 (-cl a2) (-cl a1) (-cl a3) a0 = 0 := by
    unfold qs; simp only [cl_cl, cl_ncl]; grind
  rw [z1] at v1; rw [z2, rsum_zero] at v2; rw [z3, rsum_zero] at v3; rw [z4, rsum_zero] at v4
  rw [y1] at w1; rw [y2, rsum_zero] at w2; rw [y3, rsum_zero] at w3; rw [y4, rsum_zero] at w4
  have hs : 0 ≤ sq4 a0 a1 a2 a3 := by
    have q0 := sq_nn (cl a0); have q1 := sq_nn (cl a1); have q2 := sq_nn (cl a2); have q3 := sq_nn (cl a3)
    unfold sq4; omega
  have hr : 0 ≤ (rsum (sq4 a0 a1 a2 a3)).1 := by
    have h1 : 0 ≤ rnd (sq4 a0 a1 a2 a3) := by unfold rnd; omega
    have := cl_def (rnd (sq4 a0 a1 a2 a3))
    unfold rsum; simp only; omega
  rw [v1, v2, v3, v4, w1, w2, w3, w4, hn]
  rw [decide_eq_true hr]
  simp
end Go.Proofs.Ytoagcpfklkmolaa
