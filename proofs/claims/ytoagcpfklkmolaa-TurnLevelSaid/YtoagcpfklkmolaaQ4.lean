/- The plain law QuatOne. -/
import Derived.Test.YtoagcpfklkmolaaQ3
namespace Go.Proofs.Ytoagcpfklkmolaa
open Go Go.Sx
theorem chg_ncl (a : Int) : chg (-cl a) = false := by unfold chg; rw [cl_ncl]; simp
theorem f15_ok {a0 a1 a2 a3 b0 b1 b2 b3 : Int} (k0 : chg a0 = false) (k1 : chg a1 = false) (k2 : chg a2 = false) (k3 : chg a3 = false) (j0 : chg b0 = false) (j1 : chg b1 = false) (j2 : chg b2 = false) (j3 : chg b3 = false)
    (h1 : (rsum (qs a0 b0 a1 (-cl b1) a2 (-cl b2) a3 (-cl b3))).2 = false) (h2 : (rsum (qs a0 b1 a1 b0 a2 b3 a3 (-cl b2))).2 = false) (h3 : (rsum (qs a0 b2 a1 (-cl b3) a2 b0 a3 b1)).2 = false) (h4 : (rsum (qs a0 b3 a1 b2 a2 (-cl b1) a3 b0)).2 = false) :
    (f15 a0 a1 a2 a3 b0 b1 b2 b3).2.2.2.2 = false := by
  have e1 := qs_eq a0 b0 a1 (-cl b1) a2 (-cl b2) a3 (-cl b3)
  have e2 := qs_eq a0 b1 a1 b0 a2 b3 a3 (-cl b2)
  have e3 := qs_eq a0 b2 a1 (-cl b3) a2 b0 a3 b1
  have e4 := qs_eq a0 b3 a1 b2 a2 (-cl b1) a3 b0
  unfold f15
  simp only [f39, f41, f42, f43, f55_eq]
  simp only at e1 e2 e3 e4
  rw [e1, e2, e3, e4]
  simp only [chg_f, any4, chg_ncl, k0, k1, k2, k3, j0, j1, j2, j3, h1, h2, h3, h4]
  rfl
theorem rsum_one (x : Int) : rsum (x * 4294967296) = (cl x, cl x != x) := by
  unfold rsum; rw [show rnd (x * 4294967296) = x by unfold rnd; omega]
theorem f4_eq (a0 a1 a2 a3 v0 v1 v2 : Int) : f4 a0 a1 a2 a3 v0 v1 v2 = true := by
  unfold f4
  have hb : f25 a0 a1 a2 a3 = (cl a0, -cl a1, -cl a2, -cl a3) := by unfold f25; simp only [f55_eq]; rfl
  have hbb : f25 (cl a0) (-cl a1) (-cl a2) (-cl a3) = (cl a0, cl a1, cl a2, cl a3) := by
    unfold f25; simp only [f55_eq, cl_ncl, Int.neg_neg]
    rw [show (f29 (cl a0)).1 = cl (cl a0) from rfl, cl_cl]
  have h27 : f27 = (4294967296, 0, 0, 0) := rfl
  have c1 : cl 4294967296 = 4294967296 := cl_in (by omega) (by omega)
  have c0 : cl 0 = 0 := cl_in (by omega) (by omega)
  have o1 : chg 4294967296 = false := small_chg (by omega) (by omega)
  have o0 : chg 0 = false := small_chg (by omega) (by omega)
  have cc : ∀ x, chg (cl x) = false := fun x => by unfold chg; rw [cl_cl]; simp
  have L : ∀ b0 b1 b2 b3, f15 4294967296 0 0 0 (cl b0) (cl b1) (cl b2) (cl b3) = (cl b0, cl b1, cl b2, cl b3, false) := fun b0 b1 b2 b3 => by
    have q : ∀ x d e g, rsum (qs 4294967296 (cl x) 0 d 0 e 0 g) = (cl x, false) := fun x d e g => by
      rw [show qs 4294967296 (cl x) 0 d 0 e 0 g = cl x * 4294967296 by unfold qs; rw [c1, c0, cl_cl]; omega, rsum_one, cl_cl]; simp
    obtain ⟨v1, v2, v3, v4⟩ := f15_val 4294967296 0 0 0 (cl b0) (cl b1) (cl b2) (cl b3)
    have v5 := f15_ok (a0 := 4294967296) (a1 := 0) (a2 := 0) (a3 := 0) (b0 := cl b0) (b1 := cl b1) (b2 := cl b2) (b3 := cl b3) o1 o0 o0 o0 (cc _) (cc _) (cc _) (cc _) (by rw [q]) (by rw [q]) (by rw [q]) (by rw [q])
    rw [q] at v1 v2 v3 v4
    exact Prod.ext v1 (Prod.ext v2 (Prod.ext v3 (Prod.ext v4 v5)))
  have Rr : ∀ b0 b1 b2 b3, f15 (cl b0) (cl b1) (cl b2) (cl b3) 4294967296 0 0 0 = (cl b0, cl b1, cl b2, cl b3, false) := fun b0 b1 b2 b3 => by
    obtain ⟨v1, v2, v3, v4⟩ := f15_val (cl b0) (cl b1) (cl b2) (cl b3) 4294967296 0 0 0
    have n0 : -cl 0 = 0 := by rw [c0]; rfl
    rw [n0] at v1 v2 v3 v4
    have q1 : qs (cl b0) 4294967296 (cl b1) 0 (cl b2) 0 (cl b3) 0 = cl b0 * 4294967296 := by unfold qs; rw [c1, c0, cl_cl]; omega
    have q2 : qs (cl b0) 0 (cl b1) 4294967296 (cl b2) 0 (cl b3) 0 = cl b1 * 4294967296 := by unfold qs; rw [c1, c0, cl_cl b1]; omega
    have q3 : qs (cl b0) 0 (cl b1) 0 (cl b2) 4294967296 (cl b3) 0 = cl b2 * 4294967296 := by unfold qs; rw [c1, c0, cl_cl b2]; omega
    have q4 : qs (cl b0) 0 (cl b1) 0 (cl b2) 0 (cl b3) 4294967296 = cl b3 * 4294967296 := by unfold qs; rw [c1, c0, cl_cl b3]; omega
    have g : ∀ x, rsum (cl x * 4294967296) = (cl x, false) := fun x => by rw [rsum_one, cl_cl]; simp
    have v5 := f15_ok (a0 := cl b0) (a1 := cl b1) (a2 := cl b2) (a3 := cl b3) (b0 := 4294967296) (b1 := 0) (b2 := 0) (b3 := 0) (cc _) (cc _) (cc _) (cc _) o1 o0 o0 o0 (by rw [n0, q1, g]) (by rw [n0, q2, g]) (by rw [n0, q3, g]) (by rw [n0, q4, g])
    rw [q1, g] at v1; rw [q2, g] at v2; rw [q3, g] at v3; rw [q4, g] at v4
    exact Prod.ext v1 (Prod.ext v2 (Prod.ext v3 (Prod.ext v4 v5)))
  have h25 : f25 4294967296 0 0 0 = (4294967296, 0, 0, 0) := by decide
  have Rt : ∀ x y z, f23 4294967296 0 0 0 (cl x) (cl y) (cl z) = (cl x, cl y, cl z, false) := fun x y z => by
    unfold f23
    have l := L 0 x y z
    rw [c0] at l
    simp only [l, h25]
    have r := Rr 0 x y z
    rw [c0] at r
    simp only [r]; rfl
  simp only [f14_eq, hb, hbb, h27, L, Rr, h25]
  simp only [show ∀ x, (f29 x).1 = cl x from fun x => rfl, Rt]
  simp
end Go.Proofs.Ytoagcpfklkmolaa
