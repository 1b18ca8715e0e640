/- The plain law QuatIs. -/
import Derived.Test.YtoagcpfklkmolaaA6
import Derived.Test.YtoagcpfklkmolaaQ4
import Derived.Test.YtoagcpfklkmolaaGj
namespace Go.Proofs.Ytoagcpfklkmolaa
open Go Go.Sx
theorem f75_eq (a : Int) : f75 a = - cl a := by
  unfold f75; rw [f56_eq]
  have := cl_lo a; have := cl_hi a
  rw [wS (by omega) (by omega)]; omega
theorem f46_is (a : Int) : f46 a = f55 a := by unfold f46; rw [f75_eq, f55_eq]
theorem f76_is (a : Int) : f76 a = f29 a := by rw [f76_eq]; rfl
theorem f90_is (a b : Int) : f90 a b = f89 a b := by rw [f90_eq, f89_eq]
theorem ref_p (a b : Int) : f90 (f76 a).fst (f76 b).fst = f89 a b := by rw [f76_eq, f76_eq, f90_eq, f89_eq, cl_cl, cl_cl]
theorem f109_is (h l c d : Int) : f109 h l c d = f100 h l c d := by
  obtain ⟨u, hu, eu⟩ := f122_some h l
  obtain ⟨v, hv, ev⟩ := f122_some c d
  by_cases k : inW (u + v)
  · rw [(f109_gen hu hv eu ev).1 k, (f100_gen hu hv eu ev).1 k]
  · rw [(f109_gen hu hv eu ev).2 k, (f100_gen hu hv eu ev).2 k]
theorem f26_is (a b c d : Int) : f26 a b c d = f25 a b c d := by
  unfold f26 f25; simp only [f46_is, f56_eq]; rfl
theorem first_any (p q r s : Bool) : decide ((bif p then (0 : Int) else bif q then IntKind.i64.wrap (0 + 1) else bif r then IntKind.i64.wrap (IntKind.i64.wrap (0 + 1) + 1) else bif s then IntKind.i64.wrap (IntKind.i64.wrap (IntKind.i64.wrap (0 + 1) + 1) + 1) else -1) ≥ 0) = (p || (q || (r || s))) := by
  cases p <;> cases q <;> cases r <;> cases s <;> decide
theorem chg_f55 (b : Int) : (f29 (f55 b)).snd = false := by rw [f55_eq, chg_f, chg_ncl]
theorem f16_is (a0 a1 a2 a3 b0 b1 b2 b3 : Int) : f16 a0 a1 a2 a3 b0 b1 b2 b3 = f15 a0 a1 a2 a3 b0 b1 b2 b3 := by
  unfold f16 f15 f47
  simp only [ref_p, f109_is, f46_is, f78_eq, f39, f41, f42, f43, addL, addF, List.foldl_cons, List.foldl_nil, first_any, any4, chg_f55]
  simp only [f76_is, chg_f55]
  refine Prod.ext (by rfl) (Prod.ext (by rfl) (Prod.ext (by rfl) (Prod.ext (by rfl) ?_)))
  dsimp only
  simp only [chg_f]
  generalize chg a0 = p0
  generalize chg a1 = p1
  generalize chg a2 = p2
  generalize chg a3 = p3
  generalize chg b0 = q0
  generalize chg b1 = q1
  generalize chg b2 = q2
  generalize chg b3 = q3
  generalize (f71 _ _).snd = s1
  generalize (f71 _ _).snd = s2
  generalize (f71 _ _).snd = s3
  generalize (f71 _ _).snd = s4
  cases p0 <;> cases p1 <;> cases p2 <;> cases p3 <;> simp
  cases q0 <;> cases q1 <;> cases q2 <;> cases q3 <;> simp
theorem f82_sq (v : Int) (h0 : 0 ≤ v) (h1 : v < 10633823966279326983230456482242756608) : f82 (wd v).1 (wd v).2 = f81 (wd v).1 (wd v).2 := f82_nn h0 h1
theorem sq4_in (a0 a1 a2 a3 : Int) : 0 ≤ sq4 a0 a1 a2 a3 ∧ sq4 a0 a1 a2 a3 < 10633823966279326983230456482242756608 := by
  have p0 := pb a0 a0; have p1 := pb a1 a1; have p2 := pb a2 a2; have p3 := pb a3 a3
  have q0 := sq_nn (cl a0); have q1 := sq_nn (cl a1); have q2 := sq_nn (cl a2); have q3 := sq_nn (cl a3)
  unfold sq4; omega
theorem f18_is (a0 a1 a2 a3 : Int) : f18 a0 a1 a2 a3 = f17 a0 a1 a2 a3 := by
  have p0 := pb a0 a0; have p1 := pb a1 a1; have p2 := pb a2 a2; have p3 := pb a3 a3
  have h := sq4_in a0 a1 a2 a3
  unfold f18 f17
  have e := addL_four p0.1 p0.2 p1.1 p1.2 p2.1 p2.2 p3.1 p3.2
  rw [show cl a0 * cl a0 + cl a1 * cl a1 + cl a2 * cl a2 + cl a3 * cl a3 = sq4 a0 a1 a2 a3 from rfl] at e
  simp only [ref_p, f109_is, any4]
  simp only [f76_is, f89_eq, e]
  simp only [addL, addF, List.foldl_cons, List.foldl_nil] at e
  have e1 := congrArg Prod.fst e; have e2 := congrArg Prod.snd e
  simp only at e1 e2
  rw [e1, e2, f82_nn h.1 h.2]
  refine Prod.ext rfl ?_
  simp only [Bool.or_assoc]
  ac_rfl
theorem f20_is (a0 a1 a2 a3 : Int) : f20 a0 a1 a2 a3 = f19 a0 a1 a2 a3 := by
  unfold f20 f19; simp only [f18_is, f52_eq, show f28 = f27 from rfl]
theorem f22_is (a0 a1 a2 : Int) : f22 a0 a1 a2 = f21 a0 a1 a2 := by
  unfold f22 f21; simp only [f20_is, f54_eq, show f28 = f27 from rfl]
theorem f24_is (a0 a1 a2 a3 b0 b1 b2 : Int) : f24 a0 a1 a2 a3 b0 b1 b2 = f23 a0 a1 a2 a3 b0 b1 b2 := by
  unfold f24 f23; simp only [f16_is, f26_is]
theorem f3_eq (a0 a1 a2 a3 b0 b1 b2 b3 v0 v1 v2 : Int) : f3 a0 a1 a2 a3 b0 b1 b2 b3 v0 v1 v2 = true := by
  unfold f3
  simp only [f14_eq, f16_is, f18_is, f20_is, f22_is, f24_is, f26_is, show f28 = f27 from rfl]
  simp
end Go.Proofs.Ytoagcpfklkmolaa
