/- The plain law QuatIs. -/
import Derived.Test.YtmnglkcodbecbaaGreatA6
import Derived.Test.YtmnglkcodbecbaaGreatQ7
import Derived.Test.YtmnglkcodbecbaaGreatGj
namespace Go.Proofs.YtmnglkcodbecbaaGreat
open Go Go.Sx
theorem f156_eq (a : Int) : f156 a = - cl a := by
  unfold f156; rw [f88_eq]
  have := cl_lo a; have := cl_hi a
  rw [wS (by omega) (by omega)]; omega
theorem f89_is (a : Int) : f89 a = f86 a := by unfold f89; rw [f156_eq, f86_eq]
theorem f146_is (a : Int) : f146 a = f82 a := by rw [f146_eq]; rfl
theorem f161_is (a b : Int) : f161 a b = f158 a b := by rw [f161_eq, f158_eq]
theorem ref_p (a b : Int) : f161 (f146 a).fst (f146 b).fst = f158 a b := by rw [f146_eq, f146_eq, f161_eq, f158_eq, cl_cl, cl_cl]
theorem f187_is (h l c d : Int) : f187 h l c d = f178 h l c d := by
  obtain ⟨u, hu, eu⟩ := f203_some h l
  obtain ⟨v, hv, ev⟩ := f203_some c d
  by_cases k : inW (u + v)
  · rw [(f187_gen hu hv eu ev).1 k, (f178_gen hu hv eu ev).1 k]
  · rw [(f187_gen hu hv eu ev).2 k, (f178_gen hu hv eu ev).2 k]
theorem f46_is (a b c d : Int) : f46 a b c d = f43 a b c d := by
  unfold f46 f43; simp only [f89_is, f88_eq]; rfl
theorem first_any (p q r s : Bool) : decide ((bif p then (0 : Int) else bif q then IntKind.i64.wrap (0 + 1) else bif r then IntKind.i64.wrap (IntKind.i64.wrap (0 + 1) + 1) else bif s then IntKind.i64.wrap (IntKind.i64.wrap (IntKind.i64.wrap (0 + 1) + 1) + 1) else -1) ≥ 0) = (p || (q || (r || s))) := by
  cases p <;> cases q <;> cases r <;> cases s <;> decide
theorem chg_f55 (b : Int) : (f82 (f86 b)).snd = false := by rw [f86_eq, chg_f, chg_ncl]
theorem f87_is (a0 a1 a2 a3 b0 b1 b2 b3 : Int) : f87 a0 a1 a2 a3 b0 b1 b2 b3 = f85 a0 a1 a2 a3 b0 b1 b2 b3 := by
  unfold f87 f85 f154
  simp only [ref_p, f187_is, f89_is, f160_eq, f147, f149, f150, f151, addL, addF, List.foldl_cons, List.foldl_nil, first_any, any4, chg_f55]
  simp only [f146_is, chg_f55]
  refine Prod.ext (by rfl) (Prod.ext (by rfl) (Prod.ext (by rfl) (Prod.ext (by rfl) ?_)))
  dsimp only
  simp only [chg_f]
  generalize chg a0 = p0
  generalize chg a1 = p1
  generalize chg a2 = p2
  generalize chg a3 = p3
  generalize chg b0 = q0
  generalize chg b1 = q1
  generalize chg b2 = q2
  generalize chg b3 = q3
  generalize (f157 _ _).snd = s1
  generalize (f157 _ _).snd = s2
  generalize (f157 _ _).snd = s3
  generalize (f157 _ _).snd = s4
  cases p0 <;> cases p1 <;> cases p2 <;> cases p3 <;> simp
  cases q0 <;> cases q1 <;> cases q2 <;> cases q3 <;> simp
theorem f144_sq (v : Int) (h0 : 0 ≤ v) (h1 : v < 10633823966279326983230456482242756608) : f144 (wd v).1 (wd v).2 = f137 (wd v).1 (wd v).2 := f144_nn h0 h1
theorem sq4_in (a0 a1 a2 a3 : Int) : 0 ≤ sq4 a0 a1 a2 a3 ∧ sq4 a0 a1 a2 a3 < 10633823966279326983230456482242756608 := by
  have p0 := pb a0 a0; have p1 := pb a1 a1; have p2 := pb a2 a2; have p3 := pb a3 a3
  have q0 := sq_nn (cl a0); have q1 := sq_nn (cl a1); have q2 := sq_nn (cl a2); have q3 := sq_nn (cl a3)
  unfold sq4; omega
theorem f38_is (a0 a1 a2 a3 : Int) : f38 a0 a1 a2 a3 = f34 a0 a1 a2 a3 := by
  have p0 := pb a0 a0; have p1 := pb a1 a1; have p2 := pb a2 a2; have p3 := pb a3 a3
  have h := sq4_in a0 a1 a2 a3
  unfold f38 f34
  have e := addL_four p0.1 p0.2 p1.1 p1.2 p2.1 p2.2 p3.1 p3.2
  rw [show cl a0 * cl a0 + cl a1 * cl a1 + cl a2 * cl a2 + cl a3 * cl a3 = sq4 a0 a1 a2 a3 from rfl] at e
  simp only [ref_p, f187_is, any4]
  simp only [f146_is, f158_eq, e]
  simp only [addL, addF, List.foldl_cons, List.foldl_nil] at e
  have e1 := congrArg Prod.fst e; have e2 := congrArg Prod.snd e
  simp only at e1 e2
  rw [e1, e2, f144_nn h.1 h.2]
  refine Prod.ext rfl ?_
  simp only [Bool.or_assoc]
  ac_rfl
theorem f102_is (a0 a1 a2 a3 : Int) : f102 a0 a1 a2 a3 = f93 a0 a1 a2 a3 := by
  unfold f102 f93; simp only [f38_is, f109_eq, show f41 = f40 from rfl]
theorem f101_is (a0 a1 a2 : Int) : f101 a0 a1 a2 = f92 a0 a1 a2 := by
  unfold f101 f92; simp only [f102_is, f100_eq, show f41 = f40 from rfl]
theorem f45_is (a0 a1 a2 a3 b0 b1 b2 : Int) : f45 a0 a1 a2 a3 b0 b1 b2 = f42 a0 a1 a2 a3 b0 b1 b2 := by
  unfold f45 f42; simp only [f87_is, f46_is]
end Go.Proofs.YtmnglkcodbecbaaGreat
