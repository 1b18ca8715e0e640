/- The plain law QuatIs. -/
import Derived.Test.YtdchdajjhofmnaaGreatA6
import Derived.Test.YtdchdajjhofmnaaGreatQ7
import Derived.Test.YtdchdajjhofmnaaGreatGj
namespace Go.Proofs.YtdchdajjhofmnaaGreat
open Go Go.Sx
theorem f268_eq (a : Int) : f268 a = - cl a := by
 unfold f268; rw [f114_eq]
 have := cl_lo a; have := cl_hi a
 rw [wS (by omega) (by omega)]; omega
theorem f213_is (a : Int) : f213 a = f256 a := by unfold f213; rw [f268_eq, f256_eq]
theorem f182_is (a : Int) : f182 a = f99 a := by rw [f182_eq]; rfl
theorem f225_is (a b : Int) : f225 a b = f259 a b := by rw [f225_eq, f259_eq]
theorem ref_p (a b : Int) : f225 (f182 a).fst (f182 b).fst = f259 a b := by rw [f182_eq, f182_eq, f225_eq, f259_eq, cl_cl, cl_cl]
theorem f276_is (h l c d : Int) : f276 h l c d = f284 h l c d := by
 obtain ⟨u, hu, eu⟩ := f317_some h l
 obtain ⟨v, hv, ev⟩ := f317_some c d
 by_cases k : inW (u + v)
 ·rw [(f276_gen hu hv eu ev).1 k, (f284_gen hu hv eu ev).1 k]
 ·rw [(f276_gen hu hv eu ev).2 k, (f284_gen hu hv eu ev).2 k]
theorem f165_is (a b c d : Int) : f165 a b c d = f201 a b c d := by
 unfold f165 f201; simp only [f213_is, f114_eq]; rfl
theorem first_any (p q r s : Bool) : decide ((bif p then (0 : Int) else bif q then IntKind.i64.wrap (0 + 1) else bif r then IntKind.i64.wrap (IntKind.i64.wrap (0 + 1) + 1) else bif s then IntKind.i64.wrap (IntKind.i64.wrap (IntKind.i64.wrap (0 + 1) + 1) + 1) else -1) ≥ 0) = (p || (q || (r || s))) := by
 cases p <;> cases q <;> cases r <;> cases s <;> decide
theorem chg_f55 (b : Int) : (f99 (f256 b)).snd = false := by rw [f256_eq, chg_f, chg_ncl]
theorem f164_is (a0 a1 a2 a3 b0 b1 b2 b3 : Int) : f164 a0 a1 a2 a3 b0 b1 b2 b3 = f200 a0 a1 a2 a3 b0 b1 b2 b3 := by
 unfold f164 f200 f214
 simp only [ref_p, f276_is, f213_is, f226_eq, f249, f251, f252, f253, addL, addF, List.foldl_cons, List.foldl_nil, first_any, any4, chg_f55]
 simp only [f182_is, chg_f55]
 refine Prod.ext (by rfl) (Prod.ext (by rfl) (Prod.ext (by rfl) (Prod.ext (by rfl) ?_)))
 dsimp only
 simp only [chg_f]
 generalize chg a0 = p0
 generalize chg a1 = p1
 generalize chg a2 = p2
 generalize chg a3 = p3
 generalize chg b0 = q0
 generalize chg b1 = q1
 generalize chg b2 = q2
 generalize chg b3 = q3
 generalize (f258 _ _).snd = s1
 generalize (f258 _ _).snd = s2
 generalize (f258 _ _).snd = s3
 generalize (f258 _ _).snd = s4
 cases p0 <;> cases p1 <;> cases p2 <;> cases p3 <;> simp
 cases q0 <;> cases q1 <;> cases q2 <;> cases q3 <;> simp
theorem f224_sq (v : Int) (h0 : 0 ≤ v) (h1 : v < 10633823966279326983230456482242756608) : f224 (wd v).1 (wd v).2 = f231 (wd v).1 (wd v).2 := f224_nn h0 h1
theorem sq4_in (a0 a1 a2 a3 : Int) : 0 ≤ sq4 a0 a1 a2 a3 ∧ sq4 a0 a1 a2 a3 < 10633823966279326983230456482242756608 := by
 have p0 := pb a0 a0; have p1 := pb a1 a1; have p2 := pb a2 a2; have p3 := pb a3 a3
 have q0 := sq_nn (cl a0); have q1 := sq_nn (cl a1); have q2 := sq_nn (cl a2); have q3 := sq_nn (cl a3)
 unfold sq4; omega
theorem f183_is (a0 a1 a2 a3 : Int) : f183 a0 a1 a2 a3 = f140 a0 a1 a2 a3 := by
 have p0 := pb a0 a0; have p1 := pb a1 a1; have p2 := pb a2 a2; have p3 := pb a3 a3
 have h := sq4_in a0 a1 a2 a3
 unfold f183 f140
 have e := addL_four p0.1 p0.2 p1.1 p1.2 p2.1 p2.2 p3.1 p3.2
 rw [show cl a0 * cl a0 + cl a1 * cl a1 + cl a2 * cl a2 + cl a3 * cl a3 = sq4 a0 a1 a2 a3 from rfl] at e
 simp only [ref_p, f276_is, any4]
 simp only [f182_is, f259_eq, e]
 simp only [addL, addF, List.foldl_cons, List.foldl_nil] at e
 have e1 := congrArg Prod.fst e; have e2 := congrArg Prod.snd e
 simp only at e1 e2
 rw [e1, e2, f224_nn h.1 h.2]
 refine Prod.ext rfl ?_
 simp only [Bool.or_assoc]
 ac_rfl
theorem f220_is (a0 a1 a2 a3 : Int) : f220 a0 a1 a2 a3 = f309 a0 a1 a2 a3 := by
 unfold f220 f309; simp only [f183_is, f222_eq, show f116 = f98 from rfl]
theorem f219_is (a0 a1 a2 : Int) : f219 a0 a1 a2 = f308 a0 a1 a2 := by
 unfold f219 f308; simp only [f220_is, f179_eq, show f116 = f98 from rfl]
theorem f107_is (a0 a1 a2 a3 b0 b1 b2 : Int) : f107 a0 a1 a2 a3 b0 b1 b2 = f151 a0 a1 a2 a3 b0 b1 b2 := by
 unfold f107 f151; simp only [f164_is, f165_is]
end Go.Proofs.YtdchdajjhofmnaaGreat
