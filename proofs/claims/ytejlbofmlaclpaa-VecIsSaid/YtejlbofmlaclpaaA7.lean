/- The plain law VecIs. -/
import Derived.Test.YtejlbofmlaclpaaA6
import Derived.Test.YtejlbofmlaclpaaGg
namespace Go.Proofs.Ytejlbofmlaclpaa
open Go Go.Sx
theorem f97_eq (a : Int) : f97 a = - cl a := by
  unfold f97; rw [f60_eq]
  have := cl_lo a; have := cl_hi a
  rw [wS (by omega) (by omega)]; omega
theorem f63_is (a : Int) : f63 a = f25 a := by rw [f63_eq]; rfl
theorem ref_p (a b : Int) : f57 (f25 a).fst (f25 b).fst = f29 a b := by rw [f25_eq, f25_eq, f57_eq, f29_eq, cl_cl, cl_cl]
theorem f52_is (h l c d : Int) : f52 h l c d = f30 h l c d := by
  obtain ⟨u, hu, eu⟩ := f71_some h l
  obtain ⟨v, hv, ev⟩ := f71_some c d
  by_cases k : inW (u + v)
  · rw [(f52_gen hu hv eu ev).1 k, (f30_gen hu hv eu ev).1 k]
  · rw [(f52_gen hu hv eu ev).2 k, (f30_gen hu hv eu ev).2 k]
theorem chg_neg (b : Int) : (f25 (f27 b)).snd = false := by
  rw [f25_eq, f27_eq]
  have := cl_lo b; have := cl_hi b
  simp only [cl_in (n := - cl b) (by omega) (by omega), bne_self_eq_false]
theorem or3 (p q r : Bool) : (p || q || r) = (r || p || q) := by cases p <;> cases q <;> cases r <;> rfl
theorem f66_eq (a b : Int) : f66 a b = f28 a b := by
  unfold f66 f28
  simp only [f63_is]
  exact Prod.ext rfl (or3 _ _ _)
theorem f65_eq (a b : Int) : f65 a b = f64 a b := by
  unfold f65 f64
  simp only [f63_is]
  exact Prod.ext rfl (or3 _ _ _)
theorem f41_eq (a b c d e f : Int) : f41 a b c d e f = f39 a b c d e f := by unfold f41 f39; simp only [f66_eq]
theorem f43_eq (a b c d e f : Int) : f43 a b c d e f = f42 a b c d e f := by unfold f43 f42; simp only [f65_eq]
theorem f44_eq (a b c d : Int) : f44 a b c d = f38 a b c d := by unfold f44 f38; simp only [f19_eq]
theorem addF_is (a b c d : Int) : addF (a, b) (c, d) = ((f30 a b c d).fst, (f30 a b c d).snd.fst) := rfl
theorem add2 (x y : Int × Int) : addL [(x.fst, x.snd), (y.fst, y.snd)] = ((f30 (f30 0 0 x.fst x.snd).fst (f30 0 0 x.fst x.snd).snd.fst y.fst y.snd).fst, (f30 (f30 0 0 x.fst x.snd).fst (f30 0 0 x.fst x.snd).snd.fst y.fst y.snd).snd.fst) := by
  simp only [addL, List.foldl_cons, List.foldl_nil, addF_is]
theorem add3 (x y z : Int × Int) : addL [(x.fst, x.snd), (y.fst, y.snd), (z.fst, z.snd)] =
    ((f30 (f30 (f30 0 0 x.fst x.snd).fst (f30 0 0 x.fst x.snd).snd.fst y.fst y.snd).fst (f30 (f30 0 0 x.fst x.snd).fst (f30 0 0 x.fst x.snd).snd.fst y.fst y.snd).snd.fst z.fst z.snd).fst,
     (f30 (f30 (f30 0 0 x.fst x.snd).fst (f30 0 0 x.fst x.snd).snd.fst y.fst y.snd).fst (f30 (f30 0 0 x.fst x.snd).fst (f30 0 0 x.fst x.snd).snd.fst y.fst y.snd).snd.fst z.fst z.snd).snd.fst) := by
  simp only [addL, List.foldl_cons, List.foldl_nil, addF_is]
theorem bool45 (a b c d e f x : Bool) : (a || b || c || (d || e || f) || x) = (x || anyB [a, b, c] || anyB [d, e, f]) := by
  cases a <;> cases b <;> cases c <;> cases d <;> cases e <;> cases f <;> cases x <;> rfl
theorem bool84 (a b c d e x : Bool) : (d || (a || b || (c || e) || x)) = (d || (x || anyB [a, b] || anyB [c, e])) := by
  cases a <;> cases b <;> cases c <;> cases d <;> cases e <;> cases x <;> rfl
theorem bool47 (a b c x : Bool) : (a || b || c || x) = (x || anyB [a, b, c]) := by
  cases a <;> cases b <;> cases c <;> cases x <;> rfl
theorem f45_eq (a b c d e f : Int) : f45 a b c d e f = f40 a b c d e f := by
  unfold f45 f40
  simp only [f63_is, ref_p, f52_is, f17_eq, add3]
  exact Prod.ext rfl (bool45 _ _ _ _ _ _ _)
theorem f97_is (a : Int) : f97 a = f27 a := by rw [f97_eq, f27_eq]
theorem f84_fst (a b c d : Int) : f84 a b c d = ((f16 (addL [((f29 a c).fst, (f29 a c).snd), ((f29 b (f27 d)).fst, (f29 b (f27 d)).snd)]).fst (addL [((f29 a c).fst, (f29 a c).snd), ((f29 b (f27 d)).fst, (f29 b (f27 d)).snd)]).snd).fst,
    (f25 d).snd || ((f16 (addL [((f29 a c).fst, (f29 a c).snd), ((f29 b (f27 d)).fst, (f29 b (f27 d)).snd)]).fst (addL [((f29 a c).fst, (f29 a c).snd), ((f29 b (f27 d)).fst, (f29 b (f27 d)).snd)]).snd).snd || anyB [(f25 a).snd, (f25 b).snd] || anyB [(f25 c).snd, (f25 (f27 d)).snd])) := by
  unfold f84
  simp only [f97_is, f63_is, ref_p, f52_is, f17_eq, add2]
  exact Prod.ext rfl (bool84 _ _ _ _ _ _)
theorem f46_eq (a b c d e f : Int) : f46 a b c d e f = f37 a b c d e f := by
  unfold f46 f37
  simp only [f84_fst]
theorem pb' (a b : Int) : -83076749736557242056487941267521536 ≤ cl a * cl b ∧ cl a * cl b ≤ 83076749736557242056487941267521536 := by
  have := prod_in _ _ (cl_lo a) (cl_hi a) (cl_lo b) (cl_hi b); omega
theorem f47_eq (a b c : Int) : f47 a b c = f35 a b c := by
  have p0 := pb' a a; have p1 := pb' b b; have p2 := pb' c c
  have q0 := sq_nn (cl a); have q1 := sq_nn (cl b); have q2 := sq_nn (cl c)
  have hs : addL [((f29 a a).fst, (f29 a a).snd), ((f29 b b).fst, (f29 b b).snd), ((f29 c c).fst, (f29 c c).snd)] = wd (cl a * cl a + cl b * cl b + cl c * cl c) := by
    rw [f29_eq, f29_eq, f29_eq, addL_three p0.1 p0.2 p1.1 p1.2 p2.1 p2.2]
  have hr := f98_nn (v := cl a * cl a + cl b * cl b + cl c * cl c) (by omega) (by omega)
  rw [← hs] at hr
  unfold f47 f35
  rw [add3] at hr
  simp only [f63_is, ref_p, f52_is, add3, hr]
  exact Prod.ext rfl (bool47 _ _ _ _)
theorem f48_eq (a b c : Int) : f48 a b c = f36 a b c := by
  unfold f48 f36
  simp only [f47_eq, f21_eq, Bool.or_assoc]
theorem f34_true : f34 = true := by kernel_rfl
theorem f13_eq (a b c d e f k : Int) : f13 a b c d e f k = true := by
  unfold f13
  simp only [f41_eq, f43_eq, f44_eq, f45_eq, f46_eq, f47_eq, f48_eq, f34_true, beq_self_eq_true, Bool.and_self, Bool.not_true, Bool.or_self, Bool.not_false]
end Go.Proofs.Ytejlbofmlaclpaa
