/- The plain law TurnIs. -/
import Derived.Test.YtmnglkcodbecbaaGreatT1
import Derived.Test.YtmnglkcodbecbaaGreatA7
import Derived.Test.YtmnglkcodbecbaaGreatGt
namespace Go.Proofs.YtmnglkcodbecbaaGreat
open Go Go.Sx
theorem ref_q (a b : Int) : f161 (f82 a).fst (f82 b).fst = f158 a b := by rw [f82_eq, f82_eq, f161_eq, f158_eq, cl_cl, cl_cl]
theorem or3 (p q r : Bool) : (p || q || r) = (r || p || q) := by cases p <;> cases q <;> cases r <;> rfl
theorem f99_is (a b : Int) : f99 a b = f98 a b := by
  unfold f99 f98
  simp only [f146_is]
  exact Prod.ext rfl (or3 _ _ _)
theorem f53_is (a b c d e f : Int) : f53 a b c d e f = f52 a b c d e f := by unfold f53 f52; simp only [f99_is]
theorem f54_is (a b c d : Int) : f54 a b c d = f51 a b c d := by unfold f54 f51; simp only [f100_eq]
theorem addF_is (a b c d : Int) : addF (a, b) (c, d) = ((f178 a b c d).fst, (f178 a b c d).snd.fst) := rfl
theorem add2 (x y : Int × Int) : addL [(x.fst, x.snd), (y.fst, y.snd)] = ((f178 (f178 0 0 x.fst x.snd).fst (f178 0 0 x.fst x.snd).snd.fst y.fst y.snd).fst, (f178 (f178 0 0 x.fst x.snd).fst (f178 0 0 x.fst x.snd).snd.fst y.fst y.snd).snd.fst) := by
  simp only [addL, List.foldl_cons, List.foldl_nil, addF_is]
theorem add3 (x y z : Int × Int) : addL [(x.fst, x.snd), (y.fst, y.snd), (z.fst, z.snd)] =
    ((f178 (f178 (f178 0 0 x.fst x.snd).fst (f178 0 0 x.fst x.snd).snd.fst y.fst y.snd).fst (f178 (f178 0 0 x.fst x.snd).fst (f178 0 0 x.fst x.snd).snd.fst y.fst y.snd).snd.fst z.fst z.snd).fst,
     (f178 (f178 (f178 0 0 x.fst x.snd).fst (f178 0 0 x.fst x.snd).snd.fst y.fst y.snd).fst (f178 (f178 0 0 x.fst x.snd).fst (f178 0 0 x.fst x.snd).snd.fst y.fst y.snd).snd.fst z.fst z.snd).snd.fst) := by
  simp only [addL, List.foldl_cons, List.foldl_nil, addF_is]
theorem bool84 (a b c d e x : Bool) : (d || (a || b || (c || e) || x)) = (d || (x || anyB [a, b] || anyB [c, e])) := by
  cases a <;> cases b <;> cases c <;> cases d <;> cases e <;> cases x <;> rfl
theorem bool47 (a b c x : Bool) : (a || b || c || x) = (x || anyB [a, b, c]) := by
  cases a <;> cases b <;> cases c <;> cases x <;> rfl
theorem f156_is (a : Int) : f156 a = f86 a := by rw [f156_eq, f86_eq]
theorem f110_is (a b c d : Int) : f110 a b c d = ((f157 (addL [((f158 a c).fst, (f158 a c).snd), ((f158 b (f86 d)).fst, (f158 b (f86 d)).snd)]).fst (addL [((f158 a c).fst, (f158 a c).snd), ((f158 b (f86 d)).fst, (f158 b (f86 d)).snd)]).snd).fst,
    (f82 d).snd || ((f157 (addL [((f158 a c).fst, (f158 a c).snd), ((f158 b (f86 d)).fst, (f158 b (f86 d)).snd)]).fst (addL [((f158 a c).fst, (f158 a c).snd), ((f158 b (f86 d)).fst, (f158 b (f86 d)).snd)]).snd).snd || anyB [(f82 a).snd, (f82 b).snd] || anyB [(f82 c).snd, (f82 (f86 d)).snd])) := by
  unfold f110
  simp only [f156_is, f146_is, ref_q, f187_is, f160_eq, add2]
  exact Prod.ext rfl (bool84 _ _ _ _ _ _)
theorem f59_is (a b c d e f : Int) : f59 a b c d e f = f57 a b c d e f := by
  unfold f59 f57
  simp only [f110_is]
theorem f108_is (a b c : Int) : f108 a b c = f103 a b c := by
  have p0 := pb a a; have p1 := pb b b; have p2 := pb c c
  have q0 := sq_nn (cl a); have q1 := sq_nn (cl b); have q2 := sq_nn (cl c)
  have hs : addL [((f158 a a).fst, (f158 a a).snd), ((f158 b b).fst, (f158 b b).snd), ((f158 c c).fst, (f158 c c).snd)] = wd (cl a * cl a + cl b * cl b + cl c * cl c) := by
    rw [f158_eq, f158_eq, f158_eq, addL_three p0.1 p0.2 p1.1 p1.2 p2.1 p2.2]
  have hr := f144_nn (v := cl a * cl a + cl b * cl b + cl c * cl c) (by omega) (by omega)
  rw [← hs] at hr
  unfold f108 f103
  rw [add3] at hr
  simp only [f146_is, ref_q, f187_is, add3, hr]
  exact Prod.ext rfl (bool47 _ _ _ _)
theorem f58_is (a b c : Int) : f58 a b c = f56 a b c := by
  unfold f58 f56
  simp only [f108_is, f109_eq, Bool.or_assoc]
theorem f39_is (a b c : Int) : f39 a b c = !((f82 a).snd || ((f82 b).snd || (f82 c).snd)) := by
  unfold f39 f84
  simp only [f146_is]
  cases (f82 a).snd <;> cases (f82 b).snd <;> cases (f82 c).snd <;> rfl
theorem bool14 (a b c d : Bool) : (a && b && c && d) = (b && c && d && a) := by cases a <;> cases b <;> cases c <;> cases d <;> rfl
theorem f14_is (q0 q1 q2 q3 w0 w1 w2 : Int) (b : Bool) : f14 q0 q1 q2 q3 w0 w1 w2 b = f13 q0 q1 q2 q3 w0 w1 w2 b := by
  rw [f13_is]
  unfold f14
  simp only [f39_is, f38_is]
  exact bool14 _ _ _ _
theorem f16_is : f16 = f15 := rfl
theorem f47_is (q0 q1 q2 q3 w0 w1 w2 : Int) (b : Bool) : f47 q0 q1 q2 q3 w0 w1 w2 b = f44 q0 q1 q2 q3 w0 w1 w2 b := by
  unfold f47 f44
  simp only [f14_is]
  generalize f13 q0 q1 q2 q3 w0 w1 w2 b = s
  cases s <;> rfl
theorem f18_is (q0 q1 q2 q3 w0 w1 w2 : Int) (b : Bool) : f18 q0 q1 q2 q3 w0 w1 w2 b = f17 q0 q1 q2 q3 w0 w1 w2 b := by
  unfold f18 f17
  simp only [f47_is, f46_is, f45_is]
theorem f20_is (q0 q1 q2 q3 w0 w1 w2 : Int) (b : Bool) (v0 v1 v2 dt : Int) : f20 q0 q1 q2 q3 w0 w1 w2 b v0 v1 v2 dt = f19 q0 q1 q2 q3 w0 w1 w2 b v0 v1 v2 dt := by
  have hg := first_any3 (f82 v0).snd (f82 v1).snd (f82 v2).snd
  unfold f20 f19
  simp only [f47_is, f53_is, f54_is, f55, f101_is, f87_is, f102_is, f39_is]
  generalize decide ((bif (f82 v0).snd then (0 : Int) else bif (f82 v1).snd then IntKind.i64.wrap (0 + 1) else bif (f82 v2).snd then IntKind.i64.wrap (IntKind.i64.wrap (0 + 1) + 1) else -1) ≥ 0) = y at hg ⊢
  subst hg
  rfl
theorem bool22 (x c d e a b f g : Bool) : (x || c || d || e || a || b || f || g) = (x || a || b || f || g || c || d || e) := by
  cases x <;> cases c <;> cases d <;> cases e <;> cases a <;> cases b <;> cases f <;> cases g <;> rfl
theorem f22_is (q0 q1 q2 q3 w0 w1 w2 : Int) (b : Bool) (v0 v1 v2 dt : Int) : f22 q0 q1 q2 q3 w0 w1 w2 b v0 v1 v2 dt = f21 q0 q1 q2 q3 w0 w1 w2 b v0 v1 v2 dt := by
  have hg := first_any3 (f82 v0).snd (f82 v1).snd (f82 v2).snd
  unfold f22 f21
  simp only [f47_is, f53_is, f54_is, f55, f101_is, f87_is, f102_is, f39_is, f58_is, f59_is, f18_is]
  generalize decide ((bif (f82 v0).snd then (0 : Int) else bif (f82 v1).snd then IntKind.i64.wrap (0 + 1) else bif (f82 v2).snd then IntKind.i64.wrap (IntKind.i64.wrap (0 + 1) + 1) else -1) ≥ 0) = y at hg ⊢
  subst hg
  rw [bool22]
theorem f3_eq (q0 q1 q2 q3 w0 w1 w2 : Int) (b : Bool) (v0 v1 v2 dt : Int) : f3 q0 q1 q2 q3 w0 w1 w2 b v0 v1 v2 dt = true := by
  unfold f3
  simp only [f14_is, f16_is, f18_is, f20_is, f22_is, show f12 = true from rfl, beq_self_eq_true, Bool.and_self]
end Go.Proofs.YtmnglkcodbecbaaGreat
