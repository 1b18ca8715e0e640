/- The references of a turn are what they are references of. The references of an axis, of a calibration and of the filter are what they are references of. The references of the filter's parts are what they are references of. -/
import Derived.Test.YtmnglkcodbecbaaGreatT1
import Derived.Test.YtmnglkcodbecbaaGreatA7
import Derived.Test.YtmnglkcodbecbaaGreatGm
import Derived.Test.YtmnglkcodbecbaaGreatKf
namespace Go.Proofs.YtmnglkcodbecbaaGreat
open Go Go.Sx
theorem ref_q (a b : Int) : f161 (f82 a).fst (f82 b).fst = f158 a b := by rw [f82_eq, f82_eq, f161_eq, f158_eq, cl_cl, cl_cl]
theorem or3 (p q r : Bool) : (p || q || r) = (r || p || q) := by cases p <;> cases q <;> cases r <;> rfl
theorem f99_is (a b : Int) : f99 a b = f98 a b := by
  unfold f99 f98
  simp only [f146_is]
  exact Prod.ext rfl (or3 _ _ _)
theorem f53_is (a b c d e f : Int) : f53 a b c d e f = f52 a b c d e f := by unfold f53 f52; simp only [f99_is]
theorem f54_is (a b c d : Int) : f54 a b c d = f51 a b c d := by unfold f54 f51; simp only [f100_eq]
theorem addF_is (a b c d : Int) : addF (a, b) (c, d) = ((f178 a b c d).fst, (f178 a b c d).snd.fst) := rfl
theorem add2 (x y : Int × Int) : addL [(x.fst, x.snd), (y.fst, y.snd)] = ((f178 (f178 0 0 x.fst x.snd).fst (f178 0 0 x.fst x.snd).snd.fst y.fst y.snd).fst, (f178 (f178 0 0 x.fst x.snd).fst (f178 0 0 x.fst x.snd).snd.fst y.fst y.snd).snd.fst) := by
  simp only [addL, List.foldl_cons, List.foldl_nil, addF_is]
theorem add3 (x y z : Int × Int) : addL [(x.fst, x.snd), (y.fst, y.snd), (z.fst, z.snd)] =
    ((f178 (f178 (f178 0 0 x.fst x.snd).fst (f178 0 0 x.fst x.snd).snd.fst y.fst y.snd).fst (f178 (f178 0 0 x.fst x.snd).fst (f178 0 0 x.fst x.snd).snd.fst y.fst y.snd).snd.fst z.fst z.snd).fst,
     (f178 (f178 (f178 0 0 x.fst x.snd).fst (f178 0 0 x.fst x.snd).snd.fst y.fst y.snd).fst (f178 (f178 0 0 x.fst x.snd).fst (f178 0 0 x.fst x.snd).snd.fst y.fst y.snd).snd.fst z.fst z.snd).snd.fst) := by
  simp only [addL, List.foldl_cons, List.foldl_nil, addF_is]
theorem bool84 (a b c d e x : Bool) : (d || (a || b || (c || e) || x)) = (d || (x || anyB [a, b] || anyB [c, e])) := by
  cases a <;> cases b <;> cases c <;> cases d <;> cases e <;> cases x <;> rfl
theorem bool47 (a b c x : Bool) : (a || b || c || x) = (x || anyB [a, b, c]) := by
  cases a <;> cases b <;> cases c <;> cases x <;> rfl
theorem f156_is (a : Int) : f156 a = f86 a := by rw [f156_eq, f86_eq]
theorem f110_is (a b c d : Int) : f110 a b c d = ((f157 (addL [((f158 a c).fst, (f158 a c).snd), ((f158 b (f86 d)).fst, (f158 b (f86 d)).snd)]).fst (addL [((f158 a c).fst, (f158 a c).snd), ((f158 b (f86 d)).fst, (f158 b (f86 d)).snd)]).snd).fst,
    (f82 d).snd || ((f157 (addL [((f158 a c).fst, (f158 a c).snd), ((f158 b (f86 d)).fst, (f158 b (f86 d)).snd)]).fst (addL [((f158 a c).fst, (f158 a c).snd), ((f158 b (f86 d)).fst, (f158 b (f86 d)).snd)]).snd).snd || anyB [(f82 a).snd, (f82 b).snd] || anyB [(f82 c).snd, (f82 (f86 d)).snd])) := by
  unfold f110
  simp only [f156_is, f146_is, ref_q, f187_is, f160_eq, add2]
  exact Prod.ext rfl (bool84 _ _ _ _ _ _)
theorem f59_is (a b c d e f : Int) : f59 a b c d e f = f57 a b c d e f := by
  unfold f59 f57
  simp only [f110_is]
theorem f108_is (a b c : Int) : f108 a b c = f103 a b c := by
  have p0 := pb a a; have p1 := pb b b; have p2 := pb c c
  have q0 := sq_nn (cl a); have q1 := sq_nn (cl b); have q2 := sq_nn (cl c)
  have hs : addL [((f158 a a).fst, (f158 a a).snd), ((f158 b b).fst, (f158 b b).snd), ((f158 c c).fst, (f158 c c).snd)] = wd (cl a * cl a + cl b * cl b + cl c * cl c) := by
    rw [f158_eq, f158_eq, f158_eq, addL_three p0.1 p0.2 p1.1 p1.2 p2.1 p2.2]
  have hr := f144_nn (v := cl a * cl a + cl b * cl b + cl c * cl c) (by omega) (by omega)
  rw [← hs] at hr
  unfold f108 f103
  rw [add3] at hr
  simp only [f146_is, ref_q, f187_is, add3, hr]
  exact Prod.ext rfl (bool47 _ _ _ _)
theorem f58_is (a b c : Int) : f58 a b c = f56 a b c := by
  unfold f58 f56
  simp only [f108_is, f109_eq, Bool.or_assoc]
theorem f39_is (a b c : Int) : f39 a b c = !((f82 a).snd || ((f82 b).snd || (f82 c).snd)) := by
  unfold f39 f84
  simp only [f146_is]
  cases (f82 a).snd <;> cases (f82 b).snd <;> cases (f82 c).snd <;> rfl
theorem bool14 (a b c d : Bool) : (a && b && c && d) = (b && c && d && a) := by cases a <;> cases b <;> cases c <;> cases d <;> rfl
theorem f14_is (q0 q1 q2 q3 w0 w1 w2 : Int) (b : Bool) : f14 q0 q1 q2 q3 w0 w1 w2 b = f13 q0 q1 q2 q3 w0 w1 w2 b := by
  rw [f13_is]
  unfold f14
  simp only [f39_is, f38_is]
  exact bool14 _ _ _ _
theorem f16_is : f16 = f15 := rfl
theorem f47_is (q0 q1 q2 q3 w0 w1 w2 : Int) (b : Bool) : f47 q0 q1 q2 q3 w0 w1 w2 b = f44 q0 q1 q2 q3 w0 w1 w2 b := by
  unfold f47 f44
  simp only [f14_is]
  generalize f13 q0 q1 q2 q3 w0 w1 w2 b = s
  cases s <;> rfl
theorem f18_is (q0 q1 q2 q3 w0 w1 w2 : Int) (b : Bool) : f18 q0 q1 q2 q3 w0 w1 w2 b = f17 q0 q1 q2 q3 w0 w1 w2 b := by
  unfold f18 f17
  simp only [f47_is, f46_is, f45_is]
theorem f20_is (q0 q1 q2 q3 w0 w1 w2 : Int) (b : Bool) (v0 v1 v2 dt : Int) : f20 q0 q1 q2 q3 w0 w1 w2 b v0 v1 v2 dt = f19 q0 q1 q2 q3 w0 w1 w2 b v0 v1 v2 dt := by
  have hg := first_any3 (f82 v0).snd (f82 v1).snd (f82 v2).snd
  unfold f20 f19
  simp only [f47_is, f53_is, f54_is, f55, f101_is, f87_is, f102_is, f39_is]
  generalize decide ((bif (f82 v0).snd then (0 : Int) else bif (f82 v1).snd then IntKind.i64.wrap (0 + 1) else bif (f82 v2).snd then IntKind.i64.wrap (IntKind.i64.wrap (0 + 1) + 1) else -1) ≥ 0) = y at hg ⊢
  subst hg
  rfl
theorem bool22 (x c d e a b f g : Bool) : (x || c || d || e || a || b || f || g) = (x || a || b || f || g || c || d || e) := by
  cases x <;> cases c <;> cases d <;> cases e <;> cases a <;> cases b <;> cases f <;> cases g <;> rfl
theorem f22_is (q0 q1 q2 q3 w0 w1 w2 : Int) (b : Bool) (v0 v1 v2 dt : Int) : f22 q0 q1 q2 q3 w0 w1 w2 b v0 v1 v2 dt = f21 q0 q1 q2 q3 w0 w1 w2 b v0 v1 v2 dt := by
  have hg := first_any3 (f82 v0).snd (f82 v1).snd (f82 v2).snd
  unfold f22 f21
  simp only [f47_is, f53_is, f54_is, f55, f101_is, f87_is, f102_is, f39_is, f58_is, f59_is, f18_is]
  generalize decide ((bif (f82 v0).snd then (0 : Int) else bif (f82 v1).snd then IntKind.i64.wrap (0 + 1) else bif (f82 v2).snd then IntKind.i64.wrap (IntKind.i64.wrap (0 + 1) + 1) else -1) ≥ 0) = y at hg ⊢
  subst hg
  rw [bool22]
end Go.Proofs.YtmnglkcodbecbaaGreat
namespace Go.Proofs.YtmnglkcodbecbaaGreat
open Go Go.Sx
set_option linter.unusedVariables false
set_option linter.unusedSimpArgs false
set_option linter.constructorNameAsVariable false
set_option maxRecDepth 100000
set_option maxHeartbeats 8000000
theorem f126_is (a : Int) : f126 a = f114 a := by unfold f126 f114; rw [f146_is]
theorem f175_is (a b : Int) : f175 a b = f170 a b := by
  unfold f175 f170; simp only [f146_is, f82_eq, show ∀ x, f153 x = cl x from fun _ => rfl]
  refine Prod.ext rfl ?_
  simp only
  exact or3 _ _ _
theorem f131_is (a : Int) : f131 a = f211 a := by
  unfold f131 f211
  simp only [f146_is, f82_eq]
  rw [f161_eq, f158_eq, cl_cl, cl_in (n := 4294967296) (by omega) (by omega)]
  have h0 := cl_lo a; have h1 := cl_hi a
  have h : f144 (wd (cl a * 4294967296)).1 (wd (cl a * 4294967296)).2 = f137 (wd (cl a * 4294967296)).1 (wd (cl a * 4294967296)).2 := by
    rcases Int.lt_or_le (cl a * 4294967296) 0 with c | c
    · obtain ⟨e1, e2⟩ := f144_neg (v := cl a * 4294967296) (by omega) c
      rw [e1, e2]
    · exact f144_nn c (by omega)
  rw [h]
theorem f132_is (a : Int) : f132 a = f163 a := by rw [f132_eq, f163_eq]
theorem f75_is (P V PP PV VV : Int) (b : Bool) : f75 P V PP PV VV b = f72 P V PP PV VV b := by
  unfold f75 f72 f134; simp only [f126_is, Bool.and_assoc]
theorem kp_swap (n : Int) : mnI (mxI n 4096) 4503599627370496 = mxI 4096 (mnI n 4503599627370496) := by
  unfold mxI mnI; split <;> split <;> split <;> (try split) <;> omega
theorem f125_sane {P V PP PV VV : Int} {b : Bool} (h : f72 P V PP PV VV b = true) : f125 P V PP PV VV b = (P, V, PP, PV, VV, b) := by
  unfold f125; rw [f75_is, h]; rfl
theorem f125_in {P V PP PV VV : Int} {b : Bool} (h : f72 P V PP PV VV b = false) : f125 P V PP PV VV b = (0, 0, 17592186044416, 0, 17592186044416, true) := by
  unfold f125; rw [f75_is, h]; rfl
theorem f76_z : f76 0 0 = (0, 0, 17592186044416, 0, 17592186044416, false) := by kernel_rfl
theorem f68_is (P V PP PV VV : Int) (b : Bool) (a dt q : Int) : f68 P V PP PV VV b a dt q = f63 P V PP PV VV b a dt q := by
  unfold f68 f63
  simp only [f100_eq, f175_is, f126_is, kp_swap]
  generalize (!f114 a || decide (dt < 0) || decide (dt > 1099511627776) || decide (q < 0) || decide (q > 1099511627776)) = G
  cases h : f72 P V PP PV VV b
  · simp only [f125_in h, f76_z, Bool.not_false, cond_true, Bool.true_or, Bool.or_true]
  · simp only [f125_sane h, Bool.not_true, cond_false, Bool.false_or]
    refine Prod.ext rfl (Prod.ext rfl (Prod.ext rfl (Prod.ext rfl (Prod.ext rfl ?_))))
    simp only [Bool.or_assoc]
    congr 1; congr 1
    ac_rfl
theorem f70_is (P V PP PV VV : Int) (b : Bool) (z r g : Int) : f70 P V PP PV VV b z r g = f202 P V PP PV VV b z r g := by
  have hG : (!f114 z || decide (r < 4096) || decide (r > 4503599627370496) || decide (g < 0) || decide (g > 1099511627776)) = (!f114 z || !f134 r || decide (g < 0) || decide (g > 1099511627776)) := by
    have h134 : f134 r = true ↔ 4096 ≤ r ∧ r ≤ 4503599627370496 := by unfold f134; simp
    cases h : f134 r
    · have : ¬ (4096 ≤ r ∧ r ≤ 4503599627370496) := fun hh => by rw [h134.2 hh] at h; cases h
      have h2 : (decide (r < 4096) || decide (r > 4503599627370496)) = true := by simp; omega
      rw [Bool.or_assoc (!f114 z), h2]; rfl
    · have := h134.1 h
      rw [decide_eq_false (show ¬ r < 4096 by omega), decide_eq_false (show ¬ r > 4503599627370496 by omega)]; simp
  unfold f70 f202
  simp only [f100_eq, f175_is, f99_is, f109_eq, f131_is, f126_is, f132_is, kp_swap, hG]
  generalize (!f114 z || !f134 r || decide (g < 0) || decide (g > 1099511627776)) = G
  cases h : f72 P V PP PV VV b
  · simp only [f125_in h, f76_z, Bool.not_false, cond_true, Bool.true_or]
    refine Prod.ext rfl (Prod.ext rfl (Prod.ext rfl (Prod.ext rfl (Prod.ext rfl (Prod.ext ?_ rfl)))))
    simp only
    cases G
    · cases (decide ((f163 (f98 z 0).fst) > (f96 g (f211 (f170 17592186044416 r).fst).fst).fst)) <;> rfl
    · rfl
  · simp only [f125_sane h, Bool.not_true, cond_false, Bool.false_or]
theorem f123_is (T S a b c : Int) : f123 T S a b c = f111 T S a b c := by
  unfold f123 f111
  rw [show decide (S ≤ 3) = decide (S < 4) from decide_eq_decide.2 ⟨fun h => by omega, fun h => by omega⟩]
theorem bool200 (a b c : Bool) : (!decide ((bif !a then (0 : Int) else bif !b then IntKind.i64.wrap (0 + 1) else bif !c then IntKind.i64.wrap (IntKind.i64.wrap (0 + 1) + 1) else -1) ≥ 0)) = (a && b && c) := by
  rw [first_any3]; cases a <;> cases b <;> cases c <;> rfl
theorem f124_is (a b c g m : Int) : f124 a b c g m = f167 a b c g m := by
  have h201 : ∀ x, f173 x = f201 x := fun x => by unfold f173 f201; rw [f146_is]
  have h200 : f172 a b c = f200 a b c := by
    unfold f172 f200
    simp only [h201]
    exact (bool200 _ _ _).symm
  unfold f124 f167
  rw [h200, h201, h201, show decide (g ≥ 1) = decide (g > 0) from decide_eq_decide.2 ⟨fun h => by omega, fun h => by omega⟩]
theorem f67_is (a b c g m x y z : Int) : f67 a b c g m x y z = f112 a b c g m x y z := by
  unfold f67 f112 f168
  simp only [f53_is, f54_is, f124_is, first_any3]
  generalize f51 (f52 x y z a b c).fst (f52 x y z a b c).snd.fst (f52 x y z a b c).snd.snd.fst g = R
  generalize (!f167 a b c g m || (f52 x y z a b c).snd.snd.snd || R.snd.snd.snd) = A
  generalize (decide (R.fst > m) || decide (R.fst < IntKind.i64.wrap (0 - m))) = B
  generalize (decide (R.snd.fst > m) || decide (R.snd.fst < IntKind.i64.wrap (0 - m))) = C
  generalize (decide (R.snd.snd.fst > m) || decide (R.snd.snd.fst < IntKind.i64.wrap (0 - m))) = D
  cases A <;> cases B <;> cases C <;> cases D <;> rfl
end Go.Proofs.YtmnglkcodbecbaaGreat
namespace Go.Proofs.YtmnglkcodbecbaaGreat
open Go Go.Sx
set_option linter.unusedVariables false
set_option linter.unusedSimpArgs false
set_option linter.constructorNameAsVariable false
set_option maxRecDepth 100000
set_option maxHeartbeats 8000000
theorem f27_is (a0_0 : Int) (a0_1 : Int) (a0_2 : Int) (a0_3 : Int) (a0_4 : Int) (a0_5 : Int) (a0_6 : Int) (a0_7 : Int) (a0_8 : Int) (a0_9 : Int) (a0_10 : Bool) (a0_11 : Int) (a0_12 : Int) (a0_13 : Int) (a0_14 : Int) (a0_15 : Int) (a0_16 : Bool) (a0_17 : Int) (a0_18 : Int) (a0_19 : Int) (a0_20 : Int) (a0_21 : Int) (a0_22 : Bool) (a0_23 : Int) (a0_24 : Int) (a0_25 : Int) (a0_26 : Int) (a0_27 : Int) (a0_28 : Bool) : f27 a0_0 a0_1 a0_2 a0_3 a0_4 a0_5 a0_6 a0_7 a0_8 a0_9 a0_10 a0_11 a0_12 a0_13 a0_14 a0_15 a0_16 a0_17 a0_18 a0_19 a0_20 a0_21 a0_22 a0_23 a0_24 a0_25 a0_26 a0_27 a0_28 = f26 a0_0 a0_1 a0_2 a0_3 a0_4 a0_5 a0_6 a0_7 a0_8 a0_9 a0_10 a0_11 a0_12 a0_13 a0_14 a0_15 a0_16 a0_17 a0_18 a0_19 a0_20 a0_21 a0_22 a0_23 a0_24 a0_25 a0_26 a0_27 a0_28 := by
  rw [Bool.eq_iff_iff, f26_iff]; unfold f27
  simp only [f75_is, f14_is, Bool.not_not, Bool.and_eq_true, decide_eq_true_eq, ge_iff_le]
  exact ⟨fun ⟨a, b, c, ⟨⟨⟨⟨⟨t0, t1⟩, n0⟩, n1⟩, o0⟩, o1⟩, q⟩ => ⟨⟨t0, t1⟩, ⟨n0, n1⟩, ⟨o0, o1⟩, q, a, b, c⟩, fun ⟨⟨t0, t1⟩, ⟨n0, n1⟩, ⟨o0, o1⟩, q, a, b, c⟩ => ⟨a, b, c, ⟨⟨⟨⟨⟨t0, t1⟩, n0⟩, n1⟩, o0⟩, o1⟩, q⟩⟩
theorem f29_is : f29 = f28 := by kernel_rfl
theorem f65_is (a0_0 : Int) (a0_1 : Int) (a0_2 : Int) (a0_3 : Int) (a0_4 : Int) (a0_5 : Int) (a0_6 : Int) (a0_7 : Int) (a0_8 : Int) (a0_9 : Int) (a0_10 : Bool) (a0_11 : Int) (a0_12 : Int) (a0_13 : Int) (a0_14 : Int) (a0_15 : Int) (a0_16 : Bool) (a0_17 : Int) (a0_18 : Int) (a0_19 : Int) (a0_20 : Int) (a0_21 : Int) (a0_22 : Bool) (a0_23 : Int) (a0_24 : Int) (a0_25 : Int) (a0_26 : Int) (a0_27 : Int) (a0_28 : Bool) : f65 a0_0 a0_1 a0_2 a0_3 a0_4 a0_5 a0_6 a0_7 a0_8 a0_9 a0_10 a0_11 a0_12 a0_13 a0_14 a0_15 a0_16 a0_17 a0_18 a0_19 a0_20 a0_21 a0_22 a0_23 a0_24 a0_25 a0_26 a0_27 a0_28 = f60 a0_0 a0_1 a0_2 a0_3 a0_4 a0_5 a0_6 a0_7 a0_8 a0_9 a0_10 a0_11 a0_12 a0_13 a0_14 a0_15 a0_16 a0_17 a0_18 a0_19 a0_20 a0_21 a0_22 a0_23 a0_24 a0_25 a0_26 a0_27 a0_28 := by
  unfold f65 f60; simp only [f27_is, f29_is]
  cases f26 a0_0 a0_1 a0_2 a0_3 a0_4 a0_5 a0_6 a0_7 a0_8 a0_9 a0_10 a0_11 a0_12 a0_13 a0_14 a0_15 a0_16 a0_17 a0_18 a0_19 a0_20 a0_21 a0_22 a0_23 a0_24 a0_25 a0_26 a0_27 a0_28 <;> rfl
theorem f31_is (a0_0 : Int) (a0_1 : Int) (a0_2 : Int) (a0_3 : Int) (a0_4 : Int) (a0_5 : Int) (a0_6 : Int) (a0_7 : Int) (a0_8 : Int) (a0_9 : Int) (a0_10 : Bool) (a0_11 : Int) (a0_12 : Int) (a0_13 : Int) (a0_14 : Int) (a0_15 : Int) (a0_16 : Bool) (a0_17 : Int) (a0_18 : Int) (a0_19 : Int) (a0_20 : Int) (a0_21 : Int) (a0_22 : Bool) (a0_23 : Int) (a0_24 : Int) (a0_25 : Int) (a0_26 : Int) (a0_27 : Int) (a0_28 : Bool) : f31 a0_0 a0_1 a0_2 a0_3 a0_4 a0_5 a0_6 a0_7 a0_8 a0_9 a0_10 a0_11 a0_12 a0_13 a0_14 a0_15 a0_16 a0_17 a0_18 a0_19 a0_20 a0_21 a0_22 a0_23 a0_24 a0_25 a0_26 a0_27 a0_28 = f30 a0_0 a0_1 a0_2 a0_3 a0_4 a0_5 a0_6 a0_7 a0_8 a0_9 a0_10 a0_11 a0_12 a0_13 a0_14 a0_15 a0_16 a0_17 a0_18 a0_19 a0_20 a0_21 a0_22 a0_23 a0_24 a0_25 a0_26 a0_27 a0_28 := by
  unfold f31 f30; simp only [f65_is, first_any3, Bool.or_assoc]
theorem f66_0 (a0_0 : Int) (a0_1 : Int) (a0_2 : Int) (a0_3 : Int) (a0_4 : Int) (a0_5 : Int) (a0_6 : Int) (a0_7 : Int) (a0_8 : Int) (a0_9 : Int) (a0_10 : Bool) (a0_11 : Int) (a0_12 : Int) (a0_13 : Int) (a0_14 : Int) (a0_15 : Int) (a0_16 : Bool) (a0_17 : Int) (a0_18 : Int) (a0_19 : Int) (a0_20 : Int) (a0_21 : Int) (a0_22 : Bool) (a0_23 : Int) (a0_24 : Int) (a0_25 : Int) (a0_26 : Int) (a0_27 : Int) (a0_28 : Bool) (a1_0 a1_1 a1_2 a1_3 a1_4 a1_5 a1_6 a1_7 a1_8 a1_9 a1_10 a1_11 a1_12 a1_13 a1_14 a1_15 a1_16 a1_17 a1_18 a1_19 : Int) (T z0 z1 z2 : Int) (hs : f26 a0_0 a0_1 a0_2 a0_3 a0_4 a0_5 a0_6 a0_7 a0_8 a0_9 a0_10 a0_11 a0_12 a0_13 a0_14 a0_15 a0_16 a0_17 a0_18 a0_19 a0_20 a0_21 a0_22 a0_23 a0_24 a0_25 a0_26 a0_27 a0_28 = true) : f66 a0_0 a0_1 a0_2 a0_3 a0_4 a0_5 a0_6 a0_7 a0_8 a0_9 a0_10 a0_11 a0_12 a0_13 a0_14 a0_15 a0_16 a0_17 a0_18 a0_19 a0_20 a0_21 a0_22 a0_23 a0_24 a0_25 a0_26 a0_27 a0_28 a1_0 a1_1 a1_2 a1_3 a1_4 a1_5 a1_6 a1_7 a1_8 a1_9 a1_10 a1_11 a1_12 a1_13 a1_14 a1_15 a1_16 a1_17 a1_18 a1_19 T 0 z0 z1 z2 = (f61 a0_0 a0_1 a0_2 a0_3 a0_4 a0_5 a0_6 a0_7 a0_8 a0_9 a0_10 a0_11 a0_12 a0_13 a0_14 a0_15 a0_16 a0_17 a0_18 a0_19 a0_20 a0_21 a0_22 a0_23 a0_24 a0_25 a0_26 a0_27 a0_28 a1_0 a1_1 a1_2 a1_3 a1_4 a1_5 a1_6 a1_7 a1_8 a1_9 a1_10 a1_11 a1_12 a1_13 a1_14 a1_15 a1_16 a1_17 a1_18 a1_19 T 0 z0 z1 z2).snd.snd.snd := by
  obtain ⟨-, ⟨n0, n1⟩, ⟨o0, o1⟩, -⟩ := (f26_iff a0_0 a0_1 a0_2 a0_3 a0_4 a0_5 a0_6 a0_7 a0_8 a0_9 a0_10 a0_11 a0_12 a0_13 a0_14 a0_15 a0_16 a0_17 a0_18 a0_19 a0_20 a0_21 a0_22 a0_23 a0_24 a0_25 a0_26 a0_27 a0_28).1 hs
  have e1 : f66 a0_0 a0_1 a0_2 a0_3 a0_4 a0_5 a0_6 a0_7 a0_8 a0_9 a0_10 a0_11 a0_12 a0_13 a0_14 a0_15 a0_16 a0_17 a0_18 a0_19 a0_20 a0_21 a0_22 a0_23 a0_24 a0_25 a0_26 a0_27 a0_28 a1_0 a1_1 a1_2 a1_3 a1_4 a1_5 a1_6 a1_7 a1_8 a1_9 a1_10 a1_11 a1_12 a1_13 a1_14 a1_15 a1_16 a1_17 a1_18 a1_19 T 0 z0 z1 z2 = f66p0 a0_0 a0_1 a0_2 a0_3 a0_4 a0_5 a0_6 a0_7 a0_8 a0_9 a0_10 a0_11 a0_12 a0_13 a0_14 a0_15 a0_16 a0_17 a0_18 a0_19 a0_20 a0_21 a0_22 a0_23 a0_24 a0_25 a0_26 a0_27 a0_28 a1_0 a1_1 a1_2 a1_3 a1_4 a1_5 a1_6 a1_7 a1_8 a1_9 a1_10 a1_11 a1_12 a1_13 a1_14 a1_15 a1_16 a1_17 a1_18 a1_19 T z0 z1 z2 := rfl
  have e2 : f61 a0_0 a0_1 a0_2 a0_3 a0_4 a0_5 a0_6 a0_7 a0_8 a0_9 a0_10 a0_11 a0_12 a0_13 a0_14 a0_15 a0_16 a0_17 a0_18 a0_19 a0_20 a0_21 a0_22 a0_23 a0_24 a0_25 a0_26 a0_27 a0_28 a1_0 a1_1 a1_2 a1_3 a1_4 a1_5 a1_6 a1_7 a1_8 a1_9 a1_10 a1_11 a1_12 a1_13 a1_14 a1_15 a1_16 a1_17 a1_18 a1_19 T 0 z0 z1 z2 = f61p0 a0_0 a0_1 a0_2 a0_3 a0_4 a0_5 a0_6 a0_7 a0_8 a0_9 a0_10 a0_11 a0_12 a0_13 a0_14 a0_15 a0_16 a0_17 a0_18 a0_19 a0_20 a0_21 a0_22 a0_23 a0_24 a0_25 a0_26 a0_27 a0_28 a1_0 a1_1 a1_2 a1_3 a1_4 a1_5 a1_6 a1_7 a1_8 a1_9 a1_10 a1_11 a1_12 a1_13 a1_14 a1_15 a1_16 a1_17 a1_18 a1_19 T z0 z1 z2 := rfl
  have hn : decide (a0_1 ≥ 1099511627776) = (a0_1 == 1099511627776) := by
    rw [Bool.eq_iff_iff]; simp; omega
  have ho : decide (a0_2 ≥ 1099511627776) = (a0_2 == 1099511627776) := by
    rw [Bool.eq_iff_iff]; simp; omega
  rw [e1, e2]; unfold f66p0 f61p0
  simp only [f123_is, f67_is, hn, ho]
theorem f66_1 (a0_0 : Int) (a0_1 : Int) (a0_2 : Int) (a0_3 : Int) (a0_4 : Int) (a0_5 : Int) (a0_6 : Int) (a0_7 : Int) (a0_8 : Int) (a0_9 : Int) (a0_10 : Bool) (a0_11 : Int) (a0_12 : Int) (a0_13 : Int) (a0_14 : Int) (a0_15 : Int) (a0_16 : Bool) (a0_17 : Int) (a0_18 : Int) (a0_19 : Int) (a0_20 : Int) (a0_21 : Int) (a0_22 : Bool) (a0_23 : Int) (a0_24 : Int) (a0_25 : Int) (a0_26 : Int) (a0_27 : Int) (a0_28 : Bool) (a1_0 a1_1 a1_2 a1_3 a1_4 a1_5 a1_6 a1_7 a1_8 a1_9 a1_10 a1_11 a1_12 a1_13 a1_14 a1_15 a1_16 a1_17 a1_18 a1_19 : Int) (T z0 z1 z2 : Int) (hs : f26 a0_0 a0_1 a0_2 a0_3 a0_4 a0_5 a0_6 a0_7 a0_8 a0_9 a0_10 a0_11 a0_12 a0_13 a0_14 a0_15 a0_16 a0_17 a0_18 a0_19 a0_20 a0_21 a0_22 a0_23 a0_24 a0_25 a0_26 a0_27 a0_28 = true) : f66 a0_0 a0_1 a0_2 a0_3 a0_4 a0_5 a0_6 a0_7 a0_8 a0_9 a0_10 a0_11 a0_12 a0_13 a0_14 a0_15 a0_16 a0_17 a0_18 a0_19 a0_20 a0_21 a0_22 a0_23 a0_24 a0_25 a0_26 a0_27 a0_28 a1_0 a1_1 a1_2 a1_3 a1_4 a1_5 a1_6 a1_7 a1_8 a1_9 a1_10 a1_11 a1_12 a1_13 a1_14 a1_15 a1_16 a1_17 a1_18 a1_19 T 1 z0 z1 z2 = (f61 a0_0 a0_1 a0_2 a0_3 a0_4 a0_5 a0_6 a0_7 a0_8 a0_9 a0_10 a0_11 a0_12 a0_13 a0_14 a0_15 a0_16 a0_17 a0_18 a0_19 a0_20 a0_21 a0_22 a0_23 a0_24 a0_25 a0_26 a0_27 a0_28 a1_0 a1_1 a1_2 a1_3 a1_4 a1_5 a1_6 a1_7 a1_8 a1_9 a1_10 a1_11 a1_12 a1_13 a1_14 a1_15 a1_16 a1_17 a1_18 a1_19 T 1 z0 z1 z2).snd.snd.snd := by
  obtain ⟨-, ⟨n0, n1⟩, ⟨o0, o1⟩, -⟩ := (f26_iff a0_0 a0_1 a0_2 a0_3 a0_4 a0_5 a0_6 a0_7 a0_8 a0_9 a0_10 a0_11 a0_12 a0_13 a0_14 a0_15 a0_16 a0_17 a0_18 a0_19 a0_20 a0_21 a0_22 a0_23 a0_24 a0_25 a0_26 a0_27 a0_28).1 hs
  have e1 : f66 a0_0 a0_1 a0_2 a0_3 a0_4 a0_5 a0_6 a0_7 a0_8 a0_9 a0_10 a0_11 a0_12 a0_13 a0_14 a0_15 a0_16 a0_17 a0_18 a0_19 a0_20 a0_21 a0_22 a0_23 a0_24 a0_25 a0_26 a0_27 a0_28 a1_0 a1_1 a1_2 a1_3 a1_4 a1_5 a1_6 a1_7 a1_8 a1_9 a1_10 a1_11 a1_12 a1_13 a1_14 a1_15 a1_16 a1_17 a1_18 a1_19 T 1 z0 z1 z2 = f66p1 a0_0 a0_1 a0_2 a0_3 a0_4 a0_5 a0_6 a0_7 a0_8 a0_9 a0_10 a0_11 a0_12 a0_13 a0_14 a0_15 a0_16 a0_17 a0_18 a0_19 a0_20 a0_21 a0_22 a0_23 a0_24 a0_25 a0_26 a0_27 a0_28 a1_0 a1_1 a1_2 a1_3 a1_4 a1_5 a1_6 a1_7 a1_8 a1_9 a1_10 a1_11 a1_12 a1_13 a1_14 a1_15 a1_16 a1_17 a1_18 a1_19 T z0 z1 z2 := rfl
  have e2 : f61 a0_0 a0_1 a0_2 a0_3 a0_4 a0_5 a0_6 a0_7 a0_8 a0_9 a0_10 a0_11 a0_12 a0_13 a0_14 a0_15 a0_16 a0_17 a0_18 a0_19 a0_20 a0_21 a0_22 a0_23 a0_24 a0_25 a0_26 a0_27 a0_28 a1_0 a1_1 a1_2 a1_3 a1_4 a1_5 a1_6 a1_7 a1_8 a1_9 a1_10 a1_11 a1_12 a1_13 a1_14 a1_15 a1_16 a1_17 a1_18 a1_19 T 1 z0 z1 z2 = f61p1 a0_0 a0_1 a0_2 a0_3 a0_4 a0_5 a0_6 a0_7 a0_8 a0_9 a0_10 a0_11 a0_12 a0_13 a0_14 a0_15 a0_16 a0_17 a0_18 a0_19 a0_20 a0_21 a0_22 a0_23 a0_24 a0_25 a0_26 a0_27 a0_28 a1_0 a1_1 a1_2 a1_3 a1_4 a1_5 a1_6 a1_7 a1_8 a1_9 a1_10 a1_11 a1_12 a1_13 a1_14 a1_15 a1_16 a1_17 a1_18 a1_19 T z0 z1 z2 := rfl
  have hn : decide (a0_1 ≥ 1099511627776) = (a0_1 == 1099511627776) := by
    rw [Bool.eq_iff_iff]; simp; omega
  have ho : decide (a0_2 ≥ 1099511627776) = (a0_2 == 1099511627776) := by
    rw [Bool.eq_iff_iff]; simp; omega
  rw [e1, e2]; unfold f66p1 f61p1
  simp only [f123_is, f67_is, hn, ho]
theorem f66_2 (a0_0 : Int) (a0_1 : Int) (a0_2 : Int) (a0_3 : Int) (a0_4 : Int) (a0_5 : Int) (a0_6 : Int) (a0_7 : Int) (a0_8 : Int) (a0_9 : Int) (a0_10 : Bool) (a0_11 : Int) (a0_12 : Int) (a0_13 : Int) (a0_14 : Int) (a0_15 : Int) (a0_16 : Bool) (a0_17 : Int) (a0_18 : Int) (a0_19 : Int) (a0_20 : Int) (a0_21 : Int) (a0_22 : Bool) (a0_23 : Int) (a0_24 : Int) (a0_25 : Int) (a0_26 : Int) (a0_27 : Int) (a0_28 : Bool) (a1_0 a1_1 a1_2 a1_3 a1_4 a1_5 a1_6 a1_7 a1_8 a1_9 a1_10 a1_11 a1_12 a1_13 a1_14 a1_15 a1_16 a1_17 a1_18 a1_19 : Int) (T z0 z1 z2 : Int) (hs : f26 a0_0 a0_1 a0_2 a0_3 a0_4 a0_5 a0_6 a0_7 a0_8 a0_9 a0_10 a0_11 a0_12 a0_13 a0_14 a0_15 a0_16 a0_17 a0_18 a0_19 a0_20 a0_21 a0_22 a0_23 a0_24 a0_25 a0_26 a0_27 a0_28 = true) : f66 a0_0 a0_1 a0_2 a0_3 a0_4 a0_5 a0_6 a0_7 a0_8 a0_9 a0_10 a0_11 a0_12 a0_13 a0_14 a0_15 a0_16 a0_17 a0_18 a0_19 a0_20 a0_21 a0_22 a0_23 a0_24 a0_25 a0_26 a0_27 a0_28 a1_0 a1_1 a1_2 a1_3 a1_4 a1_5 a1_6 a1_7 a1_8 a1_9 a1_10 a1_11 a1_12 a1_13 a1_14 a1_15 a1_16 a1_17 a1_18 a1_19 T 2 z0 z1 z2 = (f61 a0_0 a0_1 a0_2 a0_3 a0_4 a0_5 a0_6 a0_7 a0_8 a0_9 a0_10 a0_11 a0_12 a0_13 a0_14 a0_15 a0_16 a0_17 a0_18 a0_19 a0_20 a0_21 a0_22 a0_23 a0_24 a0_25 a0_26 a0_27 a0_28 a1_0 a1_1 a1_2 a1_3 a1_4 a1_5 a1_6 a1_7 a1_8 a1_9 a1_10 a1_11 a1_12 a1_13 a1_14 a1_15 a1_16 a1_17 a1_18 a1_19 T 2 z0 z1 z2).snd.snd.snd := by
  obtain ⟨-, ⟨n0, n1⟩, ⟨o0, o1⟩, -⟩ := (f26_iff a0_0 a0_1 a0_2 a0_3 a0_4 a0_5 a0_6 a0_7 a0_8 a0_9 a0_10 a0_11 a0_12 a0_13 a0_14 a0_15 a0_16 a0_17 a0_18 a0_19 a0_20 a0_21 a0_22 a0_23 a0_24 a0_25 a0_26 a0_27 a0_28).1 hs
  have e1 : f66 a0_0 a0_1 a0_2 a0_3 a0_4 a0_5 a0_6 a0_7 a0_8 a0_9 a0_10 a0_11 a0_12 a0_13 a0_14 a0_15 a0_16 a0_17 a0_18 a0_19 a0_20 a0_21 a0_22 a0_23 a0_24 a0_25 a0_26 a0_27 a0_28 a1_0 a1_1 a1_2 a1_3 a1_4 a1_5 a1_6 a1_7 a1_8 a1_9 a1_10 a1_11 a1_12 a1_13 a1_14 a1_15 a1_16 a1_17 a1_18 a1_19 T 2 z0 z1 z2 = f66p2 a0_0 a0_1 a0_2 a0_3 a0_4 a0_5 a0_6 a0_7 a0_8 a0_9 a0_10 a0_11 a0_12 a0_13 a0_14 a0_15 a0_16 a0_17 a0_18 a0_19 a0_20 a0_21 a0_22 a0_23 a0_24 a0_25 a0_26 a0_27 a0_28 a1_0 a1_1 a1_2 a1_3 a1_4 a1_5 a1_6 a1_7 a1_8 a1_9 a1_10 a1_11 a1_12 a1_13 a1_14 a1_15 a1_16 a1_17 a1_18 a1_19 T z0 z1 z2 := rfl
  have e2 : f61 a0_0 a0_1 a0_2 a0_3 a0_4 a0_5 a0_6 a0_7 a0_8 a0_9 a0_10 a0_11 a0_12 a0_13 a0_14 a0_15 a0_16 a0_17 a0_18 a0_19 a0_20 a0_21 a0_22 a0_23 a0_24 a0_25 a0_26 a0_27 a0_28 a1_0 a1_1 a1_2 a1_3 a1_4 a1_5 a1_6 a1_7 a1_8 a1_9 a1_10 a1_11 a1_12 a1_13 a1_14 a1_15 a1_16 a1_17 a1_18 a1_19 T 2 z0 z1 z2 = f61p2 a0_0 a0_1 a0_2 a0_3 a0_4 a0_5 a0_6 a0_7 a0_8 a0_9 a0_10 a0_11 a0_12 a0_13 a0_14 a0_15 a0_16 a0_17 a0_18 a0_19 a0_20 a0_21 a0_22 a0_23 a0_24 a0_25 a0_26 a0_27 a0_28 a1_0 a1_1 a1_2 a1_3 a1_4 a1_5 a1_6 a1_7 a1_8 a1_9 a1_10 a1_11 a1_12 a1_13 a1_14 a1_15 a1_16 a1_17 a1_18 a1_19 T z0 z1 z2 := rfl
  have hn : decide (a0_1 ≥ 1099511627776) = (a0_1 == 1099511627776) := by
    rw [Bool.eq_iff_iff]; simp; omega
  have ho : decide (a0_2 ≥ 1099511627776) = (a0_2 == 1099511627776) := by
    rw [Bool.eq_iff_iff]; simp; omega
  rw [e1, e2]; unfold f66p2 f61p2
  simp only [f123_is, f67_is, hn, ho]
theorem f66_3 (a0_0 : Int) (a0_1 : Int) (a0_2 : Int) (a0_3 : Int) (a0_4 : Int) (a0_5 : Int) (a0_6 : Int) (a0_7 : Int) (a0_8 : Int) (a0_9 : Int) (a0_10 : Bool) (a0_11 : Int) (a0_12 : Int) (a0_13 : Int) (a0_14 : Int) (a0_15 : Int) (a0_16 : Bool) (a0_17 : Int) (a0_18 : Int) (a0_19 : Int) (a0_20 : Int) (a0_21 : Int) (a0_22 : Bool) (a0_23 : Int) (a0_24 : Int) (a0_25 : Int) (a0_26 : Int) (a0_27 : Int) (a0_28 : Bool) (a1_0 a1_1 a1_2 a1_3 a1_4 a1_5 a1_6 a1_7 a1_8 a1_9 a1_10 a1_11 a1_12 a1_13 a1_14 a1_15 a1_16 a1_17 a1_18 a1_19 : Int) (T z0 z1 z2 : Int) (hs : f26 a0_0 a0_1 a0_2 a0_3 a0_4 a0_5 a0_6 a0_7 a0_8 a0_9 a0_10 a0_11 a0_12 a0_13 a0_14 a0_15 a0_16 a0_17 a0_18 a0_19 a0_20 a0_21 a0_22 a0_23 a0_24 a0_25 a0_26 a0_27 a0_28 = true) : f66 a0_0 a0_1 a0_2 a0_3 a0_4 a0_5 a0_6 a0_7 a0_8 a0_9 a0_10 a0_11 a0_12 a0_13 a0_14 a0_15 a0_16 a0_17 a0_18 a0_19 a0_20 a0_21 a0_22 a0_23 a0_24 a0_25 a0_26 a0_27 a0_28 a1_0 a1_1 a1_2 a1_3 a1_4 a1_5 a1_6 a1_7 a1_8 a1_9 a1_10 a1_11 a1_12 a1_13 a1_14 a1_15 a1_16 a1_17 a1_18 a1_19 T 3 z0 z1 z2 = (f61 a0_0 a0_1 a0_2 a0_3 a0_4 a0_5 a0_6 a0_7 a0_8 a0_9 a0_10 a0_11 a0_12 a0_13 a0_14 a0_15 a0_16 a0_17 a0_18 a0_19 a0_20 a0_21 a0_22 a0_23 a0_24 a0_25 a0_26 a0_27 a0_28 a1_0 a1_1 a1_2 a1_3 a1_4 a1_5 a1_6 a1_7 a1_8 a1_9 a1_10 a1_11 a1_12 a1_13 a1_14 a1_15 a1_16 a1_17 a1_18 a1_19 T 3 z0 z1 z2).snd.snd.snd := by
  obtain ⟨-, ⟨n0, n1⟩, ⟨o0, o1⟩, -⟩ := (f26_iff a0_0 a0_1 a0_2 a0_3 a0_4 a0_5 a0_6 a0_7 a0_8 a0_9 a0_10 a0_11 a0_12 a0_13 a0_14 a0_15 a0_16 a0_17 a0_18 a0_19 a0_20 a0_21 a0_22 a0_23 a0_24 a0_25 a0_26 a0_27 a0_28).1 hs
  have e1 : f66 a0_0 a0_1 a0_2 a0_3 a0_4 a0_5 a0_6 a0_7 a0_8 a0_9 a0_10 a0_11 a0_12 a0_13 a0_14 a0_15 a0_16 a0_17 a0_18 a0_19 a0_20 a0_21 a0_22 a0_23 a0_24 a0_25 a0_26 a0_27 a0_28 a1_0 a1_1 a1_2 a1_3 a1_4 a1_5 a1_6 a1_7 a1_8 a1_9 a1_10 a1_11 a1_12 a1_13 a1_14 a1_15 a1_16 a1_17 a1_18 a1_19 T 3 z0 z1 z2 = f66p3 a0_0 a0_1 a0_2 a0_3 a0_4 a0_5 a0_6 a0_7 a0_8 a0_9 a0_10 a0_11 a0_12 a0_13 a0_14 a0_15 a0_16 a0_17 a0_18 a0_19 a0_20 a0_21 a0_22 a0_23 a0_24 a0_25 a0_26 a0_27 a0_28 a1_0 a1_1 a1_2 a1_3 a1_4 a1_5 a1_6 a1_7 a1_8 a1_9 a1_10 a1_11 a1_12 a1_13 a1_14 a1_15 a1_16 a1_17 a1_18 a1_19 T z0 z1 z2 := rfl
  have e2 : f61 a0_0 a0_1 a0_2 a0_3 a0_4 a0_5 a0_6 a0_7 a0_8 a0_9 a0_10 a0_11 a0_12 a0_13 a0_14 a0_15 a0_16 a0_17 a0_18 a0_19 a0_20 a0_21 a0_22 a0_23 a0_24 a0_25 a0_26 a0_27 a0_28 a1_0 a1_1 a1_2 a1_3 a1_4 a1_5 a1_6 a1_7 a1_8 a1_9 a1_10 a1_11 a1_12 a1_13 a1_14 a1_15 a1_16 a1_17 a1_18 a1_19 T 3 z0 z1 z2 = f61p3 a0_0 a0_1 a0_2 a0_3 a0_4 a0_5 a0_6 a0_7 a0_8 a0_9 a0_10 a0_11 a0_12 a0_13 a0_14 a0_15 a0_16 a0_17 a0_18 a0_19 a0_20 a0_21 a0_22 a0_23 a0_24 a0_25 a0_26 a0_27 a0_28 a1_0 a1_1 a1_2 a1_3 a1_4 a1_5 a1_6 a1_7 a1_8 a1_9 a1_10 a1_11 a1_12 a1_13 a1_14 a1_15 a1_16 a1_17 a1_18 a1_19 T z0 z1 z2 := rfl
  have hn : decide (a0_1 ≥ 1099511627776) = (a0_1 == 1099511627776) := by
    rw [Bool.eq_iff_iff]; simp; omega
  have ho : decide (a0_2 ≥ 1099511627776) = (a0_2 == 1099511627776) := by
    rw [Bool.eq_iff_iff]; simp; omega
  rw [e1, e2]; unfold f66p3 f61p3
  simp only [f123_is, f67_is, hn, ho]
end Go.Proofs.YtmnglkcodbecbaaGreat
