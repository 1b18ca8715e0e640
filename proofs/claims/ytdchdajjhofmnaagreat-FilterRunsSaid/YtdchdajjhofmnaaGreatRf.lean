/- The references of a turn are what they are references of. The references of an axis, of a calibration and of the filter are what they are references of. The references of the filter's parts are what they are references of. -/
import Derived.Test.YtdchdajjhofmnaaGreatT1
import Derived.Test.YtdchdajjhofmnaaGreatA7
import Derived.Test.YtdchdajjhofmnaaGreatGm
import Derived.Test.YtdchdajjhofmnaaGreatKf
namespace Go.Proofs.YtdchdajjhofmnaaGreat
open Go Go.Sx
theorem ref_q (a b : Int) : f225 (f99 a).fst (f99 b).fst = f259 a b := by rw [f99_eq, f99_eq, f225_eq, f259_eq, cl_cl, cl_cl]
theorem or3 (p q r : Bool) : (p || q || r) = (r || p || q) := by cases p <;> cases q <;> cases r <;> rfl
theorem f166_is (a b : Int) : f166 a b = f204 a b := by
 unfold f166 f204
 simp only [f182_is]
 exact Prod.ext rfl (or3 _ _ _)
theorem f108_is (a b c d e f : Int) : f108 a b c d e f = f152 a b c d e f := by unfold f108 f152; simp only [f166_is]
theorem f162_is (a b c d : Int) : f162 a b c d = f197 a b c d := by unfold f162 f197; simp only [f179_eq]
theorem addF_is (a b c d : Int) : addF (a, b) (c, d) = ((f284 a b c d).fst, (f284 a b c d).snd.fst) := rfl
theorem add2 (x y : Int × Int) : addL [(x.fst, x.snd), (y.fst, y.snd)] = ((f284 (f284 0 0 x.fst x.snd).fst (f284 0 0 x.fst x.snd).snd.fst y.fst y.snd).fst, (f284 (f284 0 0 x.fst x.snd).fst (f284 0 0 x.fst x.snd).snd.fst y.fst y.snd).snd.fst) := by
 simp only [addL, List.foldl_cons, List.foldl_nil, addF_is]
theorem add3 (x y z : Int × Int) : addL [(x.fst, x.snd), (y.fst, y.snd), (z.fst, z.snd)] =
  ((f284 (f284 (f284 0 0 x.fst x.snd).fst (f284 0 0 x.fst x.snd).snd.fst y.fst y.snd).fst (f284 (f284 0 0 x.fst x.snd).fst (f284 0 0 x.fst x.snd).snd.fst y.fst y.snd).snd.fst z.fst z.snd).fst,
   (f284 (f284 (f284 0 0 x.fst x.snd).fst (f284 0 0 x.fst x.snd).snd.fst y.fst y.snd).fst (f284 (f284 0 0 x.fst x.snd).fst (f284 0 0 x.fst x.snd).snd.fst y.fst y.snd).snd.fst z.fst z.snd).snd.fst) := by
 simp only [addL, List.foldl_cons, List.foldl_nil, addF_is]
theorem bool84 (a b c d e x : Bool) : (d || (a || b || (c || e) || x)) = (d || (x || anyB [a, b] || anyB [c, e])) := by
 cases a <;> cases b <;> cases c <;> cases d <;> cases e <;> cases x <;> rfl
theorem bool47 (a b c x : Bool) : (a || b || c || x) = (x || anyB [a, b, c]) := by
 cases a <;> cases b <;> cases c <;> cases x <;> rfl
theorem f268_is (a : Int) : f268 a = f256 a := by rw [f268_eq, f256_eq]
theorem f223_is (a b c d : Int) : f223 a b c d = ((f258 (addL [((f259 a c).fst, (f259 a c).snd), ((f259 b (f256 d)).fst, (f259 b (f256 d)).snd)]).fst (addL [((f259 a c).fst, (f259 a c).snd), ((f259 b (f256 d)).fst, (f259 b (f256 d)).snd)]).snd).fst,
  (f99 d).snd || ((f258 (addL [((f259 a c).fst, (f259 a c).snd), ((f259 b (f256 d)).fst, (f259 b (f256 d)).snd)]).fst (addL [((f259 a c).fst, (f259 a c).snd), ((f259 b (f256 d)).fst, (f259 b (f256 d)).snd)]).snd).snd || anyB [(f99 a).snd, (f99 b).snd] || anyB [(f99 c).snd, (f99 (f256 d)).snd])) := by
 unfold f223
 simp only [f268_is, f182_is, ref_q, f276_is, f226_eq, add2]
 exact Prod.ext rfl (bool84 _ _ _ _ _ _)
theorem f175_is (a b c d e f : Int) : f175 a b c d e f = f265 a b c d e f := by
 unfold f175 f265
 simp only [f223_is]
theorem f221_is (a b c : Int) : f221 a b c = f310 a b c := by
 have p0 := pb a a; have p1 := pb b b; have p2 := pb c c
 have q0 := sq_nn (cl a); have q1 := sq_nn (cl b); have q2 := sq_nn (cl c)
 have hs : addL [((f259 a a).fst, (f259 a a).snd), ((f259 b b).fst, (f259 b b).snd), ((f259 c c).fst, (f259 c c).snd)] = wd (cl a * cl a + cl b * cl b + cl c * cl c) := by
  rw [f259_eq, f259_eq, f259_eq, addL_three p0.1 p0.2 p1.1 p1.2 p2.1 p2.2]
 have hr := f224_nn (v := cl a * cl a + cl b * cl b + cl c * cl c) (by omega) (by omega)
 rw [← hs] at hr
 unfold f221 f310
 rw [add3] at hr
 simp only [f182_is, ref_q, f276_is, add3, hr]
 exact Prod.ext rfl (bool47 _ _ _ _)
theorem f174_is (a b c : Int) : f174 a b c = f264 a b c := by
 unfold f174 f264
 simp only [f221_is, f222_eq, Bool.or_assoc]
theorem f172_is (a b c : Int) : f172 a b c = !((f99 a).snd || ((f99 b).snd || (f99 c).snd)) := by
 unfold f172 f218
 simp only [f182_is]
 cases (f99 a).snd <;> cases (f99 b).snd <;> cases (f99 c).snd <;> rfl
theorem bool14 (a b c d : Bool) : (a && b && c && d) = (b && c && d && a) := by cases a <;> cases b <;> cases c <;> cases d <;> rfl
theorem f14_is (q0 q1 q2 q3 w0 w1 w2 : Int) (b : Bool) : f14 q0 q1 q2 q3 w0 w1 w2 b = f13 q0 q1 q2 q3 w0 w1 w2 b := by
 rw [f13_is]
 unfold f14
 simp only [f172_is, f183_is]
 exact bool14 _ _ _ _
theorem f63_is : f63 = f52 := rfl
theorem f171_is (q0 q1 q2 q3 w0 w1 w2 : Int) (b : Bool) : f171 q0 q1 q2 q3 w0 w1 w2 b = f305 q0 q1 q2 q3 w0 w1 w2 b := by
 unfold f171 f305
 simp only [f14_is]
 generalize f13 q0 q1 q2 q3 w0 w1 w2 b = s
 cases s <;> rfl
theorem f176_is (q0 q1 q2 q3 w0 w1 w2 : Int) (b : Bool) : f176 q0 q1 q2 q3 w0 w1 w2 b = f266 q0 q1 q2 q3 w0 w1 w2 b := by
 unfold f176 f266
 simp only [f171_is, f165_is, f107_is]
theorem f110_is (q0 q1 q2 q3 w0 w1 w2 : Int) (b : Bool) (v0 v1 v2 dt : Int) : f110 q0 q1 q2 q3 w0 w1 w2 b v0 v1 v2 dt = f208 q0 q1 q2 q3 w0 w1 w2 b v0 v1 v2 dt := by
 have hg := first_any3 (f99 v0).snd (f99 v1).snd (f99 v2).snd
 unfold f110 f208
 simp only [f171_is, f108_is, f162_is, f173, f219_is, f164_is, f220_is, f172_is]
 generalize decide ((bif (f99 v0).snd then (0 : Int) else bif (f99 v1).snd then IntKind.i64.wrap (0 + 1) else bif (f99 v2).snd then IntKind.i64.wrap (IntKind.i64.wrap (0 + 1) + 1) else -1) ≥ 0) = y at hg ⊢
 subst hg
 rfl
theorem bool22 (x c d e a b f g : Bool) : (x || c || d || e || a || b || f || g) = (x || a || b || f || g || c || d || e) := by
 cases x <;> cases c <;> cases d <;> cases e <;> cases a <;> cases b <;> cases f <;> cases g <;> rfl
theorem f111_is (q0 q1 q2 q3 w0 w1 w2 : Int) (b : Bool) (v0 v1 v2 dt : Int) : f111 q0 q1 q2 q3 w0 w1 w2 b v0 v1 v2 dt = f209 q0 q1 q2 q3 w0 w1 w2 b v0 v1 v2 dt := by
 have hg := first_any3 (f99 v0).snd (f99 v1).snd (f99 v2).snd
 unfold f111 f209
 simp only [f171_is, f108_is, f162_is, f173, f219_is, f164_is, f220_is, f172_is, f174_is, f175_is, f176_is]
 generalize decide ((bif (f99 v0).snd then (0 : Int) else bif (f99 v1).snd then IntKind.i64.wrap (0 + 1) else bif (f99 v2).snd then IntKind.i64.wrap (IntKind.i64.wrap (0 + 1) + 1) else -1) ≥ 0) = y at hg ⊢
 subst hg
 rw [bool22]
end Go.Proofs.YtdchdajjhofmnaaGreat
namespace Go.Proofs.YtdchdajjhofmnaaGreat
open Go Go.Sx
set_option linter.unusedVariables false
set_option linter.unusedSimpArgs false
set_option linter.constructorNameAsVariable false
set_option maxRecDepth 100000
set_option maxHeartbeats 8000000
theorem f115_is (a : Int) : f115 a = f138 a := by unfold f115 f138; rw [f182_is]
theorem f217_is (a b : Int) : f217 a b = f207 a b := by
 unfold f217 f207; simp only [f182_is, f99_eq, show ∀ x, f257 x = cl x from fun _ => rfl]
 refine Prod.ext rfl ?_
 simp only
 exact or3 _ _ _
theorem f178_is (a : Int) : f178 a = f315 a := by
 unfold f178 f315
 simp only [f182_is, f99_eq]
 rw [f225_eq, f259_eq, cl_cl, cl_in (n := 4294967296) (by omega) (by omega)]
 have h0 := cl_lo a; have h1 := cl_hi a
 have h : f224 (wd (cl a * 4294967296)).1 (wd (cl a * 4294967296)).2 = f231 (wd (cl a * 4294967296)).1 (wd (cl a * 4294967296)).2 := by
  rcases Int.lt_or_le (cl a * 4294967296) 0 with c | c
  ·obtain ⟨e1, e2⟩ := f224_neg (v := cl a * 4294967296) (by omega) c
   rw [e1, e2]
  ·exact f224_nn c (by omega)
 rw [h]
theorem f180_is (a : Int) : f180 a = f303 a := by rw [f180_eq, f303_eq]
theorem f127_is (P V PP PV VV : Int) (b : Bool) : f127 P V PP PV VV b = f91 P V PP PV VV b := by
 unfold f127 f91 f139; simp only [f115_is, Bool.and_assoc]
theorem kp_swap (n : Int) : mnI (mxI n 4096) 4503599627370496 = mxI 4096 (mnI n 4503599627370496) := by
 unfold mxI mnI; split <;> split <;> split <;> (try split) <;> omega
theorem f167_sane {P V PP PV VV : Int} {b : Bool} (h : f91 P V PP PV VV b = true) : f167 P V PP PV VV b = (P, V, PP, PV, VV, b) := by
 unfold f167; rw [f127_is, h]; rfl
theorem f167_in {P V PP PV VV : Int} {b : Bool} (h : f91 P V PP PV VV b = false) : f167 P V PP PV VV b = (0, 0, 17592186044416, 0, 17592186044416, true) := by
 unfold f167; rw [f127_is, h]; rfl
theorem f53_z : f53 0 0 = (0, 0, 17592186044416, 0, 17592186044416, false) := by kernel_rfl
theorem f109_is (P V PP PV VV : Int) (b : Bool) (a dt q : Int) : f109 P V PP PV VV b a dt q = f103 P V PP PV VV b a dt q := by
 unfold f109 f103
 simp only [f179_eq, f217_is, f115_is, kp_swap]
 generalize (!f138 a || decide (dt < 0) || decide (dt > 1099511627776) || decide (q < 0) || decide (q > 1099511627776)) = G
 cases h : f91 P V PP PV VV b
 ·simp only [f167_in h, f53_z, Bool.not_false, cond_true, Bool.true_or, Bool.or_true]
 ·simp only [f167_sane h, Bool.not_true, cond_false, Bool.false_or]
  refine Prod.ext rfl (Prod.ext rfl (Prod.ext rfl (Prod.ext rfl (Prod.ext rfl ?_))))
  simp only [Bool.or_assoc]
  congr 1; congr 1
  ac_rfl
theorem f113_is (P V PP PV VV : Int) (b : Bool) (z r g : Int) : f113 P V PP PV VV b z r g = f267 P V PP PV VV b z r g := by
 have hG : (!f138 z || decide (r < 4096) || decide (r > 4503599627370496) || decide (g < 0) || decide (g > 1099511627776)) = (!f138 z || !f139 r || decide (g < 0) || decide (g > 1099511627776)) := by
  have h134 : f139 r = true ↔ 4096 ≤ r ∧ r ≤ 4503599627370496 := by unfold f139; simp
  cases h : f139 r
  ·have : ¬ (4096 ≤ r ∧ r ≤ 4503599627370496) := fun hh => by rw [h134.2 hh] at h; cases h
   have h2 : (decide (r < 4096) || decide (r > 4503599627370496)) = true := by simp; omega
   rw [Bool.or_assoc (!f138 z), h2]; rfl
  ·have := h134.1 h
   rw [decide_eq_false (show ¬ r < 4096 by omega), decide_eq_false (show ¬ r > 4503599627370496 by omega)]; simp
 unfold f113 f267
 simp only [f179_eq, f217_is, f166_is, f222_eq, f178_is, f115_is, f180_is, kp_swap, hG]
 generalize (!f138 z || !f139 r || decide (g < 0) || decide (g > 1099511627776)) = G
 cases h : f91 P V PP PV VV b
 ·simp only [f167_in h, f53_z, Bool.not_false, cond_true, Bool.true_or]
  refine Prod.ext rfl (Prod.ext rfl (Prod.ext rfl (Prod.ext rfl (Prod.ext rfl (Prod.ext ?_ rfl)))))
  simp only
  cases G
  ·cases (decide ((f303 (f204 z 0).fst) > (f206 g (f315 (f207 17592186044416 r).fst).fst).fst)) <;> rfl
  ·rfl
 ·simp only [f167_sane h, Bool.not_true, cond_false, Bool.false_or]
theorem f125_is (T S a b c : Int) : f125 T S a b c = f49 T S a b c := by
 unfold f125 f49
 rw [show decide (S ≤ 3) = decide (S < 4) from decide_eq_decide.2 ⟨fun h => by omega, fun h => by omega⟩]
theorem bool200 (a b c : Bool) : (!decide ((bif !a then (0 : Int) else bif !b then IntKind.i64.wrap (0 + 1) else bif !c then IntKind.i64.wrap (IntKind.i64.wrap (0 + 1) + 1) else -1) ≥ 0)) = (a && b && c) := by
 rw [first_any3]; cases a <;> cases b <;> cases c <;> rfl
theorem f163_is (a b c g m : Int) : f163 a b c g m = f198 a b c g m := by
 have h201 : ∀ x, f212 x = f248 x := fun x => by unfold f212 f248; rw [f182_is]
 have h200 : f211 a b c = f247 a b c := by
  unfold f211 f247
  simp only [h201]
  exact (bool200 _ _ _).symm
 unfold f163 f198
 rw [h200, h201, h201, show decide (g ≥ 1) = decide (g > 0) from decide_eq_decide.2 ⟨fun h => by omega, fun h => by omega⟩]
theorem f106_is (a b c g m x y z : Int) : f106 a b c g m x y z = f150 a b c g m x y z := by
 unfold f106 f150 f199
 simp only [f108_is, f162_is, f163_is, first_any3]
 generalize f197 (f152 x y z a b c).fst (f152 x y z a b c).snd.fst (f152 x y z a b c).snd.snd.fst g = R
 generalize (!f198 a b c g m || (f152 x y z a b c).snd.snd.snd || R.snd.snd.snd) = A
 generalize (decide (R.fst > m) || decide (R.fst < IntKind.i64.wrap (0 - m))) = B
 generalize (decide (R.snd.fst > m) || decide (R.snd.fst < IntKind.i64.wrap (0 - m))) = C
 generalize (decide (R.snd.snd.fst > m) || decide (R.snd.snd.fst < IntKind.i64.wrap (0 - m))) = D
 cases A <;> cases B <;> cases C <;> cases D <;> rfl
end Go.Proofs.YtdchdajjhofmnaaGreat
namespace Go.Proofs.YtdchdajjhofmnaaGreat
open Go Go.Sx
set_option linter.unusedVariables false
set_option linter.unusedSimpArgs false
set_option linter.constructorNameAsVariable false
set_option maxRecDepth 100000
set_option maxHeartbeats 8000000
theorem f78_is (I0 I1 I2 I3 I4 I5 I6 I7 I8 I9 : Int) (I10 : Bool) (I11 I12 I13 I14 I15 : Int) (I16 : Bool) (I17 I18 I19 I20 I21 : Int) (I22 : Bool) (I23 I24 I25 I26 I27 : Int) (I28 : Bool) : f78 I0 I1 I2 I3 I4 I5 I6 I7 I8 I9 I10 I11 I12 I13 I14 I15 I16 I17 I18 I19 I20 I21 I22 I23 I24 I25 I26 I27 I28 = f44 I0 I1 I2 I3 I4 I5 I6 I7 I8 I9 I10 I11 I12 I13 I14 I15 I16 I17 I18 I19 I20 I21 I22 I23 I24 I25 I26 I27 I28 := by
 rw [Bool.eq_iff_iff, f44_iff]; unfold f78
 simp only [f127_is, f14_is, Bool.not_not, Bool.and_eq_true, decide_eq_true_eq, ge_iff_le]
 exact ⟨fun ⟨a, b, c, ⟨⟨⟨⟨⟨t0, t1⟩, n0⟩, n1⟩, o0⟩, o1⟩, q⟩ => ⟨⟨t0, t1⟩, ⟨n0, n1⟩, ⟨o0, o1⟩, q, a, b, c⟩, fun ⟨⟨t0, t1⟩, ⟨n0, n1⟩, ⟨o0, o1⟩, q, a, b, c⟩ => ⟨a, b, c, ⟨⟨⟨⟨⟨t0, t1⟩, n0⟩, n1⟩, o0⟩, o1⟩, q⟩⟩
theorem f22_is : f22 = f17 := by kernel_rfl
theorem f60_is (I0 I1 I2 I3 I4 I5 I6 I7 I8 I9 : Int) (I10 : Bool) (I11 I12 I13 I14 I15 : Int) (I16 : Bool) (I17 I18 I19 I20 I21 : Int) (I22 : Bool) (I23 I24 I25 I26 I27 : Int) (I28 : Bool) : f60 I0 I1 I2 I3 I4 I5 I6 I7 I8 I9 I10 I11 I12 I13 I14 I15 I16 I17 I18 I19 I20 I21 I22 I23 I24 I25 I26 I27 I28 = f54 I0 I1 I2 I3 I4 I5 I6 I7 I8 I9 I10 I11 I12 I13 I14 I15 I16 I17 I18 I19 I20 I21 I22 I23 I24 I25 I26 I27 I28 := by
 unfold f60 f54; simp only [f78_is, f22_is]
 cases f44 I0 I1 I2 I3 I4 I5 I6 I7 I8 I9 I10 I11 I12 I13 I14 I15 I16 I17 I18 I19 I20 I21 I22 I23 I24 I25 I26 I27 I28 <;> rfl
theorem f66_0 (I0 I1 I2 I3 I4 I5 I6 I7 I8 I9 : Int) (I10 : Bool) (I11 I12 I13 I14 I15 : Int) (I16 : Bool) (I17 I18 I19 I20 I21 : Int) (I22 : Bool) (I23 I24 I25 I26 I27 : Int) (I28 : Bool) (Z0 Z1 Z2 Z3 Z4 Z5 Z6 Z7 Z8 Z9 Z10 Z11 Z12 Z13 Z14 Z15 Z16 Z17 Z18 Z19 : Int) (T z0 z1 z2 : Int) (hs : f44 I0 I1 I2 I3 I4 I5 I6 I7 I8 I9 I10 I11 I12 I13 I14 I15 I16 I17 I18 I19 I20 I21 I22 I23 I24 I25 I26 I27 I28 = true) : f105 I0 I1 I2 I3 I4 I5 I6 I7 I8 I9 I10 I11 I12 I13 I14 I15 I16 I17 I18 I19 I20 I21 I22 I23 I24 I25 I26 I27 I28 Z0 Z1 Z2 Z3 Z4 Z5 Z6 Z7 Z8 Z9 Z10 Z11 Z12 Z13 Z14 Z15 Z16 Z17 Z18 Z19 T 0 z0 z1 z2 = (f101 I0 I1 I2 I3 I4 I5 I6 I7 I8 I9 I10 I11 I12 I13 I14 I15 I16 I17 I18 I19 I20 I21 I22 I23 I24 I25 I26 I27 I28 Z0 Z1 Z2 Z3 Z4 Z5 Z6 Z7 Z8 Z9 Z10 Z11 Z12 Z13 Z14 Z15 Z16 Z17 Z18 Z19 T 0 z0 z1 z2).snd.snd.snd := by
 obtain ⟨-, ⟨n0, n1⟩, ⟨o0, o1⟩, -⟩ := (f44_iff I0 I1 I2 I3 I4 I5 I6 I7 I8 I9 I10 I11 I12 I13 I14 I15 I16 I17 I18 I19 I20 I21 I22 I23 I24 I25 I26 I27 I28).1 hs
 have e1 : f105 I0 I1 I2 I3 I4 I5 I6 I7 I8 I9 I10 I11 I12 I13 I14 I15 I16 I17 I18 I19 I20 I21 I22 I23 I24 I25 I26 I27 I28 Z0 Z1 Z2 Z3 Z4 Z5 Z6 Z7 Z8 Z9 Z10 Z11 Z12 Z13 Z14 Z15 Z16 Z17 Z18 Z19 T 0 z0 z1 z2 = f66p0 I0 I1 I2 I3 I4 I5 I6 I7 I8 I9 I10 I11 I12 I13 I14 I15 I16 I17 I18 I19 I20 I21 I22 I23 I24 I25 I26 I27 I28 Z0 Z1 Z2 Z3 Z4 Z5 Z6 Z7 Z8 Z9 Z10 Z11 Z12 Z13 Z14 Z15 Z16 Z17 Z18 Z19 T z0 z1 z2 := rfl
 have e2 : f101 I0 I1 I2 I3 I4 I5 I6 I7 I8 I9 I10 I11 I12 I13 I14 I15 I16 I17 I18 I19 I20 I21 I22 I23 I24 I25 I26 I27 I28 Z0 Z1 Z2 Z3 Z4 Z5 Z6 Z7 Z8 Z9 Z10 Z11 Z12 Z13 Z14 Z15 Z16 Z17 Z18 Z19 T 0 z0 z1 z2 = f61p0 I0 I1 I2 I3 I4 I5 I6 I7 I8 I9 I10 I11 I12 I13 I14 I15 I16 I17 I18 I19 I20 I21 I22 I23 I24 I25 I26 I27 I28 Z0 Z1 Z2 Z3 Z4 Z5 Z6 Z7 Z8 Z9 Z10 Z11 Z12 Z13 Z14 Z15 Z16 Z17 Z18 Z19 T z0 z1 z2 := rfl
 have hn : decide (I1 ≥ 1099511627776) = (I1 == 1099511627776) := by
  rw [Bool.eq_iff_iff]; simp; omega
 have ho : decide (I2 ≥ 1099511627776) = (I2 == 1099511627776) := by
  rw [Bool.eq_iff_iff]; simp; omega
 rw [e1, e2]; unfold f66p0 f61p0
 simp only [f125_is, f106_is, hn, ho]
theorem f66_1 (I0 I1 I2 I3 I4 I5 I6 I7 I8 I9 : Int) (I10 : Bool) (I11 I12 I13 I14 I15 : Int) (I16 : Bool) (I17 I18 I19 I20 I21 : Int) (I22 : Bool) (I23 I24 I25 I26 I27 : Int) (I28 : Bool) (Z0 Z1 Z2 Z3 Z4 Z5 Z6 Z7 Z8 Z9 Z10 Z11 Z12 Z13 Z14 Z15 Z16 Z17 Z18 Z19 : Int) (T z0 z1 z2 : Int) (hs : f44 I0 I1 I2 I3 I4 I5 I6 I7 I8 I9 I10 I11 I12 I13 I14 I15 I16 I17 I18 I19 I20 I21 I22 I23 I24 I25 I26 I27 I28 = true) : f105 I0 I1 I2 I3 I4 I5 I6 I7 I8 I9 I10 I11 I12 I13 I14 I15 I16 I17 I18 I19 I20 I21 I22 I23 I24 I25 I26 I27 I28 Z0 Z1 Z2 Z3 Z4 Z5 Z6 Z7 Z8 Z9 Z10 Z11 Z12 Z13 Z14 Z15 Z16 Z17 Z18 Z19 T 1 z0 z1 z2 = (f101 I0 I1 I2 I3 I4 I5 I6 I7 I8 I9 I10 I11 I12 I13 I14 I15 I16 I17 I18 I19 I20 I21 I22 I23 I24 I25 I26 I27 I28 Z0 Z1 Z2 Z3 Z4 Z5 Z6 Z7 Z8 Z9 Z10 Z11 Z12 Z13 Z14 Z15 Z16 Z17 Z18 Z19 T 1 z0 z1 z2).snd.snd.snd := by
 obtain ⟨-, ⟨n0, n1⟩, ⟨o0, o1⟩, -⟩ := (f44_iff I0 I1 I2 I3 I4 I5 I6 I7 I8 I9 I10 I11 I12 I13 I14 I15 I16 I17 I18 I19 I20 I21 I22 I23 I24 I25 I26 I27 I28).1 hs
 have e1 : f105 I0 I1 I2 I3 I4 I5 I6 I7 I8 I9 I10 I11 I12 I13 I14 I15 I16 I17 I18 I19 I20 I21 I22 I23 I24 I25 I26 I27 I28 Z0 Z1 Z2 Z3 Z4 Z5 Z6 Z7 Z8 Z9 Z10 Z11 Z12 Z13 Z14 Z15 Z16 Z17 Z18 Z19 T 1 z0 z1 z2 = f66p1 I0 I1 I2 I3 I4 I5 I6 I7 I8 I9 I10 I11 I12 I13 I14 I15 I16 I17 I18 I19 I20 I21 I22 I23 I24 I25 I26 I27 I28 Z0 Z1 Z2 Z3 Z4 Z5 Z6 Z7 Z8 Z9 Z10 Z11 Z12 Z13 Z14 Z15 Z16 Z17 Z18 Z19 T z0 z1 z2 := rfl
 have e2 : f101 I0 I1 I2 I3 I4 I5 I6 I7 I8 I9 I10 I11 I12 I13 I14 I15 I16 I17 I18 I19 I20 I21 I22 I23 I24 I25 I26 I27 I28 Z0 Z1 Z2 Z3 Z4 Z5 Z6 Z7 Z8 Z9 Z10 Z11 Z12 Z13 Z14 Z15 Z16 Z17 Z18 Z19 T 1 z0 z1 z2 = f61p1 I0 I1 I2 I3 I4 I5 I6 I7 I8 I9 I10 I11 I12 I13 I14 I15 I16 I17 I18 I19 I20 I21 I22 I23 I24 I25 I26 I27 I28 Z0 Z1 Z2 Z3 Z4 Z5 Z6 Z7 Z8 Z9 Z10 Z11 Z12 Z13 Z14 Z15 Z16 Z17 Z18 Z19 T z0 z1 z2 := rfl
 have hn : decide (I1 ≥ 1099511627776) = (I1 == 1099511627776) := by
  rw [Bool.eq_iff_iff]; simp; omega
 have ho : decide (I2 ≥ 1099511627776) = (I2 == 1099511627776) := by
  rw [Bool.eq_iff_iff]; simp; omega
 rw [e1, e2]; unfold f66p1 f61p1
 simp only [f125_is, f106_is, hn, ho]
theorem f66_2 (I0 I1 I2 I3 I4 I5 I6 I7 I8 I9 : Int) (I10 : Bool) (I11 I12 I13 I14 I15 : Int) (I16 : Bool) (I17 I18 I19 I20 I21 : Int) (I22 : Bool) (I23 I24 I25 I26 I27 : Int) (I28 : Bool) (Z0 Z1 Z2 Z3 Z4 Z5 Z6 Z7 Z8 Z9 Z10 Z11 Z12 Z13 Z14 Z15 Z16 Z17 Z18 Z19 : Int) (T z0 z1 z2 : Int) (hs : f44 I0 I1 I2 I3 I4 I5 I6 I7 I8 I9 I10 I11 I12 I13 I14 I15 I16 I17 I18 I19 I20 I21 I22 I23 I24 I25 I26 I27 I28 = true) : f105 I0 I1 I2 I3 I4 I5 I6 I7 I8 I9 I10 I11 I12 I13 I14 I15 I16 I17 I18 I19 I20 I21 I22 I23 I24 I25 I26 I27 I28 Z0 Z1 Z2 Z3 Z4 Z5 Z6 Z7 Z8 Z9 Z10 Z11 Z12 Z13 Z14 Z15 Z16 Z17 Z18 Z19 T 2 z0 z1 z2 = (f101 I0 I1 I2 I3 I4 I5 I6 I7 I8 I9 I10 I11 I12 I13 I14 I15 I16 I17 I18 I19 I20 I21 I22 I23 I24 I25 I26 I27 I28 Z0 Z1 Z2 Z3 Z4 Z5 Z6 Z7 Z8 Z9 Z10 Z11 Z12 Z13 Z14 Z15 Z16 Z17 Z18 Z19 T 2 z0 z1 z2).snd.snd.snd := by
 obtain ⟨-, ⟨n0, n1⟩, ⟨o0, o1⟩, -⟩ := (f44_iff I0 I1 I2 I3 I4 I5 I6 I7 I8 I9 I10 I11 I12 I13 I14 I15 I16 I17 I18 I19 I20 I21 I22 I23 I24 I25 I26 I27 I28).1 hs
 have e1 : f105 I0 I1 I2 I3 I4 I5 I6 I7 I8 I9 I10 I11 I12 I13 I14 I15 I16 I17 I18 I19 I20 I21 I22 I23 I24 I25 I26 I27 I28 Z0 Z1 Z2 Z3 Z4 Z5 Z6 Z7 Z8 Z9 Z10 Z11 Z12 Z13 Z14 Z15 Z16 Z17 Z18 Z19 T 2 z0 z1 z2 = f66p2 I0 I1 I2 I3 I4 I5 I6 I7 I8 I9 I10 I11 I12 I13 I14 I15 I16 I17 I18 I19 I20 I21 I22 I23 I24 I25 I26 I27 I28 Z0 Z1 Z2 Z3 Z4 Z5 Z6 Z7 Z8 Z9 Z10 Z11 Z12 Z13 Z14 Z15 Z16 Z17 Z18 Z19 T z0 z1 z2 := rfl
 have e2 : f101 I0 I1 I2 I3 I4 I5 I6 I7 I8 I9 I10 I11 I12 I13 I14 I15 I16 I17 I18 I19 I20 I21 I22 I23 I24 I25 I26 I27 I28 Z0 Z1 Z2 Z3 Z4 Z5 Z6 Z7 Z8 Z9 Z10 Z11 Z12 Z13 Z14 Z15 Z16 Z17 Z18 Z19 T 2 z0 z1 z2 = f61p2 I0 I1 I2 I3 I4 I5 I6 I7 I8 I9 I10 I11 I12 I13 I14 I15 I16 I17 I18 I19 I20 I21 I22 I23 I24 I25 I26 I27 I28 Z0 Z1 Z2 Z3 Z4 Z5 Z6 Z7 Z8 Z9 Z10 Z11 Z12 Z13 Z14 Z15 Z16 Z17 Z18 Z19 T z0 z1 z2 := rfl
 have hn : decide (I1 ≥ 1099511627776) = (I1 == 1099511627776) := by
  rw [Bool.eq_iff_iff]; simp; omega
 have ho : decide (I2 ≥ 1099511627776) = (I2 == 1099511627776) := by
  rw [Bool.eq_iff_iff]; simp; omega
 rw [e1, e2]; unfold f66p2 f61p2
 simp only [f125_is, f106_is, hn, ho]
theorem f66_3 (I0 I1 I2 I3 I4 I5 I6 I7 I8 I9 : Int) (I10 : Bool) (I11 I12 I13 I14 I15 : Int) (I16 : Bool) (I17 I18 I19 I20 I21 : Int) (I22 : Bool) (I23 I24 I25 I26 I27 : Int) (I28 : Bool) (Z0 Z1 Z2 Z3 Z4 Z5 Z6 Z7 Z8 Z9 Z10 Z11 Z12 Z13 Z14 Z15 Z16 Z17 Z18 Z19 : Int) (T z0 z1 z2 : Int) (hs : f44 I0 I1 I2 I3 I4 I5 I6 I7 I8 I9 I10 I11 I12 I13 I14 I15 I16 I17 I18 I19 I20 I21 I22 I23 I24 I25 I26 I27 I28 = true) : f105 I0 I1 I2 I3 I4 I5 I6 I7 I8 I9 I10 I11 I12 I13 I14 I15 I16 I17 I18 I19 I20 I21 I22 I23 I24 I25 I26 I27 I28 Z0 Z1 Z2 Z3 Z4 Z5 Z6 Z7 Z8 Z9 Z10 Z11 Z12 Z13 Z14 Z15 Z16 Z17 Z18 Z19 T 3 z0 z1 z2 = (f101 I0 I1 I2 I3 I4 I5 I6 I7 I8 I9 I10 I11 I12 I13 I14 I15 I16 I17 I18 I19 I20 I21 I22 I23 I24 I25 I26 I27 I28 Z0 Z1 Z2 Z3 Z4 Z5 Z6 Z7 Z8 Z9 Z10 Z11 Z12 Z13 Z14 Z15 Z16 Z17 Z18 Z19 T 3 z0 z1 z2).snd.snd.snd := by
 obtain ⟨-, ⟨n0, n1⟩, ⟨o0, o1⟩, -⟩ := (f44_iff I0 I1 I2 I3 I4 I5 I6 I7 I8 I9 I10 I11 I12 I13 I14 I15 I16 I17 I18 I19 I20 I21 I22 I23 I24 I25 I26 I27 I28).1 hs
 have e1 : f105 I0 I1 I2 I3 I4 I5 I6 I7 I8 I9 I10 I11 I12 I13 I14 I15 I16 I17 I18 I19 I20 I21 I22 I23 I24 I25 I26 I27 I28 Z0 Z1 Z2 Z3 Z4 Z5 Z6 Z7 Z8 Z9 Z10 Z11 Z12 Z13 Z14 Z15 Z16 Z17 Z18 Z19 T 3 z0 z1 z2 = f66p3 I0 I1 I2 I3 I4 I5 I6 I7 I8 I9 I10 I11 I12 I13 I14 I15 I16 I17 I18 I19 I20 I21 I22 I23 I24 I25 I26 I27 I28 Z0 Z1 Z2 Z3 Z4 Z5 Z6 Z7 Z8 Z9 Z10 Z11 Z12 Z13 Z14 Z15 Z16 Z17 Z18 Z19 T z0 z1 z2 := rfl
 have e2 : f101 I0 I1 I2 I3 I4 I5 I6 I7 I8 I9 I10 I11 I12 I13 I14 I15 I16 I17 I18 I19 I20 I21 I22 I23 I24 I25 I26 I27 I28 Z0 Z1 Z2 Z3 Z4 Z5 Z6 Z7 Z8 Z9 Z10 Z11 Z12 Z13 Z14 Z15 Z16 Z17 Z18 Z19 T 3 z0 z1 z2 = f61p3 I0 I1 I2 I3 I4 I5 I6 I7 I8 I9 I10 I11 I12 I13 I14 I15 I16 I17 I18 I19 I20 I21 I22 I23 I24 I25 I26 I27 I28 Z0 Z1 Z2 Z3 Z4 Z5 Z6 Z7 Z8 Z9 Z10 Z11 Z12 Z13 Z14 Z15 Z16 Z17 Z18 Z19 T z0 z1 z2 := rfl
 have hn : decide (I1 ≥ 1099511627776) = (I1 == 1099511627776) := by
  rw [Bool.eq_iff_iff]; simp; omega
 have ho : decide (I2 ≥ 1099511627776) = (I2 == 1099511627776) := by
  rw [Bool.eq_iff_iff]; simp; omega
 rw [e1, e2]; unfold f66p3 f61p3
 simp only [f125_is, f106_is, hn, ho]
end Go.Proofs.YtdchdajjhofmnaaGreat
