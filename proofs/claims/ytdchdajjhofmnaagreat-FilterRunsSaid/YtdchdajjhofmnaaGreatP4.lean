/- What each function of scale, wide, fix computes, as numbers. Division, rounded. The laws of scale, as numbers: each returns true. The laws of scale that compare wide numbers: ScaleTimes, ScaleOver. -/
import Derived.Test.YtdchdajjhofmnaaGreatP0
import Derived.Test.YtdchdajjhofmnaaGreatGb
namespace Go.Proofs.YtdchdajjhofmnaaGreat
open Go Go.Sx
theorem f99_eq (n : Int) : f99 n = (cl n, cl n != n) := rfl
theorem f257_eq (n : Int) : f257 n = cl n := rfl
theorem f256_eq (n : Int) : f256 n = - cl n := by
 unfold f256; rw [f257_eq, wS (by have := cl_hi n; omega) (by have := cl_lo n; omega)]; omega
theorem f303_eq (n : Int) : f303 n = (cl n).natAbs := by
 unfold f303; rw [f257_eq, wS (by have := cl_hi n; omega) (by have := cl_lo n; omega)]
 unfold mxI; split <;> omega
theorem f285_eq (n : Int) : f285 n = (n / 4611686018427387904, n % 4611686018427387904) := by unfold f285; rw [fdiv62, and62i]
theorem f282_eq (h l : Int) : f282 h l = decide (0 ≤ l ∧ l ≤ 4611686018427387903 ∧ -2305843009213693952 ≤ h ∧ h < 2305843009213693952) := by
 unfold f282; rw [Bool.eq_iff_iff]; simp only [Bool.and_eq_true, decide_eq_true_eq, ge_iff_le]; omega
theorem f317_in {h l : Int} (h1 : 0 ≤ l) (h2 : l ≤ 4611686018427387903) (h3 : -2305843009213693952 ≤ h) (h4 : h < 2305843009213693952) : f317 h l = (h, l) := by
 unfold f317; rw [f282_eq, decide_eq_true ⟨h1, h2, h3, h4⟩]; rfl
def wd (v : Int) : Int × Int := (v / 4611686018427387904, v % 4611686018427387904)
theorem f317_wd {v : Int} (h0 : -10633823966279326983230456482242756608 ≤ v) (h1 : v < 10633823966279326983230456482242756608) : f317 (wd v).1 (wd v).2 = wd v := by
 unfold wd; exact f317_in (by omega) (by omega) (by omega) (by omega)
theorem f282_wd {v : Int} (h0 : -10633823966279326983230456482242756608 ≤ v) (h1 : v < 10633823966279326983230456482242756608) : f282 (wd v).1 (wd v).2 = true := by
 rw [f282_eq]; unfold wd; exact decide_eq_true ⟨by omega, by omega, by omega, by omega⟩
theorem f284_wd {u v : Int} (h0 : -10633823966279326983230456482242756608 ≤ u) (h1 : u < 10633823966279326983230456482242756608) (h2 : -10633823966279326983230456482242756608 ≤ v) (h3 : v < 10633823966279326983230456482242756608)
  (h4 : -10633823966279326983230456482242756608 ≤ u + v) (h5 : u + v < 10633823966279326983230456482242756608) :
  f284 (wd u).1 (wd u).2 (wd v).1 (wd v).2 = ((wd (u + v)).1, (wd (u + v)).2, true) := by
 unfold f284
 rw [f317_wd h0 h1, f317_wd h2 h3]
 have e2 : IntKind.u64.wrap (IntKind.u64.wrap (wd u).2 + IntKind.u64.wrap (wd v).2) = (wd u).2 + (wd v).2 := by
  simp only [wrapU_mod, wd]; omega
 have e1 : IntKind.i64.wrap (IntKind.i64.wrap ((wd u).1 + (wd v).1) + IntKind.i64.wrap (((wd u).2 + (wd v).2).fdiv (2 ^ 62))) = (wd (u + v)).1 := by
  rw [fdiv62]; simp only [w64, wd]; omega
 have e3 : IntKind.i64.wrap (bitsv BinOp.and IntKind.u64 ((wd u).2 + (wd v).2) 4611686018427387903) = (wd (u + v)).2 := by
  rw [and62u]; simp only [w64, wd]; omega
 rw [e2, e1, e3, f317_wd h4 h5]
 simp
theorem f300_wd {v : Int} (h0 : -10633823966279326983230456482242756608 ≤ v) (h1 : v < 10633823966279326983230456482242756608) : f300 (wd v).1 (wd v).2 = (cl v, cl v == v) := by
 unfold f300
 rw [f317_wd h0 h1]
 by_cases hz : (wd v).1 = 0 ∨ (wd v).1 = -1
 ·have hb : ((wd v).1 == 0 || (wd v).1 == -1) = true := by simpa using hz
  have e : IntKind.i64.wrap (IntKind.i64.wrap ((wd v).1 * 2 ^ 62) + (wd v).2) = v := by
   have : (2:Int) ^ 62 = 4611686018427387904 := rfl
   rw [this]; simp only [w64, wd] at *; omega
  rw [hb, e, f99_eq]
  show (cl v, !(cl v != v)) = _
  simp [bne]
 ·have hb : ((wd v).1 == 0 || (wd v).1 == -1) = false := by simpa using hz
  rw [hb]
  have hd := cl_def v
  by_cases hn : (wd v).1 < 0
  ·rw [decide_eq_true hn]
   have e : cl v = -288230376151711744 := by simp only [wd] at *; omega
   have e' : (cl v == v) = false := by rw [e]; simp only [wd, beq_eq_false_iff_ne] at *; omega
   rw [e', e]; rfl
  ·rw [decide_eq_false hn]
   have e : cl v = 288230376151711744 := by simp only [wd] at *; omega
   have e' : (cl v == v) = false := by rw [e]; simp only [wd, beq_eq_false_iff_ne] at *; omega
   rw [e', e]; rfl
theorem f258_wd {v : Int} (h0 : -10633823966279326983230456482242756608 ≤ v) (h1 : v < 10633823966279326983228309000000000000) :
  f258 (wd v).1 (wd v).2 = (cl ((v + 2147483648) / 4294967296), !(cl ((v + 2147483648) / 4294967296) == (v + 2147483648) / 4294967296)) := by
 unfold f258
 have e31 : f285 2147483648 = wd 2147483648 := f285_eq _
 rw [e31, f284_wd h0 (by omega) (by omega) (by omega) (by omega) (by omega), f282_wd h0 (by omega)]
 have ea : (((wd (v + 2147483648)).1, (wd (v + 2147483648)).2, true) : Int × Int × Bool).1 = (wd (v + 2147483648)).1 := rfl
 have eb : (((wd (v + 2147483648)).1, (wd (v + 2147483648)).2, true) : Int × Int × Bool).2.1 = (wd (v + 2147483648)).2 := rfl
 rw [ea, eb, f317_wd (by omega) (by omega)]
 have hu0 : -10633823966279326983230456482242756608 ≤ v + 2147483648 := by omega
 have hu1 : v + 2147483648 < 10633823966279326983230456482242756608 := by omega
 generalize v + 2147483648 = u at *
 have e1 : (wd u).1.fdiv (2 ^ 32) = (wd (u / 4294967296)).1 := by rw [fdiv32]; simp only [wd]; omega
 have e2 : bitsv BinOp.and IntKind.i64 (bitsv BinOp.or IntKind.i64 (IntKind.i64.wrap ((wd u).1 * 2 ^ 30)) ((wd u).2.fdiv (2 ^ 32))) 4611686018427387903 = (wd (u / 4294967296)).2 := by
  have : (2:Int) ^ 30 = 1073741824 := rfl
  rw [fdiv32, this, or_i _ _ (by rw [w64]; omega) (by rw [w64]; omega) (by rw [w64]; omega) (by simp only [wd]; omega) (by simp only [wd]; omega), and62i]
  simp only [w64, wd]; omega
 rw [e1, e2, f300_wd (by omega) (by omega)]
 simp
theorem f302_eq {x y : Int} (hx0 : 0 ≤ x) (hx : x < 18446744073709551616) (hy0 : 0 ≤ y) (hy : y < 18446744073709551616) : f302 x y = (x * y / 18446744073709551616, x * y % 18446744073709551616) := by
 unfold f302
 simp only [fdiv32, and32u, wrapU_mod]
 rw [mul64_arith x y hx0 hx hy0 hy]
theorem f304_wd {v : Int} (h0 : -10633823966279326983230456482242756608 < v) (h1 : v < 10633823966279326983230456482242756608) : f304 (wd v).1 (wd v).2 = wd (-v) := by
 unfold f304
 by_cases hz : (wd v).2 = 0
 ·have hb : ((wd v).2 == 0) = true := by simpa using hz
  rw [hb]
  show (_, _) = _
  simp only [w64, wd, Prod.mk.injEq] at *; omega
 ·have hb : ((wd v).2 == 0) = false := by simpa using hz
  rw [hb, xor_i _ (by simp only [wd]; omega) (by simp only [wd]; omega)]
  show (_, _) = _
  simp only [w64, wd, Prod.mk.injEq] at *; omega
theorem f259_eq (a b : Int) : f259 a b = wd (cl a * cl b) := by
 unfold f259
 have a1 := cl_lo a; have a2 := cl_hi a; have b1 := cl_lo b; have b2 := cl_hi b
 have ea : IntKind.u64.wrap (f303 a) = (cl a).natAbs := by rw [f303_eq]; exact wrapU (by omega) (by omega)
 have eb : IntKind.u64.wrap (f303 b) = (cl b).natAbs := by rw [f303_eq]; exact wrapU (by omega) (by omega)
 rw [ea, eb, f302_eq (by omega) (by omega) (by omega) (by omega)]
 have hP : (((cl a).natAbs : Int) * ((cl b).natAbs : Int)) = ((cl a * cl b).natAbs : Int) := by rw [Int.natAbs_mul, Int.natCast_mul]
 rw [hP]
 have hb := prod_in _ _ a1 a2 b1 b2
 have key : ∀ n : Int, 0 ≤ n → n ≤ 83076749736557242056487941267521536 →
   (IntKind.i64.wrap (bitsv BinOp.or IntKind.u64 (IntKind.u64.wrap (n / 18446744073709551616 * 2 ^ 2)) ((n % 18446744073709551616).fdiv (2 ^ 62))), IntKind.i64.wrap (bitsv BinOp.and IntKind.u64 (n % 18446744073709551616) 4611686018427387903)) = wd n := by
  intro n n0 n1
  have : (2:Int) ^ 2 = 4 := rfl
  rw [fdiv62, and62u, this, or_u _ _ (by rw [wrapU_mod]; omega) (by rw [wrapU_mod]; omega) (by rw [wrapU_mod]; omega) (by omega) (by omega)]
  simp only [w64, wrapU_mod, wd, Prod.mk.injEq]; omega
 have k := key (cl a * cl b).natAbs (by omega) (by omega)
 have k1 := congrArg Prod.fst k
 have k2 := congrArg Prod.snd k
 simp only at k1 k2
 rw [k1, k2]
 have hs : (a < 0) ↔ (cl a < 0) := by have := cl_def a; omega
 have ht : (b < 0) ↔ (cl b < 0) := by have := cl_def b; omega
 generalize cl a = x at *
 generalize cl b = y at *
 have s1 : 0 ≤ x → 0 ≤ y → 0 ≤ x * y := Int.mul_nonneg
 have s2 : x < 0 → y < 0 → 0 ≤ x * y := fun h1 h2 => Int.le_of_lt (Int.mul_pos_of_neg_of_neg h1 h2)
 have s3 : x < 0 → 0 ≤ y → x * y ≤ 0 := fun h1 h2 => Int.mul_nonpos_of_nonpos_of_nonneg (Int.le_of_lt h1) h2
 have s4 : 0 ≤ x → y < 0 → x * y ≤ 0 := fun h1 h2 => Int.mul_nonpos_of_nonneg_of_nonpos h1 (Int.le_of_lt h2)
 generalize x * y = P at *
 by_cases ha : a < 0 <;> by_cases hb' : b < 0
 ·rw [decide_eq_true ha, decide_eq_true hb']
  have : ((P.natAbs : Int)) = P := by omega
  rw [this]; rfl
 ·rw [decide_eq_true ha, decide_eq_false hb', f304_wd (by omega) (by omega)]
  have : (-(P.natAbs : Int)) = P := by omega
  rw [this]; rfl
 ·rw [decide_eq_false ha, decide_eq_true hb', f304_wd (by omega) (by omega)]
  have : (-(P.natAbs : Int)) = P := by omega
  rw [this]; rfl
 ·rw [decide_eq_false ha, decide_eq_false hb']
  have : ((P.natAbs : Int)) = P := by omega
  rw [this]; rfl
def rnd (v : Int) : Int := (v + 2147483648) / 4294967296
theorem f260_two (a b : Int) : f260 [a, b] = (cl a != a || cl b != b) := by
 unfold f260; simp [f99_eq]
theorem f206_eq (a b : Int) : f206 a b = (cl (rnd (cl a * cl b)), cl (rnd (cl a * cl b)) != rnd (cl a * cl b) || (cl a != a || cl b != b)) := by
 unfold f206
 have hb := prod_in _ _ (cl_lo a) (cl_hi a) (cl_lo b) (cl_hi b)
 rw [f259_eq, f258_wd (by omega) (by omega), f260_two]
 show (bif !(cl (rnd (cl a * cl b)) == rnd (cl a * cl b)) then (cl (rnd (cl a * cl b)), true) else (cl (rnd (cl a * cl b)), _)) = _
 unfold bne
 cases (cl (rnd (cl a * cl b)) == rnd (cl a * cl b)) <;> rfl
theorem f204_eq (a b : Int) : f204 a b = (cl (cl a - cl b), cl (cl a - cl b) != cl a - cl b || cl a != a || cl b != b) := by
 unfold f204
 rw [f257_eq, f257_eq, wS (by have := cl_lo a; have := cl_hi b; omega) (by have := cl_hi a; have := cl_lo b; omega), f99_eq]
end Go.Proofs.YtdchdajjhofmnaaGreat
namespace Go.Proofs.YtdchdajjhofmnaaGreat
open Go Go.Sx
def ov (A B : Int) : Int := (2 * (bif decide (B < 0) then -A else A) * 4294967296 + B.natAbs) / (2 * B.natAbs)
theorem half_up {T Y : Int} (hY : 0 < Y) : (2 * T + Y) / (2 * Y) = T / Y + (if Y ≤ 2 * (T % Y) then 1 else 0) := by
 have e := Int.mul_ediv_add_emod T Y
 have r0 := Int.emod_nonneg T (b := Y) (by omega)
 have r1 := Int.emod_lt_of_pos T hY
 generalize T / Y = q at *
 generalize T % Y = r at *
 subst e
 split
 ·refine ((Int.ediv_emod_unique (a := 2 * (Y * q + r) + Y) (b := 2 * Y) (r := 2 * r - Y) (q := q + 1) (by omega)).2 ⟨?_, by omega, by omega⟩).1
  rw [Int.mul_add, Int.mul_one, Int.mul_assoc]; omega
 ·refine ((Int.ediv_emod_unique (a := 2 * (Y * q + r) + Y) (b := 2 * Y) (r := 2 * r + Y) (q := q + 0) (by omega)).2 ⟨?_, by omega, by omega⟩).1
  rw [Int.add_zero, Int.mul_assoc]; omega
theorem half_down {T Y : Int} (hY : 0 < Y) : (2 * -T + Y) / (2 * Y) = -(T / Y) - (if Y < 2 * (T % Y) then 1 else 0) := by
 have e := Int.mul_ediv_add_emod T Y
 have r0 := Int.emod_nonneg T (b := Y) (by omega)
 have r1 := Int.emod_lt_of_pos T hY
 generalize T / Y = q at *
 generalize T % Y = r at *
 subst e
 split
 ·refine ((Int.ediv_emod_unique (a := 2 * -(Y * q + r) + Y) (b := 2 * Y) (r := 3 * Y - 2 * r) (q := -q - 1) (by omega)).2 ⟨?_, by omega, by omega⟩).1
  rw [Int.mul_sub, Int.mul_one, Int.mul_assoc, Int.mul_neg]; omega
 ·refine ((Int.ediv_emod_unique (a := 2 * -(Y * q + r) + Y) (b := 2 * Y) (r := Y - 2 * r) (q := -q - 0) (by omega)).2 ⟨?_, by omega, by omega⟩).1
  rw [Int.sub_zero, Int.mul_assoc, Int.mul_neg]; omega
def ovr (A B : Int) (c : Bool) : Int × Bool :=
 bif A == 0 then (0, c || B == 0) else bif B == 0 then (bif decide (A < 0) then -288230376151711744 else 288230376151711744, true) else (cl (ov A B), c || cl (ov A B) != ov A B)
theorem f326_big {X Y : Int} (_hX0 : 0 < X) (_hX : X ≤ 288230376151711744) (hY0 : 0 < Y) (_hY : Y ≤ 288230376151711744) :
  ((f326 X Y).2.2 = true ∧ 576460752303423488 < X * 4294967296 / Y) ∨ (f326 X Y = (X * 4294967296 / Y, X * 4294967296 % Y, false) ∧ X * 4294967296 / Y ≤ 576460752303423488) := by
 unfold f326
 by_cases h : Y ≤ X / 4294967296
 ·left
  rw [decide_eq_true h]
  refine ⟨rfl, ?_⟩
  have h1 : Y * 4294967296 ≤ X := by omega
  have : 18446744073709551616 ≤ X * 4294967296 / Y := (Int.le_ediv_iff_mul_le hY0).2 (by omega)
  omega
 ·rw [decide_eq_false h]
  by_cases h2 : 576460752303423488 < X * 4294967296 / Y
  ·left; rw [decide_eq_true h2]; exact ⟨rfl, h2⟩
  ·right; rw [decide_eq_false h2]; exact ⟨rfl, by omega⟩
theorem ov_eq (A B : Int) (hY0 : 0 < (B.natAbs : Int)) : ov A B = bif (!decide (A < 0) == decide (B < 0)) then -((A.natAbs : Int) * 4294967296 / B.natAbs) - (if (B.natAbs : Int) < 2 * ((A.natAbs : Int) * 4294967296 % B.natAbs) then 1 else 0)
  else (A.natAbs : Int) * 4294967296 / B.natAbs + (if (B.natAbs : Int) ≤ 2 * ((A.natAbs : Int) * 4294967296 % B.natAbs) then 1 else 0) := by
 have aux : ∀ {x y d : Int}, x = y → x / d = y / d := fun h => by rw [h]
 have e1 := half_up (T := (A.natAbs : Int) * 4294967296) hY0
 have e2 := half_down (T := (A.natAbs : Int) * 4294967296) hY0
 unfold ov
 by_cases h1 : A < 0
 ·have hn : (A.natAbs : Int) = -A := by omega
  by_cases h2 : B < 0
  ·rw [decide_eq_true h1, decide_eq_true h2, show (!true == true) = false from rfl, cond_true, cond_false]
   refine Eq.trans (aux ?_) e1
   rw [hn]; omega
  ·rw [decide_eq_true h1, decide_eq_false h2, show (!true == false) = true from rfl, cond_true, cond_false]
   refine Eq.trans (aux ?_) e2
   rw [hn]; omega
 ·have hn : (A.natAbs : Int) = A := by omega
  by_cases h2 : B < 0
  ·rw [decide_eq_false h1, decide_eq_true h2, show (!false == true) = true from rfl, cond_true, cond_true]
   refine Eq.trans (aux ?_) e2
   rw [hn]; omega
  ·rw [decide_eq_false h1, decide_eq_false h2, show (!false == false) = false from rfl, cond_false, cond_false]
   refine Eq.trans (aux ?_) e1
   rw [hn]; omega
theorem cl_top {n : Int} (h : 288230376151711744 < n) : cl n = 288230376151711744 ∧ (cl n != n) = true := by
 have e : cl n = 288230376151711744 := by have := cl_def n; omega
 exact ⟨e, by rw [e]; simp only [bne_iff_ne, ne_eq]; omega⟩
theorem cl_bot {n : Int} (h : n < -288230376151711744) : cl n = -288230376151711744 ∧ (cl n != n) = true := by
 have e : cl n = -288230376151711744 := by have := cl_def n; omega
 exact ⟨e, by rw [e]; simp only [bne_iff_ne, ne_eq]; omega⟩
theorem core (neg nA c : Bool) (X Y q r : Int) (hY : Y ≤ 288230376151711744) (r0 : 0 ≤ r) (r1 : r < Y) (q0 : 0 ≤ q)
  (hbig : ((f326 X Y).2.2 = true ∧ 576460752303423488 < q) ∨ (f326 X Y = (q, r, false) ∧ q ≤ 576460752303423488)) :
  (bif neg then (bif false then ((0, c || false)) else (bif false && nA then ((-288230376151711744, true)) else (bif false then ((288230376151711744, true)) else (bif (f326 X Y).snd.snd then ((-288230376151711744, true)) else (bif decide (IntKind.u64.wrap (2 * (f326 X Y).snd.fst) > Y) || IntKind.u64.wrap (2 * (f326 X Y).snd.fst) == Y && !neg then (bif neg then (((f99 (IntKind.i64.wrap (0 - IntKind.i64.wrap (IntKind.u64.wrap ((f326 X Y).fst + 1))))).fst, c || (f99 (IntKind.i64.wrap (0 - IntKind.i64.wrap (IntKind.u64.wrap ((f326 X Y).fst + 1))))).snd)) else (((f99 (IntKind.i64.wrap (IntKind.u64.wrap ((f326 X Y).fst + 1)))).fst, c || (f99 (IntKind.i64.wrap (IntKind.u64.wrap ((f326 X Y).fst + 1)))).snd))) else (bif neg then (((f99 (IntKind.i64.wrap (0 - IntKind.i64.wrap (f326 X Y).fst))).fst, c || (f99 (IntKind.i64.wrap (0 - IntKind.i64.wrap (f326 X Y).fst))).snd)) else (((f99 (IntKind.i64.wrap (f326 X Y).fst)).fst, c || (f99 (IntKind.i64.wrap (f326 X Y).fst)).snd)))))))) else (bif false then ((0, c || false)) else (bif false && nA then ((-288230376151711744, true)) else (bif false then ((288230376151711744, true)) else (bif (f326 X Y).snd.snd then ((288230376151711744, true)) else (bif decide (IntKind.u64.wrap (2 * (f326 X Y).snd.fst) > Y) || IntKind.u64.wrap (2 * (f326 X Y).snd.fst) == Y && !neg then (bif neg then (((f99 (IntKind.i64.wrap (0 - IntKind.i64.wrap (IntKind.u64.wrap ((f326 X Y).fst + 1))))).fst, c || (f99 (IntKind.i64.wrap (0 - IntKind.i64.wrap (IntKind.u64.wrap ((f326 X Y).fst + 1))))).snd)) else (((f99 (IntKind.i64.wrap (IntKind.u64.wrap ((f326 X Y).fst + 1)))).fst, c || (f99 (IntKind.i64.wrap (IntKind.u64.wrap ((f326 X Y).fst + 1)))).snd))) else (bif neg then (((f99 (IntKind.i64.wrap (0 - IntKind.i64.wrap (f326 X Y).fst))).fst, c || (f99 (IntKind.i64.wrap (0 - IntKind.i64.wrap (f326 X Y).fst))).snd)) else (((f99 (IntKind.i64.wrap (f326 X Y).fst)).fst, c || (f99 (IntKind.i64.wrap (f326 X Y).fst)).snd))))))))) =
  (bif false then (0, c || false) else bif false then (bif nA then -288230376151711744 else 288230376151711744, true) else
   (cl (bif neg then -q - (if Y < 2 * r then 1 else 0) else q + (if Y ≤ 2 * r then 1 else 0)), c || cl (bif neg then -q - (if Y < 2 * r then 1 else 0) else q + (if Y ≤ 2 * r then 1 else 0)) != (bif neg then -q - (if Y < 2 * r then 1 else 0) else q + (if Y ≤ 2 * r then 1 else 0)))) := by
 rcases hbig with ⟨hf, hq⟩ | ⟨hf, hq⟩
 ·rw [hf]
  cases neg
  ·have h := cl_top (n := q + (if Y ≤ 2 * r then 1 else 0)) (by split <;> omega)
   simp only [cond_true, cond_false, Bool.false_and]
   rw [h.2, h.1, Bool.or_true]
  ·have h := cl_bot (n := -q - (if Y < 2 * r then 1 else 0)) (by split <;> omega)
   simp only [cond_true, cond_false, Bool.false_and]
   rw [h.2, h.1, Bool.or_true]
 ·rw [hf]
  have w1 : IntKind.u64.wrap (2 * r) = 2 * r := wrapU (by omega) (by omega)
  have w2 : IntKind.u64.wrap (q + 1) = q + 1 := wrapU (by omega) (by omega)
  have w3 : IntKind.i64.wrap (q + 1) = q + 1 := wS (by omega) (by omega)
  have w4 : IntKind.i64.wrap q = q := wS (by omega) (by omega)
  have w5 : IntKind.i64.wrap (0 - (q + 1)) = -q - 1 := by rw [wS (by omega) (by omega)]; omega
  have w6 : IntKind.i64.wrap (0 - q) = -q := by rw [wS (by omega) (by omega)]; omega
  simp only [cond_false, Bool.false_and, w1, w2, w3, w4, w5, w6, f99_eq]
  clear w1 w2 w3 w4 w5 w6 hf hq q0 r0
  cases neg
  ·by_cases h : Y ≤ 2 * r
   ·have e : (decide (2 * r > Y) || 2 * r == Y && !false) = true := by
     simp only [Bool.or_eq_true, decide_eq_true_eq, Bool.and_eq_true, beq_iff_eq, Bool.not_false, and_true]; omega
    rw [e, if_pos h]; simp only [cond_true, cond_false]
   ·have e : (decide (2 * r > Y) || 2 * r == Y && !false) = false := by
     rw [Bool.eq_false_iff]; simp only [ne_eq, Bool.or_eq_true, decide_eq_true_eq, Bool.and_eq_true, beq_iff_eq, Bool.not_false, and_true]; omega
    rw [e, if_neg h, Int.add_zero]; simp only [cond_false]
  ·by_cases h : Y < 2 * r
   ·have e : (decide (2 * r > Y) || 2 * r == Y && !true) = true := by
     rw [decide_eq_true (show 2 * r > Y from h)]; rfl
    rw [e, if_pos h]; simp only [cond_true]
   ·have e : (decide (2 * r > Y) || 2 * r == Y && !true) = false := by
     rw [decide_eq_false (show ¬ 2 * r > Y from h), Bool.not_true, Bool.and_false]; rfl
    rw [e, if_neg h, Int.sub_zero]; simp only [cond_true, cond_false]
theorem f312_eq (a b : Int) : f312 a b = ovr (cl a) (cl b) (cl a != a || cl b != b) := by
 unfold f312 ovr
 have a1 := cl_lo a; have a2 := cl_hi a; have b1 := cl_lo b; have b2 := cl_hi b
 have ea : IntKind.u64.wrap (f303 a) = (cl a).natAbs := by rw [f303_eq]; exact wrapU (by omega) (by omega)
 have eb : IntKind.u64.wrap (f303 b) = (cl b).natAbs := by rw [f303_eq]; exact wrapU (by omega) (by omega)
 have hs : decide (a < 0) = decide (cl a < 0) := by have := cl_def a; rw [decide_eq_decide]; omega
 have ht : decide (b < 0) = decide (cl b < 0) := by have := cl_def b; rw [decide_eq_decide]; omega
 rw [ea, eb, f260_two, hs, ht]
 generalize (cl a != a || cl b != b) = c
 generalize cl a = A at *
 generalize cl b = B at *
 clear ea eb hs ht
 have hAA : ((A.natAbs : Int) == 0) = (A == 0) := by rw [Bool.eq_iff_iff]; simp
 have hBB : ((B.natAbs : Int) == 0) = (B == 0) := by rw [Bool.eq_iff_iff]; simp
 rw [hAA, hBB]
 by_cases hA : (A == 0) = true
 ·rw [hA]
  generalize (!decide (A < 0) == decide (B < 0)) = neg
  cases neg <;> rfl
 ·have hA2 : (A == 0) = false := by simpa using hA
  rw [hA2]
  by_cases hB : (B == 0) = true
  ·rw [hB]
   have hB0 : B = 0 := by simpa using hB
   have : decide (B < 0) = false := decide_eq_false (by omega)
   rw [this]
   generalize decide (A < 0) = nA
   cases nA <;> rfl
  ·have hB2 : (B == 0) = false := by simpa using hB
   rw [hB2]
   have hA0 : A ≠ 0 := by simpa using hA
   have hB0 : B ≠ 0 := by simpa using hB
   have hX0 : 0 < (A.natAbs : Int) := by omega
   have hX : (A.natAbs : Int) ≤ 288230376151711744 := by omega
   have hY0 : 0 < (B.natAbs : Int) := by omega
   have hY : (B.natAbs : Int) ≤ 288230376151711744 := by omega
   have hbig := f326_big hX0 hX hY0 hY
   have hov := ov_eq A B hY0
   have r0 := Int.emod_nonneg ((A.natAbs : Int) * 4294967296) (b := (B.natAbs : Int)) (by omega)
   have r1 := Int.emod_lt_of_pos ((A.natAbs : Int) * 4294967296) hY0
   have q0 : 0 ≤ (A.natAbs : Int) * 4294967296 / B.natAbs := Int.ediv_nonneg (by omega) (by omega)
   rw [hov]
   clear hov hAA hBB hA hA2 hB hB2 a1 a2 b1 b2
   generalize (!decide (A < 0) == decide (B < 0)) = neg
   generalize (A.natAbs : Int) * 4294967296 / B.natAbs = q at *
   generalize (A.natAbs : Int) * 4294967296 % B.natAbs = r at *
   generalize (B.natAbs : Int) = Y at *
   generalize (A.natAbs : Int) = X at *
   generalize decide (A < 0) = nA
   exact core neg nA c X Y q r hY r0 r1 q0 hbig
end Go.Proofs.YtdchdajjhofmnaaGreat
namespace Go.Proofs.YtdchdajjhofmnaaGreat
open Go Go.Sx
theorem ov_zero {B : Int} (hB : B ≠ 0) : ov 0 B = 0 := by
 unfold ov
 have h : 2 * (bif decide (B < 0) then -0 else 0) * 4294967296 + (B.natAbs : Int) = B.natAbs := by cases decide (B < 0) <;> simp
 rw [h]
 exact Int.ediv_eq_zero_of_lt (by omega) (by omega)
theorem ovr_ne {A B : Int} (hB : B ≠ 0) (hA0 : -288230376151711744 ≤ A) (c : Bool) : ovr A B c = (cl (ov A B), c || cl (ov A B) != ov A B) := by
 unfold ovr
 have hB2 : (B == 0) = false := by simpa using hB
 rw [hB2]
 by_cases hA : A = 0
 ·subst hA
  rw [ov_zero hB]
  cases c <;> rfl
 ·have hA2 : (A == 0) = false := by simpa using hA
  rw [hA2]; rfl
theorem ov_bounds {A B : Int} (hB : B ≠ 0) : ∃ N Y : Int, Y = B.natAbs ∧ 0 < Y ∧ ((0 < B ∧ N = A ∧ Y = B) ∨ (B < 0 ∧ N = -A ∧ Y = -B)) ∧ ov A B * (2 * Y) ≤ 2 * N * 4294967296 + Y ∧ 2 * N * 4294967296 + Y < (ov A B + 1) * (2 * Y) := by
 refine ⟨if B < 0 then -A else A, B.natAbs, rfl, by omega, by split <;> omega, ?_⟩
 have e : ov A B = (2 * (if B < 0 then -A else A) * 4294967296 + (B.natAbs : Int)) / (2 * B.natAbs) := by
  unfold ov
  by_cases h : B < 0
  ·rw [decide_eq_true h, if_pos h, cond_true]
  ·rw [decide_eq_false h, if_neg h, cond_false]
 rw [e]
 generalize 2 * (if B < 0 then -A else A) * 4294967296 + (B.natAbs : Int) = T
 have hY : 0 < 2 * (B.natAbs : Int) := by omega
 generalize 2 * (B.natAbs : Int) = Z at *
 have e1 := Int.mul_ediv_add_emod T Z
 have r0 := Int.emod_nonneg T (b := Z) (by omega)
 have r1 := Int.emod_lt_of_pos T hY
 rw [Int.mul_comm] at e1
 rw [Int.add_mul, Int.one_mul]
 omega
theorem flags2 {x y z : Bool} (h : (x || (y || z)) = false) : x = false ∧ y = false ∧ z = false := by
 cases x <;> cases y <;> cases z <;> simp_all
theorem ne_false {a b : Int} (h : (a != b) = false) : a = b := by simpa using h
theorem rnd_bounds (p : Int) : rnd p * 4294967296 ≤ p + 2147483648 ∧ p + 2147483648 < rnd p * 4294967296 + 4294967296 := by unfold rnd; omega
theorem back_near {a b t o N Y : Int} (hY : 4294967296 ≤ Y) (ht : t * 4294967296 ≤ a * b + 2147483648) (ht1 : a * b + 2147483648 < t * 4294967296 + 4294967296)
  (hs : (0 < b ∧ N = t ∧ Y = b) ∨ (b < 0 ∧ N = -t ∧ Y = -b)) (h1 : o * (2 * Y) ≤ 2 * N * 4294967296 + Y) (h2 : 2 * N * 4294967296 + Y < (o + 1) * (2 * Y)) : a ≤ o ∧ o ≤ a + 1 := by
 have haY : a * Y = a * b ∨ a * Y = -(a * b) := by
  rcases hs with ⟨_, _, rfl⟩ | ⟨_, _, rfl⟩
  ·exact .inl rfl
  ·exact .inr (by rw [Int.mul_neg])
 have hN : 2 * N * 4294967296 - 2 * (a * Y) ≤ 4294967296 ∧ -4294967296 ≤ 2 * N * 4294967296 - 2 * (a * Y) := by
  rcases hs with ⟨_, rfl, rfl⟩ | ⟨_, rfl, rfl⟩
  ·omega
  ·have := Int.mul_neg a b; omega
 have e1 : o * (2 * Y) = 2 * (o * Y) := by rw [Int.mul_left_comm]
 have e2 : (o + 1) * (2 * Y) = 2 * ((o + 1) * Y) := by rw [Int.mul_left_comm]
 have e3 : (a + 1) * Y = a * Y + Y := by rw [Int.add_mul, Int.one_mul]
 constructor
 ·have : a * Y < (o + 1) * Y := by omega
  have := Int.lt_of_mul_lt_mul_right this (by omega)
  omega
 ·have : o * Y ≤ (a + 1) * Y := by omega
  exact Int.le_of_mul_le_mul_right this (by omega)
theorem rnd_neg (p : Int) : rnd p + rnd (-p) = 0 ∨ rnd p + rnd (-p) = 1 := by unfold rnd; omega
theorem ov_neg_sum {A B : Int} (hB : B ≠ 0) : ov A B + ov (-A) B = 0 ∨ ov A B + ov (-A) B = 1 := by
 obtain ⟨N, Y, hY, hY0, hs, o1, o2⟩ := ov_bounds (A := A) hB
 obtain ⟨N', Y', hY', _, hs', p1, p2⟩ := ov_bounds (A := -A) hB
 have eY : Y' = Y := by omega
 have eN : N' = -N := by omega
 subst eY; subst eN
 have e1 : (ov A B + ov (-A) B) * (2 * Y') = ov A B * (2 * Y') + ov (-A) B * (2 * Y') := Int.add_mul _ _ _
 have e2 : (ov A B + 1) * (2 * Y') = ov A B * (2 * Y') + 2 * Y' := by rw [Int.add_mul, Int.one_mul]
 have e3 : (ov (-A) B + 1) * (2 * Y') = ov (-A) B * (2 * Y') + 2 * Y' := by rw [Int.add_mul, Int.one_mul]
 have l1 : (ov A B + ov (-A) B) * (2 * Y') < 2 * (2 * Y') := by omega
 have l2 : -1 * (2 * Y') < (ov A B + ov (-A) B) * (2 * Y') := by omega
 have h1 := Int.lt_of_mul_lt_mul_right l1 (by omega)
 have h2 := Int.lt_of_mul_lt_mul_right l2 (by omega)
 omega
theorem ov_neg_neg {A B : Int} (hB : B ≠ 0) : ov (-A) (-B) = ov A B := by
 unfold ov
 rw [Int.natAbs_neg]
 by_cases h : B < 0
 ·rw [decide_eq_true h, decide_eq_false (show ¬ -B < 0 by omega)]; rfl
 ·rw [decide_eq_false h, decide_eq_true (show -B < 0 by omega), cond_true, cond_false, Int.neg_neg]
theorem flag_ok {x y : Bool} (h : x = false → y = true) : (x || y) = true := by
 cases x
 ·exact h rfl
 ·rfl
theorem cl_neg (n : Int) : cl (-n) = - cl n := by
 have := cl_def n; have := cl_def (-n); omega
end Go.Proofs.YtdchdajjhofmnaaGreat
namespace Go.Proofs.YtdchdajjhofmnaaGreat
open Go Go.Sx
theorem f229_eq (a : Int) : f229 a = false := by unfold f229; simp
theorem f185_eq (a b : Int) : f185 a b = if a < b then -1 else if b < a then 1 else 0 := by
 unfold f185
 rw [f229_eq, f229_eq, cond_false, cond_false]
 by_cases h : a < b
 ·rw [decide_eq_true h, if_pos h, cond_true]
 ·rw [decide_eq_false h, if_neg h, cond_false]
  by_cases h2 : b < a
  ·rw [decide_eq_true (show a > b from h2), if_pos h2, cond_true]
  ·rw [decide_eq_false (show ¬ a > b from h2), if_neg h2, cond_false]
theorem f283_wd {u v : Int} (h0 : -10633823966279326983230456482242756608 ≤ u) (h1 : u < 10633823966279326983230456482242756608) (h2 : -10633823966279326983230456482242756608 ≤ v) (h3 : v < 10633823966279326983230456482242756608) :
  (f283 (wd u).1 (wd u).2 (wd v).1 (wd v).2 ≤ 0 ↔ u ≤ v) ∧ (f283 (wd u).1 (wd u).2 (wd v).1 (wd v).2 < 0 ↔ u < v) := by
 unfold f283
 rw [f317_wd h0 h1, f317_wd h2 h3, f185_eq, f185_eq]
 have eu : u = (wd u).1 * 4611686018427387904 + (wd u).2 ∧ 0 ≤ (wd u).2 ∧ (wd u).2 < 4611686018427387904 := by simp only [wd]; omega
 have ev : v = (wd v).1 * 4611686018427387904 + (wd v).2 ∧ 0 ≤ (wd v).2 ∧ (wd v).2 < 4611686018427387904 := by simp only [wd]; omega
 clear h0 h1 h2 h3
 generalize (wd u).1 = a at *
 generalize (wd u).2 = b at *
 generalize (wd v).1 = c at *
 generalize (wd v).2 = d at *
 unfold orL orL orL
 by_cases c1 : a < c
 ·rw [if_pos c1]
  rw [show ((-1 : Int) == 0) = false from rfl, cond_false]
  omega
 ·rw [if_neg c1]
  by_cases c2 : c < a
  ·rw [if_pos c2]
   rw [show ((1 : Int) == 0) = false from rfl, cond_false]
   omega
  ·rw [if_neg c2]
   rw [show ((0 : Int) == 0) = true from rfl, cond_true]
   by_cases c3 : b < d
   ·rw [if_pos c3]
    rw [show ((-1 : Int) == 0) = false from rfl, cond_false]
    omega
   ·rw [if_neg c3]
    by_cases c4 : d < b
    ·rw [if_pos c4]
     rw [show ((1 : Int) == 0) = false from rfl, cond_false]
     omega
    ·rw [if_neg c4]
     rw [show ((0 : Int) == 0) = true from rfl, cond_true]
     omega
theorem f285_wd (n : Int) : f285 n = wd n := f285_eq n
theorem ov_self {x : Int} (hx : x ≠ 0) : ov x x = 4294967296 := by
 unfold ov
 have : (bif decide (x < 0) then -x else x) = (x.natAbs : Int) := by
  by_cases h : x < 0
  ·rw [decide_eq_true h, cond_true]; omega
  ·rw [decide_eq_false h, cond_false]; omega
 rw [this]
 have hp : 0 < (x.natAbs : Int) := by omega
 generalize (x.natAbs : Int) = y at *
 refine ((Int.ediv_emod_unique (a := 2 * y * 4294967296 + y) (b := 2 * y) (r := y) (q := 4294967296) (by omega)).2 ⟨?_, by omega, by omega⟩).1
 omega
theorem ov_one (x : Int) : ov x 4294967296 = x := by
 unfold ov
 rw [decide_eq_false (by omega), cond_false]
 have : ((4294967296 : Int).natAbs : Int) = 4294967296 := rfl
 rw [this]; omega
end Go.Proofs.YtdchdajjhofmnaaGreat
