/- What each function of scale, wide, fix computes, as numbers. -/
import Derived.Test.YtmnglkcodbecbaaGreatP0
import Derived.Test.YtmnglkcodbecbaaGreatGb
namespace Go.Proofs.YtmnglkcodbecbaaGreat
open Go Go.Sx
theorem f82_eq (n : Int) : f82 n = (cl n, cl n != n) := rfl
theorem f153_eq (n : Int) : f153 n = cl n := rfl
theorem f86_eq (n : Int) : f86 n = - cl n := by
  unfold f86; rw [f153_eq, wS (by have := cl_hi n; omega) (by have := cl_lo n; omega)]; omega
theorem f163_eq (n : Int) : f163 n = (cl n).natAbs := by
  unfold f163; rw [f153_eq, wS (by have := cl_hi n; omega) (by have := cl_lo n; omega)]
  unfold mxI; split <;> omega
theorem f179_eq (n : Int) : f179 n = (n / 4611686018427387904, n % 4611686018427387904) := by unfold f179; rw [fdiv62, and62i]
theorem f176_eq (h l : Int) : f176 h l = decide (0 ≤ l ∧ l ≤ 4611686018427387903 ∧ -2305843009213693952 ≤ h ∧ h < 2305843009213693952) := by
  unfold f176; rw [Bool.eq_iff_iff]; simp only [Bool.and_eq_true, decide_eq_true_eq, ge_iff_le]; omega
theorem f203_in {h l : Int} (h1 : 0 ≤ l) (h2 : l ≤ 4611686018427387903) (h3 : -2305843009213693952 ≤ h) (h4 : h < 2305843009213693952) : f203 h l = (h, l) := by
  unfold f203; rw [f176_eq, decide_eq_true ⟨h1, h2, h3, h4⟩]; rfl
/-- a wide number's two words -/
def wd (v : Int) : Int × Int := (v / 4611686018427387904, v % 4611686018427387904)
theorem f203_wd {v : Int} (h0 : -10633823966279326983230456482242756608 ≤ v) (h1 : v < 10633823966279326983230456482242756608) : f203 (wd v).1 (wd v).2 = wd v := by
  unfold wd; exact f203_in (by omega) (by omega) (by omega) (by omega)
theorem f176_wd {v : Int} (h0 : -10633823966279326983230456482242756608 ≤ v) (h1 : v < 10633823966279326983230456482242756608) : f176 (wd v).1 (wd v).2 = true := by
  rw [f176_eq]; unfold wd; exact decide_eq_true ⟨by omega, by omega, by omega, by omega⟩
theorem f178_wd {u v : Int} (h0 : -10633823966279326983230456482242756608 ≤ u) (h1 : u < 10633823966279326983230456482242756608) (h2 : -10633823966279326983230456482242756608 ≤ v) (h3 : v < 10633823966279326983230456482242756608)
    (h4 : -10633823966279326983230456482242756608 ≤ u + v) (h5 : u + v < 10633823966279326983230456482242756608) :
    f178 (wd u).1 (wd u).2 (wd v).1 (wd v).2 = ((wd (u + v)).1, (wd (u + v)).2, true) := by
  unfold f178
  rw [f203_wd h0 h1, f203_wd h2 h3]
  have e2 : IntKind.u64.wrap (IntKind.u64.wrap (wd u).2 + IntKind.u64.wrap (wd v).2) = (wd u).2 + (wd v).2 := by
    simp only [wrapU_mod, wd]; omega
  have e1 : IntKind.i64.wrap (IntKind.i64.wrap ((wd u).1 + (wd v).1) + IntKind.i64.wrap (((wd u).2 + (wd v).2).fdiv (2 ^ 62))) = (wd (u + v)).1 := by
    rw [fdiv62]; simp only [w64, wd]; omega
  have e3 : IntKind.i64.wrap (bitsv BinOp.and IntKind.u64 ((wd u).2 + (wd v).2) 4611686018427387903) = (wd (u + v)).2 := by
    rw [and62u]; simp only [w64, wd]; omega
  rw [e2, e1, e3, f203_wd h4 h5]
  simp
theorem f192_wd {v : Int} (h0 : -10633823966279326983230456482242756608 ≤ v) (h1 : v < 10633823966279326983230456482242756608) : f192 (wd v).1 (wd v).2 = (cl v, cl v == v) := by
  unfold f192
  rw [f203_wd h0 h1]
  by_cases hz : (wd v).1 = 0 ∨ (wd v).1 = -1
  · have hb : ((wd v).1 == 0 || (wd v).1 == -1) = true := by simpa using hz
    have e : IntKind.i64.wrap (IntKind.i64.wrap ((wd v).1 * 2 ^ 62) + (wd v).2) = v := by
      have : (2:Int) ^ 62 = 4611686018427387904 := rfl
      rw [this]; simp only [w64, wd] at *; omega
    rw [hb, e, f82_eq]
    show (cl v, !(cl v != v)) = _
    simp [bne]
  · have hb : ((wd v).1 == 0 || (wd v).1 == -1) = false := by simpa using hz
    rw [hb]
    have hd := cl_def v
    by_cases hn : (wd v).1 < 0
    · rw [decide_eq_true hn]
      have e : cl v = -288230376151711744 := by simp only [wd] at *; omega
      have e' : (cl v == v) = false := by rw [e]; simp only [wd, beq_eq_false_iff_ne] at *; omega
      rw [e', e]; rfl
    · rw [decide_eq_false hn]
      have e : cl v = 288230376151711744 := by simp only [wd] at *; omega
      have e' : (cl v == v) = false := by rw [e]; simp only [wd, beq_eq_false_iff_ne] at *; omega
      rw [e', e]; rfl
/-- a wide number, rounded -/
theorem f157_wd {v : Int} (h0 : -10633823966279326983230456482242756608 ≤ v) (h1 : v < 10633823966279326983228309000000000000) :
    f157 (wd v).1 (wd v).2 = (cl ((v + 2147483648) / 4294967296), !(cl ((v + 2147483648) / 4294967296) == (v + 2147483648) / 4294967296)) := by
  unfold f157
  have e31 : f179 2147483648 = wd 2147483648 := f179_eq _
  rw [e31, f178_wd h0 (by omega) (by omega) (by omega) (by omega) (by omega), f176_wd h0 (by omega)]
  have ea : (((wd (v + 2147483648)).1, (wd (v + 2147483648)).2, true) : Int × Int × Bool).1 = (wd (v + 2147483648)).1 := rfl
  have eb : (((wd (v + 2147483648)).1, (wd (v + 2147483648)).2, true) : Int × Int × Bool).2.1 = (wd (v + 2147483648)).2 := rfl
  rw [ea, eb, f203_wd (by omega) (by omega)]
  have hu0 : -10633823966279326983230456482242756608 ≤ v + 2147483648 := by omega
  have hu1 : v + 2147483648 < 10633823966279326983230456482242756608 := by omega
  generalize v + 2147483648 = u at *
  have e1 : (wd u).1.fdiv (2 ^ 32) = (wd (u / 4294967296)).1 := by rw [fdiv32]; simp only [wd]; omega
  have e2 : bitsv BinOp.and IntKind.i64 (bitsv BinOp.or IntKind.i64 (IntKind.i64.wrap ((wd u).1 * 2 ^ 30)) ((wd u).2.fdiv (2 ^ 32))) 4611686018427387903 = (wd (u / 4294967296)).2 := by
    have : (2:Int) ^ 30 = 1073741824 := rfl
    rw [fdiv32, this, or_i _ _ (by rw [w64]; omega) (by rw [w64]; omega) (by rw [w64]; omega) (by simp only [wd]; omega) (by simp only [wd]; omega), and62i]
    simp only [w64, wd]; omega
  rw [e1, e2, f192_wd (by omega) (by omega)]
  simp
theorem f194_eq {x y : Int} (hx0 : 0 ≤ x) (hx : x < 18446744073709551616) (hy0 : 0 ≤ y) (hy : y < 18446744073709551616) : f194 x y = (x * y / 18446744073709551616, x * y % 18446744073709551616) := by
  unfold f194
  simp only [fdiv32, and32u, wrapU_mod]
  rw [mul64_arith x y hx0 hx hy0 hy]
theorem f195_wd {v : Int} (h0 : -10633823966279326983230456482242756608 < v) (h1 : v < 10633823966279326983230456482242756608) : f195 (wd v).1 (wd v).2 = wd (-v) := by
  unfold f195
  by_cases hz : (wd v).2 = 0
  · have hb : ((wd v).2 == 0) = true := by simpa using hz
    rw [hb]
    show (_, _) = _
    simp only [w64, wd, Prod.mk.injEq] at *; omega
  · have hb : ((wd v).2 == 0) = false := by simpa using hz
    rw [hb, xor_i _ (by simp only [wd]; omega) (by simp only [wd]; omega)]
    show (_, _) = _
    simp only [w64, wd, Prod.mk.injEq] at *; omega
/-- the wide product of two numbers -/
theorem f158_eq (a b : Int) : f158 a b = wd (cl a * cl b) := by
  unfold f158
  have a1 := cl_lo a; have a2 := cl_hi a; have b1 := cl_lo b; have b2 := cl_hi b
  have ea : IntKind.u64.wrap (f163 a) = (cl a).natAbs := by rw [f163_eq]; exact wrapU (by omega) (by omega)
  have eb : IntKind.u64.wrap (f163 b) = (cl b).natAbs := by rw [f163_eq]; exact wrapU (by omega) (by omega)
  rw [ea, eb, f194_eq (by omega) (by omega) (by omega) (by omega)]
  have hP : (((cl a).natAbs : Int) * ((cl b).natAbs : Int)) = ((cl a * cl b).natAbs : Int) := by rw [Int.natAbs_mul, Int.natCast_mul]
  rw [hP]
  have hb := prod_in _ _ a1 a2 b1 b2
  -- the two words of the product of the sizes
  have key : ∀ n : Int, 0 ≤ n → n ≤ 83076749736557242056487941267521536 →
      (IntKind.i64.wrap (bitsv BinOp.or IntKind.u64 (IntKind.u64.wrap (n / 18446744073709551616 * 2 ^ 2)) ((n % 18446744073709551616).fdiv (2 ^ 62))), IntKind.i64.wrap (bitsv BinOp.and IntKind.u64 (n % 18446744073709551616) 4611686018427387903)) = wd n := by
    intro n n0 n1
    have : (2:Int) ^ 2 = 4 := rfl
    rw [fdiv62, and62u, this, or_u _ _ (by rw [wrapU_mod]; omega) (by rw [wrapU_mod]; omega) (by rw [wrapU_mod]; omega) (by omega) (by omega)]
    simp only [w64, wrapU_mod, wd, Prod.mk.injEq]; omega
  have k := key (cl a * cl b).natAbs (by omega) (by omega)
  have k1 := congrArg Prod.fst k
  have k2 := congrArg Prod.snd k
  simp only at k1 k2
  rw [k1, k2]
  have hs : (a < 0) ↔ (cl a < 0) := by have := cl_def a; omega
  have ht : (b < 0) ↔ (cl b < 0) := by have := cl_def b; omega
  generalize cl a = x at *
  generalize cl b = y at *
  have s1 : 0 ≤ x → 0 ≤ y → 0 ≤ x * y := Int.mul_nonneg
  have s2 : x < 0 → y < 0 → 0 ≤ x * y := fun h1 h2 => Int.le_of_lt (Int.mul_pos_of_neg_of_neg h1 h2)
  have s3 : x < 0 → 0 ≤ y → x * y ≤ 0 := fun h1 h2 => Int.mul_nonpos_of_nonpos_of_nonneg (Int.le_of_lt h1) h2
  have s4 : 0 ≤ x → y < 0 → x * y ≤ 0 := fun h1 h2 => Int.mul_nonpos_of_nonneg_of_nonpos h1 (Int.le_of_lt h2)
  generalize x * y = P at *
  by_cases ha : a < 0 <;> by_cases hb' : b < 0
  · rw [decide_eq_true ha, decide_eq_true hb']
    have : ((P.natAbs : Int)) = P := by omega
    rw [this]; rfl
  · rw [decide_eq_true ha, decide_eq_false hb', f195_wd (by omega) (by omega)]
    have : (-(P.natAbs : Int)) = P := by omega
    rw [this]; rfl
  · rw [decide_eq_false ha, decide_eq_true hb', f195_wd (by omega) (by omega)]
    have : (-(P.natAbs : Int)) = P := by omega
    rw [this]; rfl
  · rw [decide_eq_false ha, decide_eq_false hb']
    have : ((P.natAbs : Int)) = P := by omega
    rw [this]; rfl
/-- a rounded product -/
def rnd (v : Int) : Int := (v + 2147483648) / 4294967296
theorem f159_two (a b : Int) : f159 [a, b] = (cl a != a || cl b != b) := by
  unfold f159; simp [f82_eq]
theorem f96_eq (a b : Int) : f96 a b = (cl (rnd (cl a * cl b)), cl (rnd (cl a * cl b)) != rnd (cl a * cl b) || (cl a != a || cl b != b)) := by
  unfold f96
  have hb := prod_in _ _ (cl_lo a) (cl_hi a) (cl_lo b) (cl_hi b)
  rw [f158_eq, f157_wd (by omega) (by omega), f159_two]
  show (bif !(cl (rnd (cl a * cl b)) == rnd (cl a * cl b)) then (cl (rnd (cl a * cl b)), true) else (cl (rnd (cl a * cl b)), _)) = _
  unfold bne
  cases (cl (rnd (cl a * cl b)) == rnd (cl a * cl b)) <;> rfl
theorem f98_eq (a b : Int) : f98 a b = (cl (cl a - cl b), cl (cl a - cl b) != cl a - cl b || cl a != a || cl b != b) := by
  unfold f98
  rw [f153_eq, f153_eq, wS (by have := cl_lo a; have := cl_hi b; omega) (by have := cl_hi a; have := cl_lo b; omega), f82_eq]
end Go.Proofs.YtmnglkcodbecbaaGreat
