/- The references of scale as numbers. The references of scale answer as scale: Round, Times. The reference's Mul, Times and Mix answer as scale's. The reference's division is division. The reference's Over answers as scale's; ScaleIs. The reference's root is the root. -/
import Derived.Test.YtdchdajjhofmnaaGreatP4
import Derived.Test.YtdchdajjhofmnaaGreatGc
import Derived.Test.YtdchdajjhofmnaaGreatW3
import Derived.Test.YtdchdajjhofmnaaGreatQ7
namespace Go.Proofs.YtdchdajjhofmnaaGreat
open Go Go.Sx
theorem f182_eq (a : Int) : f182 a = (cl a, cl a != a) := by
 unfold f182
 have h := cl_def a
 by_cases h1 : a > 288230376151711744
 ·have e := cl_top h1
  rw [decide_eq_true h1, cond_true, e.2, e.1]
 ·rw [decide_eq_false h1, cond_false]
  by_cases h2 : a < -288230376151711744
  ·have e := cl_bot h2
   rw [decide_eq_true h2, cond_true, e.2, e.1]
  ·have e : cl a = a := by omega
   rw [decide_eq_false h2, cond_false, e]; simp
theorem f114_eq (a : Int) : f114 a = cl a := by unfold f114; rw [f182_eq]
theorem f227_eq (a : Int) : f227 a = (cl a != a) := by unfold f227; rw [f182_eq]
theorem f180_eq (a : Int) : f180 a = (cl a).natAbs := by
 unfold f180; rw [f114_eq, wS (by have := cl_hi a; omega) (by have := cl_lo a; omega)]
 unfold mxI; split <;> omega
theorem f275_is (h l : Int) : f275 h l = f282 h l := by
 rw [f282_eq]; unfold f275; rw [Bool.eq_iff_iff]; simp only [Bool.and_eq_true, decide_eq_true_eq, ge_iff_le]; omega
theorem f273_is (h l : Int) : f273 h l = f317 h l := by
 unfold f273 f317; rw [f275_is]; cases f282 h l <;> rfl
theorem f279_wd {v : Int} (h0 : -10633823966279326983230456482242756608 < v) (h1 : v < 10633823966279326983230456482242756608) : f279 (wd v).1 (wd v).2 = wd (-v) := by
 unfold f279
 by_cases hz : (wd v).2 = 0
 ·have hb : ((wd v).2 == 0) = true := by simpa using hz
  rw [hb]
  show (_, _) = _
  simp only [w64, wd, Prod.mk.injEq] at *; omega
 ·have hb : ((wd v).2 == 0) = false := by simpa using hz
  rw [hb]
  show (_, _) = _
  simp only [w64, wd, Prod.mk.injEq] at *; omega
theorem f280_wd {v : Int} (h0 : -10633823966279326983230456482242756608 ≤ v) (h1 : v < 10633823966279326983230456482242756608) : f280 (wd v).1 (wd v).2 = (cl v, cl v == v) := by
 unfold f280
 rw [f273_is, f317_wd h0 h1]
 have hd := cl_def v
 have eu : v = (wd v).1 * 4611686018427387904 + (wd v).2 ∧ 0 ≤ (wd v).2 ∧ (wd v).2 < 4611686018427387904 := by simp only [wd]; omega
 generalize (wd v).1 = a at *
 generalize (wd v).2 = b at *
 by_cases c1 : a = 0 ∧ b ≤ 288230376151711744
 ·have hb : (a == 0 && decide (b ≤ 288230376151711744)) = true := by simpa using c1
  have e : cl v = v := by omega
  rw [hb, cond_true, e]
  simp only [Prod.mk.injEq, beq_self_eq_true, and_true]; omega
 ·have hb : (a == 0 && decide (b ≤ 288230376151711744)) = false := by
   rw [Bool.eq_false_iff]; intro h; apply c1; simpa using h
  rw [hb, cond_false]
  by_cases c2 : a = -1 ∧ b ≥ 4323455642275676160
  ·have hb : (a == -1 && decide (b ≥ 4323455642275676160)) = true := by
    rw [Bool.and_eq_true]; exact ⟨by simpa using c2.1, decide_eq_true c2.2⟩
   have e : cl v = v := by omega
   rw [hb, cond_true, e, wS (by omega) (by omega)]
   simp only [Prod.mk.injEq, beq_self_eq_true, and_true]; omega
  ·have hb : (a == -1 && decide (b ≥ 4323455642275676160)) = false := by
    rw [Bool.eq_false_iff]; intro h; apply c2; rw [Bool.and_eq_true] at h; exact ⟨by simpa using h.1, of_decide_eq_true h.2⟩
   rw [hb, cond_false]
   by_cases hn : a < 0
   ·rw [decide_eq_true hn, cond_true]
    have e : cl v = -288230376151711744 := by omega
    have e' : (cl v == v) = false := by rw [e, beq_eq_false_iff_ne]; omega
    rw [e', e]
   ·rw [decide_eq_false hn, cond_false]
    have e : cl v = 288230376151711744 := by omega
    have e' : (cl v == v) = false := by rw [e, beq_eq_false_iff_ne]; omega
    rw [e', e]
theorem dn_wd {v : Int} (_h0 : -10633823966279326983230456482242756608 ≤ v) (_h1 : v < 10633823966279326983230456482242756608) : dn (wd v) = wd (v / 2) := by
 unfold dn
 have e1 : bitsv .and .i64 (wd v).1 1 = (wd v).1 % 2 := and_mask (.inl rfl) (wd v).1 1 (by omega) 1 rfl
 have e2 : (wd v).1.fdiv (2 ^ 1) = (wd v).1 / 2 := Int.fdiv_eq_ediv_of_nonneg _ (by decide)
 have e3 : (wd v).2.tdiv 2 = (wd v).2 / 2 := Int.tdiv_eq_ediv_of_nonneg (by simp only [wd]; omega)
 rw [e1, e2, e3]
 simp only [w64, wd, Prod.mk.injEq]; omega
theorem dnN_wd {v : Int} (h0 : -10633823966279326983230456482242756608 ≤ v) (h1 : v < 10633823966279326983230456482242756608) : ∀ n : Nat, dnN n (wd v) = wd (v / 2 ^ n) ∧ -10633823966279326983230456482242756608 ≤ v / 2 ^ n ∧ v / 2 ^ n < 10633823966279326983230456482242756608
 | 0 => by rw [Int.pow_zero, Int.ediv_one]; exact ⟨rfl, h0, h1⟩
 | n + 1 => by
  obtain ⟨e, l, u⟩ := dnN_wd h0 h1 n
  have e2 : v / 2 ^ (n + 1) = v / 2 ^ n / 2 := by
   rw [Int.pow_succ, Int.ediv_ediv_of_nonneg (by have : (0:Int) < 2 ^ n := Int.pow_pos (by omega); omega)]
  unfold dnN
  rw [e, dn_wd l u, e2]
  exact ⟨rfl, by omega, by omega⟩
theorem f281_wd {v : Int} (h0 : -10633823966279326983230456482242756608 ≤ v) (h1 : v < 10633823966279326983230456482242756608) : f281 (wd v).1 (wd v).2 = wd (v / 4294967296) := by
 unfold f281
 rw [f273_is, f317_wd h0 h1, (dnN_wd h0 h1 32).1]; rfl
end Go.Proofs.YtdchdajjhofmnaaGreat
namespace Go.Proofs.YtdchdajjhofmnaaGreat
open Go Go.Sx
def inW (v : Int) : Prop := -10633823966279326983230456482242756608 ≤ v ∧ v < 10633823966279326983230456482242756608
theorem f317_some (h l : Int) : ∃ v, inW v ∧ f317 h l = wd v := by
 unfold f317
 by_cases c : f282 h l = true
 ·rw [c, cond_true]
  rw [f282_eq] at c
  have c := of_decide_eq_true c
  refine ⟨h * 4611686018427387904 + l, ⟨by omega, by omega⟩, ?_⟩
  simp only [wd, Prod.mk.injEq]; omega
 ·rw [Bool.not_eq_true] at c
  rw [c, cond_false]
  exact ⟨0, ⟨by omega, by omega⟩, rfl⟩
theorem f317_out {v : Int} (h : v < -10633823966279326983230456482242756608 ∨ 10633823966279326983230456482242756608 ≤ v) : f317 (wd v).1 (wd v).2 = (0, 0) := by
 unfold f317
 rw [f282_eq, decide_eq_false (by simp only [wd]; omega), cond_false]
theorem f284_gen {h l c d u v : Int} (hu : inW u) (hv : inW v) (e1 : f317 h l = wd u) (e2 : f317 c d = wd v) :
  (inW (u + v) → f284 h l c d = ((wd (u + v)).1, (wd (u + v)).2, true)) ∧ (¬ inW (u + v) → f284 h l c d = (0, 0, false)) := by
 unfold inW at *
 unfold f284
 rw [e1, e2]
 have w2 : IntKind.u64.wrap (IntKind.u64.wrap (wd u).2 + IntKind.u64.wrap (wd v).2) = (wd u).2 + (wd v).2 := by
  simp only [wrapU_mod, wd]; omega
 have w1 : IntKind.i64.wrap (IntKind.i64.wrap ((wd u).1 + (wd v).1) + IntKind.i64.wrap (((wd u).2 + (wd v).2).fdiv (2 ^ 62))) = (wd (u + v)).1 := by
  rw [fdiv62]; simp only [w64, wd]; omega
 have w3 : IntKind.i64.wrap (bitsv BinOp.and IntKind.u64 ((wd u).2 + (wd v).2) 4611686018427387903) = (wd (u + v)).2 := by
  rw [and62u]; simp only [w64, wd]; omega
 rw [w2, w1, w3]
 constructor
 ·intro h
  rw [f317_wd h.1 h.2]; simp
 ·intro h
  rw [f317_out (by omega)]
  have : ((0 : Int) == (wd (u + v)).1) = false := by rw [beq_eq_false_iff_ne]; simp only [wd]; omega
  rw [this]; rfl
theorem f276_gen {h l c d u v : Int} (hu : inW u) (hv : inW v) (e1 : f317 h l = wd u) (e2 : f317 c d = wd v) :
  (inW (u + v) → f276 h l c d = ((wd (u + v)).1, (wd (u + v)).2, true)) ∧ (¬ inW (u + v) → f276 h l c d = (0, 0, false)) := by
 unfold inW at *
 unfold f276
 rw [f273_is, f273_is, e1, e2]
 have hs : ∀ s : Int, f275 (wd s).1 (wd s).2 = decide (-10633823966279326983230456482242756608 ≤ s ∧ s < 10633823966279326983230456482242756608) := by
  intro s; rw [f275_is, f282_eq, decide_eq_decide]; simp only [wd]; omega
 have w2 : IntKind.i64.wrap ((wd u).2 + (wd v).2) = (wd u).2 + (wd v).2 := by simp only [w64, wd]; omega
 have w1 : IntKind.i64.wrap ((wd u).1 + (wd v).1) = (wd u).1 + (wd v).1 := by simp only [w64, wd]; omega
 rw [w2, w1]
 have hn : ¬ (wd u).2 + (wd v).2 < 0 := by simp only [wd]; omega
 rw [decide_eq_false hn, Bool.false_or]
 by_cases hc : (wd u).2 + (wd v).2 ≥ 4611686018427387904
 ·have g1 : IntKind.i64.wrap ((wd u).1 + (wd v).1 + 1) = (wd (u + v)).1 := by simp only [w64, wd] at *; omega
  have g2 : IntKind.i64.wrap ((wd u).2 + (wd v).2 - 4611686018427387904) = (wd (u + v)).2 := by simp only [w64, wd] at *; omega
  rw [decide_eq_true hc, cond_true, g1, g2, hs]
  constructor <;> intro h
  ·rw [decide_eq_true h]; rfl
  ·rw [decide_eq_false h]; rfl
 ·have g1 : (wd u).1 + (wd v).1 = (wd (u + v)).1 := by simp only [wd] at *; omega
  have g2 : (wd u).2 + (wd v).2 = (wd (u + v)).2 := by simp only [wd] at *; omega
  rw [decide_eq_false hc, cond_false, g1, g2, hs]
  constructor <;> intro h
  ·rw [decide_eq_true h]; rfl
  ·rw [decide_eq_false h]; rfl
theorem f226_eq (h l : Int) : f226 h l = f258 h l := by
 obtain ⟨v, hv, e⟩ := f317_some h l
 have hk : inW 2147483648 := ⟨by omega, by omega⟩
 have ek : f317 0 2147483648 = wd 2147483648 := f317_wd (v := 2147483648) (by omega) (by omega)
 have ek2 : f317 (f285 2147483648).1 (f285 2147483648).2 = wd 2147483648 := by rw [f285_wd]; exact f317_wd (by omega) (by omega)
 have g284 := f284_gen hv hk e ek2
 have g276 := f276_gen hv hk e ek
 unfold f226 f258
 by_cases c : inW (v + 2147483648)
 ·rw [g284.1 c, g276.1 c]
  have ea : (((wd (v + 2147483648)).1, (wd (v + 2147483648)).2, true) : Int × Int × Bool).1 = (wd (v + 2147483648)).1 := rfl
  have eb : (((wd (v + 2147483648)).1, (wd (v + 2147483648)).2, true) : Int × Int × Bool).2.1 = (wd (v + 2147483648)).2 := rfl
  rw [ea, eb, f317_wd c.1 c.2, f281_wd c.1 c.2]
  have hu0 := c.1
  have hu1 := c.2
  generalize v + 2147483648 = u at *
  have e1 : (wd u).1.fdiv (2 ^ 32) = (wd (u / 4294967296)).1 := by rw [fdiv32]; simp only [wd]; omega
  have e2 : bitsv BinOp.and IntKind.i64 (bitsv BinOp.or IntKind.i64 (IntKind.i64.wrap ((wd u).1 * 2 ^ 30)) ((wd u).2.fdiv (2 ^ 32))) 4611686018427387903 = (wd (u / 4294967296)).2 := by
   have : (2:Int) ^ 30 = 1073741824 := rfl
   rw [fdiv32, this, or_i _ _ (by rw [w64]; omega) (by rw [w64]; omega) (by rw [w64]; omega) (by simp only [wd]; omega) (by simp only [wd]; omega), and62i]
   simp only [w64, wd]; omega
  rw [e1, e2, f300_wd (by omega) (by omega), f280_wd (by omega) (by omega), f275_is]
 ·rw [g284.2 c, g276.2 c]; simp only [Bool.not_false, cond_true]
end Go.Proofs.YtdchdajjhofmnaaGreat
namespace Go.Proofs.YtdchdajjhofmnaaGreat
open Go Go.Sx
theorem sgn_prod (x y : Int) : (bif (!decide (x < 0) == decide (y < 0)) then -((x * y).natAbs : Int) else ((x * y).natAbs : Int)) = x * y := by
 have s1 : 0 ≤ x → 0 ≤ y → 0 ≤ x * y := Int.mul_nonneg
 have s2 : x < 0 → y < 0 → 0 ≤ x * y := fun h1 h2 => Int.le_of_lt (Int.mul_pos_of_neg_of_neg h1 h2)
 have s3 : x < 0 → 0 ≤ y → x * y ≤ 0 := fun h1 h2 => Int.mul_nonpos_of_nonpos_of_nonneg (Int.le_of_lt h1) h2
 have s4 : 0 ≤ x → y < 0 → x * y ≤ 0 := fun h1 h2 => Int.mul_nonpos_of_nonneg_of_nonpos h1 (Int.le_of_lt h2)
 by_cases ha : x < 0 <;> by_cases hb : y < 0
 ·rw [decide_eq_true ha, decide_eq_true hb, show (!(true == true)) = false from rfl, cond_false]; have := s2 ha hb; omega
 ·rw [decide_eq_true ha, decide_eq_false hb, show (!(true == false)) = true from rfl, cond_true]; have := s3 ha (by omega); omega
 ·rw [decide_eq_false ha, decide_eq_true hb, show (!(false == true)) = true from rfl, cond_true]; have := s4 (by omega) hb; omega
 ·rw [decide_eq_false ha, decide_eq_false hb, show (!(false == false)) = false from rfl, cond_false]; have := s1 (by omega) (by omega); omega
theorem split31 (x1 x0 y1 y0 : Int) : (x1 * 2147483648 + x0) * (y1 * 2147483648 + y0) = x1 * y1 * 4611686018427387904 + (x1 * y0 + x0 * y1) * 2147483648 + x0 * y0 := by
 grind
theorem wd_of {h l : Int} (h0 : 0 ≤ l) (h1 : l < 4611686018427387904) : wd (h * 4611686018427387904 + l) = (h, l) := by
 simp only [wd, Prod.mk.injEq]; omega
theorem pair_neg (neg : Bool) {h l v : Int} (g : wd v = (h, l)) (h0 : -10633823966279326983230456482242756608 < v) (h1 : v < 10633823966279326983230456482242756608) :
  (bif neg then ((f279 h l).1, (f279 h l).2) else (h, l)) = wd (bif neg then -v else v) := by
 have f := f279_wd h0 h1
 rw [g] at f
 cases neg
 ·exact g.symm
 ·exact f
theorem f225_end (neg : Bool) (H T : Int) (b1 : 0 ≤ H) (b2 : H ≤ 18014398509481984 + 536870912) (b3 : 0 ≤ T) (b4 : T < 9223372036854775808) :
  (bif decide (T ≥ 4611686018427387904) then (bif neg then ((f279 (H + 1) (IntKind.i64.wrap (T - 4611686018427387904))).1, (f279 (H + 1) (IntKind.i64.wrap (T - 4611686018427387904))).2) else (H + 1, IntKind.i64.wrap (T - 4611686018427387904)))
   else bif neg then ((f279 H T).1, (f279 H T).2) else (H, T)) = wd (bif neg then -(H * 4611686018427387904 + T) else H * 4611686018427387904 + T) := by
 by_cases hc : T ≥ 4611686018427387904
 ·rw [decide_eq_true hc, cond_true, wS (n := T - 4611686018427387904) (by omega) (by omega)]
  refine pair_neg neg (v := H * 4611686018427387904 + T) ?_ (by omega) (by omega)
  have e : H * 4611686018427387904 + T = (H + 1) * 4611686018427387904 + (T - 4611686018427387904) := by omega
  rw [e]; exact wd_of (by omega) (by omega)
 ·rw [decide_eq_false hc, cond_false]
  exact pair_neg neg (v := H * 4611686018427387904 + T) (wd_of (by omega) (by omega)) (by omega) (by omega)
theorem f225_eq (a b : Int) : f225 a b = wd (cl a * cl b) := by
 unfold f225
 have a1 := cl_lo a; have a2 := cl_hi a; have b1 := cl_lo b; have b2 := cl_hi b
 rw [f180_eq, f180_eq]
 have hP : (((cl a).natAbs : Int) * ((cl b).natAbs : Int)) = ((cl a * cl b).natAbs : Int) := by rw [Int.natAbs_mul, Int.natCast_mul]
 have hs : (a < 0) ↔ (cl a < 0) := by have := cl_def a; omega
 have ht : (b < 0) ↔ (cl b < 0) := by have := cl_def b; omega
 have hX0 : 0 ≤ ((cl a).natAbs : Int) := by omega
 have hX : ((cl a).natAbs : Int) ≤ 288230376151711744 := by omega
 have hY0 : 0 ≤ ((cl b).natAbs : Int) := by omega
 have hY : ((cl b).natAbs : Int) ≤ 288230376151711744 := by omega
 have d1 : decide (a < 0) = decide (cl a < 0) := by rw [decide_eq_decide]; exact hs
 have d2 : decide (b < 0) = decide (cl b < 0) := by rw [decide_eq_decide]; exact ht
 have hsg := sgn_prod (cl a) (cl b)
 rw [d1, d2]
 rw [← hP] at hsg
 generalize ((cl a).natAbs : Int) = X at *
 generalize ((cl b).natAbs : Int) = Y at *
 rw [← hsg]
 generalize (!decide (cl a < 0) == decide (cl b < 0)) = neg
 clear hsg hs ht a1 a2 b1 b2 d1 d2 hP
 have ex : X = X / 2147483648 * 2147483648 + X % 2147483648 := by omega
 have ey : Y = Y / 2147483648 * 2147483648 + Y % 2147483648 := by omega
 have e1 : X.tdiv 2147483648 = X / 2147483648 := Int.tdiv_eq_ediv_of_nonneg hX0
 have e2 : X.tmod 2147483648 = X % 2147483648 := Int.tmod_eq_emod_of_nonneg hX0
 have e3 : Y.tdiv 2147483648 = Y / 2147483648 := Int.tdiv_eq_ediv_of_nonneg hY0
 have e4 : Y.tmod 2147483648 = Y % 2147483648 := Int.tmod_eq_emod_of_nonneg hY0
 rw [e1, e2, e3, e4]
 have bx1 : 0 ≤ X / 2147483648 ∧ X / 2147483648 ≤ 134217728 := by omega
 have bx0 : 0 ≤ X % 2147483648 ∧ X % 2147483648 ≤ 2147483647 := by omega
 have by1 : 0 ≤ Y / 2147483648 ∧ Y / 2147483648 ≤ 134217728 := by omega
 have by0 : 0 ≤ Y % 2147483648 ∧ Y % 2147483648 ≤ 2147483647 := by omega
 have hXY := split31 (X / 2147483648) (X % 2147483648) (Y / 2147483648) (Y % 2147483648)
 rw [← ex, ← ey] at hXY
 rw [hXY]
 clear hXY ex ey e1 e2 e3 e4
 generalize X / 2147483648 = x1 at *
 generalize X % 2147483648 = x0 at *
 generalize Y / 2147483648 = y1 at *
 generalize Y % 2147483648 = y0 at *
 have p1 : 0 ≤ x1 * y1 ∧ x1 * y1 ≤ 134217728 * 134217728 := ⟨Int.mul_nonneg bx1.1 by1.1, Int.mul_le_mul bx1.2 by1.2 by1.1 (by omega)⟩
 have p2 : 0 ≤ x1 * y0 ∧ x1 * y0 ≤ 134217728 * 2147483647 := ⟨Int.mul_nonneg bx1.1 by0.1, Int.mul_le_mul bx1.2 by0.2 by0.1 (by omega)⟩
 have p3 : 0 ≤ x0 * y1 ∧ x0 * y1 ≤ 2147483647 * 134217728 := ⟨Int.mul_nonneg bx0.1 by1.1, Int.mul_le_mul bx0.2 by1.2 by1.1 (by omega)⟩
 have p4 : 0 ≤ x0 * y0 ∧ x0 * y0 ≤ 2147483647 * 2147483647 := ⟨Int.mul_nonneg bx0.1 by0.1, Int.mul_le_mul bx0.2 by0.2 by0.1 (by omega)⟩
 rw [wS (n := x1) (by omega) (by omega), wS (n := y1) (by omega) (by omega)]
 generalize x1 * y1 = A at *
 generalize x1 * y0 = B at *
 generalize x0 * y1 = C at *
 generalize x0 * y0 = D at *
 rw [wS (n := A) (by omega) (by omega), wS (n := B) (by omega) (by omega), wS (n := C) (by omega) (by omega), wS (n := D) (by omega) (by omega), wS (n := B + C) (by omega) (by omega)]
 have q1 : (B + C).tdiv 2147483648 = (B + C) / 2147483648 := Int.tdiv_eq_ediv_of_nonneg (by omega)
 have q2 : (B + C).tmod 2147483648 = (B + C) % 2147483648 := Int.tmod_eq_emod_of_nonneg (by omega)
 rw [q1, q2, wS (n := (B + C) / 2147483648) (by omega) (by omega), wS (n := (B + C) % 2147483648 * 2147483648) (by omega) (by omega), wS (n := D + (B + C) % 2147483648 * 2147483648) (by omega) (by omega),
  wS (n := A + (B + C) / 2147483648) (by omega) (by omega), wS (n := A + (B + C) / 2147483648 + 1) (by omega) (by omega)]
 have hVe : A * 4611686018427387904 + (B + C) * 2147483648 + D = (A + (B + C) / 2147483648) * 4611686018427387904 + (D + (B + C) % 2147483648 * 2147483648) := by
  clear p1 p2 p3 p4; omega
 have bH : 0 ≤ A + (B + C) / 2147483648 ∧ A + (B + C) / 2147483648 ≤ 18014398509481984 + 536870912 := by omega
 have bL : 0 ≤ D + (B + C) % 2147483648 * 2147483648 ∧ D + (B + C) % 2147483648 * 2147483648 < 9223372036854775808 := by omega
 rw [hVe]
 clear hVe q1 q2 p1 p2 p3 p4
 generalize A + (B + C) / 2147483648 = H at *
 generalize D + (B + C) % 2147483648 * 2147483648 = T at *
 exact f225_end neg H T bH.1 bH.2 bL.1 bL.2
theorem f179_eq (a b : Int) : f179 a b = f206 a b := by
 unfold f179 f206
 rw [f225_eq, f259_eq, f226_eq, f227_eq, f227_eq, f260_two]
 cases (f258 (wd (cl a * cl b)).1 (wd (cl a * cl b)).2).2 <;> simp
end Go.Proofs.YtdchdajjhofmnaaGreat
namespace Go.Proofs.YtdchdajjhofmnaaGreat
open Go Go.Sx
def part (x : Int) (k : Nat) : Int := x * 4294967296 / 2 ^ (91 - k)
theorem bit_is (x : Int) (k : Nat) (hk : k < 91) : part x (k + 1) = 2 * part x k + dbit x (90 - k) := by
 unfold part dbit
 have e : 91 - k = (91 - (k + 1)) + 1 := by omega
 rw [e, Int.pow_succ]
 have hp : (0:Int) < 2 ^ (91 - (k + 1)) := Int.pow_pos (by omega)
 rw [← Int.ediv_ediv_of_nonneg (by omega)]
 have key : dbit x (90 - k) = x * 4294967296 / 2 ^ (91 - (k + 1)) % 2 := by
  unfold dbit
  by_cases h : 32 ≤ 90 - k
  ·rw [if_pos h, show min (90 - k - 32) 64 = 90 - k - 32 by omega]
   have e2 : (2:Int) ^ (91 - (k + 1)) = 2 ^ (90 - k - 32) * 4294967296 := by
    rw [show 91 - (k + 1) = (90 - k - 32) + 32 by omega, Int.pow_add]; rfl
   rw [e2, Int.mul_ediv_mul_of_pos_left _ _ (by omega)]
  ·rw [if_neg h]
   have e2 : x * 4294967296 = x * 2 ^ (32 - (90 - k)) * 2 ^ (91 - (k + 1)) := by
    rw [Int.mul_assoc, ← Int.pow_add, show 32 - (90 - k) + (91 - (k + 1)) = 32 by omega]; rfl
   rw [e2, Int.mul_ediv_cancel _ (by omega)]
   have e3 : 32 - (90 - k) = (31 - (90 - k)) + 1 := by omega
   rw [e3, Int.pow_succ, ← Int.mul_assoc]; omega
 unfold dbit at key
 rw [key]; omega
theorem drun_is {x y : Int} (hx0 : 0 ≤ x) (hx : x ≤ 288230376151711744) (hy0 : 0 < y) (hy : y ≤ 288230376151711744) : ∀ k : Nat, k ≤ 91 →
  (drun x y k).2 = part x k % y ∧ ((part x k / y < 576460752303423488 ∧ (drun x y k).1 = part x k / y) ∨ (576460752303423488 ≤ part x k / y ∧ 576460752303423488 ≤ (drun x y k).1 ∧ (drun x y k).1 ≤ 576460752303423489))
 | 0, _ => by
  have : part x 0 = 0 := by unfold part; exact Int.ediv_eq_zero_of_lt (by omega) (by have : (2:Int) ^ (91 - 0) = 2475880078570760549798248448 := rfl; omega)
  rw [this, Int.zero_emod, Int.zero_ediv]
  exact ⟨rfl, .inl ⟨by omega, rfl⟩⟩
 | k + 1, hk => by
  obtain ⟨h1, h2⟩ := drun_is hx0 hx hy0 hy k (by omega)
  have hb := bit_is x k (by omega)
  have hbb : 0 ≤ dbit x (90 - k) ∧ dbit x (90 - k) ≤ 1 := by unfold dbit; split <;> omega
  have hT : 0 ≤ part x k := Int.ediv_nonneg (by omega) (Int.le_of_lt (Int.pow_pos (by omega)))
  have e1 := Int.mul_ediv_add_emod (part x k) y
  have r0 := Int.emod_nonneg (part x k) (b := y) (by omega)
  have r1 := Int.emod_lt_of_pos (part x k) hy0
  have q0 : 0 ≤ part x k / y := Int.ediv_nonneg hT (by omega)
  rw [hb]
  show (dstep y (dbit x (90 - k)) (drun x y k)).2 = _ ∧ _
  have hd : drun x y (k + 1) = dstep y (dbit x (90 - k)) (drun x y k) := rfl
  rw [hd]
  generalize dbit x (90 - k) = c at *
  generalize drun x y k = s at *
  generalize part x k / y = q at *
  generalize part x k % y = r at *
  generalize part x k = T at *
  clear hd hb
  have w1 : IntKind.i64.wrap (IntKind.i64.wrap (2 * s.2) + c) = 2 * r + c := by rw [h1, wS (n := 2 * r) (by omega) (by omega), wS (by omega) (by omega)]
  have hq1 : 0 ≤ s.1 ∧ s.1 ≤ 576460752303423489 := by omega
  have w2 : IntKind.i64.wrap (2 * s.1) = 2 * s.1 := wS (by omega) (by omega)
  have hm : (2 * s.1 ≤ 576460752303423488 ∧ mnI (2 * s.1) 576460752303423488 = 2 * s.1) ∨ (576460752303423488 < 2 * s.1 ∧ mnI (2 * s.1) 576460752303423488 = 576460752303423488) := by unfold mnI; split <;> omega
  by_cases hc : y ≤ 2 * r + c
  ·have e : dstep y c s = (mnI (2 * s.1) 576460752303423488 + 1, 2 * r + c - y) := by
    have : dstep y c s = (IntKind.i64.wrap (mnI (IntKind.i64.wrap (2 * s.1)) 576460752303423488 + 1), IntKind.i64.wrap (IntKind.i64.wrap (IntKind.i64.wrap (2 * s.2) + c) - y)) := if_pos (by rw [w1]; exact hc)
    rw [this, w1, w2, wS (n := mnI (2 * s.1) 576460752303423488 + 1) (by omega) (by omega), wS (by omega) (by omega)]
   have hu := (Int.ediv_emod_unique (a := 2 * T + c) (b := y) (r := 2 * r + c - y) (q := 2 * q + 1) hy0).2 ⟨by rw [Int.mul_add, Int.mul_one, Int.mul_left_comm]; omega, by omega, by omega⟩
   rw [e, hu.1, hu.2]
   exact ⟨rfl, by simp only; omega⟩
  ·have e : dstep y c s = (mnI (2 * s.1) 576460752303423488, 2 * r + c) := by
    have : dstep y c s = (mnI (IntKind.i64.wrap (2 * s.1)) 576460752303423488, IntKind.i64.wrap (IntKind.i64.wrap (2 * s.2) + c)) := if_neg (by rw [w1]; exact hc)
    rw [this, w1, w2]
   have hu := (Int.ediv_emod_unique (a := 2 * T + c) (b := y) (r := 2 * r + c) (q := 2 * q) hy0).2 ⟨by rw [Int.mul_left_comm]; omega, by omega, by omega⟩
   rw [e, hu.1, hu.2]
   exact ⟨rfl, by simp only; omega⟩
end Go.Proofs.YtdchdajjhofmnaaGreat
namespace Go.Proofs.YtdchdajjhofmnaaGreat
open Go Go.Sx
set_option linter.unusedVariables false
set_option linter.unusedSimpArgs false
theorem core21 (nA nB c1 c2 : Bool) (X Y q q' r : Int) (hY : Y ≤ 288230376151711744) (r0 : 0 ≤ r) (r1 : r < Y) (q0 : 0 ≤ q)
  (hq : (q < 576460752303423488 ∧ q' = q) ∨ (576460752303423488 ≤ q ∧ 576460752303423488 ≤ q' ∧ q' ≤ 576460752303423489)) (hf : f272 X Y = (q', r)) :
  (bif nA == nB && decide (IntKind.i64.wrap (2 * (f272 X Y).snd) ≥ Y) then (bif !nA == nB then (bif decide (IntKind.i64.wrap (2 * (f272 X Y).snd) > Y) then (((f182 (IntKind.i64.wrap (0 - IntKind.i64.wrap (IntKind.i64.wrap ((f272 X Y).fst + 1) + 1)))).fst, (f182 (IntKind.i64.wrap (0 - IntKind.i64.wrap (IntKind.i64.wrap ((f272 X Y).fst + 1) + 1)))).snd || c1 || c2)) else (((f182 (IntKind.i64.wrap (0 - IntKind.i64.wrap ((f272 X Y).fst + 1)))).fst, (f182 (IntKind.i64.wrap (0 - IntKind.i64.wrap ((f272 X Y).fst + 1)))).snd || c1 || c2))) else (((f182 (IntKind.i64.wrap ((f272 X Y).fst + 1))).fst, (f182 (IntKind.i64.wrap ((f272 X Y).fst + 1))).snd || c1 || c2))) else (bif !nA == nB then (bif decide (IntKind.i64.wrap (2 * (f272 X Y).snd) > Y) then (((f182 (IntKind.i64.wrap (0 - IntKind.i64.wrap ((f272 X Y).fst + 1)))).fst, (f182 (IntKind.i64.wrap (0 - IntKind.i64.wrap ((f272 X Y).fst + 1)))).snd || c1 || c2)) else (((f182 (IntKind.i64.wrap (0 - (f272 X Y).fst))).fst, (f182 (IntKind.i64.wrap (0 - (f272 X Y).fst))).snd || c1 || c2))) else (((f182 (f272 X Y).fst).fst, (f182 (f272 X Y).fst).snd || c1 || c2)))) =
  (cl (bif !nA == nB then -q - (if Y < 2 * r then 1 else 0) else q + (if Y ≤ 2 * r then 1 else 0)), (c1 || c2) || cl (bif !nA == nB then -q - (if Y < 2 * r then 1 else 0) else q + (if Y ≤ 2 * r then 1 else 0)) != (bif !nA == nB then -q - (if Y < 2 * r then 1 else 0) else q + (if Y ≤ 2 * r then 1 else 0))) := by
 rw [hf]
 have w1 : IntKind.i64.wrap (2 * r) = 2 * r := wS (by omega) (by omega)
 have w3 : IntKind.i64.wrap (q' + 1) = q' + 1 := wS (by omega) (by omega)
 have w5 : IntKind.i64.wrap (0 - (q' + 1)) = -q' - 1 := by rw [wS (by omega) (by omega)]; omega
 have w6 : IntKind.i64.wrap (0 - q') = -q' := by rw [wS (by omega) (by omega)]; omega
 simp only [w1, w3, w5, w6, f182_eq]
 have same : ∀ u v : Int, (u = v ∨ (288230376151711744 < u ∧ 288230376151711744 < v) ∨ (u < -288230376151711744 ∧ v < -288230376151711744)) → cl u = cl v ∧ (cl u != u) = (cl v != v) := by
  intro u v h
  rcases h with rfl | ⟨h1, h2⟩ | ⟨h1, h2⟩
  ·exact ⟨rfl, rfl⟩
  ·have a := cl_top h1; have b := cl_top h2
   exact ⟨by rw [a.1, b.1], by rw [a.2, b.2]⟩
  ·have a := cl_bot h1; have b := cl_bot h2
   exact ⟨by rw [a.1, b.1], by rw [a.2, b.2]⟩
 have fin : ∀ u v : Int, (u = v ∨ (288230376151711744 < u ∧ 288230376151711744 < v) ∨ (u < -288230376151711744 ∧ v < -288230376151711744)) → ((cl u, cl u != u || c1 || c2) : Int × Bool) = (cl v, (c1 || c2) || cl v != v) := by
  intro u v h
  obtain ⟨a, b⟩ := same u v h
  rw [b, a]
  cases (cl v != v) <;> cases c1 <;> cases c2 <;> rfl
 by_cases hp : Y ≤ 2 * r <;> by_cases hs : Y < 2 * r
 ·cases nA <;> cases nB <;> simp only [hp, hs, ge_iff_le, gt_iff_lt, decide_true, Bool.and_true, Bool.and_false, beq_self_eq_true, Bool.not_true, cond_true, cond_false, if_true, show ((true == false) : Bool) = false from rfl, show ((false == true) : Bool) = false from rfl, Bool.false_and, Bool.not_false] <;> exact fin _ _ (by omega)
 ·cases nA <;> cases nB <;> simp only [hp, hs, ge_iff_le, gt_iff_lt, decide_true, decide_false, Bool.and_true, Bool.and_false, beq_self_eq_true, Bool.not_true, cond_true, cond_false, if_true, if_false, show ((true == false) : Bool) = false from rfl, show ((false == true) : Bool) = false from rfl, Bool.false_and, Bool.not_false] <;> exact fin _ _ (by omega)
 ·omega
 ·cases nA <;> cases nB <;> simp only [hp, hs, ge_iff_le, gt_iff_lt, decide_false, Bool.and_true, Bool.and_false, beq_self_eq_true, Bool.not_true, cond_true, cond_false, if_false, show ((true == false) : Bool) = false from rfl, show ((false == true) : Bool) = false from rfl, Bool.false_and, Bool.not_false] <;> exact fin _ _ (by omega)
theorem f222_eq (a b : Int) : f222 a b = f312 a b := by
 rw [f312_eq]
 unfold f222 ovr
 have a1 := cl_lo a; have a2 := cl_hi a; have b1 := cl_lo b; have b2 := cl_hi b
 simp only [f114_eq, f180_eq, f227_eq, cl_cl]
 generalize (cl a != a) = c1
 generalize (cl b != b) = c2
 generalize cl a = A at *
 generalize cl b = B at *
 by_cases hB : B = 0
 ·subst hB
  by_cases hA : A = 0
  ·subst hA; simp
  ·have hA2 : (A == 0) = false := by simpa using hA
   by_cases hn : A < 0
   ·have h0 : ¬ 0 < A := by omega
    simp [hA2, hn, h0]
   ·have h0 : 0 < A := by omega
    simp [hA2, hn, h0]
 ·have hB2 : (B == 0) = false := by simpa using hB
  have hY0 : 0 < (B.natAbs : Int) := by omega
  have hd := drun_is (x := A.natAbs) (y := B.natAbs) (by omega) (by omega) hY0 (by omega) 91 (by omega)
  have hT : part A.natAbs 91 = (A.natAbs : Int) * 4294967296 := by unfold part; exact Int.ediv_one _
  rw [hT] at hd
  have r0 := Int.emod_nonneg ((A.natAbs : Int) * 4294967296) (b := (B.natAbs : Int)) (by omega)
  have r1 := Int.emod_lt_of_pos ((A.natAbs : Int) * 4294967296) hY0
  have q0 : 0 ≤ (A.natAbs : Int) * 4294967296 / B.natAbs := Int.ediv_nonneg (by omega) (by omega)
  have hf : f272 A.natAbs B.natAbs = ((drun A.natAbs B.natAbs 91).1, (A.natAbs : Int) * 4294967296 % B.natAbs) := by
   unfold f272
   rw [← hd.1]
  have hov := ov_eq A B hY0
  have hcore := core21 (decide (A < 0)) (decide (B < 0)) c1 c2 _ _ _ _ _ (by omega) r0 r1 q0 hd.2 hf
  rw [hB2]
  simp only [Bool.false_and, cond_false]
  refine hcore.trans ?_
  rw [← hov]
  by_cases hA : A = 0
  ·subst hA
   rw [ov_zero hB]
   cases c1 <;> cases c2 <;> rfl
  ·have hA2 : (A == 0) = false := by simpa using hA
   rw [hA2]; rfl
end Go.Proofs.YtdchdajjhofmnaaGreat
namespace Go.Proofs.YtdchdajjhofmnaaGreat
open Go Go.Sx
theorem f278_wd {u v : Int} (h0 : -10633823966279326983230456482242756608 ≤ u) (h1 : u < 10633823966279326983230456482242756608) (h2 : -10633823966279326983230456482242756608 ≤ v) (h3 : v < 10633823966279326983230456482242756608) :
  f278 (wd u).1 (wd u).2 (wd v).1 (wd v).2 ≤ 0 ↔ u ≤ v := by
 unfold f278
 simp only [f273_is]
 rw [f317_wd h0 h1, f317_wd h2 h3]
 have eu : u = (wd u).1 * 4611686018427387904 + (wd u).2 ∧ 0 ≤ (wd u).2 ∧ (wd u).2 < 4611686018427387904 := by simp only [wd]; omega
 have ev : v = (wd v).1 * 4611686018427387904 + (wd v).2 ∧ 0 ≤ (wd v).2 ∧ (wd v).2 < 4611686018427387904 := by simp only [wd]; omega
 clear h0 h1 h2 h3
 generalize (wd u).1 = a at *
 generalize (wd u).2 = b at *
 generalize (wd v).1 = c at *
 generalize (wd v).2 = d at *
 by_cases c1 : a < c
 ·rw [decide_eq_true c1, Bool.true_or, cond_true]; omega
 ·rw [decide_eq_false c1, Bool.false_or]
  by_cases c2 : a = c
  ·subst c2
   rw [show (a == a) = true by simp, Bool.true_and, Bool.true_and]
   by_cases c3 : b < d
   ·rw [decide_eq_true c3, cond_true]; omega
   ·rw [decide_eq_false c3, cond_false]
    by_cases c4 : b = d
    ·subst c4; rw [show (b == b) = true by simp, cond_true]; omega
    ·rw [show (b == d) = false by simpa using c4, cond_false]; omega
  ·rw [show (a == c) = false by simpa using c2, Bool.false_and, Bool.false_and, cond_false, cond_false]; omega
theorem f274_wd {v m : Int} (h0 : 0 ≤ v) (h1 : v < 10633823966279326983230456482242756608) (h2 : 0 ≤ m) (h3 : m ≤ 288230376151711744) : f274 m (wd v).1 (wd v).2 = decide (m * m ≤ v) := by
 unfold f274
 simp only
 have hm : cl m = m := cl_in (by omega) h3
 have hp := prod_in m m (by omega) h3 (by omega) h3
 rw [f225_eq, hm]
 exact decide_eq_decide.2 (f278_wd (by omega) (by omega) (by omega) (by omega))
theorem try_wd {v n bit : Int} (h0 : 0 ≤ v) (h1 : v < 10633823966279326983230456482242756608) (n0 : 0 ≤ n) (n1 : n ≤ 288230376151711744) (n2 : n * n ≤ v) (b0 : 0 < bit) (b1 : bit ≤ 288230376151711744) (hi : 288230376151711744 < n + 2 * bit ∨ v < (n + 2 * bit) * (n + 2 * bit)) :
  0 ≤ tryB (wd v).1 (wd v).2 n bit ∧ tryB (wd v).1 (wd v).2 n bit ≤ 288230376151711744 ∧ tryB (wd v).1 (wd v).2 n bit * tryB (wd v).1 (wd v).2 n bit ≤ v ∧
   (288230376151711744 < tryB (wd v).1 (wd v).2 n bit + bit ∨ v < (tryB (wd v).1 (wd v).2 n bit + bit) * (tryB (wd v).1 (wd v).2 n bit + bit)) := by
 have ha : addB n bit = n + bit := wS (by omega) (by omega)
 unfold tryB
 rw [ha]
 by_cases c1 : n + bit ≤ 288230376151711744
 ·rw [decide_eq_true c1, Bool.true_and, f274_wd h0 h1 (by omega) c1]
  by_cases c2 : (n + bit) * (n + bit) ≤ v
  ·rw [decide_eq_true c2, cond_true]
   exact ⟨by omega, c1, c2, by rw [show n + bit + bit = n + 2 * bit by omega]; exact hi⟩
  ·rw [decide_eq_false c2, cond_false]
   exact ⟨n0, n1, n2, .inr (by omega)⟩
 ·rw [decide_eq_false c1, Bool.false_and, cond_false]
  exact ⟨n0, n1, n2, .inl (by omega)⟩
theorem run_wd {v : Int} (h0 : 0 ≤ v) (h1 : v < 10633823966279326983230456482242756608) : ∀ (k : Nat) (n : Int), 0 ≤ n → n ≤ 288230376151711744 → n * n ≤ v → (2 : Int) ^ k ≤ 288230376151711744 →
    (288230376151711744 < n + 2 * 2 ^ k ∨ v < (n + 2 * 2 ^ k) * (n + 2 * 2 ^ k)) →
    0 ≤ runB (wd v).1 (wd v).2 (k + 2) n (2 ^ k) ∧ runB (wd v).1 (wd v).2 (k + 2) n (2 ^ k) ≤ 288230376151711744 ∧ runB (wd v).1 (wd v).2 (k + 2) n (2 ^ k) * runB (wd v).1 (wd v).2 (k + 2) n (2 ^ k) ≤ v ∧
      (288230376151711744 < runB (wd v).1 (wd v).2 (k + 2) n (2 ^ k) + 1 ∨ v < (runB (wd v).1 (wd v).2 (k + 2) n (2 ^ k) + 1) * (runB (wd v).1 (wd v).2 (k + 2) n (2 ^ k) + 1))
  | 0, n, a, b, c, d, e => by
    rw [Int.pow_zero] at *
    have h2 : runB (wd v).1 (wd v).2 (0 + 2) n 1 = tryB (wd v).1 (wd v).2 n 1 := by
      rw [show (0 + 2 : Nat) = 1 + 1 from rfl]
      unfold runB
      rw [show decide ((1 : Int) > 0) = true from rfl, cond_true]
      exact runB_end _ _ _ _ _ (by omega)
    rw [h2]
    exact try_wd h0 h1 a b c (by omega) d e
  | k + 1, n, a, b, c, d, e => by
    have hp : (0 : Int) < 2 ^ (k + 1) := Int.pow_pos (by omega)
    obtain ⟨t0, t1, t2, t3⟩ := try_wd h0 h1 a b c hp d e
    have h2 : runB (wd v).1 (wd v).2 (k + 1 + 2) n (2 ^ (k + 1)) = runB (wd v).1 (wd v).2 (k + 2) (tryB (wd v).1 (wd v).2 n (2 ^ (k + 1))) (2 ^ k) := by
      rw [show k + 1 + 2 = (k + 2) + 1 from rfl]
      show (bif decide ((2 : Int) ^ (k + 1) > 0) then runB (wd v).1 (wd v).2 (k + 2) (tryB (wd v).1 (wd v).2 n (2 ^ (k + 1))) (2 ^ (k + 1) / 2) else n) = _
      rw [decide_eq_true (show (2 : Int) ^ (k + 1) > 0 from hp), cond_true, show (2 : Int) ^ (k + 1) / 2 = 2 ^ k by rw [Int.pow_succ]; omega]
    rw [h2]
    have hq : (2 : Int) ^ (k + 1) = 2 * 2 ^ k := by rw [Int.pow_succ]; omega
    rw [hq] at t0 t1 t2 t3 d ⊢
    exact run_wd h0 h1 k _ t0 t1 t2 (by have : (0 : Int) < 2 ^ k := Int.pow_pos (by omega)
                                        omega) t3
theorem f273_wd {v : Int} (h0 : -10633823966279326983230456482242756608 ≤ v) (h1 : v < 10633823966279326983230456482242756608) : f273 (wd v).1 (wd v).2 = wd v := by rw [f273_is, f317_wd h0 h1]
theorem f224_nn {v : Int} (h0 : 0 ≤ v) (h1 : v < 10633823966279326983230456482242756608) : f224 (wd v).1 (wd v).2 = f231 (wd v).1 (wd v).2 := by
 obtain ⟨n, c, e, n0, n1, n2, n3, n4⟩ := f231_wd h0 h1
 have hr := run_wd h0 h1 58 0 (by omega) (by omega) (by omega) (by decide) (.inl (by decide))
 have e58 : (2 : Int) ^ 58 = 288230376151711744 := by decide
 rw [e58] at hr
 rw [e]
 unfold f224
 rw [f273_wd (by omega) h1, f275_is, f282_wd (by omega) h1]
 have hh : decide ((wd v).1 < 0) = false := decide_eq_false (by unfold wd; simp only; omega)
 rw [hh, cond_false]
 rw [show (58 + 2 : Nat) = 60 from rfl] at hr
 generalize runB (wd v).1 (wd v).2 60 0 288230376151711744 = m at *
 obtain ⟨m0, m1, m2, m3⟩ := hr
 have hmn : m = n := by
  have a1 : m ≤ n := by
   rcases Int.lt_or_le n 288230376151711744 with h | h
   ·have := lt_of_sq (x := m) (y := n + 1) (by have := (n3 h).1; omega) (by omega)
    omega
   ·omega
  have a2 : n ≤ m := by
   rcases m3 with h | h
   ·omega
   ·have := lt_of_sq (x := n) (y := m + 1) (by omega) (by omega)
    omega
  omega
 subst hmn
 by_cases hl : m < 288230376151711744
 ·rw [decide_eq_true hl, cond_true, (n3 hl).2]; rfl
 ·rw [decide_eq_false hl, cond_false]
  have hm' : m = 288230376151711744 := by omega
  rw [n4 hm', hm']
  have k1 : f225 288230376151711744 288230376151711744 = wd (288230376151711744 * 288230376151711744) := by rw [f225_eq, cl_in (by omega) (by omega)]
  have k2 : (f317 0 576460752303423489) = wd 576460752303423489 := by decide
  have k3 := (f276_gen (u := 288230376151711744 * 288230376151711744) (v := 576460752303423489) (h := (wd (288230376151711744 * 288230376151711744)).1) (l := (wd (288230376151711744 * 288230376151711744)).2) (c := 0) (d := 576460752303423489) ⟨by omega, by omega⟩ ⟨by omega, by omega⟩ (f317_wd (by omega) (by omega)) k2).1 ⟨by omega, by omega⟩
  rw [k1, k3]
  have e2 : (288230376151711744 + 1) * (288230376151711744 + 1) = (288230376151711744 * 288230376151711744 + 576460752303423489 : Int) := by omega
  rw [e2]
  exact congrArg _ (decide_eq_decide.2 (f278_wd (by omega) (by omega) (by omega) (by omega)))
theorem f224_neg {v : Int} (h0 : -10633823966279326983230456482242756608 ≤ v) (h1 : v < 0) : f224 (wd v).1 (wd v).2 = (0, true) ∧ f231 (wd v).1 (wd v).2 = (0, true) := by
 have hh : decide ((wd v).1 < 0) = true := decide_eq_true (by unfold wd; simp only; omega)
 unfold f224 f231
 rw [f273_wd h0 (by omega), f282_wd h0 (by omega), hh]
 exact ⟨rfl, rfl⟩
end Go.Proofs.YtdchdajjhofmnaaGreat
