/- Roots and sums of products, as numbers. The plain law QuatUnit. A product of turns as numbers. The plain law QuatOne. The plain law QuatAdds: what is turned, in range. The plain law QuatSmall; what is made of the length 1, with its bounds. The plain law QuatBack: what is turned as a sum of products; there and back. -/
import Derived.Test.YtdchdajjhofmnaaGreatP4
import Derived.Test.YtdchdajjhofmnaaGreatGh
namespace Go.Proofs.YtdchdajjhofmnaaGreat
open Go Go.Sx
theorem sqLe_wd {v m : Int} (h0 : 0 ≤ v) (h1 : v < 10633823966279326983230456482242756608) (h2 : 0 ≤ m) (h3 : m ≤ 288230376151711744) : sqLe (wd v).1 (wd v).2 m = decide (m * m ≤ v) := by
 unfold sqLe
 have hm : cl m = m := cl_in (by omega) h3
 have hp := prod_in m m (by omega) h3 (by omega) h3
 rw [f259_eq, hm]
 exact decide_eq_decide.2 (f283_wd (by omega) (by omega) (by omega) (by omega)).1
theorem bs_wd {v : Int} (h0 : 0 ≤ v) (h1 : v < 10633823966279326983230456482242756608) : ∀ (k : Nat) (lo hi : Int), 0 ≤ lo → lo ≤ hi → hi ≤ 288230376151711744 → hi - lo < 2 ^ k → lo * lo ≤ v → (hi = 288230376151711744 ∨ v < (hi + 1) * (hi + 1)) →
  0 ≤ bs (wd v).1 (wd v).2 k lo hi ∧ bs (wd v).1 (wd v).2 k lo hi ≤ 288230376151711744 ∧ bs (wd v).1 (wd v).2 k lo hi * bs (wd v).1 (wd v).2 k lo hi ≤ v ∧
   (bs (wd v).1 (wd v).2 k lo hi = 288230376151711744 ∨ v < (bs (wd v).1 (wd v).2 k lo hi + 1) * (bs (wd v).1 (wd v).2 k lo hi + 1))
 | 0, lo, hi, a, b, c, d, e, f => by
  have : lo = hi := by rw [Int.pow_zero] at d; omega
  subst this
  exact ⟨a, c, e, f⟩
 | k + 1, lo, hi, a, b, c, d, e, f => by
  by_cases hlt : lo < hi
  ·rw [bs_next _ _ k hlt, sqLe_wd h0 h1 (by omega) (by omega)]
   rw [Int.pow_succ] at d
   generalize hm : hi - (hi - lo) / 2 = m
   have m1 : lo < m := by omega
   have m2 : m ≤ hi := by omega
   by_cases hs : m * m ≤ v
   ·rw [decide_eq_true hs]
    exact bs_wd h0 h1 k m hi (by omega) m2 c (by omega) hs f
   ·rw [decide_eq_false hs]
    exact bs_wd h0 h1 k lo (m - 1) a (by omega) (by omega) (by omega) e (.inr (by rw [Int.sub_add_cancel]; omega))
  ·rw [bs_end _ _ _ hlt]
   have : lo = hi := by omega
   subst this
   exact ⟨a, c, e, f⟩
theorem f231_wd {v : Int} (h0 : 0 ≤ v) (h1 : v < 10633823966279326983230456482242756608) : ∃ n c, f231 (wd v).1 (wd v).2 = (n, c) ∧ 0 ≤ n ∧ n ≤ 288230376151711744 ∧ n * n ≤ v ∧ (n < 288230376151711744 → v < (n + 1) * (n + 1) ∧ c = false) ∧ (n = 288230376151711744 → c = decide ((n + 1) * (n + 1) ≤ v)) := by
 have hb := bs_wd h0 h1 60 0 288230376151711744 (by omega) (by omega) (by omega) (by decide) (by omega) (.inl rfl)
 unfold f231
 rw [f282_wd (by omega) (by omega)]
 have hh : decide ((wd v).1 < 0) = false := decide_eq_false (by unfold wd; simp only; omega)
 rw [hh]
 simp only [cond_true, cond_false]
 generalize bs (wd v).1 (wd v).2 60 0 288230376151711744 = n at hb
 obtain ⟨b1, b2, b3, b4⟩ := hb
 unfold rootOf
 by_cases hn : n < 288230376151711744
 ·rw [decide_eq_true hn]
  refine ⟨n, false, rfl, b1, b2, b3, fun _ => ⟨?_, rfl⟩, fun e => by omega⟩
  rcases b4 with h | h
  ·omega
  ·exact h
 ·rw [decide_eq_false hn]
  have hn' : n = 288230376151711744 := by omega
  subst hn'
  refine ⟨_, _, rfl, b1, b2, b3, fun e => absurd e hn, fun _ => ?_⟩
  have e1 : f259 288230376151711744 288230376151711744 = wd (288230376151711744 * 288230376151711744) := by rw [f259_eq, cl_in (by omega) (by omega)]
  rw [e1, f285_wd, f284_wd (by omega) (by omega) (by omega) (by omega) (by omega) (by omega)]
  have e2 : (288230376151711744 + 1) * (288230376151711744 + 1) = (288230376151711744 * 288230376151711744 + 576460752303423489 : Int) := by omega
  rw [e2]
  exact decide_eq_decide.2 (f283_wd (by omega) (by omega) (by omega) (by omega)).1
theorem addL_two {u v : Int} (h0 : -83076749736557242056487941267521536 ≤ u) (h1 : u ≤ 83076749736557242056487941267521536) (h2 : -83076749736557242056487941267521536 ≤ v) (h3 : v ≤ 83076749736557242056487941267521536) :
  addL [((wd u).1, (wd u).2), ((wd v).1, (wd v).2)] = wd (u + v) := by
 have e0 : ((0, 0) : Int × Int) = ((wd 0).1, (wd 0).2) := rfl
 simp only [addL, List.foldl_cons, List.foldl_nil, addF]
 have a1 := f284_wd (u := 0) (v := u) (by omega) (by omega) (by omega) (by omega) (by omega) (by omega)
 have z1 : (wd 0).1 = 0 := rfl
 have z2 : (wd 0).2 = 0 := rfl
 rw [z1, z2, Int.zero_add] at a1
 rw [a1]
 rw [f284_wd (by omega) (by omega) (by omega) (by omega) (by omega) (by omega)]
theorem addL_three {u v t : Int} (h0 : -83076749736557242056487941267521536 ≤ u) (h1 : u ≤ 83076749736557242056487941267521536) (h2 : -83076749736557242056487941267521536 ≤ v) (h3 : v ≤ 83076749736557242056487941267521536)
  (h4 : -83076749736557242056487941267521536 ≤ t) (h5 : t ≤ 83076749736557242056487941267521536) :
  addL [((wd u).1, (wd u).2), ((wd v).1, (wd v).2), ((wd t).1, (wd t).2)] = wd (u + v + t) := by
 have e := addL_two h0 h1 h2 h3
 simp only [addL, List.foldl_cons, List.foldl_nil] at e ⊢
 rw [e]
 simp only [addF]
 rw [f284_wd (by omega) (by omega) (by omega) (by omega) (by omega) (by omega)]
theorem addL_four {u v t r : Int} (h0 : -83076749736557242056487941267521536 ≤ u) (h1 : u ≤ 83076749736557242056487941267521536) (h2 : -83076749736557242056487941267521536 ≤ v) (h3 : v ≤ 83076749736557242056487941267521536)
  (h4 : -83076749736557242056487941267521536 ≤ t) (h5 : t ≤ 83076749736557242056487941267521536) (h6 : -83076749736557242056487941267521536 ≤ r) (h7 : r ≤ 83076749736557242056487941267521536) :
  addL [((wd u).1, (wd u).2), ((wd v).1, (wd v).2), ((wd t).1, (wd t).2), ((wd r).1, (wd r).2)] = wd (u + v + t + r) := by
 have e := addL_three h0 h1 h2 h3 h4 h5
 simp only [addL, List.foldl_cons, List.foldl_nil] at e ⊢
 rw [e]
 simp only [addF]
 rw [f284_wd (by omega) (by omega) (by omega) (by omega) (by omega) (by omega)]
def chg (a : Int) : Bool := cl a != a
theorem chg_f (a : Int) : (f99 a).snd = chg a := rfl
theorem any4 (a b c d : Bool) : anyB [a, b, c, d] = (a || (b || (c || d))) := by simp [anyB]
theorem pb (a b : Int) : -83076749736557242056487941267521536 ≤ cl a * cl b ∧ cl a * cl b ≤ 83076749736557242056487941267521536 := by
 have := prod_in _ _ (cl_lo a) (cl_hi a) (cl_lo b) (cl_hi b); omega
def sq4 (a0 a1 a2 a3 : Int) : Int := cl a0 * cl a0 + cl a1 * cl a1 + cl a2 * cl a2 + cl a3 * cl a3
theorem f140_eq (a0 a1 a2 a3 : Int) : ∃ n c, f140 a0 a1 a2 a3 = (n, c || (chg a0 || (chg a1 || (chg a2 || chg a3)))) ∧ 0 ≤ n ∧ n ≤ 288230376151711744 ∧ n * n ≤ sq4 a0 a1 a2 a3 ∧ (n < 288230376151711744 → sq4 a0 a1 a2 a3 < (n + 1) * (n + 1) ∧ c = false) ∧ (n = 288230376151711744 → c = decide ((n + 1) * (n + 1) ≤ sq4 a0 a1 a2 a3)) := by
 have p0 := pb a0 a0; have p1 := pb a1 a1; have p2 := pb a2 a2; have p3 := pb a3 a3
 have q : ∀ x : Int, 0 ≤ cl x * cl x := fun x => by
  rcases Int.le_total 0 (cl x) with h | h
  ·exact Int.mul_nonneg h h
  ·exact Int.mul_nonneg_of_nonpos_of_nonpos h h
 have q0 := q a0; have q1 := q a1; have q2 := q a2; have q3 := q a3
 obtain ⟨n, c, h1, h2⟩ := f231_wd (v := sq4 a0 a1 a2 a3) (by unfold sq4; omega) (by unfold sq4; omega)
 refine ⟨n, c, ?_, h2⟩
 unfold f140
 simp only [f259_eq, any4, chg_f]
 rw [addL_four p0.1 p0.2 p1.1 p1.2 p2.1 p2.2 p3.1 p3.2]
 rw [show cl a0 * cl a0 + cl a1 * cl a1 + cl a2 * cl a2 + cl a3 * cl a3 = sq4 a0 a1 a2 a3 from rfl, h1]
end Go.Proofs.YtdchdajjhofmnaaGreat
namespace Go.Proofs.YtdchdajjhofmnaaGreat
open Go Go.Sx
theorem small_chg {a : Int} (h0 : -288230376151711744 ≤ a) (h1 : a ≤ 288230376151711744) : chg a = false := by unfold chg; rw [cl_in h0 h1]; simp
theorem lt_of_sq {x y : Int} (h : x * x < y * y) (hy : 0 ≤ y) : x < y := by
 rcases Int.lt_or_le x y with h1 | h1
 ·exact h1
 ·have := Int.mul_le_mul h1 h1 hy (by omega)
  omega
theorem sq_nn (x : Int) : 0 ≤ x * x := by
 rcases Int.le_total 0 x with h | h
 ·exact Int.mul_nonneg h h
 ·exact Int.mul_nonneg_of_nonpos_of_nonpos h h
theorem sq_abs_le {x n : Int} (h0 : -n ≤ x) (h1 : x ≤ n) : x * x ≤ n * n := by
 have := Int.mul_nonneg (show 0 ≤ n - x by omega) (show 0 ≤ n + x by omega)
 have e : (n - x) * (n + x) = n * n - x * x := by grind
 omega
theorem unit_num {n a u : Int} (hn : 0 < n) (ha0 : -n ≤ a) (ha1 : a ≤ n) (l1 : u * (2 * n) ≤ 2 * a * 4294967296 + n) (l2 : 2 * a * 4294967296 + n < (u + 1) * (2 * n)) :
  -4294967296 ≤ u ∧ u ≤ 4294967296 ∧ (0 ≤ a → 0 ≤ u) ∧ (a ≤ 0 → u ≤ 0) ∧ -n ≤ 2 * (n * u) - 8589934592 * a ∧ 2 * (n * u) - 8589934592 * a ≤ n := by
 have e1 : u * (2 * n) = 2 * (n * u) := by grind
 have e2 : (u + 1) * (2 * n) = 2 * (n * u) + 2 * n := by grind
 rw [e1] at l1; rw [e2] at l2
 have up : ∀ k : Int, n * (k + 1) > n * u ∨ k < u := fun k => by
  rcases Int.lt_or_le k u with h | h
  ·exact .inr h
  ·have := Int.mul_le_mul_of_nonneg_left h (show 0 ≤ n by omega)
   have e : n * (k + 1) = n * k + n := by grind
   omega
 have ge : ∀ k : Int, k ≤ u → n * k ≤ n * u := fun k h => Int.mul_le_mul_of_nonneg_left h (show 0 ≤ n by omega)
 have le : ∀ k : Int, u ≤ k → n * u ≤ n * k := fun k h => Int.mul_le_mul_of_nonneg_left h (show 0 ≤ n by omega)
 refine ⟨?_, ?_, ?_, ?_, by omega, by omega⟩
 ·rcases Int.lt_or_le u (-4294967296) with h | h
  ·have := le (-4294967297) (by omega)
   omega
  ·exact h
 ·rcases Int.lt_or_le 4294967296 u with h | h
  ·have := ge 4294967297 (by omega)
   omega
  ·exact h
 ·intro h0
  rcases Int.lt_or_le u 0 with h | h
  ·have := le (-1) (by omega)
   omega
  ·exact h
 ·intro h0
  rcases Int.lt_or_le 0 u with h | h
  ·have := ge 1 (by omega)
   omega
  ·exact h
theorem unit_one {n a : Int} (hn : 16777216 ≤ n) (hn2 : n ≤ 4503599627370496) (ha0 : -n ≤ a) (ha1 : a ≤ n) :
  ∃ u, f312 a n = (u, false) ∧ -4294967296 ≤ u ∧ u ≤ 4294967296 ∧ (0 ≤ a → 0 ≤ u) ∧ (a ≤ 0 → u ≤ 0) ∧ -n ≤ 2 * (n * u) - 8589934592 * a ∧ 2 * (n * u) - 8589934592 * a ≤ n := by
 obtain ⟨N, Y, -, hY, hc, l1, l2⟩ := ov_bounds (A := a) (B := n) (by omega)
 rw [show N = a by omega, show Y = n by omega] at l1 l2
 have h := unit_num (u := ov a n) (by omega) ha0 ha1 l1 l2
 refine ⟨ov a n, ?_, h⟩
 rw [f312_eq, cl_in (n := a) (by omega) (by omega), cl_in (n := n) (by omega) (by omega), ovr_ne (by omega) (by omega), cl_in (n := ov a n) (by omega) (by omega)]
 simp
theorem ab_le {a e n : Int} (ha0 : -n ≤ a) (ha1 : a ≤ n) (he0 : -n ≤ e) (he1 : e ≤ n) : -(n * n) ≤ a * e ∧ a * e ≤ n * n := by
 have h1 := sq_nn (a - e); have h2 := sq_nn (a + e)
 have h3 := sq_abs_le ha0 ha1; have h4 := sq_abs_le he0 he1
 have e1 : (a - e) * (a - e) = a * a + e * e - 2 * (a * e) := by grind
 have e2 : (a + e) * (a + e) = a * a + e * e + 2 * (a * e) := by grind
 omega
theorem unit_sq {n a u : Int} (h0 : -n ≤ 2 * (n * u) - 8589934592 * a) (h1 : 2 * (n * u) - 8589934592 * a ≤ n) (ha0 : -n ≤ a) (ha1 : a ≤ n) :
  73786976294838206464 * (a * a) - 17179869184 * (n * n) ≤ 4 * (n * n * (u * u)) ∧ 4 * (n * n * (u * u)) ≤ 73786976294838206464 * (a * a) + 17179869185 * (n * n) := by
 obtain ⟨p1, p2⟩ := ab_le ha0 ha1 h0 h1
 have p3 := sq_abs_le h0 h1
 have p4 := sq_nn (2 * (n * u) - 8589934592 * a)
 generalize he : 2 * (n * u) - 8589934592 * a = e at *
 have e1 : 4 * (n * n * (u * u)) = 73786976294838206464 * (a * a) + 17179869184 * (a * e) + e * e := by
  have : 2 * (n * u) = 8589934592 * a + e := by omega
  have e2 : 4 * (n * n * (u * u)) = (2 * (n * u)) * (2 * (n * u)) := by grind
  rw [e2, this]; grind
 omega
end Go.Proofs.YtdchdajjhofmnaaGreat
namespace Go.Proofs.YtdchdajjhofmnaaGreat
open Go Go.Sx
def rsum (s : Int) : Int × Bool := (cl (rnd s), cl (rnd s) != rnd s)
theorem f258_rsum {v : Int} (h0 : -10633823966279326983230456482242756608 ≤ v) (h1 : v < 10633823966279326983228309000000000000) : f258 (wd v).1 (wd v).2 = rsum v := by
 rw [f258_wd h0 h1]; rfl
theorem cl_ncl (a : Int) : cl (-cl a) = -cl a := by rw [cl_neg, cl_cl]
def qs (a b c d e f g h : Int) : Int := cl a * cl b + cl c * cl d + cl e * cl f + cl g * cl h
theorem qs_eq (a b c d e f g h : Int) : (let x : Int × Int := addL [((f259 a b).fst, (f259 a b).snd), ((f259 c d).fst, (f259 c d).snd), ((f259 e f).fst, (f259 e f).snd), ((f259 g h).fst, (f259 g h).snd)]; f258 x.fst x.snd) = rsum (qs a b c d e f g h) := by
 have p0 := pb a b; have p1 := pb c d; have p2 := pb e f; have p3 := pb g h
 simp only [f259_eq]
 rw [addL_four p0.1 p0.2 p1.1 p1.2 p2.1 p2.2 p3.1 p3.2, f258_rsum (by omega) (by omega)]
 rfl
theorem rsum_zero : rsum 0 = (0, false) := by decide
theorem f200_val (a0 a1 a2 a3 b0 b1 b2 b3 : Int) : (f200 a0 a1 a2 a3 b0 b1 b2 b3).1 = (rsum (qs a0 b0 a1 (-cl b1) a2 (-cl b2) a3 (-cl b3))).1 ∧ (f200 a0 a1 a2 a3 b0 b1 b2 b3).2.1 = (rsum (qs a0 b1 a1 b0 a2 b3 a3 (-cl b2))).1 ∧
  (f200 a0 a1 a2 a3 b0 b1 b2 b3).2.2.1 = (rsum (qs a0 b2 a1 (-cl b3) a2 b0 a3 b1)).1 ∧ (f200 a0 a1 a2 a3 b0 b1 b2 b3).2.2.2.1 = (rsum (qs a0 b3 a1 b2 a2 (-cl b1) a3 b0)).1 := by
 have e1 := qs_eq a0 b0 a1 (-cl b1) a2 (-cl b2) a3 (-cl b3)
 have e2 := qs_eq a0 b1 a1 b0 a2 b3 a3 (-cl b2)
 have e3 := qs_eq a0 b2 a1 (-cl b3) a2 b0 a3 b1
 have e4 := qs_eq a0 b3 a1 b2 a2 (-cl b1) a3 b0
 unfold f200
 simp only [f249, f251, f252, f253, f256_eq]
 simp only at e1 e2 e3 e4
 rw [e1, e2, e3, e4]
 exact ⟨rfl, rfl, rfl, rfl⟩
end Go.Proofs.YtdchdajjhofmnaaGreat
namespace Go.Proofs.YtdchdajjhofmnaaGreat
open Go Go.Sx
theorem chg_ncl (a : Int) : chg (-cl a) = false := by unfold chg; rw [cl_ncl]; simp
theorem f200_ok {a0 a1 a2 a3 b0 b1 b2 b3 : Int} (k0 : chg a0 = false) (k1 : chg a1 = false) (k2 : chg a2 = false) (k3 : chg a3 = false) (j0 : chg b0 = false) (j1 : chg b1 = false) (j2 : chg b2 = false) (j3 : chg b3 = false)
  (h1 : (rsum (qs a0 b0 a1 (-cl b1) a2 (-cl b2) a3 (-cl b3))).2 = false) (h2 : (rsum (qs a0 b1 a1 b0 a2 b3 a3 (-cl b2))).2 = false) (h3 : (rsum (qs a0 b2 a1 (-cl b3) a2 b0 a3 b1)).2 = false) (h4 : (rsum (qs a0 b3 a1 b2 a2 (-cl b1) a3 b0)).2 = false) :
  (f200 a0 a1 a2 a3 b0 b1 b2 b3).2.2.2.2 = false := by
 have e1 := qs_eq a0 b0 a1 (-cl b1) a2 (-cl b2) a3 (-cl b3)
 have e2 := qs_eq a0 b1 a1 b0 a2 b3 a3 (-cl b2)
 have e3 := qs_eq a0 b2 a1 (-cl b3) a2 b0 a3 b1
 have e4 := qs_eq a0 b3 a1 b2 a2 (-cl b1) a3 b0
 unfold f200
 simp only [f249, f251, f252, f253, f256_eq]
 simp only at e1 e2 e3 e4
 rw [e1, e2, e3, e4]
 simp only [chg_f, any4, chg_ncl, k0, k1, k2, k3, j0, j1, j2, j3, h1, h2, h3, h4]
 rfl
theorem rsum_one (x : Int) : rsum (x * 4294967296) = (cl x, cl x != x) := by
 unfold rsum; rw [show rnd (x * 4294967296) = x by unfold rnd; omega]
end Go.Proofs.YtdchdajjhofmnaaGreat
namespace Go.Proofs.YtdchdajjhofmnaaGreat
open Go Go.Sx
def m0 (a0 a1 a2 a3 b0 b1 b2 b3 : Int) : Int := a0 * b0 - a1 * b1 - a2 * b2 - a3 * b3
def m1 (a0 a1 a2 a3 b0 b1 b2 b3 : Int) : Int := a0 * b1 + a1 * b0 + a2 * b3 - a3 * b2
def m2 (a0 a1 a2 a3 b0 b1 b2 b3 : Int) : Int := a0 * b2 - a1 * b3 + a2 * b0 + a3 * b1
def m3 (a0 a1 a2 a3 b0 b1 b2 b3 : Int) : Int := a0 * b3 + a1 * b2 - a2 * b1 + a3 * b0
def Rd (r s : Int) : Prop := r * 4294967296 ≤ s + 2147483648 ∧ s + 2147483648 < r * 4294967296 + 4294967296
theorem rd_rnd (s : Int) : Rd (rnd s) s := rnd_bounds s
theorem rsum_in {s : Int} (h0 : -1237940039285380274899124224 ≤ s) (h1 : s ≤ 1237940039285380270604156928) : rsum s = (rnd s, false) := by
 unfold rsum
 have h := rnd_bounds s
 have e : cl (rnd s) = rnd s := cl_in (by omega) (by omega)
 rw [e]; simp
theorem f200_in {a0 a1 a2 a3 b0 b1 b2 b3 : Int} (k0 : chg a0 = false) (k1 : chg a1 = false) (k2 : chg a2 = false) (k3 : chg a3 = false) (j0 : chg b0 = false) (j1 : chg b1 = false) (j2 : chg b2 = false) (j3 : chg b3 = false)
  (h0 : -1237940039285380274899124224 ≤ m0 a0 a1 a2 a3 b0 b1 b2 b3 ∧ m0 a0 a1 a2 a3 b0 b1 b2 b3 ≤ 1237940039285380270604156928)
  (h1 : -1237940039285380274899124224 ≤ m1 a0 a1 a2 a3 b0 b1 b2 b3 ∧ m1 a0 a1 a2 a3 b0 b1 b2 b3 ≤ 1237940039285380270604156928)
  (h2 : -1237940039285380274899124224 ≤ m2 a0 a1 a2 a3 b0 b1 b2 b3 ∧ m2 a0 a1 a2 a3 b0 b1 b2 b3 ≤ 1237940039285380270604156928)
  (h3 : -1237940039285380274899124224 ≤ m3 a0 a1 a2 a3 b0 b1 b2 b3 ∧ m3 a0 a1 a2 a3 b0 b1 b2 b3 ≤ 1237940039285380270604156928) :
  f200 a0 a1 a2 a3 b0 b1 b2 b3 = (rnd (m0 a0 a1 a2 a3 b0 b1 b2 b3), rnd (m1 a0 a1 a2 a3 b0 b1 b2 b3), rnd (m2 a0 a1 a2 a3 b0 b1 b2 b3), rnd (m3 a0 a1 a2 a3 b0 b1 b2 b3), false) := by
 obtain ⟨v0, v1, v2, v3⟩ := f200_val a0 a1 a2 a3 b0 b1 b2 b3
 have c0 := ne_false k0; have c1 := ne_false k1; have c2 := ne_false k2; have c3 := ne_false k3
 have d0 := ne_false j0; have d1 := ne_false j1; have d2 := ne_false j2; have d3 := ne_false j3
 have e0 : qs a0 b0 a1 (-cl b1) a2 (-cl b2) a3 (-cl b3) = m0 a0 a1 a2 a3 b0 b1 b2 b3 := by
  unfold qs m0; simp only [cl_neg, c0, c1, c2, c3, d0, d1, d2, d3]; grind
 have e1 : qs a0 b1 a1 b0 a2 b3 a3 (-cl b2) = m1 a0 a1 a2 a3 b0 b1 b2 b3 := by
  unfold qs m1; simp only [cl_neg, c0, c1, c2, c3, d0, d1, d2, d3]; grind
 have e2 : qs a0 b2 a1 (-cl b3) a2 b0 a3 b1 = m2 a0 a1 a2 a3 b0 b1 b2 b3 := by
  unfold qs m2; simp only [cl_neg, c0, c1, c2, c3, d0, d1, d2, d3]; grind
 have e3 : qs a0 b3 a1 b2 a2 (-cl b1) a3 b0 = m3 a0 a1 a2 a3 b0 b1 b2 b3 := by
  unfold qs m3; simp only [cl_neg, c0, c1, c2, c3, d0, d1, d2, d3]; grind
 rw [e0, rsum_in h0.1 h0.2] at v0
 rw [e1, rsum_in h1.1 h1.2] at v1
 rw [e2, rsum_in h2.1 h2.2] at v2
 rw [e3, rsum_in h3.1 h3.2] at v3
 have v4 := f200_ok k0 k1 k2 k3 j0 j1 j2 j3 (by rw [e0, rsum_in h0.1 h0.2]) (by rw [e1, rsum_in h1.1 h1.2]) (by rw [e2, rsum_in h2.1 h2.2]) (by rw [e3, rsum_in h3.1 h3.2])
 exact Prod.ext v0 (Prod.ext v1 (Prod.ext v2 (Prod.ext v3 v4)))
theorem f201_in {a0 a1 a2 a3 : Int} (k0 : chg a0 = false) (k1 : chg a1 = false) (k2 : chg a2 = false) (k3 : chg a3 = false) : f201 a0 a1 a2 a3 = (a0, -a1, -a2, -a3) := by
 have hb : f201 a0 a1 a2 a3 = (cl a0, -cl a1, -cl a2, -cl a3) := by unfold f201; simp only [f256_eq]; rfl
 rw [hb, ne_false k0, ne_false k1, ne_false k2, ne_false k3]
theorem ab_le2 {a e n k : Int} (ha0 : -n ≤ a) (ha1 : a ≤ n) (he0 : -k ≤ e) (he1 : e ≤ k) : -(n * k) ≤ a * e ∧ a * e ≤ n * k := by
 have h1 := Int.mul_nonneg (show 0 ≤ n - a by omega) (show 0 ≤ k - e by omega)
 have h2 := Int.mul_nonneg (show 0 ≤ n + a by omega) (show 0 ≤ k + e by omega)
 have h3 := Int.mul_nonneg (show 0 ≤ n - a by omega) (show 0 ≤ k + e by omega)
 have h4 := Int.mul_nonneg (show 0 ≤ n + a by omega) (show 0 ≤ k - e by omega)
 have e1 : (n - a) * (k - e) = n * k - n * e - a * k + a * e := by grind
 have e2 : (n + a) * (k + e) = n * k + n * e + a * k + a * e := by grind
 have e3 : (n - a) * (k + e) = n * k + n * e - a * k - a * e := by grind
 have e4 : (n + a) * (k - e) = n * k - n * e + a * k - a * e := by grind
 omega
theorem m_le {a0 a1 a2 a3 b0 b1 b2 b3 n k : Int} (a0l : -n ≤ a0) (a0h : a0 ≤ n) (a1l : -n ≤ a1) (a1h : a1 ≤ n) (a2l : -n ≤ a2) (a2h : a2 ≤ n) (a3l : -n ≤ a3) (a3h : a3 ≤ n)
  (b0l : -k ≤ b0) (b0h : b0 ≤ k) (b1l : -k ≤ b1) (b1h : b1 ≤ k) (b2l : -k ≤ b2) (b2h : b2 ≤ k) (b3l : -k ≤ b3) (b3h : b3 ≤ k) :
  (-(4 * (n * k)) ≤ m0 a0 a1 a2 a3 b0 b1 b2 b3 ∧ m0 a0 a1 a2 a3 b0 b1 b2 b3 ≤ 4 * (n * k)) ∧ (-(4 * (n * k)) ≤ m1 a0 a1 a2 a3 b0 b1 b2 b3 ∧ m1 a0 a1 a2 a3 b0 b1 b2 b3 ≤ 4 * (n * k)) ∧
  (-(4 * (n * k)) ≤ m2 a0 a1 a2 a3 b0 b1 b2 b3 ∧ m2 a0 a1 a2 a3 b0 b1 b2 b3 ≤ 4 * (n * k)) ∧ (-(4 * (n * k)) ≤ m3 a0 a1 a2 a3 b0 b1 b2 b3 ∧ m3 a0 a1 a2 a3 b0 b1 b2 b3 ≤ 4 * (n * k)) := by
 have p00 := ab_le2 a0l a0h b0l b0h; have p01 := ab_le2 a0l a0h b1l b1h; have p02 := ab_le2 a0l a0h b2l b2h; have p03 := ab_le2 a0l a0h b3l b3h
 have p10 := ab_le2 a1l a1h b0l b0h; have p11 := ab_le2 a1l a1h b1l b1h; have p12 := ab_le2 a1l a1h b2l b2h; have p13 := ab_le2 a1l a1h b3l b3h
 have p20 := ab_le2 a2l a2h b0l b0h; have p21 := ab_le2 a2l a2h b1l b1h; have p22 := ab_le2 a2l a2h b2l b2h; have p23 := ab_le2 a2l a2h b3l b3h
 have p30 := ab_le2 a3l a3h b0l b0h; have p31 := ab_le2 a3l a3h b1l b1h; have p32 := ab_le2 a3l a3h b2l b2h; have p33 := ab_le2 a3l a3h b3l b3h
 unfold m0 m1 m2 m3
 refine ⟨⟨?_, ?_⟩, ⟨?_, ?_⟩, ⟨?_, ?_⟩, ⟨?_, ?_⟩⟩ <;> omega
theorem rot_in {u0 u1 u2 u3 v1 v2 v3 : Int} (u0l : -8589934592 ≤ u0) (u0h : u0 ≤ 8589934592) (u1l : -8589934592 ≤ u1) (u1h : u1 ≤ 8589934592) (u2l : -8589934592 ≤ u2) (u2h : u2 ≤ 8589934592) (u3l : -8589934592 ≤ u3) (u3h : u3 ≤ 8589934592)
  (v1l : -70368744177664 ≤ v1) (v1h : v1 ≤ 70368744177664) (v2l : -70368744177664 ≤ v2) (v2h : v2 ≤ 70368744177664) (v3l : -70368744177664 ≤ v3) (v3h : v3 ≤ 70368744177664) :
  ∃ a0 a1 a2 a3 b1 b2 b3 : Int, f151 u0 u1 u2 u3 v1 v2 v3 = (b1, b2, b3, false) ∧
   (Rd a0 (m0 u0 u1 u2 u3 0 v1 v2 v3) ∧ Rd a1 (m1 u0 u1 u2 u3 0 v1 v2 v3) ∧ Rd a2 (m2 u0 u1 u2 u3 0 v1 v2 v3) ∧ Rd a3 (m3 u0 u1 u2 u3 0 v1 v2 v3)) ∧
   (Rd b1 (m1 a0 a1 a2 a3 u0 (-u1) (-u2) (-u3)) ∧ Rd b2 (m2 a0 a1 a2 a3 u0 (-u1) (-u2) (-u3)) ∧ Rd b3 (m3 a0 a1 a2 a3 u0 (-u1) (-u2) (-u3))) := by
 have ku0 : chg u0 = false := small_chg (by omega) (by omega)
 have ku1 : chg u1 = false := small_chg (by omega) (by omega)
 have ku2 : chg u2 = false := small_chg (by omega) (by omega)
 have ku3 : chg u3 = false := small_chg (by omega) (by omega)
 have kn1 : chg (-u1) = false := small_chg (by omega) (by omega)
 have kn2 : chg (-u2) = false := small_chg (by omega) (by omega)
 have kn3 : chg (-u3) = false := small_chg (by omega) (by omega)
 have kz : chg 0 = false := small_chg (by omega) (by omega)
 have kv1 : chg v1 = false := small_chg (by omega) (by omega)
 have kv2 : chg v2 = false := small_chg (by omega) (by omega)
 have kv3 : chg v3 = false := small_chg (by omega) (by omega)
 obtain ⟨q0, q1, q2, q3⟩ := m_le u0l u0h u1l u1h u2l u2h u3l u3h (show (-70368744177664 : Int) ≤ 0 by omega) (show (0 : Int) ≤ 70368744177664 by omega) v1l v1h v2l v2h v3l v3h
 have hf := f200_in ku0 ku1 ku2 ku3 kz kv1 kv2 kv3 (by omega) (by omega) (by omega) (by omega)
 have r0 := rd_rnd (m0 u0 u1 u2 u3 0 v1 v2 v3); have r1 := rd_rnd (m1 u0 u1 u2 u3 0 v1 v2 v3)
 have r2 := rd_rnd (m2 u0 u1 u2 u3 0 v1 v2 v3); have r3 := rd_rnd (m3 u0 u1 u2 u3 0 v1 v2 v3)
 generalize rnd (m0 u0 u1 u2 u3 0 v1 v2 v3) = a0 at *
 generalize rnd (m1 u0 u1 u2 u3 0 v1 v2 v3) = a1 at *
 generalize rnd (m2 u0 u1 u2 u3 0 v1 v2 v3) = a2 at *
 generalize rnd (m3 u0 u1 u2 u3 0 v1 v2 v3) = a3 at *
 have s0 := r0; have s1 := r1; have s2 := r2; have s3 := r3
 unfold Rd at s0 s1 s2 s3
 have A0l : -562949953421313 ≤ a0 := by omega
 have A0h : a0 ≤ 562949953421313 := by omega
 have A1l : -562949953421313 ≤ a1 := by omega
 have A1h : a1 ≤ 562949953421313 := by omega
 have A2l : -562949953421313 ≤ a2 := by omega
 have A2h : a2 ≤ 562949953421313 := by omega
 have A3l : -562949953421313 ≤ a3 := by omega
 have A3h : a3 ≤ 562949953421313 := by omega
 have ka0 : chg a0 = false := small_chg (by omega) (by omega)
 have ka1 : chg a1 = false := small_chg (by omega) (by omega)
 have ka2 : chg a2 = false := small_chg (by omega) (by omega)
 have ka3 : chg a3 = false := small_chg (by omega) (by omega)
 obtain ⟨t0, t1, t2, t3⟩ := m_le A0l A0h A1l A1h A2l A2h A3l A3h u0l u0h (show -8589934592 ≤ -u1 by omega) (show -u1 ≤ 8589934592 by omega) (show -8589934592 ≤ -u2 by omega) (show -u2 ≤ 8589934592 by omega) (show -8589934592 ≤ -u3 by omega) (show -u3 ≤ 8589934592 by omega)
 have hg := f200_in ka0 ka1 ka2 ka3 ku0 kn1 kn2 kn3 (by omega) (by omega) (by omega) (by omega)
 refine ⟨a0, a1, a2, a3, _, _, _, ?_, ⟨r0, r1, r2, r3⟩, rd_rnd _, rd_rnd _, rd_rnd _⟩
 unfold f151
 simp only [hf, f201_in ku0 ku1 ku2 ku3, hg]
 rfl
theorem rd_add {r s t x y z : Int} (h1 : Rd r x) (h2 : Rd s y) (h3 : Rd t z) (h : z = x + y) : -1 ≤ t - r - s ∧ t - r - s ≤ 1 := by
 unfold Rd at *; omega
theorem rot_adds {u0 u1 u2 u3 v1 v2 v3 w1 w2 w3 : Int} (u0l : -4294967296 ≤ u0) (u0h : u0 ≤ 4294967296) (u1l : -4294967296 ≤ u1) (u1h : u1 ≤ 4294967296) (u2l : -4294967296 ≤ u2) (u2h : u2 ≤ 4294967296) (u3l : -4294967296 ≤ u3) (u3h : u3 ≤ 4294967296)
  (v1l : -17592186044416 ≤ v1) (v1h : v1 ≤ 17592186044416) (v2l : -17592186044416 ≤ v2) (v2h : v2 ≤ 17592186044416) (v3l : -17592186044416 ≤ v3) (v3h : v3 ≤ 17592186044416)
  (w1l : -17592186044416 ≤ w1) (w1h : w1 ≤ 17592186044416) (w2l : -17592186044416 ≤ w2) (w2h : w2 ≤ 17592186044416) (w3l : -17592186044416 ≤ w3) (w3h : w3 ≤ 17592186044416) :
  ∃ a1 a2 a3 b1 b2 b3 t1 t2 t3 : Int, f151 u0 u1 u2 u3 v1 v2 v3 = (a1, a2, a3, false) ∧ f151 u0 u1 u2 u3 w1 w2 w3 = (b1, b2, b3, false) ∧ f151 u0 u1 u2 u3 (v1 + w1) (v2 + w2) (v3 + w3) = (t1, t2, t3, false) ∧
   (-16 ≤ t1 - a1 - b1 ∧ t1 - a1 - b1 ≤ 16) ∧ (-16 ≤ t2 - a2 - b2 ∧ t2 - a2 - b2 ≤ 16) ∧ (-16 ≤ t3 - a3 - b3 ∧ t3 - a3 - b3 ≤ 16) ∧
   (-288230376151711744 ≤ a1 ∧ a1 ≤ 288230376151711744) ∧ (-288230376151711744 ≤ a2 ∧ a2 ≤ 288230376151711744) ∧ (-288230376151711744 ≤ a3 ∧ a3 ≤ 288230376151711744) ∧
   (-288230376151711744 ≤ t1 ∧ t1 ≤ 288230376151711744) ∧ (-288230376151711744 ≤ t2 ∧ t2 ≤ 288230376151711744) ∧ (-288230376151711744 ≤ t3 ∧ t3 ≤ 288230376151711744) := by
 obtain ⟨x0, x1, x2, x3, a1, a2, a3, hx, ⟨rx0, rx1, rx2, rx3⟩, ra1, ra2, ra3⟩ := rot_in (u0 := u0) (u1 := u1) (u2 := u2) (u3 := u3) (v1 := v1) (v2 := v2) (v3 := v3) (by omega) (by omega) (by omega) (by omega) (by omega) (by omega) (by omega) (by omega) (by omega) (by omega) (by omega) (by omega) (by omega) (by omega)
 obtain ⟨y0, y1, y2, y3, b1, b2, b3, hy, ⟨ry0, ry1, ry2, ry3⟩, rb1, rb2, rb3⟩ := rot_in (u0 := u0) (u1 := u1) (u2 := u2) (u3 := u3) (v1 := w1) (v2 := w2) (v3 := w3) (by omega) (by omega) (by omega) (by omega) (by omega) (by omega) (by omega) (by omega) (by omega) (by omega) (by omega) (by omega) (by omega) (by omega)
 obtain ⟨z0, z1, z2, z3, t1, t2, t3, hz, ⟨rz0, rz1, rz2, rz3⟩, rt1, rt2, rt3⟩ := rot_in (u0 := u0) (u1 := u1) (u2 := u2) (u3 := u3) (v1 := v1 + w1) (v2 := v2 + w2) (v3 := v3 + w3) (by omega) (by omega) (by omega) (by omega) (by omega) (by omega) (by omega) (by omega) (by omega) (by omega) (by omega) (by omega) (by omega) (by omega)
 have d0 := rd_add rx0 ry0 rz0 (by unfold m0; grind)
 have d1 := rd_add rx1 ry1 rz1 (by unfold m1; grind)
 have d2 := rd_add rx2 ry2 rz2 (by unfold m2; grind)
 have d3 := rd_add rx3 ry3 rz3 (by unfold m3; grind)
 obtain ⟨-, g1, g2, g3⟩ := m_le (n := 1) (k := 4294967296) (a0 := z0 - x0 - y0) (a1 := z1 - x1 - y1) (a2 := z2 - x2 - y2) (a3 := z3 - x3 - y3) (b0 := u0) (b1 := -u1) (b2 := -u2) (b3 := -u3) (by omega) (by omega) (by omega) (by omega) (by omega) (by omega) (by omega) (by omega) (by omega) (by omega) (by omega) (by omega) (by omega) (by omega) (by omega) (by omega)
 have l1 : m1 z0 z1 z2 z3 u0 (-u1) (-u2) (-u3) = m1 x0 x1 x2 x3 u0 (-u1) (-u2) (-u3) + m1 y0 y1 y2 y3 u0 (-u1) (-u2) (-u3) + m1 (z0 - x0 - y0) (z1 - x1 - y1) (z2 - x2 - y2) (z3 - x3 - y3) u0 (-u1) (-u2) (-u3) := by unfold m1; grind
 have l2 : m2 z0 z1 z2 z3 u0 (-u1) (-u2) (-u3) = m2 x0 x1 x2 x3 u0 (-u1) (-u2) (-u3) + m2 y0 y1 y2 y3 u0 (-u1) (-u2) (-u3) + m2 (z0 - x0 - y0) (z1 - x1 - y1) (z2 - x2 - y2) (z3 - x3 - y3) u0 (-u1) (-u2) (-u3) := by unfold m2; grind
 have l3 : m3 z0 z1 z2 z3 u0 (-u1) (-u2) (-u3) = m3 x0 x1 x2 x3 u0 (-u1) (-u2) (-u3) + m3 y0 y1 y2 y3 u0 (-u1) (-u2) (-u3) + m3 (z0 - x0 - y0) (z1 - x1 - y1) (z2 - x2 - y2) (z3 - x3 - y3) u0 (-u1) (-u2) (-u3) := by unfold m3; grind
 obtain ⟨q0, q1, q2, q3⟩ := m_le (b0 := 0) (b1 := v1) (b2 := v2) (b3 := v3) (k := 17592186044416) u0l u0h u1l u1h u2l u2h u3l u3h (by omega) (by omega) v1l v1h v2l v2h v3l v3h
 have X0 : -70368744177665 ≤ x0 ∧ x0 ≤ 70368744177665 := by unfold Rd at rx0; omega
 have X1 : -70368744177665 ≤ x1 ∧ x1 ≤ 70368744177665 := by unfold Rd at rx1; omega
 have X2 : -70368744177665 ≤ x2 ∧ x2 ≤ 70368744177665 := by unfold Rd at rx2; omega
 have X3 : -70368744177665 ≤ x3 ∧ x3 ≤ 70368744177665 := by unfold Rd at rx3; omega
 obtain ⟨-, p1, p2, p3⟩ := m_le (k := 4294967296) (b0 := u0) (b1 := -u1) (b2 := -u2) (b3 := -u3) X0.1 X0.2 X1.1 X1.2 X2.1 X2.2 X3.1 X3.2 (by omega) (by omega) (by omega) (by omega) (by omega) (by omega) (by omega) (by omega)
 obtain ⟨q0', q1', q2', q3'⟩ := m_le (b0 := 0) (b1 := w1) (b2 := w2) (b3 := w3) (k := 17592186044416) u0l u0h u1l u1h u2l u2h u3l u3h (by omega) (by omega) w1l w1h w2l w2h w3l w3h
 have Y0 : -70368744177665 ≤ y0 ∧ y0 ≤ 70368744177665 := by unfold Rd at ry0; omega
 have Y1 : -70368744177665 ≤ y1 ∧ y1 ≤ 70368744177665 := by unfold Rd at ry1; omega
 have Y2 : -70368744177665 ≤ y2 ∧ y2 ≤ 70368744177665 := by unfold Rd at ry2; omega
 have Y3 : -70368744177665 ≤ y3 ∧ y3 ≤ 70368744177665 := by unfold Rd at ry3; omega
 obtain ⟨-, p1', p2', p3'⟩ := m_le (k := 4294967296) (b0 := u0) (b1 := -u1) (b2 := -u2) (b3 := -u3) Y0.1 Y0.2 Y1.1 Y1.2 Y2.1 Y2.2 Y3.1 Y3.2 (by omega) (by omega) (by omega) (by omega) (by omega) (by omega) (by omega) (by omega)
 have i1 : -400000000000000 ≤ a1 ∧ a1 ≤ 400000000000000 := by unfold Rd at ra1; omega
 have i2 : -400000000000000 ≤ a2 ∧ a2 ≤ 400000000000000 := by unfold Rd at ra2; omega
 have i3 : -400000000000000 ≤ a3 ∧ a3 ≤ 400000000000000 := by unfold Rd at ra3; omega
 have j1 : -400000000000000 ≤ b1 ∧ b1 ≤ 400000000000000 := by unfold Rd at rb1; omega
 have j2 : -400000000000000 ≤ b2 ∧ b2 ≤ 400000000000000 := by unfold Rd at rb2; omega
 have j3 : -400000000000000 ≤ b3 ∧ b3 ≤ 400000000000000 := by unfold Rd at rb3; omega
 have o1 : -16 ≤ t1 - a1 - b1 ∧ t1 - a1 - b1 ≤ 16 := by unfold Rd at ra1 rb1 rt1; omega
 have o2 : -16 ≤ t2 - a2 - b2 ∧ t2 - a2 - b2 ≤ 16 := by unfold Rd at ra2 rb2 rt2; omega
 have o3 : -16 ≤ t3 - a3 - b3 ∧ t3 - a3 - b3 ≤ 16 := by unfold Rd at ra3 rb3 rt3; omega
 exact ⟨a1, a2, a3, b1, b2, b3, t1, t2, t3, hx, hy, hz, o1, o2, o3, by omega, by omega, by omega, by omega, by omega, by omega⟩
end Go.Proofs.YtdchdajjhofmnaaGreat
namespace Go.Proofs.YtdchdajjhofmnaaGreat
open Go Go.Sx
theorem unit_one' {n a : Int} (hn : 1 ≤ n) (hn2 : n ≤ 288230376151711744) (ha0 : -n ≤ a) (ha1 : a ≤ n) :
  ∃ u, f312 a n = (u, false) ∧ -4294967296 ≤ u ∧ u ≤ 4294967296 ∧ (0 ≤ a → 0 ≤ u) ∧ (a ≤ 0 → u ≤ 0) ∧ -n ≤ 2 * (n * u) - 8589934592 * a ∧ 2 * (n * u) - 8589934592 * a ≤ n := by
 obtain ⟨N, Y, -, hY, hc, l1, l2⟩ := ov_bounds (A := a) (B := n) (by omega)
 rw [show N = a by omega, show Y = n by omega] at l1 l2
 have h := unit_num (u := ov a n) (by omega) ha0 ha1 l1 l2
 refine ⟨ov a n, ?_, h⟩
 rw [f312_eq, cl_in (n := a) (by omega) (by omega), cl_in (n := n) (by omega) (by omega), ovr_ne (by omega) (by omega), cl_in (n := ov a n) (by omega) (by omega)]
 simp
structure One (n a u : Int) : Prop where
 lo : -4294967296 ≤ u
 hi : u ≤ 4294967296
 pos : 0 ≤ a → 0 ≤ u
 neg : a ≤ 0 → u ≤ 0
 dl : -n ≤ 2 * (n * u) - 8589934592 * a
 dh : 2 * (n * u) - 8589934592 * a ≤ n
 al : -n ≤ a
 ah : a ≤ n
structure Len (n a0 a1 a2 a3 : Int) : Prop where
 lo : n * n ≤ a0 * a0 + a1 * a1 + a2 * a2 + a3 * a3
 hi : a0 * a0 + a1 * a1 + a2 * a2 + a3 * a3 < (n + 1) * (n + 1)
 nn : 0 ≤ n
theorem Len.uniq {n m a0 a1 a2 a3 : Int} (h : Len n a0 a1 a2 a3) (h' : Len m a0 a1 a2 a3) : n = m := by
 have h1 := h.lo; have h2 := h.hi; have h3 := h'.lo; have h4 := h'.hi; have h5 := h.nn; have h6 := h'.nn
 have g1 : n < m + 1 := lt_of_sq (by omega) (by omega)
 have g2 : m < n + 1 := lt_of_sq (by omega) (by omega)
 omega
theorem Len.comp {n a0 a1 a2 a3 : Int} (h : Len n a0 a1 a2 a3) : (-n ≤ a0 ∧ a0 ≤ n) ∧ (-n ≤ a1 ∧ a1 ≤ n) ∧ (-n ≤ a2 ∧ a2 ≤ n) ∧ (-n ≤ a3 ∧ a3 ≤ n) := by
 have q0 := sq_nn a0; have q1 := sq_nn a1; have q2 := sq_nn a2; have q3 := sq_nn a3
 have h2 := h.hi; have h5 := h.nn
 have lim : ∀ a : Int, a * a < (n + 1) * (n + 1) → -n ≤ a ∧ a ≤ n := fun a h => by
  have h1 := lt_of_sq h (by omega)
  have h2 : -a < n + 1 := lt_of_sq (by rw [Int.neg_mul_neg]; exact h) (by omega)
  omega
 exact ⟨lim a0 (by omega), lim a1 (by omega), lim a2 (by omega), lim a3 (by omega)⟩
theorem f140_len {a0 a1 a2 a3 : Int} (k0 : chg a0 = false) (k1 : chg a1 = false) (k2 : chg a2 = false) (k3 : chg a3 = false) (h : a0 * a0 + a1 * a1 + a2 * a2 + a3 * a3 < 83076749736557242056487941267521536) :
  ∃ n, f140 a0 a1 a2 a3 = (n, false) ∧ n < 288230376151711744 ∧ Len n a0 a1 a2 a3 := by
 obtain ⟨n, c, e1, n0, n1, n2, n3, n4⟩ := f140_eq a0 a1 a2 a3
 have s1 : sq4 a0 a1 a2 a3 = a0 * a0 + a1 * a1 + a2 * a2 + a3 * a3 := by unfold sq4; rw [ne_false k0, ne_false k1, ne_false k2, ne_false k3]
 rw [s1] at n2 n3
 have hl : n < 288230376151711744 := lt_of_sq (by omega) (by omega)
 obtain ⟨n5, hc⟩ := n3 hl
 subst hc
 refine ⟨n, ?_, hl, n2, n5, n0⟩
 rw [e1, k0, k1, k2, k3]; rfl
theorem f140_known {a0 a1 a2 a3 n : Int} (k0 : chg a0 = false) (k1 : chg a1 = false) (k2 : chg a2 = false) (k3 : chg a3 = false) (h : Len n a0 a1 a2 a3) (hn : n < 288230376151711744) : f140 a0 a1 a2 a3 = (n, false) := by
 have h1 := h.hi
 have h2 := h.nn
 have h3 := Int.mul_le_mul (show n + 1 ≤ 288230376151711744 by omega) (show n + 1 ≤ 288230376151711744 by omega) (by omega) (by omega)
 obtain ⟨m, e, _, hm⟩ := f140_len k0 k1 k2 k3 (by omega)
 rw [e, hm.uniq h]
theorem f140_back {a0 a1 a2 a3 n : Int} (h : f140 a0 a1 a2 a3 = (n, false)) (hn : n < 288230376151711744) : chg a0 = false ∧ chg a1 = false ∧ chg a2 = false ∧ chg a3 = false ∧ Len n a0 a1 a2 a3 := by
 obtain ⟨m, c, e1, n0, n1, n2, n3, n4⟩ := f140_eq a0 a1 a2 a3
 rw [h] at e1
 simp only [Prod.mk.injEq] at e1
 obtain ⟨rfl, e2⟩ := e1
 have e3 := e2.symm
 simp only [Bool.or_eq_false_iff] at e3
 obtain ⟨hc, k0, k1, k2, k3⟩ := e3
 have s1 : sq4 a0 a1 a2 a3 = a0 * a0 + a1 * a1 + a2 * a2 + a3 * a3 := by unfold sq4; rw [ne_false k0, ne_false k1, ne_false k2, ne_false k3]
 rw [s1] at n2 n3
 exact ⟨k0, k1, k2, k3, n2, (n3 hn).1, n0⟩
theorem unit_all {a0 a1 a2 a3 n : Int} (k0 : chg a0 = false) (k1 : chg a1 = false) (k2 : chg a2 = false) (k3 : chg a3 = false) (hn : 1 ≤ n) (hn2 : n < 288230376151711744) (h : Len n a0 a1 a2 a3) :
  ∃ u0 u1 u2 u3, f309 a0 a1 a2 a3 = (u0, u1, u2, u3, false) ∧ One n a0 u0 ∧ One n a1 u1 ∧ One n a2 u2 ∧ One n a3 u3 := by
 obtain ⟨⟨l0, r0⟩, ⟨l1, r1⟩, ⟨l2, r2⟩, ⟨l3, r3⟩⟩ := h.comp
 obtain ⟨u0, d0, a00, b00, sp0, sn0, x0, y0⟩ := unit_one' (a := a0) (n := n) hn (by omega) l0 r0
 obtain ⟨u1, d1, a01, b01, sp1, sn1, x1, y1⟩ := unit_one' (a := a1) (n := n) hn (by omega) l1 r1
 obtain ⟨u2, d2, a02, b02, sp2, sn2, x2, y2⟩ := unit_one' (a := a2) (n := n) hn (by omega) l2 r2
 obtain ⟨u3, d3, a03, b03, sp3, sn3, x3, y3⟩ := unit_one' (a := a3) (n := n) hn (by omega) l3 r3
 refine ⟨u0, u1, u2, u3, ?_, ⟨a00, b00, sp0, sn0, x0, y0, l0, r0⟩, ⟨a01, b01, sp1, sn1, x1, y1, l1, r1⟩, ⟨a02, b02, sp2, sn2, x2, y2, l2, r2⟩, ⟨a03, b03, sp3, sn3, x3, y3, l3, r3⟩⟩
 unfold f309
 simp only [f140_known k0 k1 k2 k3 h hn2, d0, d1, d2, d3]
 rw [show (n == 0) = false by simp; omega]; rfl
theorem one_sq {n a0 a1 a2 a3 u0 u1 u2 u3 : Int} (hn : 16777216 ≤ n) (h : Len n a0 a1 a2 a3) (h0 : One n a0 u0) (h1 : One n a1 u1) (h2 : One n a2 u2) (h3 : One n a3 u3) :
  18446744056529682432 ≤ u0 * u0 + u1 * u1 + u2 * u2 + u3 * u3 ∧ u0 * u0 + u1 * u1 + u2 * u2 + u3 * u3 ≤ 18446746289912938497 ∧ (4294901760 ≤ n → u0 * u0 + u1 * u1 + u2 * u2 + u3 * u3 ≤ 18446744099479748610) := by
 obtain ⟨t0, t0'⟩ := unit_sq h0.dl h0.dh h0.al h0.ah
 obtain ⟨t1, t1'⟩ := unit_sq h1.dl h1.dh h1.al h1.ah
 obtain ⟨t2, t2'⟩ := unit_sq h2.dl h2.dh h2.al h2.ah
 obtain ⟨t3, t3'⟩ := unit_sq h3.dl h3.dh h3.al h3.ah
 have n2 := h.lo; have n3 := h.hi
 have nn : 0 < n * n := Int.mul_pos (by omega) (by omega)
 have nb := Int.mul_le_mul_of_nonneg_right (show (16777216 : Int) ≤ n by omega) (show 0 ≤ n by omega)
 have n5 : (n + 1) * (n + 1) = n * n + 2 * n + 1 := by grind
 rw [n5] at n3
 have eU : n * n * (4 * (u0 * u0 + u1 * u1 + u2 * u2 + u3 * u3)) = 4 * (n * n * (u0 * u0)) + 4 * (n * n * (u1 * u1)) + 4 * (n * n * (u2 * u2)) + 4 * (n * n * (u3 * u3)) := by grind
 have hU : 4 * (u0 * u0 + u1 * u1 + u2 * u2 + u3 * u3) ≤ 73786976294838206464 + 8796093022208 + 68719476740 + 1048576 := by
  refine Int.le_of_mul_le_mul_left (a := n * n) ?_ nn
  rw [eU]; omega
 have hL : 73786976294838206464 - 68719476736 ≤ 4 * (u0 * u0 + u1 * u1 + u2 * u2 + u3 * u3) := by
  refine Int.le_of_mul_le_mul_left (a := n * n) ?_ nn
  rw [eU]; omega
 refine ⟨by omega, by omega, fun hb => ?_⟩
 have nb2 := Int.mul_le_mul_of_nonneg_right hb (show 0 ≤ n by omega)
 have hU2 : 4 * (u0 * u0 + u1 * u1 + u2 * u2 + u3 * u3) ≤ 73786976294838206464 + 34360262656 + 68719476740 + 20000 := by
  refine Int.le_of_mul_le_mul_left (a := n * n) ?_ nn
  rw [eU]; omega
 omega
theorem Len.mk' {a0 a1 a2 a3 : Int} (h0 : chg a0 = false) (h1 : chg a1 = false) (h2 : chg a2 = false) (h3 : chg a3 = false) (h : a0 * a0 + a1 * a1 + a2 * a2 + a3 * a3 < 83076749736557242056487941267521536) : ∃ n, Len n a0 a1 a2 a3 ∧ n < 288230376151711744 := by
 obtain ⟨n, _, h4, h5⟩ := f140_len h0 h1 h2 h3 h; exact ⟨n, h5, h4⟩
theorem one_len {u0 u1 u2 u3 L H : Int} (l0 : -4294967296 ≤ u0) (r0 : u0 ≤ 4294967296) (l1 : -4294967296 ≤ u1) (r1 : u1 ≤ 4294967296) (l2 : -4294967296 ≤ u2) (r2 : u2 ≤ 4294967296) (l3 : -4294967296 ≤ u3) (r3 : u3 ≤ 4294967296)
  (hL : L * L ≤ u0 * u0 + u1 * u1 + u2 * u2 + u3 * u3) (hH : u0 * u0 + u1 * u1 + u2 * u2 + u3 * u3 < H * H) (hH0 : 0 ≤ H) : ∃ m, f140 u0 u1 u2 u3 = (m, false) ∧ L ≤ m ∧ m < H ∧ Len m u0 u1 u2 u3 := by
 have v0 := sq_abs_le (x := u0) (n := 4294967296) (by omega) (by omega)
 have v1 := sq_abs_le (x := u1) (n := 4294967296) (by omega) (by omega)
 have v2 := sq_abs_le (x := u2) (n := 4294967296) (by omega) (by omega)
 have v3 := sq_abs_le (x := u3) (n := 4294967296) (by omega) (by omega)
 obtain ⟨m, e, _, hm⟩ := f140_len (a0 := u0) (a1 := u1) (a2 := u2) (a3 := u3) (small_chg (by omega) (by omega)) (small_chg (by omega) (by omega)) (small_chg (by omega) (by omega)) (small_chg (by omega) (by omega)) (by omega)
 have h1 := hm.lo; have h2 := hm.hi; have h3 := hm.nn
 have g1 : m < H := lt_of_sq (by omega) (by omega)
 have g2 : L < m + 1 := lt_of_sq (by omega) (by omega)
 exact ⟨m, e, by omega, g1, hm⟩
theorem f206_half {w : Int} (h0 : -288230376151711744 ≤ w) (h1 : w ≤ 288230376151711744) : f206 w 2147483648 = ((w + 1) / 2, false) := by
 rw [f206_eq, cl_in h0 h1, cl_in (n := 2147483648) (by omega) (by omega)]
 have e : rnd (w * 2147483648) = (w + 1) / 2 := by unfold rnd; omega
 rw [e, cl_in (by omega) (by omega)]; simp
theorem near_len {n m x1 x2 x3 d1 d2 d3 : Int} (hn : 4294967296 ≤ n) (h : Len n 4294967296 x1 x2 x3) (h' : Len m 4294967296 (d1 - x1) (d2 - x2) (d3 - x3)) (e1 : d1 = 0 ∨ d1 = 1) (e2 : d2 = 0 ∨ d2 = 1) (e3 : d3 = 0 ∨ d3 = 1) : m - n ≤ 3 ∧ n - m ≤ 5 := by
 obtain ⟨-, ⟨l1, r1⟩, ⟨l2, r2⟩, ⟨l3, r3⟩⟩ := h.comp
 have lo := h.lo; have hi := h.hi; have lo' := h'.lo; have hi' := h'.hi; have nn := h'.nn
 have sq : ∀ d x : Int, (d = 0 ∨ d = 1) → -n ≤ x → x ≤ n → (d - x) * (d - x) ≤ x * x + 2 * n + 1 ∧ x * x - 2 * n - 1 ≤ (d - x) * (d - x) := fun d x hd hl hr => by
  rcases hd with rfl | rfl
  ·have : (0 - x) * (0 - x) = x * x := by grind
   omega
  ·have : (1 - x) * (1 - x) = x * x - 2 * x + 1 := by grind
   omega
 have s1 := sq d1 x1 e1 l1 r1; have s2 := sq d2 x2 e2 l2 r2; have s3 := sq d3 x3 e3 l3 r3
 have q1 : (n + 1) * (n + 1) = n * n + 2 * n + 1 := by grind
 have q2 : (n + 4) * (n + 4) = n * n + 8 * n + 16 := by grind
 have q3 : (n - 4) * (n - 4) = n * n - 8 * n + 16 := by grind
 rw [q1] at hi
 have g1 : m < n + 4 := lt_of_sq (by omega) (by omega)
 have g2 : n - 4 < m + 1 := lt_of_sq (by omega) (by omega)
 omega
theorem near_one {n m a b u v d : Int} (hn : 4294967296 ≤ n) (h : One n a u) (h' : One m b v) (hd : b = d - a) (hd1 : d = 0 ∨ d = 1) (hm : m - n ≤ 3 ∧ n - m ≤ 5) : -16 ≤ v + u ∧ v + u ≤ 16 := by
 have x1 := h.dl; have x2 := h.dh; have y1 := h'.dl; have y2 := h'.dh
 have e : 2 * (n * (v + u)) = 2 * (n * u) + 2 * (m * v) + 2 * ((n - m) * v) := by grind
 obtain ⟨p1, p2⟩ := ab_le2 (a := n - m) (e := v) (n := 5) (k := 4294967296) (by omega) (by omega) h'.lo h'.hi
 constructor
 ·rcases Int.lt_or_le (v + u) (-16) with hh | hh
  ·have := Int.mul_le_mul_of_nonneg_left (show v + u ≤ -17 by omega) (show 0 ≤ n by omega)
   omega
  ·exact hh
 ·rcases Int.lt_or_le 16 (v + u) with hh | hh
  ·have := Int.mul_le_mul_of_nonneg_left (show 17 ≤ v + u by omega) (show 0 ≤ n by omega)
   omega
  ·exact hh
theorem near_one' {n m a u v : Int} (hn : 4294967296 ≤ n) (h : One n a u) (h' : One m a v) (hm : m - n ≤ 3 ∧ n - m ≤ 5) : -16 ≤ v - u ∧ v - u ≤ 16 := by
 have x1 := h.dl; have x2 := h.dh; have y1 := h'.dl; have y2 := h'.dh
 have e : 2 * (n * (v - u)) = 2 * (m * v) - 2 * (n * u) + 2 * ((n - m) * v) := by grind
 obtain ⟨p1, p2⟩ := ab_le2 (a := n - m) (e := v) (n := 5) (k := 4294967296) (by omega) (by omega) h'.lo h'.hi
 constructor
 ·rcases Int.lt_or_le (v - u) (-16) with hh | hh
  ·have := Int.mul_le_mul_of_nonneg_left (show v - u ≤ -17 by omega) (show 0 ≤ n by omega)
   omega
  ·exact hh
 ·rcases Int.lt_or_le 16 (v - u) with hh | hh
  ·have := Int.mul_le_mul_of_nonneg_left (show 17 ≤ v - u by omega) (show 0 ≤ n by omega)
   omega
  ·exact hh
theorem small_in {w1 w2 w3 : Int} (l1 : -288230376151711744 ≤ w1) (r1 : w1 ≤ 288230376151711744) (l2 : -288230376151711744 ≤ w2) (r2 : w2 ≤ 288230376151711744) (l3 : -288230376151711744 ≤ w3) (r3 : w3 ≤ 288230376151711744) :
  ∃ n u0 u1 u2 u3, f308 w1 w2 w3 = (u0, u1, u2, u3, false) ∧ Len n 4294967296 ((w1 + 1) / 2) ((w2 + 1) / 2) ((w3 + 1) / 2) ∧ 4294967296 ≤ n ∧ n < 288230376151711744 ∧
   One n 4294967296 u0 ∧ One n ((w1 + 1) / 2) u1 ∧ One n ((w2 + 1) / 2) u2 ∧ One n ((w3 + 1) / 2) u3 := by
 have p1 := sq_abs_le (x := (w1 + 1) / 2) (n := 144115188075855872) (by omega) (by omega)
 have p2 := sq_abs_le (x := (w2 + 1) / 2) (n := 144115188075855872) (by omega) (by omega)
 have p3 := sq_abs_le (x := (w3 + 1) / 2) (n := 144115188075855872) (by omega) (by omega)
 have k0 : chg 4294967296 = false := small_chg (by omega) (by omega)
 have k1 : chg ((w1 + 1) / 2) = false := small_chg (by omega) (by omega)
 have k2 : chg ((w2 + 1) / 2) = false := small_chg (by omega) (by omega)
 have k3 : chg ((w3 + 1) / 2) = false := small_chg (by omega) (by omega)
 obtain ⟨n, hn, hn2⟩ := Len.mk' k0 k1 k2 k3 (by omega)
 have hn1 : 4294967296 ≤ n := by have := hn.comp; omega
 obtain ⟨u0, u1, u2, u3, e, o0, o1, o2, o3⟩ := unit_all k0 k1 k2 k3 (by omega) hn2 hn
 refine ⟨n, u0, u1, u2, u3, ?_, hn, hn1, hn2, o0, o1, o2, o3⟩
 unfold f308
 rw [show f98 = (4294967296, 0, 0, 0) from rfl]
 simp only [f206_half l1 r1, f206_half l2 r2, f206_half l3 r3, e]
 rfl
end Go.Proofs.YtdchdajjhofmnaaGreat
namespace Go.Proofs.YtdchdajjhofmnaaGreat
open Go Go.Sx
def ro1 (u0 u1 u2 u3 v1 v2 v3 : Int) : Int := (u0 * u0 + u1 * u1 - u2 * u2 - u3 * u3) * v1 + 2 * (u1 * u2 - u0 * u3) * v2 + 2 * (u1 * u3 + u0 * u2) * v3
def ro2 (u0 u1 u2 u3 v1 v2 v3 : Int) : Int := 2 * (u1 * u2 + u0 * u3) * v1 + (u0 * u0 - u1 * u1 + u2 * u2 - u3 * u3) * v2 + 2 * (u2 * u3 - u0 * u1) * v3
def ro3 (u0 u1 u2 u3 v1 v2 v3 : Int) : Int := 2 * (u1 * u3 - u0 * u2) * v1 + 2 * (u2 * u3 + u0 * u1) * v2 + (u0 * u0 - u1 * u1 - u2 * u2 + u3 * u3) * v3
def sq (u0 u1 u2 u3 : Int) : Int := u0 * u0 + u1 * u1 + u2 * u2 + u3 * u3
theorem ro_m1 (u0 u1 u2 u3 v1 v2 v3 : Int) : m1 (m0 u0 u1 u2 u3 0 v1 v2 v3) (m1 u0 u1 u2 u3 0 v1 v2 v3) (m2 u0 u1 u2 u3 0 v1 v2 v3) (m3 u0 u1 u2 u3 0 v1 v2 v3) u0 (-u1) (-u2) (-u3) = ro1 u0 u1 u2 u3 v1 v2 v3 := by
 unfold m0 m1 m2 m3 ro1; grind
theorem ro_m2 (u0 u1 u2 u3 v1 v2 v3 : Int) : m2 (m0 u0 u1 u2 u3 0 v1 v2 v3) (m1 u0 u1 u2 u3 0 v1 v2 v3) (m2 u0 u1 u2 u3 0 v1 v2 v3) (m3 u0 u1 u2 u3 0 v1 v2 v3) u0 (-u1) (-u2) (-u3) = ro2 u0 u1 u2 u3 v1 v2 v3 := by
 unfold m0 m1 m2 m3 ro2; grind
theorem ro_m3 (u0 u1 u2 u3 v1 v2 v3 : Int) : m3 (m0 u0 u1 u2 u3 0 v1 v2 v3) (m1 u0 u1 u2 u3 0 v1 v2 v3) (m2 u0 u1 u2 u3 0 v1 v2 v3) (m3 u0 u1 u2 u3 0 v1 v2 v3) u0 (-u1) (-u2) (-u3) = ro3 u0 u1 u2 u3 v1 v2 v3 := by
 unfold m0 m1 m2 m3 ro3; grind
theorem ro_back1 (u0 u1 u2 u3 v1 v2 v3 : Int) : ro1 u0 (-u1) (-u2) (-u3) (ro1 u0 u1 u2 u3 v1 v2 v3) (ro2 u0 u1 u2 u3 v1 v2 v3) (ro3 u0 u1 u2 u3 v1 v2 v3) = sq u0 u1 u2 u3 * sq u0 u1 u2 u3 * v1 := by
 unfold ro1 ro2 ro3 sq; grind
theorem ro_back2 (u0 u1 u2 u3 v1 v2 v3 : Int) : ro2 u0 (-u1) (-u2) (-u3) (ro1 u0 u1 u2 u3 v1 v2 v3) (ro2 u0 u1 u2 u3 v1 v2 v3) (ro3 u0 u1 u2 u3 v1 v2 v3) = sq u0 u1 u2 u3 * sq u0 u1 u2 u3 * v2 := by
 unfold ro1 ro2 ro3 sq; grind
theorem ro_back3 (u0 u1 u2 u3 v1 v2 v3 : Int) : ro3 u0 (-u1) (-u2) (-u3) (ro1 u0 u1 u2 u3 v1 v2 v3) (ro2 u0 u1 u2 u3 v1 v2 v3) (ro3 u0 u1 u2 u3 v1 v2 v3) = sq u0 u1 u2 u3 * sq u0 u1 u2 u3 * v3 := by
 unfold ro1 ro2 ro3 sq; grind
theorem ro_norm (u0 u1 u2 u3 v1 v2 v3 : Int) : ro1 u0 u1 u2 u3 v1 v2 v3 * ro1 u0 u1 u2 u3 v1 v2 v3 + ro2 u0 u1 u2 u3 v1 v2 v3 * ro2 u0 u1 u2 u3 v1 v2 v3 + ro3 u0 u1 u2 u3 v1 v2 v3 * ro3 u0 u1 u2 u3 v1 v2 v3 = sq u0 u1 u2 u3 * sq u0 u1 u2 u3 * (v1 * v1 + v2 * v2 + v3 * v3) := by
 unfold ro1 ro2 ro3 sq; grind
theorem ro_lin1 (u0 u1 u2 u3 v1 v2 v3 w1 w2 w3 : Int) : ro1 u0 u1 u2 u3 (v1 + w1) (v2 + w2) (v3 + w3) = ro1 u0 u1 u2 u3 v1 v2 v3 + ro1 u0 u1 u2 u3 w1 w2 w3 := by unfold ro1; grind
theorem ro_lin2 (u0 u1 u2 u3 v1 v2 v3 w1 w2 w3 : Int) : ro2 u0 u1 u2 u3 (v1 + w1) (v2 + w2) (v3 + w3) = ro2 u0 u1 u2 u3 v1 v2 v3 + ro2 u0 u1 u2 u3 w1 w2 w3 := by unfold ro2; grind
theorem ro_lin3 (u0 u1 u2 u3 v1 v2 v3 w1 w2 w3 : Int) : ro3 u0 u1 u2 u3 (v1 + w1) (v2 + w2) (v3 + w3) = ro3 u0 u1 u2 u3 v1 v2 v3 + ro3 u0 u1 u2 u3 w1 w2 w3 := by unfold ro3; grind
theorem ro_smul1 (u0 u1 u2 u3 v1 v2 v3 k : Int) : ro1 u0 u1 u2 u3 (v1 * k) (v2 * k) (v3 * k) = ro1 u0 u1 u2 u3 v1 v2 v3 * k := by unfold ro1; grind
theorem ro_smul2 (u0 u1 u2 u3 v1 v2 v3 k : Int) : ro2 u0 u1 u2 u3 (v1 * k) (v2 * k) (v3 * k) = ro2 u0 u1 u2 u3 v1 v2 v3 * k := by unfold ro2; grind
theorem ro_smul3 (u0 u1 u2 u3 v1 v2 v3 k : Int) : ro3 u0 u1 u2 u3 (v1 * k) (v2 * k) (v3 * k) = ro3 u0 u1 u2 u3 v1 v2 v3 * k := by unfold ro3; grind
theorem two_le (a b : Int) : -(a * a + b * b) ≤ 2 * (a * b) ∧ 2 * (a * b) ≤ a * a + b * b := by
 have h1 := sq_nn (a - b); have h2 := sq_nn (a + b)
 have e1 : (a - b) * (a - b) = a * a + b * b - 2 * (a * b) := by grind
 have e2 : (a + b) * (a + b) = a * a + b * b + 2 * (a * b) := by grind
 omega
theorem ro_coef (u0 u1 u2 u3 : Int) : (-sq u0 u1 u2 u3 ≤ u0 * u0 + u1 * u1 - u2 * u2 - u3 * u3 ∧ u0 * u0 + u1 * u1 - u2 * u2 - u3 * u3 ≤ sq u0 u1 u2 u3) ∧ (-sq u0 u1 u2 u3 ≤ u0 * u0 - u1 * u1 + u2 * u2 - u3 * u3 ∧ u0 * u0 - u1 * u1 + u2 * u2 - u3 * u3 ≤ sq u0 u1 u2 u3) ∧
  (-sq u0 u1 u2 u3 ≤ u0 * u0 - u1 * u1 - u2 * u2 + u3 * u3 ∧ u0 * u0 - u1 * u1 - u2 * u2 + u3 * u3 ≤ sq u0 u1 u2 u3) ∧
  (-sq u0 u1 u2 u3 ≤ 2 * (u1 * u2 - u0 * u3) ∧ 2 * (u1 * u2 - u0 * u3) ≤ sq u0 u1 u2 u3) ∧ (-sq u0 u1 u2 u3 ≤ 2 * (u1 * u2 + u0 * u3) ∧ 2 * (u1 * u2 + u0 * u3) ≤ sq u0 u1 u2 u3) ∧
  (-sq u0 u1 u2 u3 ≤ 2 * (u1 * u3 + u0 * u2) ∧ 2 * (u1 * u3 + u0 * u2) ≤ sq u0 u1 u2 u3) ∧ (-sq u0 u1 u2 u3 ≤ 2 * (u1 * u3 - u0 * u2) ∧ 2 * (u1 * u3 - u0 * u2) ≤ sq u0 u1 u2 u3) ∧
  (-sq u0 u1 u2 u3 ≤ 2 * (u2 * u3 - u0 * u1) ∧ 2 * (u2 * u3 - u0 * u1) ≤ sq u0 u1 u2 u3) ∧ (-sq u0 u1 u2 u3 ≤ 2 * (u2 * u3 + u0 * u1) ∧ 2 * (u2 * u3 + u0 * u1) ≤ sq u0 u1 u2 u3) := by
 have q0 := sq_nn u0; have q1 := sq_nn u1; have q2 := sq_nn u2; have q3 := sq_nn u3
 have t12 := two_le u1 u2; have t03 := two_le u0 u3; have t13 := two_le u1 u3; have t02 := two_le u0 u2; have t23 := two_le u2 u3; have t01 := two_le u0 u1
 unfold sq
 refine ⟨⟨?_, ?_⟩, ⟨?_, ?_⟩, ⟨?_, ?_⟩, ⟨?_, ?_⟩, ⟨?_, ?_⟩, ⟨?_, ?_⟩, ⟨?_, ?_⟩, ⟨?_, ?_⟩, ⟨?_, ?_⟩⟩ <;> omega
theorem sq_neg (u0 u1 u2 u3 : Int) : sq u0 (-u1) (-u2) (-u3) = sq u0 u1 u2 u3 := by unfold sq; grind
theorem ro_le {u0 u1 u2 u3 e1 e2 e3 k : Int} (l1 : -k ≤ e1) (r1 : e1 ≤ k) (l2 : -k ≤ e2) (r2 : e2 ≤ k) (l3 : -k ≤ e3) (r3 : e3 ≤ k) :
  (-(3 * (sq u0 u1 u2 u3 * k)) ≤ ro1 u0 u1 u2 u3 e1 e2 e3 ∧ ro1 u0 u1 u2 u3 e1 e2 e3 ≤ 3 * (sq u0 u1 u2 u3 * k)) ∧ (-(3 * (sq u0 u1 u2 u3 * k)) ≤ ro2 u0 u1 u2 u3 e1 e2 e3 ∧ ro2 u0 u1 u2 u3 e1 e2 e3 ≤ 3 * (sq u0 u1 u2 u3 * k)) ∧
  (-(3 * (sq u0 u1 u2 u3 * k)) ≤ ro3 u0 u1 u2 u3 e1 e2 e3 ∧ ro3 u0 u1 u2 u3 e1 e2 e3 ≤ 3 * (sq u0 u1 u2 u3 * k)) := by
 obtain ⟨c1, c2, c3, c4, c5, c6, c7, c8, c9⟩ := ro_coef u0 u1 u2 u3
 have p1 := ab_le2 c1.1 c1.2 l1 r1; have p2 := ab_le2 c4.1 c4.2 l2 r2; have p3 := ab_le2 c6.1 c6.2 l3 r3
 have p4 := ab_le2 c5.1 c5.2 l1 r1; have p5 := ab_le2 c2.1 c2.2 l2 r2; have p6 := ab_le2 c8.1 c8.2 l3 r3
 have p7 := ab_le2 c7.1 c7.2 l1 r1; have p8 := ab_le2 c9.1 c9.2 l2 r2; have p9 := ab_le2 c3.1 c3.2 l3 r3
 unfold ro1 ro2 ro3
 refine ⟨⟨?_, ?_⟩, ⟨?_, ?_⟩, ⟨?_, ?_⟩⟩ <;> omega
theorem rot_lin {u0 u1 u2 u3 v1 v2 v3 : Int} (u0l : -4294968320 ≤ u0) (u0h : u0 ≤ 4294968320) (u1l : -4294968320 ≤ u1) (u1h : u1 ≤ 4294968320) (u2l : -4294968320 ≤ u2) (u2h : u2 ≤ 4294968320) (u3l : -4294968320 ≤ u3) (u3h : u3 ≤ 4294968320)
  (v1l : -70368744177664 ≤ v1) (v1h : v1 ≤ 70368744177664) (v2l : -70368744177664 ≤ v2) (v2h : v2 ≤ 70368744177664) (v3l : -70368744177664 ≤ v3) (v3h : v3 ≤ 70368744177664) :
  ∃ b1 b2 b3 e1 e2 e3 : Int, f151 u0 u1 u2 u3 v1 v2 v3 = (b1, b2, b3, false) ∧ (b1 * 18446744073709551616 = ro1 u0 u1 u2 u3 v1 v2 v3 + e1 ∧ b2 * 18446744073709551616 = ro2 u0 u1 u2 u3 v1 v2 v3 + e2 ∧ b3 * 18446744073709551616 = ro3 u0 u1 u2 u3 v1 v2 v3 + e3) ∧
   (-73786976294838206464 ≤ e1 ∧ e1 ≤ 73786976294838206464) ∧ (-73786976294838206464 ≤ e2 ∧ e2 ≤ 73786976294838206464) ∧ (-73786976294838206464 ≤ e3 ∧ e3 ≤ 73786976294838206464) := by
 obtain ⟨a0, a1, a2, a3, b1, b2, b3, hf, ⟨r0, r1, r2, r3⟩, s1, s2, s3⟩ := rot_in (u0 := u0) (u1 := u1) (u2 := u2) (u3 := u3) (v1 := v1) (v2 := v2) (v3 := v3) (by omega) (by omega) (by omega) (by omega) (by omega) (by omega) (by omega) (by omega) v1l v1h v2l v2h v3l v3h
 have dec : ∀ {r s : Int}, Rd r s → ∃ e, r * 4294967296 = s + e ∧ -2147483648 ≤ e ∧ e ≤ 2147483648 := fun {r s} h => ⟨r * 4294967296 - s, by omega, by unfold Rd at h; omega, by unfold Rd at h; omega⟩
 obtain ⟨e0, h0, g0, g0'⟩ := dec r0
 obtain ⟨e1, h1, g1, g1'⟩ := dec r1
 obtain ⟨e2, h2, g2, g2'⟩ := dec r2
 obtain ⟨e3, h3, g3, g3'⟩ := dec r3
 obtain ⟨d1, k1, j1, j1'⟩ := dec s1
 obtain ⟨d2, k2, j2, j2'⟩ := dec s2
 obtain ⟨d3, k3, j3, j3'⟩ := dec s3
 obtain ⟨-, q1, q2, q3⟩ := m_le (n := 2147483648) (k := 4294968320) (b0 := u0) (b1 := -u1) (b2 := -u2) (b3 := -u3) g0 g0' g1 g1' g2 g2' g3 g3' u0l u0h (by omega) (by omega) (by omega) (by omega) (by omega) (by omega)
 have x1 : m1 a0 a1 a2 a3 u0 (-u1) (-u2) (-u3) * 4294967296 = ro1 u0 u1 u2 u3 v1 v2 v3 + m1 e0 e1 e2 e3 u0 (-u1) (-u2) (-u3) := by
  have : m1 a0 a1 a2 a3 u0 (-u1) (-u2) (-u3) * 4294967296 = m1 (a0 * 4294967296) (a1 * 4294967296) (a2 * 4294967296) (a3 * 4294967296) u0 (-u1) (-u2) (-u3) := by unfold m1; grind
  rw [this, h0, h1, h2, h3, ← ro_m1]; generalize m0 u0 u1 u2 u3 0 v1 v2 v3 = y0; generalize m1 u0 u1 u2 u3 0 v1 v2 v3 = y1; generalize m2 u0 u1 u2 u3 0 v1 v2 v3 = y2; generalize m3 u0 u1 u2 u3 0 v1 v2 v3 = y3; unfold m1; grind
 have x2 : m2 a0 a1 a2 a3 u0 (-u1) (-u2) (-u3) * 4294967296 = ro2 u0 u1 u2 u3 v1 v2 v3 + m2 e0 e1 e2 e3 u0 (-u1) (-u2) (-u3) := by
  have : m2 a0 a1 a2 a3 u0 (-u1) (-u2) (-u3) * 4294967296 = m2 (a0 * 4294967296) (a1 * 4294967296) (a2 * 4294967296) (a3 * 4294967296) u0 (-u1) (-u2) (-u3) := by unfold m2; grind
  rw [this, h0, h1, h2, h3, ← ro_m2]; generalize m0 u0 u1 u2 u3 0 v1 v2 v3 = y0; generalize m1 u0 u1 u2 u3 0 v1 v2 v3 = y1; generalize m2 u0 u1 u2 u3 0 v1 v2 v3 = y2; generalize m3 u0 u1 u2 u3 0 v1 v2 v3 = y3; unfold m2; grind
 have x3 : m3 a0 a1 a2 a3 u0 (-u1) (-u2) (-u3) * 4294967296 = ro3 u0 u1 u2 u3 v1 v2 v3 + m3 e0 e1 e2 e3 u0 (-u1) (-u2) (-u3) := by
  have : m3 a0 a1 a2 a3 u0 (-u1) (-u2) (-u3) * 4294967296 = m3 (a0 * 4294967296) (a1 * 4294967296) (a2 * 4294967296) (a3 * 4294967296) u0 (-u1) (-u2) (-u3) := by unfold m3; grind
  rw [this, h0, h1, h2, h3, ← ro_m3]; generalize m0 u0 u1 u2 u3 0 v1 v2 v3 = y0; generalize m1 u0 u1 u2 u3 0 v1 v2 v3 = y1; generalize m2 u0 u1 u2 u3 0 v1 v2 v3 = y2; generalize m3 u0 u1 u2 u3 0 v1 v2 v3 = y3; unfold m3; grind
 refine ⟨b1, b2, b3, m1 e0 e1 e2 e3 u0 (-u1) (-u2) (-u3) + d1 * 4294967296, m2 e0 e1 e2 e3 u0 (-u1) (-u2) (-u3) + d2 * 4294967296, m3 e0 e1 e2 e3 u0 (-u1) (-u2) (-u3) + d3 * 4294967296, hf, ⟨?_, ?_, ?_⟩, ⟨?_, ?_⟩, ⟨?_, ?_⟩, ⟨?_, ?_⟩⟩ <;> omega
theorem ro_there {U v d E : Int} (hU0 : 18446735277616529408 ≤ U) (hU1 : U ≤ 18446752869802573824) (v0 : -4398046511104 ≤ v) (v1 : v ≤ 4398046511104) (h : d * 340282366920938463463374607431768211456 = U * U * v + E)
  (E0 : -(5 * 1361129467683753853853498429727072845824) ≤ E) (E1 : E ≤ 5 * 1361129467683753853853498429727072845824) : -16777216 ≤ d - v ∧ d - v ≤ 16777216 := by
 have h1 := Int.mul_le_mul hU0 hU0 (by omega) (by omega)
 have h2 := Int.mul_le_mul hU1 hU1 (by omega) (by omega)
 obtain ⟨p1, p2⟩ := ab_le2 (a := U * U - 340282366920938463463374607431768211456) (e := v) (n := 649037107316853453566312041152512) (k := 4398046511104) (by omega) (by omega) v0 v1
 have e : (U * U - 340282366920938463463374607431768211456) * v = U * U * v - 340282366920938463463374607431768211456 * v := by grind
 omega
theorem ro_len {U n m v1 v2 v3 b1 b2 b3 x1 x2 x3 e1 e2 e3 : Int} (hU0 : 18446735277616529408 ≤ U) (hU1 : U ≤ 18446752869802573824)
  (hx : x1 * x1 + x2 * x2 + x3 * x3 = U * U * (v1 * v1 + v2 * v2 + v3 * v3)) (h1 : b1 * 18446744073709551616 = x1 + e1) (h2 : b2 * 18446744073709551616 = x2 + e2) (h3 : b3 * 18446744073709551616 = x3 + e3)
  (e1l : -73786976294838206464 ≤ e1) (e1h : e1 ≤ 73786976294838206464) (e2l : -73786976294838206464 ≤ e2) (e2h : e2 ≤ 73786976294838206464) (e3l : -73786976294838206464 ≤ e3) (e3h : e3 ≤ 73786976294838206464)
  (hn : Len n 0 v1 v2 v3) (hm : Len m 0 b1 b2 b3) :
  m * 18446744073709551616 ≤ U * (n + 1) + 3 * 73786976294838206464 ∧ (16777216 ≤ n → U * n - 4 * 73786976294838206464 ≤ (m + 1) * 18446744073709551616) := by
 have n0 := hn.nn; have m0 := hm.nn
 have nl := hn.lo; have nh := hn.hi; have ml := hm.lo; have mh := hm.hi
 rw [Int.mul_zero, Int.zero_add] at nl nh ml mh
 have UU : 0 ≤ U * U := sq_nn U
 have q1 := sq_nn x1; have q2 := sq_nn x2; have q3 := sq_nn x3
 have A0 : 0 ≤ U * (n + 1) := Int.mul_nonneg (by omega) (by omega)
 have hS : x1 * x1 + x2 * x2 + x3 * x3 ≤ (U * (n + 1)) * (U * (n + 1)) := by
  rw [hx]
  have := Int.mul_le_mul_of_nonneg_left (show v1 * v1 + v2 * v2 + v3 * v3 ≤ (n + 1) * (n + 1) by omega) UU
  have e : (U * (n + 1)) * (U * (n + 1)) = U * U * ((n + 1) * (n + 1)) := by grind
  omega
 have hL : U * U * (n * n) ≤ x1 * x1 + x2 * x2 + x3 * x3 := by
  rw [hx]; exact Int.mul_le_mul_of_nonneg_left nl UU
 generalize hA : U * (n + 1) = A at *
 have lim : ∀ x : Int, x * x ≤ A * A → -A ≤ x ∧ x ≤ A := fun x h => by
  have e : (A + 1) * (A + 1) = A * A + 2 * A + 1 := by grind
  have h1 : x < A + 1 := lt_of_sq (by omega) (by omega)
  have h2 : -x < A + 1 := lt_of_sq (by rw [Int.neg_mul_neg]; omega) (by omega)
  omega
 obtain ⟨a1, b1'⟩ := lim x1 (by omega)
 obtain ⟨a2, b2'⟩ := lim x2 (by omega)
 obtain ⟨a3, b3'⟩ := lim x3 (by omega)
 have p1 := ab_le2 a1 b1' e1l e1h; have p2 := ab_le2 a2 b2' e2l e2h; have p3 := ab_le2 a3 b3' e3l e3h
 have r1 := sq_abs_le e1l e1h; have r2 := sq_abs_le e2l e2h; have r3 := sq_abs_le e3l e3h
 have r1' := sq_nn e1; have r2' := sq_nn e2; have r3' := sq_nn e3
 have ex : ∀ b x e : Int, b * 18446744073709551616 = x + e → b * b * 340282366920938463463374607431768211456 = x * x + 2 * (x * e) + e * e := fun b x e h => by
  have : b * b * 340282366920938463463374607431768211456 = (b * 18446744073709551616) * (b * 18446744073709551616) := by grind
  rw [this, h]; grind
 have y1 := ex b1 x1 e1 h1; have y2 := ex b2 x2 e2 h2; have y3 := ex b3 x3 e3 h3
 constructor
 ·have e1 : (m * 18446744073709551616) * (m * 18446744073709551616) = m * m * 340282366920938463463374607431768211456 := by grind
  have e2 : (A + 3 * 73786976294838206464 + 1) * (A + 3 * 73786976294838206464 + 1) = A * A + 2 * (A * (3 * 73786976294838206464 + 1)) + (3 * 73786976294838206464 + 1) * (3 * 73786976294838206464 + 1) := by grind
  have : m * 18446744073709551616 < A + 3 * 73786976294838206464 + 1 := lt_of_sq (by rw [e1, e2]; omega) (by omega)
  omega
 ·intro hb
  have e1 : ((m + 1) * 18446744073709551616) * ((m + 1) * 18446744073709551616) = (m + 1) * (m + 1) * 340282366920938463463374607431768211456 := by grind
  have e2 : (U * n - 4 * 73786976294838206464) * (U * n - 4 * 73786976294838206464) = U * U * (n * n) - 8 * (U * n * 73786976294838206464) + 16 * (73786976294838206464 * 73786976294838206464) := by grind
  have e3 : A = U * n + U := by rw [← hA]; grind
  have g := Int.mul_le_mul_of_nonneg_left hb (show 0 ≤ U by omega)
  have : U * n - 4 * 73786976294838206464 < (m + 1) * 18446744073709551616 := lt_of_sq (by rw [e1, e2]; omega) (by omega)
  omega
end Go.Proofs.YtdchdajjhofmnaaGreat
