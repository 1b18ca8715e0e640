/- Roots and sums of products, as numbers. -/
import Derived.Test.YtmnglkcodbecbaaGreatP4
import Derived.Test.YtmnglkcodbecbaaGreatGh
namespace Go.Proofs.YtmnglkcodbecbaaGreat
open Go Go.Sx
theorem sqLe_wd {v m : Int} (h0 : 0 ≤ v) (h1 : v < 10633823966279326983230456482242756608) (h2 : 0 ≤ m) (h3 : m ≤ 288230376151711744) : sqLe (wd v).1 (wd v).2 m = decide (m * m ≤ v) := by
  unfold sqLe
  have hm : cl m = m := cl_in (by omega) h3
  have hp := prod_in m m (by omega) h3 (by omega) h3
  rw [f158_eq, hm]
  exact decide_eq_decide.2 (f177_wd (by omega) (by omega) (by omega) (by omega)).1
theorem bs_wd {v : Int} (h0 : 0 ≤ v) (h1 : v < 10633823966279326983230456482242756608) : ∀ (k : Nat) (lo hi : Int), 0 ≤ lo → lo ≤ hi → hi ≤ 288230376151711744 → hi - lo < 2 ^ k → lo * lo ≤ v → (hi = 288230376151711744 ∨ v < (hi + 1) * (hi + 1)) →
    0 ≤ bs (wd v).1 (wd v).2 k lo hi ∧ bs (wd v).1 (wd v).2 k lo hi ≤ 288230376151711744 ∧ bs (wd v).1 (wd v).2 k lo hi * bs (wd v).1 (wd v).2 k lo hi ≤ v ∧
      (bs (wd v).1 (wd v).2 k lo hi = 288230376151711744 ∨ v < (bs (wd v).1 (wd v).2 k lo hi + 1) * (bs (wd v).1 (wd v).2 k lo hi + 1))
  | 0, lo, hi, a, b, c, d, e, f => by
    have : lo = hi := by rw [Int.pow_zero] at d; omega
    subst this
    exact ⟨a, c, e, f⟩
  | k + 1, lo, hi, a, b, c, d, e, f => by
    by_cases hlt : lo < hi
    · rw [bs_next _ _ k hlt, sqLe_wd h0 h1 (by omega) (by omega)]
      rw [Int.pow_succ] at d
      generalize hm : hi - (hi - lo) / 2 = m
      have m1 : lo < m := by omega
      have m2 : m ≤ hi := by omega
      by_cases hs : m * m ≤ v
      · rw [decide_eq_true hs]
        exact bs_wd h0 h1 k m hi (by omega) m2 c (by omega) hs f
      · rw [decide_eq_false hs]
        exact bs_wd h0 h1 k lo (m - 1) a (by omega) (by omega) (by omega) e (.inr (by rw [Int.sub_add_cancel]; omega))
    · rw [bs_end _ _ _ hlt]
      have : lo = hi := by omega
      subst this
      exact ⟨a, c, e, f⟩
/-- the root of a wide number that is none below 0 -/
theorem f137_wd {v : Int} (h0 : 0 ≤ v) (h1 : v < 10633823966279326983230456482242756608) : ∃ n c, f137 (wd v).1 (wd v).2 = (n, c) ∧ 0 ≤ n ∧ n ≤ 288230376151711744 ∧ n * n ≤ v ∧ (n < 288230376151711744 → v < (n + 1) * (n + 1) ∧ c = false) ∧ (n = 288230376151711744 → c = decide ((n + 1) * (n + 1) ≤ v)) := by
  have hb := bs_wd h0 h1 60 0 288230376151711744 (by omega) (by omega) (by omega) (by decide) (by omega) (.inl rfl)
  unfold f137
  rw [f176_wd (by omega) (by omega)]
  have hh : decide ((wd v).1 < 0) = false := decide_eq_false (by unfold wd; simp only; omega)
  rw [hh]
  simp only [cond_true, cond_false]
  generalize bs (wd v).1 (wd v).2 60 0 288230376151711744 = n at hb
  obtain ⟨b1, b2, b3, b4⟩ := hb
  unfold rootOf
  by_cases hn : n < 288230376151711744
  · rw [decide_eq_true hn]
    refine ⟨n, false, rfl, b1, b2, b3, fun _ => ⟨?_, rfl⟩, fun e => by omega⟩
    rcases b4 with h | h
    · omega
    · exact h
  · rw [decide_eq_false hn]
    have hn' : n = 288230376151711744 := by omega
    subst hn'
    refine ⟨_, _, rfl, b1, b2, b3, fun e => absurd e hn, fun _ => ?_⟩
    have e1 : f158 288230376151711744 288230376151711744 = wd (288230376151711744 * 288230376151711744) := by rw [f158_eq, cl_in (by omega) (by omega)]
    rw [e1, f179_wd, f178_wd (by omega) (by omega) (by omega) (by omega) (by omega) (by omega)]
    have e2 : (288230376151711744 + 1) * (288230376151711744 + 1) = (288230376151711744 * 288230376151711744 + 576460752303423489 : Int) := by omega
    rw [e2]
    exact decide_eq_decide.2 (f177_wd (by omega) (by omega) (by omega) (by omega)).1
/-- the bound of a product -/
theorem addL_two {u v : Int} (h0 : -83076749736557242056487941267521536 ≤ u) (h1 : u ≤ 83076749736557242056487941267521536) (h2 : -83076749736557242056487941267521536 ≤ v) (h3 : v ≤ 83076749736557242056487941267521536) :
    addL [((wd u).1, (wd u).2), ((wd v).1, (wd v).2)] = wd (u + v) := by
  have e0 : ((0, 0) : Int × Int) = ((wd 0).1, (wd 0).2) := rfl
  simp only [addL, List.foldl_cons, List.foldl_nil, addF]
  have a1 := f178_wd (u := 0) (v := u) (by omega) (by omega) (by omega) (by omega) (by omega) (by omega)
  have z1 : (wd 0).1 = 0 := rfl
  have z2 : (wd 0).2 = 0 := rfl
  rw [z1, z2, Int.zero_add] at a1
  rw [a1]
  rw [f178_wd (by omega) (by omega) (by omega) (by omega) (by omega) (by omega)]
theorem addL_three {u v t : Int} (h0 : -83076749736557242056487941267521536 ≤ u) (h1 : u ≤ 83076749736557242056487941267521536) (h2 : -83076749736557242056487941267521536 ≤ v) (h3 : v ≤ 83076749736557242056487941267521536)
    (h4 : -83076749736557242056487941267521536 ≤ t) (h5 : t ≤ 83076749736557242056487941267521536) :
    addL [((wd u).1, (wd u).2), ((wd v).1, (wd v).2), ((wd t).1, (wd t).2)] = wd (u + v + t) := by
  have e := addL_two h0 h1 h2 h3
  simp only [addL, List.foldl_cons, List.foldl_nil] at e ⊢
  rw [e]
  simp only [addF]
  rw [f178_wd (by omega) (by omega) (by omega) (by omega) (by omega) (by omega)]
theorem addL_four {u v t r : Int} (h0 : -83076749736557242056487941267521536 ≤ u) (h1 : u ≤ 83076749736557242056487941267521536) (h2 : -83076749736557242056487941267521536 ≤ v) (h3 : v ≤ 83076749736557242056487941267521536)
    (h4 : -83076749736557242056487941267521536 ≤ t) (h5 : t ≤ 83076749736557242056487941267521536) (h6 : -83076749736557242056487941267521536 ≤ r) (h7 : r ≤ 83076749736557242056487941267521536) :
    addL [((wd u).1, (wd u).2), ((wd v).1, (wd v).2), ((wd t).1, (wd t).2), ((wd r).1, (wd r).2)] = wd (u + v + t + r) := by
  have e := addL_three h0 h1 h2 h3 h4 h5
  simp only [addL, List.foldl_cons, List.foldl_nil] at e ⊢
  rw [e]
  simp only [addF]
  rw [f178_wd (by omega) (by omega) (by omega) (by omega) (by omega) (by omega)]
/-- does it count as another one? -/
def chg (a : Int) : Bool := cl a != a
theorem chg_f (a : Int) : (f82 a).snd = chg a := rfl
theorem any4 (a b c d : Bool) : anyB [a, b, c, d] = (a || (b || (c || d))) := by simp [anyB]
theorem pb (a b : Int) : -83076749736557242056487941267521536 ≤ cl a * cl b ∧ cl a * cl b ≤ 83076749736557242056487941267521536 := by
  have := prod_in _ _ (cl_lo a) (cl_hi a) (cl_lo b) (cl_hi b); omega
def sq4 (a0 a1 a2 a3 : Int) : Int := cl a0 * cl a0 + cl a1 * cl a1 + cl a2 * cl a2 + cl a3 * cl a3
theorem f34_eq (a0 a1 a2 a3 : Int) : ∃ n c, f34 a0 a1 a2 a3 = (n, c || (chg a0 || (chg a1 || (chg a2 || chg a3)))) ∧ 0 ≤ n ∧ n ≤ 288230376151711744 ∧ n * n ≤ sq4 a0 a1 a2 a3 ∧ (n < 288230376151711744 → sq4 a0 a1 a2 a3 < (n + 1) * (n + 1) ∧ c = false) ∧ (n = 288230376151711744 → c = decide ((n + 1) * (n + 1) ≤ sq4 a0 a1 a2 a3)) := by
  have p0 := pb a0 a0; have p1 := pb a1 a1; have p2 := pb a2 a2; have p3 := pb a3 a3
  have q : ∀ x : Int, 0 ≤ cl x * cl x := fun x => by
    rcases Int.le_total 0 (cl x) with h | h
    · exact Int.mul_nonneg h h
    · exact Int.mul_nonneg_of_nonpos_of_nonpos h h
  have q0 := q a0; have q1 := q a1; have q2 := q a2; have q3 := q a3
  obtain ⟨n, c, h1, h2⟩ := f137_wd (v := sq4 a0 a1 a2 a3) (by unfold sq4; omega) (by unfold sq4; omega)
  refine ⟨n, c, ?_, h2⟩
  unfold f34
  simp only [f158_eq, any4, chg_f]
  rw [addL_four p0.1 p0.2 p1.1 p1.2 p2.1 p2.2 p3.1 p3.2]
  rw [show cl a0 * cl a0 + cl a1 * cl a1 + cl a2 * cl a2 + cl a3 * cl a3 = sq4 a0 a1 a2 a3 from rfl, h1]
end Go.Proofs.YtmnglkcodbecbaaGreat
