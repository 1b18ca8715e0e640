/- The plain laws AxisGate, AxisKnows. -/
import Derived.Test.YtgbbaegfcmlmiaaA3
import Derived.Test.YtgbbaegfcmlmiaaQ1
namespace Go.Proofs.Ytgbbaegfcmlmiaa
open Go Go.Sx
/-- the root of a value is none below 0 -/
theorem f26_nn {x : Int} (h0 : 0 ≤ x) : 0 ≤ (f26 x).1 := by
  unfold f26
  simp only
  rw [f48_eq]
  have hx : 0 ≤ cl x := by have := cl_def x; omega
  have hx2 := cl_hi x
  rw [cl_in (n := 4294967296) (by omega) (by omega)]
  obtain ⟨n, c, h1, h2, -⟩ := f47_wd (v := cl x * 4294967296) (by omega) (by omega)
  rw [h1]; exact h2
theorem f45_self {x : Int} : (f45 x x).1 = 0 := by rw [f45_eq, Int.sub_self]; exact cl_zero
theorem s_in {PP r : Int} (hp0 : 4096 ≤ PP) (hp1 : PP ≤ 4503599627370496) (hr0 : 4096 ≤ r) (hr1 : r ≤ 4503599627370496) : (f46 PP r).1 = PP + r := by
  rw [f46_eq, cl_in (n := PP) (by omega) (by omega), cl_in (n := r) (by omega) (by omega)]
  exact cl_in (by omega) (by omega)
theorem gU_iff {z r g : Int} : gU z r g = false ↔ (cl z = z ∧ 4096 ≤ r ∧ r ≤ 4503599627370496 ∧ 0 ≤ g ∧ g ≤ 1099511627776) := by
  unfold gU
  cases h : f22 r
  · have : ¬ (4096 ≤ r ∧ r ≤ 4503599627370496) := fun hh => by rw [(f22_iff r).2 hh] at h; cases h
    simp; omega
  · have := (f22_iff r).1 h
    rw [f21_iff]
    simp; omega
theorem far_self {P PP r g : Int} (hs : 4096 ≤ PP ∧ PP ≤ 4503599627370496) (hr : 4096 ≤ r ∧ r ≤ 4503599627370496) (hg : 0 ≤ g) : far P PP P r g = false := by
  unfold far
  rw [f45_self, s_in hs.1 hs.2 hr.1 hr.2]
  have h1 : f19 0 = 0 := by rw [f19_eq, cl_zero]; rfl
  rw [h1]
  have := t_nn (x := g) (y := (f26 (PP + r)).1) hg (f26_nn (by omega))
  simp; omega
theorem far_less {P PP z r g g' : Int} (hs : 4096 ≤ PP ∧ PP ≤ 4503599627370496) (hr : 4096 ≤ r ∧ r ≤ 4503599627370496) (hg : g' ≤ g) (h : far P PP z r g = true) : far P PP z r g' = true := by
  unfold far at h ⊢
  rw [s_in hs.1 hs.2 hr.1 hr.2] at h ⊢
  have := t_mono (x := g') (x' := g) (y := (f26 (PP + r)).1) hg (f26_nn (by omega))
  simp only [gt_iff_lt, decide_eq_true_eq] at h ⊢; omega
theorem cl_val {z : Int} : cl z = z ↔ (z ≤ 288230376151711744 ∧ -288230376151711744 ≤ z) := by have := cl_def z; omega
theorem f7_eq {P V PP PV VV : Int} {b : Bool} {z r g less : Int} (hg : g < 9223372036854775808) (hl : less < 9223372036854775808) : f7 P V PP PV VV b z r g less = true := by
  unfold f7
  simp only [f10_eq, Bool.true_and]
  cases h0 : (!f13 P V PP PV VV b || decide (less < 0) || decide (g < 0))
  case true => rfl
  simp only [Bool.or_eq_false_iff, decide_eq_false_iff_not, Bool.not_eq_false'] at h0
  obtain ⟨⟨h1, h2⟩, h3⟩ := h0
  have hs := (f13_iff P V PP PV VV b).1 h1
  rw [wS (n := g - less) (by omega) (by omega)]
  simp only [f11_ok hs, cond_false]
  have hin : (!gU P r g && !far P PP P r g) = (decide (r ≥ 4096) && decide (r ≤ 4503599627370496) && decide (g ≥ 0) && decide (g ≤ 1099511627776)) := by
    cases hu : gU P r g
    · obtain ⟨-, k1, k2, k3, k4⟩ := gU_iff.1 hu
      rw [far_self ⟨hs.pp0, hs.pp1⟩ ⟨k1, k2⟩ k3]
      simp; omega
    · have : ¬ (cl P = P ∧ 4096 ≤ r ∧ r ≤ 4503599627370496 ∧ 0 ≤ g ∧ g ≤ 1099511627776) := fun hh => by rw [gU_iff.2 hh] at hu; cases hu
      have := hs.p
      simp; omega
  rw [hin]
  have hx8 : (decide (r ≥ 4096) && decide (r ≤ 4503599627370496) && decide (g ≥ 0) && decide (g ≤ 1099511627776) && decide (z ≤ 288230376151711744) && decide (z ≥ -288230376151711744)) = !gU z r g := by
    cases hu : gU z r g
    · have := gU_iff.1 hu
      have := cl_val (z := z)
      simp; omega
    · have : ¬ (cl z = z ∧ 4096 ≤ r ∧ r ≤ 4503599627370496 ∧ 0 ≤ g ∧ g ≤ 1099511627776) := fun hh => by rw [gU_iff.2 hh] at hu; cases hu
      have := cl_val (z := z)
      simp; omega
  rw [hx8]
  cases hok : (!gU z r g && !far P PP z r g)
  · rw [f11_no hs hok]
    have hsmall : ((!(!gU z r (g - less) && !far P PP z r (g - less))) || decide (g > 1099511627776)) = true := by
      cases hu : gU z r g
      · rw [hu] at hok
        simp only [Bool.not_false, Bool.true_and, Bool.not_eq_false'] at hok
        obtain ⟨-, k1, k2, k3, k4⟩ := gU_iff.1 hu
        rw [far_less ⟨hs.pp0, hs.pp1⟩ ⟨k1, k2⟩ (show g - less ≤ g by omega) hok]; simp
      · have h5 : ¬ (cl z = z ∧ 4096 ≤ r ∧ r ≤ 4503599627370496 ∧ 0 ≤ g ∧ g ≤ 1099511627776) := fun hh => by rw [gU_iff.2 hh] at hu; cases hu
        cases hu' : gU z r (g - less)
        · obtain ⟨k0, k1, k2, k3, k4⟩ := gU_iff.1 hu'
          have : g > 1099511627776 := by
            rcases Int.lt_or_le 1099511627776 g with h | h
            · exact h
            · exact absurd ⟨k0, k1, k2, by omega, h⟩ h5
          rw [decide_eq_true this]; simp
        · simp
    rw [hsmall]
    cases gU z r g <;> cases b <;> simp
  · simp only [Bool.and_eq_true, Bool.not_eq_true'] at hok
    rw [hok.1]; simp
end Go.Proofs.Ytgbbaegfcmlmiaa
