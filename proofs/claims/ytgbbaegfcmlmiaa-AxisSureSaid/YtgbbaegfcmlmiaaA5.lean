/- The plain laws AxisKnows, AxisSure. -/
import Derived.Test.YtgbbaegfcmlmiaaA4
namespace Go.Proofs.Ytgbbaegfcmlmiaa
open Go Go.Sx
theorem rg_lt {n : Int} (h : Rg .i64 n) : n < 9223372036854775808 := by
  have h' : IntKind.i64.wrap n = n := h
  rw [w64] at h'; omega
theorem gain {PP r : Int} (hp0 : 4096 ≤ PP) (hp1 : PP ≤ 4503599627370496) (hr0 : 4096 ≤ r) (hr1 : r ≤ 4503599627370496) :
    0 ≤ (f51 PP (PP + r)).1 ∧ (f51 PP (PP + r)).1 ≤ 4294967296 ∧ (f51 PP (PP + r)).1 * (2 * (PP + r)) ≤ 2 * PP * 4294967296 + (PP + r) ∧ 2 * PP * 4294967296 + (PP + r) < ((f51 PP (PP + r)).1 + 1) * (2 * (PP + r)) := by
  obtain ⟨N, Y, -, hY, hc, l1, l2⟩ := ov_bounds (A := PP) (B := PP + r) (by omega)
  rw [show N = PP by omega, show Y = PP + r by omega] at l1 l2
  have e : (f51 PP (PP + r)).1 = cl (ov PP (PP + r)) := by
    rw [f51_eq, cl_in (n := PP) (by omega) (by omega), cl_in (n := PP + r) (by omega) (by omega), ovr_ne (by omega) (by omega)]
  generalize hk : ov PP (PP + r) = k at *
  generalize hS : PP + r = S at *
  have e1 : k * (2 * S) = 2 * (S * k) := by grind
  have e2 : (k + 1) * (2 * S) = 2 * (S * k) + 2 * S := by grind
  have lo : 0 ≤ k := by
    rcases Int.lt_or_le k 0 with h | h
    · have := Int.mul_le_mul_of_nonneg_left (show k ≤ -1 by omega) (show 0 ≤ S by omega)
      omega
    · exact h
  have hi : k ≤ 4294967296 := by
    rcases Int.lt_or_le 4294967296 k with h | h
    · have := Int.mul_le_mul_of_nonneg_left (show 4294967297 ≤ k by omega) (show 0 ≤ S by omega)
      omega
    · exact h
  rw [e, cl_in (n := k) (by omega) (by omega)]
  exact ⟨lo, hi, l1, l2⟩
theorem t_gain {k x : Int} (hk0 : 0 ≤ k) (hk1 : k ≤ 4294967296) (hx : cl x = x) : (f27 k x).1 = rnd (k * x) ∧ ((0 ≤ x ∧ 0 ≤ rnd (k * x) ∧ rnd (k * x) ≤ x) ∨ (x < 0 ∧ x ≤ rnd (k * x) ∧ rnd (k * x) ≤ 0)) := by
  have hv := cl_val.1 hx
  have r1 : rnd (4294967296 * x) = x := by unfold rnd; omega
  have h : (0 ≤ x ∧ 0 ≤ rnd (k * x) ∧ rnd (k * x) ≤ x) ∨ (x < 0 ∧ x ≤ rnd (k * x) ∧ rnd (k * x) ≤ 0) := by
    rcases Int.lt_or_le x 0 with h | h
    · right
      have h1 := rnd_mono (Int.mul_le_mul_of_nonpos_right hk1 (show x ≤ 0 by omega))
      have h2 := rnd_mono (Int.mul_nonpos_of_nonneg_of_nonpos hk0 (show x ≤ 0 by omega))
      rw [r1] at h1; rw [rnd_0] at h2
      exact ⟨h, h1, h2⟩
    · left
      have h1 := rnd_mono (Int.mul_le_mul_of_nonneg_right hk1 h)
      have h2 := rnd_mono (Int.mul_nonneg hk0 h)
      rw [r1] at h1; rw [rnd_0] at h2
      exact ⟨h, h2, h1⟩
  refine ⟨?_, h⟩
  rw [f27_eq, cl_in (n := k) (by omega) (by omega), hx]
  exact cl_in (by omega) (by omega)
theorem pp_next {PP k : Int} (hp0 : 4096 ≤ PP) (hp1 : PP ≤ 4503599627370496) (hk0 : 0 ≤ k) (hk1 : k ≤ 4294967296) : (f45 PP (f27 k PP).1).1 = PP - rnd (k * PP) ∧ 0 ≤ rnd (k * PP) ∧ rnd (k * PP) ≤ PP := by
  have cPP : cl PP = PP := cl_in (by omega) (by omega)
  obtain ⟨e, h⟩ := t_gain hk0 hk1 cPP
  have h' : 0 ≤ rnd (k * PP) ∧ rnd (k * PP) ≤ PP := by omega
  rw [e, f45_eq, cPP, cl_in (n := rnd (k * PP)) (by omega) (by omega)]
  exact ⟨cl_in (by omega) (by omega), h'⟩
theorem f45_flag {a b : Int} (h : (f45 a b).2 = false) : (f45 a b).1 = a - b ∧ cl a = a ∧ cl b = b := by
  rw [f45_eq] at h ⊢
  simp only [Bool.or_eq_false_iff] at h
  obtain ⟨⟨h1, h2⟩, h3⟩ := h
  have e1 := ne_false h1; have e2 := ne_false h2; have e3 := ne_false h3
  rw [e2, e3] at e1
  exact ⟨by rw [e2, e3]; exact e1, e2, e3⟩
theorem p_next {P z k : Int} (hk0 : 0 ≤ k) (hk1 : k ≤ 4294967296) (h : (f45 z P).2 = false) : (f46 P (f27 k (f45 z P).1).1).1 = P + rnd (k * (z - P)) ∧ ((0 ≤ z - P ∧ 0 ≤ rnd (k * (z - P)) ∧ rnd (k * (z - P)) ≤ z - P) ∨ (z - P < 0 ∧ z - P ≤ rnd (k * (z - P)) ∧ rnd (k * (z - P)) ≤ 0)) := by
  have hc := cl_45 z P
  obtain ⟨e, hz, hP⟩ := f45_flag h
  rw [e] at hc ⊢
  obtain ⟨e1, h1⟩ := t_gain hk0 hk1 hc
  refine ⟨?_, h1⟩
  have hz' := cl_val.1 hz; have hP' := cl_val.1 hP
  have hy' := cl_val.1 hc
  rw [e1, f46_eq, hP, cl_in (n := rnd (k * (z - P))) (by omega) (by omega)]
  exact cl_in (by omega) (by omega)
theorem f6_eq (P V PP PV VV : Int) (b : Bool) (z r g : Int) : f6 P V PP PV VV b z r g = true := by
  unfold f6
  simp only [f10_eq, Bool.true_and]
  cases h1 : f13 P V PP PV VV b
  · simp
  have hs := (f13_iff P V PP PV VV b).1 h1
  simp only [f11_ok hs]
  cases hok : (!gU z r g && !far P PP z r g)
  · rfl
  simp only [Bool.not_true, Bool.or_false, cond_false]
  simp only [Bool.and_eq_true, Bool.not_eq_true'] at hok
  obtain ⟨hz, k1, k2, k3, k4⟩ := gU_iff.1 hok.1
  obtain ⟨e1, e2, e3, e4, e5, e6⟩ := f11_good (b := b) hs hok.1 hok.2
  rw [s_in hs.pp0 hs.pp1 k1 k2] at e1 e3
  obtain ⟨g0, g1, -, -⟩ := gain hs.pp0 hs.pp1 k1 k2
  obtain ⟨p1, p2, p3⟩ := pp_next hs.pp0 hs.pp1 g0 g1
  rw [p1] at e3
  rw [e1, e3]
  have q1 : ¬ kp (PP - rnd ((f51 PP (PP + r)).1 * PP)) > PP := by
    have := kp_def (PP - rnd ((f51 PP (PP + r)).1 * PP)); have := hs.pp0; omega
  rw [decide_eq_false q1]
  cases hc : (f45 z P).2
  · obtain ⟨n1, n2⟩ := p_next g0 g1 hc
    rw [n1]
    have m : mnI P z ≤ P + rnd ((f51 PP (PP + r)).1 * (z - P)) ∧ P + rnd ((f51 PP (PP + r)).1 * (z - P)) ≤ mxI P z := by
      unfold mnI mxI; split <;> split <;> omega
    simp [m.1, m.2]
  · rw [hc, Bool.or_true] at e6
    rw [e6 rfl]
    cases b
    · simp
    · have : f19 (f46 P (f27 (f51 PP (PP + r)).1 (f45 z P).1).1).1 ≤ 288230376151711744 := by
        rw [f19_eq, cl_46]
        have := cl_val.1 (cl_46 P (f27 (f51 PP (PP + r)).1 (f45 z P).1).1)
        omega
      simp [this]
theorem gain_mono {PP r r' : Int} (hp0 : 4096 ≤ PP) (hp1 : PP ≤ 4503599627370496) (hr0 : 4096 ≤ r) (hrr : r ≤ r') (hr1 : r' ≤ 4503599627370496) : (f51 PP (PP + r')).1 ≤ (f51 PP (PP + r)).1 := by
  obtain ⟨a0, a1, a2, a3⟩ := gain hp0 hp1 hr0 (show r ≤ 4503599627370496 by omega)
  obtain ⟨b0, b1, b2, b3⟩ := gain hp0 hp1 (show 4096 ≤ r' by omega) hr1
  generalize (f51 PP (PP + r)).1 = k at *
  generalize (f51 PP (PP + r')).1 = k' at *
  rcases Int.lt_or_le k k' with h | h
  · exfalso
    have h1 := Int.mul_le_mul_of_nonneg_right (show k + 1 ≤ k' by omega) (show 0 ≤ 2 * (PP + r) by omega)
    have h2 := Int.mul_le_mul_of_nonneg_left (show PP + r ≤ PP + r' by omega) (show 0 ≤ 2 * k' - 1 by omega)
    have e1 : (2 * k' - 1) * (PP + r) = k' * (2 * (PP + r)) - (PP + r) := by grind
    have e2 : (2 * k' - 1) * (PP + r') = k' * (2 * (PP + r')) - (PP + r') := by grind
    omega
  · exact h
theorem f8_eq (P V PP PV VV : Int) (b : Bool) (z r s g : Int) : f8 P V PP PV VV b z r s g = true := by
  unfold f8
  simp only [f10_eq, Bool.true_and]
  cases h0 : (!f13 P V PP PV VV b || b || decide (z > 144115188075855872) || decide (z < -144115188075855872) || decide (f19 P > 144115188075855872))
  case true => rfl
  simp only [Bool.or_eq_false_iff, decide_eq_false_iff_not, Bool.not_eq_false'] at h0
  obtain ⟨⟨⟨⟨h1, h2⟩, h3⟩, h4⟩, h5⟩ := h0
  have hs := (f13_iff P V PP PV VV b).1 h1
  have hP := hs.p
  rw [f19_eq, hP] at h5
  have hr : mnI r s ≤ mxI r s := by unfold mnI mxI; split <;> split <;> omega
  generalize mnI r s = r1 at *
  generalize mxI r s = r2 at *
  simp only [f11_ok hs]
  cases ho1 : (!gU z r1 g && !far P PP z r1 g)
  · simp
  cases ho2 : (!gU z r2 g && !far P PP z r2 g)
  · simp
  simp only [Bool.not_true, Bool.or_false, cond_false]
  simp only [Bool.and_eq_true, Bool.not_eq_true'] at ho1 ho2
  obtain ⟨hz, k1, k2, k3, k4⟩ := gU_iff.1 ho1.1
  obtain ⟨-, j1, j2, -, -⟩ := gU_iff.1 ho2.1
  obtain ⟨e1, e2, e3, e4, e5, e6⟩ := f11_good (b := b) hs ho1.1 ho1.2
  obtain ⟨d1, d2, d3, d4, d5, d6⟩ := f11_good (b := b) hs ho2.1 ho2.2
  rw [s_in hs.pp0 hs.pp1 k1 k2] at e1 e3
  rw [s_in hs.pp0 hs.pp1 j1 j2] at d1 d3
  have hm := gain_mono hs.pp0 hs.pp1 k1 hr j2
  obtain ⟨g0, g1, -, -⟩ := gain hs.pp0 hs.pp1 k1 k2
  obtain ⟨i0, i1, -, -⟩ := gain hs.pp0 hs.pp1 j1 j2
  generalize (f51 PP (PP + r1)).1 = k at *
  generalize (f51 PP (PP + r2)).1 = k' at *
  obtain ⟨p1, p2, p3⟩ := pp_next hs.pp0 hs.pp1 g0 g1
  obtain ⟨q1, q2, q3⟩ := pp_next hs.pp0 hs.pp1 i0 i1
  have hf : (f45 z P).2 = false := by
    rw [f45_eq, hz, hP, cl_in (n := z - P) (by omega) (by omega)]; simp
  obtain ⟨n1, n2⟩ := p_next g0 g1 hf
  obtain ⟨m1, m2⟩ := p_next i0 i1 hf
  rw [p1] at e3; rw [q1] at d3; rw [n1] at e1; rw [m1] at d1
  rw [e1, e3, d1, d3]
  have w1 : kp (PP - rnd (k * PP)) ≤ kp (PP - rnd (k' * PP)) := by
    have := rnd_mono (Int.mul_le_mul_of_nonneg_right hm (show 0 ≤ PP by have := hs.pp0; omega))
    exact kp_mono (by omega)
  have w2 : (0 ≤ z - P ∧ rnd (k' * (z - P)) ≤ rnd (k * (z - P))) ∨ (z - P < 0 ∧ rnd (k * (z - P)) ≤ rnd (k' * (z - P))) := by
    rcases Int.lt_or_le (z - P) 0 with h | h
    · exact .inr ⟨h, rnd_mono (Int.mul_le_mul_of_nonpos_right hm (by omega))⟩
    · exact .inl ⟨h, rnd_mono (Int.mul_le_mul_of_nonneg_right hm h)⟩
  generalize rnd (k * (z - P)) = u at *
  generalize rnd (k' * (z - P)) = u' at *
  rw [wS (n := z - (P + u)) (by omega) (by omega), wS (n := z - (P + u')) (by omega) (by omega), f19_eq, f19_eq, cl_in (n := z - (P + u)) (by omega) (by omega), cl_in (n := z - (P + u')) (by omega) (by omega)]
  simp [w1]
  omega
end Go.Proofs.Ytgbbaegfcmlmiaa
