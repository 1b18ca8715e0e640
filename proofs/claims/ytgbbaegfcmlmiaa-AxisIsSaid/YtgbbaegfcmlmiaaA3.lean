/- The plain laws AxisKeeps, AxisStill, AxisGrows. -/
import Derived.Test.YtgbbaegfcmlmiaaA2
import Derived.Test.YtgbbaegfcmlmiaaGi
namespace Go.Proofs.Ytgbbaegfcmlmiaa
open Go Go.Sx
theorem f10_eq : f10 = true := by kernel_rfl
theorem f13_of {P V PP PV VV : Int} {b : Bool} (h : Sn P V PP PV VV) : f13 P V PP PV VV b = true := (f13_iff P V PP PV VV b).2 h
theorem f15_sane (a b : Int) : Sn (f15 a b).1 (f15 a b).2.1 (f15 a b).2.2.1 (f15 a b).2.2.2.1 (f15 a b).2.2.2.2.1 := by
  unfold f15; simp only [f41_eq]
  exact sn_46 (by omega) (by omega) (cl_cl _) (cl_cl _) cl_zero
theorem f11_keep {P V PP PV VV : Int} {b : Bool} {z r g : Int} (h : Sn P V PP PV VV) : ((f11 P V PP PV VV b z r g).2.2.2.2.2.2 || (f11 P V PP PV VV b z r g).1 == P) = true := by
  rw [f11_ok h]
  cases hg : (!gU z r g && !far P PP z r g)
  · rw [f11_no h hg]; simp
  · rfl
theorem f4_eq (P V PP PV VV : Int) (b : Bool) (x y z : Int) : f4 P V PP PV VV b x y z = true := by
  unfold f4
  simp only [f10_eq, Bool.true_and, f13_of (f17_sane P V PP PV VV b x y z), f13_of (f11_sane P V PP PV VV b x y z), f13_of (f11_sane _ _ _ _ _ _ _ _ _), f13_of (f15_sane _ _), Bool.and_true]
  rw [f11_keep (f17_sane P V PP PV VV b x y z), Bool.and_true]
  have k1 : ((f17 P V PP PV VV b x y z).2.2.2.2.2) = true → (f11 (f17 P V PP PV VV b x y z).1 (f17 P V PP PV VV b x y z).2.1 (f17 P V PP PV VV b x y z).2.2.1 (f17 P V PP PV VV b x y z).2.2.2.1 (f17 P V PP PV VV b x y z).2.2.2.2.1 (f17 P V PP PV VV b x y z).2.2.2.2.2 y x z).2.2.2.2.2.1 = true := fun h => f11_bad (by rw [h]; rfl)
  have k2 : (b || !f13 P V PP PV VV b) = true → (f17 P V PP PV VV b x y z).2.2.2.2.2 = true := f17_bad
  have k3 : (b || !f13 P V PP PV VV b) = true → (f11 P V PP PV VV b x y z).2.2.2.2.2.1 = true := f11_bad
  have k4 : f13 P V PP PV VV b = true → ((f11 P V PP PV VV b x y z).2.2.2.2.2.2 || (f11 P V PP PV VV b x y z).1 == P) = true := fun h => f11_keep ((f13_iff P V PP PV VV b).1 h)
  rw [Bool.and_eq_true, Bool.and_eq_true]
  refine ⟨⟨?_, ?_⟩, ?_⟩
  · cases h : (b || !f13 P V PP PV VV b)
    · rfl
    · rw [k1 (k2 h), k2 h, k3 h]; simp
  · cases h : (f17 P V PP PV VV b x y z).2.2.2.2.2
    · rfl
    · rw [h] at k1; rw [k1 rfl]; rfl
  · cases h : f13 P V PP PV VV b
    · simp
    · rw [k4 h]; rfl
theorem f21_in {a : Int} (h0 : -288230376151711744 ≤ a) (h1 : a ≤ 288230376151711744) : f21 a = true := by rw [f21_iff, cl_in h0 h1]; simp
theorem f5_eq (P V PP PV VV : Int) (b : Bool) (a dt q : Int) : f5 P V PP PV VV b a dt q = true := by
  unfold f5
  simp only [f10_eq]
  cases hg : (!f13 P V PP PV VV b || decide (q < 0) || decide (q > 1099511627776) || decide (dt < 0) || decide (dt > 1099511627776) || decide (a > 288230376151711744) || decide (a < -288230376151711744))
  case true => rfl
  simp only [Bool.or_eq_false_iff, decide_eq_false_iff_not, Bool.not_eq_false'] at hg
  obtain ⟨⟨⟨⟨⟨⟨h1, h2⟩, h3⟩, h4⟩, h5⟩, h6⟩, h7⟩ := hg
  have hs := (f13_iff P V PP PV VV b).1 h1
  have g1 : gP a 0 q = false := by unfold gP; rw [f21_in (by omega) (by omega)]; simp; omega
  have g2 : gP 0 dt q = false := by unfold gP; rw [f21_in (by omega) (by omega)]; simp; omega
  obtain ⟨e1, e2, e3, e4, e5, e6⟩ := f17_good (b := b) hs g1
  have hs' : Sn P 0 PP PV VV := ⟨hs.p, cl_zero, hs.pv, hs.pp0, hs.pp1, hs.vv0, hs.vv1⟩
  obtain ⟨d1, d2, d3, d4, d5, d6⟩ := f17_good (b := b) hs' g2
  have cPP : cl PP = PP := cl_in (by have := hs.pp0; omega) (by have := hs.pp1; omega)
  have cVV : cl VV = VV := cl_in (by have := hs.vv0; omega) (by have := hs.vv1; omega)
  have ca : cl a = a := cl_in (by omega) (by omega)
  have cq : cl q = q := cl_in (by omega) (by omega)
  have cdt : cl dt = dt := cl_in (by omega) (by omega)
  have w0 : IntKind.i64.wrap (2 * 0) = 0 := by decide
  simp only [w0, t_zero hs.pv, t_zero cVV, t_zero hs.v, t_zero ca, t_zero cq, t_zero cl_zero, a_zero hs.p, a_zero hs.v, a_zero cPP, a_zero hs.pv, a_zero cVV, kp_id hs.pp0 hs.pp1, kp_id hs.vv0 hs.vv1] at e1 e2 e3 e4 e5 e6
  simp only [zero_t cdt, a_zero hs.p, a_zero cl_zero] at d1 d2
  have hd : VV ≤ kp (f46 VV (f27 q dt).1).1 := by
    have := kp_mono (a_ge cVV (t_nn (x := q) (y := dt) (by omega) (by omega)))
    rw [kp_id hs.vv0 hs.vv1] at this; exact this
  simp only [e1, e2, e3, e4, e5, e6, d1, d2, d5]
  simp
  exact hd
theorem f9_eq (P V PP PV VV : Int) (b : Bool) (a dt q more : Int) : f9 P V PP PV VV b a dt q more = true := by
  unfold f9
  simp only [f10_eq]
  cases hg : (!f13 P V PP PV VV b || decide (PV < 0) || decide (dt < 0) || decide (dt > 1099511627776) || decide (q < 0) || decide (q > 1099511627776) || decide (more < 0) || decide (more > 1073741824) || decide (a > 288230376151711744) || decide (a < -288230376151711744))
  case true => rfl
  simp only [Bool.or_eq_false_iff, decide_eq_false_iff_not, Bool.not_eq_false'] at hg
  obtain ⟨⟨⟨⟨⟨⟨⟨⟨⟨h1, h2⟩, h3⟩, h4⟩, h5⟩, h6⟩, h7⟩, h8⟩, h9⟩, h10⟩ := hg
  have hs := (f13_iff P V PP PV VV b).1 h1
  rw [wS (n := q + more) (by omega) (by omega)]
  have hm : q ≤ mnI (q + more) 1099511627776 ∧ mnI (q + more) 1099511627776 ≤ 1099511627776 := by unfold mnI; split <;> omega
  generalize mnI (q + more) 1099511627776 = q2 at *
  have g1 : gP a dt q = false := by unfold gP; rw [f21_in (by omega) (by omega)]; simp; omega
  have g2 : gP a dt q2 = false := by unfold gP; rw [f21_in (by omega) (by omega)]; simp; omega
  obtain ⟨e1, e2, e3, e4, e5, e6⟩ := f17_good (b := b) hs g1
  obtain ⟨d1, d2, d3, d4, d5, d6⟩ := f17_good (b := b) hs g2
  have cPP : cl PP = PP := cl_in (by have := hs.pp0; omega) (by have := hs.pp1; omega)
  have cVV : cl VV = VV := cl_in (by have := hs.vv0; omega) (by have := hs.vv1; omega)
  simp only [e1, e3, e4, e5, d1, d3, d5]
  rw [wS (n := 2 * dt) (by omega) (by omega)]
  have u0 : 0 ≤ (f27 VV dt).1 := t_nn (by have := hs.vv0; omega) (by omega)
  have k1 : PP ≤ kp (f46 (f46 PP (f27 PV (2 * dt)).1).1 (f27 (f27 VV dt).1 dt).1).1 := by
    have j1 := a_ge cPP (t_nn (x := PV) (y := 2 * dt) (by omega) (by omega))
    have j2 := a_ge (cl_46 PP (f27 PV (2 * dt)).1) (t_nn (x := (f27 VV dt).1) (y := dt) u0 (by omega))
    have := kp_mono (Int.le_trans j1 j2)
    rw [kp_id hs.pp0 hs.pp1] at this; exact this
  have k2 : VV ≤ kp (f46 VV (f27 q dt).1).1 := by
    have := kp_mono (a_ge cVV (t_nn (x := q) (y := dt) (by omega) (by omega)))
    rw [kp_id hs.vv0 hs.vv1] at this; exact this
  have k3 : PV ≤ (f46 PV (f27 VV dt).1).1 := a_ge hs.pv u0
  have k4 : kp (f46 VV (f27 q dt).1).1 ≤ kp (f46 VV (f27 q2 dt).1).1 := kp_mono (a_mono (t_mono hm.1 (by omega)))
  simp
  exact ⟨⟨⟨k1, k2⟩, k3⟩, k4⟩
end Go.Proofs.Ytgbbaegfcmlmiaa
