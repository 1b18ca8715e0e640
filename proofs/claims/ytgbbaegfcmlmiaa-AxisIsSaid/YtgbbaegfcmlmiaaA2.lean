/- Predict, Update as numbers. -/
import Derived.Test.YtgbbaegfcmlmiaaA1
namespace Go.Proofs.Ytgbbaegfcmlmiaa
open Go Go.Sx
theorem cl_mono {a b : Int} (h : a ≤ b) : cl a ≤ cl b := by have := cl_def a; have := cl_def b; omega
theorem rnd_mono {a b : Int} (h : a ≤ b) : rnd a ≤ rnd b := by unfold rnd; omega
theorem kp_mono {a b : Int} (h : a ≤ b) : kp a ≤ kp b := by have := kp_def a; have := kp_def b; omega
theorem kp_id {a : Int} (h : 4096 ≤ a) (h' : a ≤ 4503599627370496) : kp a = a := by have := kp_def a; omega
theorem rnd_0 : rnd 0 = 0 := by decide
theorem t_zero {x : Int} (h : cl x = x) : f27 x 0 = (0, false) := by
  rw [f27_eq, cl_zero, Int.mul_zero, rnd_0, cl_zero, h]; simp
theorem zero_t {x : Int} (h : cl x = x) : f27 0 x = (0, false) := by
  rw [f27_eq, cl_zero, Int.zero_mul, rnd_0, cl_zero, h]; simp
theorem a_zero {x : Int} (h : cl x = x) : f46 x 0 = (x, false) := by
  rw [f46_eq, cl_zero, Int.add_zero, h, h]; simp
theorem t_nn {x y : Int} (hx : 0 ≤ x) (hy : 0 ≤ y) : 0 ≤ (f27 x y).1 := by
  rw [f27_eq]
  have h1 : 0 ≤ cl x := by have := cl_def x; omega
  have h2 : 0 ≤ cl y := by have := cl_def y; omega
  have h3 := rnd_mono (Int.mul_nonneg h1 h2)
  rw [rnd_0] at h3
  have := cl_mono h3; rw [cl_zero] at this; exact this
theorem a_ge {x y : Int} (hx : cl x = x) (hy : 0 ≤ y) : x ≤ (f46 x y).1 := by
  rw [f46_eq, hx]
  have h2 : 0 ≤ cl y := by have := cl_def y; omega
  have := cl_mono (show x ≤ x + cl y by omega)
  rw [hx] at this; exact this
theorem t_mono {x x' y : Int} (h : x ≤ x') (hy : 0 ≤ y) : (f27 x y).1 ≤ (f27 x' y).1 := by
  rw [f27_eq, f27_eq]
  have h2 : 0 ≤ cl y := by have := cl_def y; omega
  exact cl_mono (rnd_mono (Int.mul_le_mul_of_nonneg_right (cl_mono h) h2))
theorem a_mono {x y y' : Int} (h : y ≤ y') : (f46 x y).1 ≤ (f46 x y').1 := by
  rw [f46_eq, f46_eq]
  have := cl_mono h
  exact cl_mono (by omega)
/-- Predict's guard -/
noncomputable def gP (a dt q : Int) : Bool := !f21 a || decide (dt < 0) || decide (dt > 1099511627776) || decide (q < 0) || decide (q > 1099511627776)
theorem f17_good {P V PP PV VV : Int} {b : Bool} {a dt q : Int} (h : Sn P V PP PV VV) (hg : gP a dt q = false) :
    (f17 P V PP PV VV b a dt q).1 = (f46 P (f27 V dt).1).1 ∧ (f17 P V PP PV VV b a dt q).2.1 = (f46 V (f27 a dt).1).1 ∧
    (f17 P V PP PV VV b a dt q).2.2.1 = kp (f46 (f46 PP (f27 PV (IntKind.i64.wrap (2 * dt))).1).1 (f27 (f27 VV dt).1 dt).1).1 ∧
    (f17 P V PP PV VV b a dt q).2.2.2.1 = (f46 PV (f27 VV dt).1).1 ∧ (f17 P V PP PV VV b a dt q).2.2.2.2.1 = kp (f46 VV (f27 q dt).1).1 ∧
    (f17 P V PP PV VV b a dt q).2.2.2.2.2 = (b || ((f27 VV dt).2 || (f27 V dt).2 || (f46 P (f27 V dt).1).2 || (f27 a dt).2 || (f46 V (f27 a dt).1).2 || (f27 PV (IntKind.i64.wrap (2 * dt))).2 || (f46 PP (f27 PV (IntKind.i64.wrap (2 * dt))).1).2 ||
      (f27 (f27 VV dt).1 dt).2 || (f46 (f46 PP (f27 PV (IntKind.i64.wrap (2 * dt))).1).1 (f27 (f27 VV dt).1 dt).1).2 || (f46 PV (f27 VV dt).1).2 || (f27 q dt).2 || (f46 VV (f27 q dt).1).2) ||
      kp (f46 (f46 PP (f27 PV (IntKind.i64.wrap (2 * dt))).1).1 (f27 (f27 VV dt).1 dt).1).1 != (f46 (f46 PP (f27 PV (IntKind.i64.wrap (2 * dt))).1).1 (f27 (f27 VV dt).1 dt).1).1 || kp (f46 VV (f27 q dt).1).1 != (f46 VV (f27 q dt).1).1) := by
  have h1 := (f13_iff P V PP PV VV b).2 h
  unfold gP at hg
  unfold f17
  simp only [h1, hg, Bool.not_true, cond_false, Bool.false_or]
  refine ⟨?_, ?_, ?_, ?_, ?_, ?_⟩ <;> first | trivial | rfl
theorem f17_no {P V PP PV VV : Int} {b : Bool} {a dt q : Int} (h : Sn P V PP PV VV) (hg : gP a dt q = true) : f17 P V PP PV VV b a dt q = (P, V, PP, PV, VV, true) := by
  have h1 := (f13_iff P V PP PV VV b).2 h
  unfold gP at hg
  unfold f17
  simp only [h1, hg, Bool.not_true, cond_false, cond_true, Bool.false_or, Bool.true_or]
theorem sn_46 {x y z : Int} {p q : Int} (hp : 4096 ≤ p ∧ p ≤ 4503599627370496) (hq : 4096 ≤ q ∧ q ≤ 4503599627370496) (hx : cl x = x) (hy : cl y = y) (hz : cl z = z) : Sn x y p z q := ⟨hx, hy, hz, hp.1, hp.2, hq.1, hq.2⟩
theorem f17_sane (P V PP PV VV : Int) (b : Bool) (a dt q : Int) : Sn (f17 P V PP PV VV b a dt q).1 (f17 P V PP PV VV b a dt q).2.1 (f17 P V PP PV VV b a dt q).2.2.1 (f17 P V PP PV VV b a dt q).2.2.2.1 (f17 P V PP PV VV b a dt q).2.2.2.2.1 := by
  cases h : f13 P V PP PV VV b
  · cases hg : gP a dt q
    · unfold gP at hg
      unfold f17
      simp only [h, hg, Bool.not_false, cond_true, cond_false, f15_z]
      exact sn_46 (kp_in _) (kp_in _) (cl_46 _ _) (cl_46 _ _) (cl_46 _ _)
    · unfold gP at hg
      unfold f17
      simp only [h, hg, Bool.not_false, cond_true, f15_z]
      exact sn_46 (by omega) (by omega) cl_zero cl_zero cl_zero
  · have hs := (f13_iff P V PP PV VV b).1 h
    cases hg : gP a dt q
    · obtain ⟨e1, e2, e3, e4, e5, -⟩ := f17_good (b := b) hs hg
      rw [e1, e2, e3, e4, e5]
      exact sn_46 (kp_in _) (kp_in _) (cl_46 _ _) (cl_46 _ _) (cl_46 _ _)
    · rw [f17_no hs hg]; exact hs
theorem f17_bad {P V PP PV VV : Int} {b : Bool} {a dt q : Int} (h : (b || !f13 P V PP PV VV b) = true) : (f17 P V PP PV VV b a dt q).2.2.2.2.2 = true := by
  unfold f17
  simp only
  cases h1 : f13 P V PP PV VV b
  · simp
  · rw [h1] at h; simp only [Bool.not_true, Bool.or_false] at h; subst h; simp
/-- Update's guard, and whether it is far out -/
noncomputable def gU (z r g : Int) : Bool := !f21 z || !f22 r || decide (g < 0) || decide (g > 1099511627776)
noncomputable def far (P PP z r g : Int) : Bool := decide (f19 (f45 z P).1 > (f27 g (f26 (f46 PP r).1).1).1)
theorem f11_ok {P V PP PV VV : Int} {b : Bool} {z r g : Int} (h : Sn P V PP PV VV) : (f11 P V PP PV VV b z r g).2.2.2.2.2.2 = (!gU z r g && !far P PP z r g) := by
  have h1 := (f13_iff P V PP PV VV b).2 h
  unfold f11 gU far
  simp only [h1, Bool.not_true, cond_false]
theorem f11_good {P V PP PV VV : Int} {b : Bool} {z r g : Int} (h : Sn P V PP PV VV) (hg : gU z r g = false) (hf : far P PP z r g = false) :
    (f11 P V PP PV VV b z r g).1 = (f46 P (f27 (f51 PP (f46 PP r).1).1 (f45 z P).1).1).1 ∧ (f11 P V PP PV VV b z r g).2.1 = (f46 V (f27 (f51 PV (f46 PP r).1).1 (f45 z P).1).1).1 ∧
    (f11 P V PP PV VV b z r g).2.2.1 = kp (f45 PP (f27 (f51 PP (f46 PP r).1).1 PP).1).1 ∧ (f11 P V PP PV VV b z r g).2.2.2.1 = (f45 PV (f27 (f51 PP (f46 PP r).1).1 PV).1).1 ∧
    (f11 P V PP PV VV b z r g).2.2.2.2.1 = kp (f45 VV (f27 (f51 PV (f46 PP r).1).1 PV).1).1 ∧ ((b || (f45 z P).2) = true → (f11 P V PP PV VV b z r g).2.2.2.2.2.1 = true) := by
  have h1 := (f13_iff P V PP PV VV b).2 h
  unfold gU at hg; unfold far at hf
  unfold f11
  simp only [h1, hg, hf, Bool.not_true, cond_false, Bool.false_or]
  refine ⟨?_, ?_, ?_, ?_, ?_, fun hb => ?_⟩
  iterate 5 (first | trivial | rfl)
  cases b
  · simp only [Bool.false_or] at hb; simp [hb]
  · simp
theorem f11_no {P V PP PV VV : Int} {b : Bool} {z r g : Int} (h : Sn P V PP PV VV) (hg : (!gU z r g && !far P PP z r g) = false) : f11 P V PP PV VV b z r g = (P, V, PP, PV, VV, gU z r g || b, false) := by
  have h1 := (f13_iff P V PP PV VV b).2 h
  cases g1 : gU z r g
  · rw [g1] at hg; simp only [Bool.not_false, Bool.true_and, Bool.not_eq_false'] at hg
    unfold gU at g1; unfold far at hg
    unfold f11
    simp only [h1, g1, hg, Bool.not_true, cond_false, cond_true, Bool.false_or, Bool.not_false, Bool.true_and]
  · unfold gU at g1
    unfold f11
    simp only [h1, g1, Bool.not_true, cond_false, cond_true, Bool.false_or, Bool.true_or, Bool.false_and]
theorem f11_sane (P V PP PV VV : Int) (b : Bool) (z r g : Int) : Sn (f11 P V PP PV VV b z r g).1 (f11 P V PP PV VV b z r g).2.1 (f11 P V PP PV VV b z r g).2.2.1 (f11 P V PP PV VV b z r g).2.2.2.1 (f11 P V PP PV VV b z r g).2.2.2.2.1 := by
  cases h : f13 P V PP PV VV b
  · cases hg : gU z r g
    · unfold gU at hg
      unfold f11
      simp only [h, hg, Bool.not_false, cond_true, cond_false, f15_z]
      cases hd : decide ((f19 (f45 z 0).fst) > (f27 g (f26 (f46 17592186044416 r).fst).fst).fst)
      · simp only [cond_false]; exact sn_46 (kp_in _) (kp_in _) (cl_46 _ _) (cl_46 _ _) (cl_45 _ _)
      · simp only [cond_true]; exact sn_46 (by omega) (by omega) cl_zero cl_zero cl_zero
    · unfold gU at hg
      unfold f11
      simp only [h, hg, Bool.not_false, cond_true, f15_z]
      exact sn_46 (by omega) (by omega) cl_zero cl_zero cl_zero
  · have hs := (f13_iff P V PP PV VV b).1 h
    cases hg : (!gU z r g && !far P PP z r g)
    · rw [f11_no hs hg]; exact hs
    · simp only [Bool.and_eq_true, Bool.not_eq_true'] at hg
      obtain ⟨e1, e2, e3, e4, e5, -⟩ := f11_good (b := b) hs hg.1 hg.2
      rw [e1, e2, e3, e4, e5]
      exact sn_46 (kp_in _) (kp_in _) (cl_46 _ _) (cl_46 _ _) (cl_45 _ _)
theorem f11_bad {P V PP PV VV : Int} {b : Bool} {z r g : Int} (h : (b || !f13 P V PP PV VV b) = true) : (f11 P V PP PV VV b z r g).2.2.2.2.2.1 = true := by
  unfold f11
  simp only
  cases h1 : f13 P V PP PV VV b
  · simp
  · rw [h1] at h; simp only [Bool.not_true, Bool.or_false] at h; subst h
    simp only [Bool.true_or, Bool.not_true, Bool.false_or]
    cases (decide ((f19 (f45 z P).fst) > (f27 g (f26 (f46 PP r).fst).fst).fst)) <;> simp
end Go.Proofs.Ytgbbaegfcmlmiaa
