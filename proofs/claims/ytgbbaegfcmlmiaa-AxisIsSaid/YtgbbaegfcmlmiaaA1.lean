/- Axis as numbers. -/
import Derived.Test.YtgbbaegfcmlmiaaGh
import Derived.Test.YtgbbaegfcmlmiaaP4
namespace Go.Proofs.Ytgbbaegfcmlmiaa
open Go Go.Sx
theorem f15_z : f15 0 0 = (0, 0, 17592186044416, 0, 17592186044416, false) := by unfold f15; simp only [f41_eq]; rfl
theorem f21_iff (a : Int) : f21 a = (cl a == a) := by unfold f21; simp only [f41_eq]; simp [bne]
theorem f22_iff (a : Int) : f22 a = true ↔ 4096 ≤ a ∧ a ≤ 4503599627370496 := by unfold f22; simp
/-- may it be? -/
structure Sn (P V PP PV VV : Int) : Prop where
  p : cl P = P
  v : cl V = V
  pv : cl PV = PV
  pp0 : 4096 ≤ PP
  pp1 : PP ≤ 4503599627370496
  vv0 : 4096 ≤ VV
  vv1 : VV ≤ 4503599627370496
theorem f13_iff (P V PP PV VV : Int) (b : Bool) : f13 P V PP PV VV b = true ↔ Sn P V PP PV VV := by
  unfold f13
  simp only [f21_iff, Bool.and_eq_true, f22_iff, beq_iff_eq]
  exact ⟨fun ⟨⟨⟨⟨h1, h2⟩, h3⟩, h4, h5⟩, h6, h7⟩ => ⟨h1, h2, h3, h4, h5, h6, h7⟩, fun ⟨h1, h2, h3, h4, h5, h6, h7⟩ => ⟨⟨⟨⟨h1, h2⟩, h3⟩, h4, h5⟩, h6, h7⟩⟩
/-- kept within -/
def kp (n : Int) : Int := mxI 4096 (mnI n 4503599627370496)
theorem kp_def (n : Int) : (n ≤ 4096 ∧ kp n = 4096) ∨ (4503599627370496 ≤ n ∧ kp n = 4503599627370496) ∨ (4096 < n ∧ n < 4503599627370496 ∧ kp n = n) := by
  unfold kp mxI mnI; split <;> split <;> omega
theorem kp_in (n : Int) : 4096 ≤ kp n ∧ kp n ≤ 4503599627370496 := by have := kp_def n; omega
theorem cl_46 (a b : Int) : cl (f46 a b).1 = (f46 a b).1 := by rw [f46_eq]; exact cl_cl _
theorem cl_45 (a b : Int) : cl (f45 a b).1 = (f45 a b).1 := by rw [f45_eq]; exact cl_cl _
theorem cl_27 (a b : Int) : cl (f27 a b).1 = (f27 a b).1 := by rw [f27_eq]; exact cl_cl _
theorem cl_zero : cl 0 = 0 := cl_in (by omega) (by omega)
end Go.Proofs.Ytgbbaegfcmlmiaa
