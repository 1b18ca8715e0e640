/- The laws of scale, as numbers: each returns true. -/
import Derived.Test.YtejlbofmlaclpaaP2
namespace Go.Proofs.Ytejlbofmlaclpaa
open Go Go.Sx
theorem f15_eq : f15 = true := by kernel_rfl
theorem ov_zero {B : Int} (hB : B ≠ 0) : ov 0 B = 0 := by
  unfold ov
  have h : 2 * (bif decide (B < 0) then -0 else 0) * 4294967296 + (B.natAbs : Int) = B.natAbs := by cases decide (B < 0) <;> simp
  rw [h]
  exact Int.ediv_eq_zero_of_lt (by omega) (by omega)
theorem ovr_ne {A B : Int} (hB : B ≠ 0) (hA0 : -288230376151711744 ≤ A) (c : Bool) : ovr A B c = (cl (ov A B), c || cl (ov A B) != ov A B) := by
  unfold ovr
  have hB2 : (B == 0) = false := by simpa using hB
  rw [hB2]
  by_cases hA : A = 0
  · subst hA
    rw [ov_zero hB]
    cases c <;> rfl
  · have hA2 : (A == 0) = false := by simpa using hA
    rw [hA2]; rfl
/-- what the rounded quotient is between -/
theorem ov_bounds {A B : Int} (hB : B ≠ 0) : ∃ N Y : Int, Y = B.natAbs ∧ 0 < Y ∧ ((0 < B ∧ N = A ∧ Y = B) ∨ (B < 0 ∧ N = -A ∧ Y = -B)) ∧ ov A B * (2 * Y) ≤ 2 * N * 4294967296 + Y ∧ 2 * N * 4294967296 + Y < (ov A B + 1) * (2 * Y) := by
  refine ⟨if B < 0 then -A else A, B.natAbs, rfl, by omega, by split <;> omega, ?_⟩
  have e : ov A B = (2 * (if B < 0 then -A else A) * 4294967296 + (B.natAbs : Int)) / (2 * B.natAbs) := by
    unfold ov
    by_cases h : B < 0
    · rw [decide_eq_true h, if_pos h, cond_true]
    · rw [decide_eq_false h, if_neg h, cond_false]
  rw [e]
  generalize 2 * (if B < 0 then -A else A) * 4294967296 + (B.natAbs : Int) = T
  have hY : 0 < 2 * (B.natAbs : Int) := by omega
  generalize 2 * (B.natAbs : Int) = Z at *
  have e1 := Int.mul_ediv_add_emod T Z
  have r0 := Int.emod_nonneg T (b := Z) (by omega)
  have r1 := Int.emod_lt_of_pos T hY
  rw [Int.mul_comm] at e1
  rw [Int.add_mul, Int.one_mul]
  omega
theorem flags2 {x y z : Bool} (h : (x || (y || z)) = false) : x = false ∧ y = false ∧ z = false := by
  cases x <;> cases y <;> cases z <;> simp_all
theorem ne_false {a b : Int} (h : (a != b) = false) : a = b := by simpa using h
theorem rnd_bounds (p : Int) : rnd p * 4294967296 ≤ p + 2147483648 ∧ p + 2147483648 < rnd p * 4294967296 + 4294967296 := by unfold rnd; omega
theorem back_near {a b t o N Y : Int} (hY : 4294967296 ≤ Y) (ht : t * 4294967296 ≤ a * b + 2147483648) (ht1 : a * b + 2147483648 < t * 4294967296 + 4294967296)
    (hs : (0 < b ∧ N = t ∧ Y = b) ∨ (b < 0 ∧ N = -t ∧ Y = -b)) (h1 : o * (2 * Y) ≤ 2 * N * 4294967296 + Y) (h2 : 2 * N * 4294967296 + Y < (o + 1) * (2 * Y)) : a ≤ o ∧ o ≤ a + 1 := by
  have haY : a * Y = a * b ∨ a * Y = -(a * b) := by
    rcases hs with ⟨_, _, rfl⟩ | ⟨_, _, rfl⟩
    · exact .inl rfl
    · exact .inr (by rw [Int.mul_neg])
  have hN : 2 * N * 4294967296 - 2 * (a * Y) ≤ 4294967296 ∧ -4294967296 ≤ 2 * N * 4294967296 - 2 * (a * Y) := by
    rcases hs with ⟨_, rfl, rfl⟩ | ⟨_, rfl, rfl⟩
    · omega
    · have := Int.mul_neg a b; omega
  have e1 : o * (2 * Y) = 2 * (o * Y) := by rw [Int.mul_left_comm]
  have e2 : (o + 1) * (2 * Y) = 2 * ((o + 1) * Y) := by rw [Int.mul_left_comm]
  have e3 : (a + 1) * Y = a * Y + Y := by rw [Int.add_mul, Int.one_mul]
  constructor
  · have : a * Y < (o + 1) * Y := by omega
    have := Int.lt_of_mul_lt_mul_right this (by omega)
    omega
  · have : o * Y ≤ (a + 1) * Y := by omega
    exact Int.le_of_mul_le_mul_right this (by omega)
theorem f4_eq (a b : Int) : f4 a b = true := by
  unfold f4
  rw [f15_eq]
  by_cases h : ((f18 a b).snd || (f20 (f18 a b).fst b).snd || decide (f24 b < 4294967296)) = true
  · rw [h]; rfl
  · have hf : ((f18 a b).snd || (f20 (f18 a b).fst b).snd || decide (f24 b < 4294967296)) = false := by simpa using h
    rw [hf]
    clear h
    rw [Bool.or_eq_false_iff, Bool.or_eq_false_iff] at hf
    obtain ⟨⟨h1, h2⟩, h3⟩ := hf
    have h3 : ¬ f24 b < 4294967296 := by simpa using h3
    rw [f24_eq] at h3
    have hB : cl b ≠ 0 := by omega
    rw [f18_eq] at h1 h2 ⊢
    have h1 := flags2 h1
    have ea := ne_false h1.2.1
    have eb := ne_false h1.2.2
    have et := ne_false h1.1
    rw [ea, eb] at et h2 ⊢
    rw [eb] at h3 hB
    simp only [et] at h2 ⊢
    rw [f20_eq, eb, et, ovr_ne hB (by rw [← et]; exact cl_lo _)] at h2 ⊢
    have h2 := ne_false ((Bool.or_eq_false_iff.1 h2).2)
    simp only [h2]
    obtain ⟨N, Y, hY, hY0, hs, o1, o2⟩ := ov_bounds (A := rnd (a * b)) hB
    have hr := rnd_bounds (a * b)
    have hn := back_near (a := a) (by omega) hr.1 hr.2 hs o1 o2
    have b1 := cl_lo (ov (rnd (a * b)) b); have b2 := cl_hi (ov (rnd (a * b)) b)
    have a1 := cl_lo a; have a2 := cl_hi a
    rw [h2] at b1 b2
    rw [ea] at a1 a2
    rw [wS (by omega) (by omega), wS (by omega) (by omega), cond_false, decide_eq_true (by omega), decide_eq_true (by omega)]
    rfl
theorem f5_eq (a b t : Int) : f5 a b t = true := by
  have hsnd : ∀ x y : Int × Bool, x = y → x.1 = y.1 := fun _ _ h => by rw [h]
  unfold f5
  rw [f15_eq, Bool.true_and, Bool.and_eq_true, Bool.and_eq_true]
  simp only [f25_eq]
  have a1 := cl_lo a; have a2 := cl_hi a; have b1 := cl_lo b; have b2 := cl_hi b
  refine ⟨⟨?_, ?_⟩, ?_⟩
  · unfold f22
    simp only [f28_eq, f18_eq, f64_eq]
    have e0 : cl 0 = 0 := by decide
    rw [e0, Int.mul_zero, show rnd 0 = 0 from by decide, e0, e0, Int.add_zero, cl_cl]
    simp
  · -- the whole way
    have h22 : (f22 (cl a) (cl b) 4294967296).2 = true ∨ (f22 (cl a) (cl b) 4294967296).1 = cl b := by
      unfold f22
      simp only [f28_eq, f18_eq, f64_eq, cl_cl]
      generalize cl a = x at *
      generalize cl b = y at *
      have e1 : cl 4294967296 = 4294967296 := by decide
      rw [e1]
      by_cases hd : cl (y - x) = y - x
      · have h2 : rnd ((y - x) * 4294967296) = y - x := by unfold rnd; omega
        rw [hd, h2, hd]
        right
        rw [ show x + (y - x) = y by omega]
        exact cl_in b1 b2
      · left
        have : (cl (y - x) != y - x) = true := by simpa using hd
        rw [this]; simp
    rcases h22 with h | h
    · rw [h]; simp
    · rw [h]; simp
  · have h22 : (f22 (cl a) (cl b) (f26 t)).2 = true ∨ (mnI (cl a) (cl b) ≤ (f22 (cl a) (cl b) (f26 t)).1 ∧ (f22 (cl a) (cl b) (f26 t)).1 ≤ mxI (cl a) (cl b)) := by
      rw [f26_eq]
      unfold f22
      simp only [f28_eq, f18_eq, f64_eq, cl_cl]
      generalize cl a = x at *
      generalize cl b = y at *
      have s0 : 0 ≤ cl t % 4294967296 := by omega
      have s1 : cl t % 4294967296 < 4294967296 := by omega
      generalize cl t % 4294967296 = s at *
      rw [cl_in (n := s) (by omega) (by omega)]
      by_cases hd : cl (y - x) = y - x
      · rw [hd]
        have c1 := cl_lo (y - x)
        have c2 := cl_hi (y - x)
        rw [hd] at c1 c2
        right
        have hp : (0 ≤ y - x → 0 ≤ rnd ((y - x) * s) ∧ rnd ((y - x) * s) ≤ y - x) ∧ (y - x ≤ 0 → y - x ≤ rnd ((y - x) * s) ∧ rnd ((y - x) * s) ≤ 0) := by
          constructor
          · intro h
            have h1 : 0 ≤ (y - x) * s := Int.mul_nonneg h s0
            have h2 : (y - x) * s ≤ (y - x) * 4294967295 := Int.mul_le_mul_of_nonneg_left (by omega) h
            unfold rnd; omega
          · intro h
            have h1 : (y - x) * s ≤ 0 := Int.mul_nonpos_of_nonpos_of_nonneg h s0
            have h2 : (y - x) * 4294967295 ≤ (y - x) * s := Int.mul_le_mul_of_nonpos_left h (by omega)
            unfold rnd; omega
        generalize rnd ((y - x) * s) = r at *
        rw [cl_in (n := r) (by omega) (by omega), cl_in (n := x + r) (by omega) (by omega)]
        unfold mnI mxI
        split <;> split <;> omega
      · left
        have : (cl (y - x) != y - x) = true := by simpa using hd
        rw [this]; simp
    rcases h22 with h | h
    · rw [h]; rfl
    · rw [Bool.or_eq_true, Bool.and_eq_true]; exact .inr ⟨decide_eq_true h.1, decide_eq_true h.2⟩
theorem rnd_neg (p : Int) : rnd p + rnd (-p) = 0 ∨ rnd p + rnd (-p) = 1 := by unfold rnd; omega
theorem ov_neg_sum {A B : Int} (hB : B ≠ 0) : ov A B + ov (-A) B = 0 ∨ ov A B + ov (-A) B = 1 := by
  obtain ⟨N, Y, hY, hY0, hs, o1, o2⟩ := ov_bounds (A := A) hB
  obtain ⟨N', Y', hY', _, hs', p1, p2⟩ := ov_bounds (A := -A) hB
  have eY : Y' = Y := by omega
  have eN : N' = -N := by omega
  subst eY; subst eN
  have e1 : (ov A B + ov (-A) B) * (2 * Y') = ov A B * (2 * Y') + ov (-A) B * (2 * Y') := Int.add_mul _ _ _
  have e2 : (ov A B + 1) * (2 * Y') = ov A B * (2 * Y') + 2 * Y' := by rw [Int.add_mul, Int.one_mul]
  have e3 : (ov (-A) B + 1) * (2 * Y') = ov (-A) B * (2 * Y') + 2 * Y' := by rw [Int.add_mul, Int.one_mul]
  have l1 : (ov A B + ov (-A) B) * (2 * Y') < 2 * (2 * Y') := by omega
  have l2 : -1 * (2 * Y') < (ov A B + ov (-A) B) * (2 * Y') := by omega
  have h1 := Int.lt_of_mul_lt_mul_right l1 (by omega)
  have h2 := Int.lt_of_mul_lt_mul_right l2 (by omega)
  omega
theorem ov_neg_neg {A B : Int} (hB : B ≠ 0) : ov (-A) (-B) = ov A B := by
  unfold ov
  rw [Int.natAbs_neg]
  by_cases h : B < 0
  · rw [decide_eq_true h, decide_eq_false (show ¬ -B < 0 by omega)]; rfl
  · rw [decide_eq_false h, decide_eq_true (show -B < 0 by omega), cond_true, cond_false, Int.neg_neg]
theorem flag_ok {x y : Bool} (h : x = false → y = true) : (x || y) = true := by
  cases x
  · exact h rfl
  · rfl
theorem cl_neg (n : Int) : cl (-n) = - cl n := by
  have := cl_def n; have := cl_def (-n); omega
theorem f6_eq (a b : Int) : f6 a b = true := by
  unfold f6
  rw [f15_eq]
  simp only [Bool.true_and, f27_eq, Bool.and_eq_true]
  have a1 := cl_lo a; have a2 := cl_hi a; have b1 := cl_lo b; have b2 := cl_hi b
  have ca : cl (-cl a) = -cl a := by rw [cl_neg, cl_cl]
  have cb : cl (-cl b) = -cl b := by rw [cl_neg, cl_cl]
  refine ⟨⟨⟨?_, ?_⟩, ?_⟩, ?_⟩
  · by_cases h1 : (f18 a b).2 = true
    · rw [h1]; rfl
    by_cases h2 : (f18 (-cl a) b).2 = true
    · rw [h2]; simp
    rw [Bool.not_eq_true] at h1 h2
    rw [h1, h2]
    rw [f18_eq] at h1 h2 ⊢
    rw [f18_eq]
    rw [ca] at h2 ⊢
    have h1 := ne_false (flags2 h1).1
    have h2 := ne_false (flags2 h2).1
    simp only [h1, h2]
    rw [Int.neg_mul] at h2 ⊢
    have h3 := rnd_neg (cl a * cl b)
    have c1 := cl_lo (rnd (cl a * cl b)); have c2 := cl_hi (rnd (cl a * cl b))
    have d1 := cl_lo (rnd (-(cl a * cl b))); have d2 := cl_hi (rnd (-(cl a * cl b)))
    rw [h1] at c1 c2
    rw [h2] at d1 d2
    rw [wS (by omega) (by omega)]
    simpa using h3
  · by_cases h1 : (f18 a b).2 = true
    · rw [h1]; rfl
    rw [Bool.not_eq_true] at h1
    rw [h1, f18_eq, f18_eq, ca, cb, Int.neg_mul_neg]
    simp
  · by_cases h1 : (f20 a b).2 = true
    · rw [h1]; rfl
    by_cases h2 : (f20 (-cl a) b).2 = true
    · rw [h2]; simp
    rw [Bool.not_eq_true] at h1 h2
    rw [h1, h2]
    have hB : cl b ≠ 0 := by
      intro h0
      rw [f20_eq, h0] at h1
      unfold ovr at h1
      cases hz : (cl a == 0) <;> rw [hz] at h1 <;> simp at h1
    rw [f20_eq, ovr_ne hB a1] at h1 ⊢
    rw [f20_eq, ca, ovr_ne hB (by omega)] at h2 ⊢
    have h1 := ne_false (Bool.or_eq_false_iff.1 h1).2
    have h2 := ne_false (Bool.or_eq_false_iff.1 h2).2
    simp only [h1, h2]
    have h3 := ov_neg_sum (A := cl a) hB
    have c1 := cl_lo (ov (cl a) (cl b)); have c2 := cl_hi (ov (cl a) (cl b))
    have d1 := cl_lo (ov (-cl a) (cl b)); have d2 := cl_hi (ov (-cl a) (cl b))
    rw [h1] at c1 c2
    rw [h2] at d1 d2
    rw [wS (by omega) (by omega)]
    simpa using h3
  · by_cases h1 : (f20 a b).2 = true
    · rw [h1]; rfl
    rw [Bool.not_eq_true] at h1
    rw [h1]
    have hB : cl b ≠ 0 := by
      intro h0
      rw [f20_eq, h0] at h1
      unfold ovr at h1
      cases hz : (cl a == 0) <;> rw [hz] at h1 <;> simp at h1
    rw [f20_eq, f20_eq, ca, cb, ovr_ne hB a1, ovr_ne (by omega) (by omega), ov_neg_neg hB]
    simp
end Go.Proofs.Ytejlbofmlaclpaa
