/- Division, rounded. -/
import Derived.Test.YtmnglkcodbecbaaGreatP1
namespace Go.Proofs.YtmnglkcodbecbaaGreat
open Go Go.Sx
/-- A 2^32 / B, rounded to the nearest, half up -/
def ov (A B : Int) : Int := (2 * (bif decide (B < 0) then -A else A) * 4294967296 + B.natAbs) / (2 * B.natAbs)
theorem half_up {T Y : Int} (hY : 0 < Y) : (2 * T + Y) / (2 * Y) = T / Y + (if Y ≤ 2 * (T % Y) then 1 else 0) := by
  have e := Int.mul_ediv_add_emod T Y
  have r0 := Int.emod_nonneg T (b := Y) (by omega)
  have r1 := Int.emod_lt_of_pos T hY
  generalize T / Y = q at *
  generalize T % Y = r at *
  subst e
  split
  · refine ((Int.ediv_emod_unique (a := 2 * (Y * q + r) + Y) (b := 2 * Y) (r := 2 * r - Y) (q := q + 1) (by omega)).2 ⟨?_, by omega, by omega⟩).1
    rw [Int.mul_add, Int.mul_one, Int.mul_assoc]; omega
  · refine ((Int.ediv_emod_unique (a := 2 * (Y * q + r) + Y) (b := 2 * Y) (r := 2 * r + Y) (q := q + 0) (by omega)).2 ⟨?_, by omega, by omega⟩).1
    rw [Int.add_zero, Int.mul_assoc]; omega
theorem half_down {T Y : Int} (hY : 0 < Y) : (2 * -T + Y) / (2 * Y) = -(T / Y) - (if Y < 2 * (T % Y) then 1 else 0) := by
  have e := Int.mul_ediv_add_emod T Y
  have r0 := Int.emod_nonneg T (b := Y) (by omega)
  have r1 := Int.emod_lt_of_pos T hY
  generalize T / Y = q at *
  generalize T % Y = r at *
  subst e
  split
  · refine ((Int.ediv_emod_unique (a := 2 * -(Y * q + r) + Y) (b := 2 * Y) (r := 3 * Y - 2 * r) (q := -q - 1) (by omega)).2 ⟨?_, by omega, by omega⟩).1
    rw [Int.mul_sub, Int.mul_one, Int.mul_assoc, Int.mul_neg]; omega
  · refine ((Int.ediv_emod_unique (a := 2 * -(Y * q + r) + Y) (b := 2 * Y) (r := Y - 2 * r) (q := -q - 0) (by omega)).2 ⟨?_, by omega, by omega⟩).1
    rw [Int.sub_zero, Int.mul_assoc, Int.mul_neg]; omega
/-- scale.Over's answer -/
def ovr (A B : Int) (c : Bool) : Int × Bool :=
  bif A == 0 then (0, c || B == 0) else bif B == 0 then (bif decide (A < 0) then -288230376151711744 else 288230376151711744, true) else (cl (ov A B), c || cl (ov A B) != ov A B)
theorem f164_big {X Y : Int} (_hX0 : 0 < X) (_hX : X ≤ 288230376151711744) (hY0 : 0 < Y) (_hY : Y ≤ 288230376151711744) :
    ((f164 X Y).2.2 = true ∧ 576460752303423488 < X * 4294967296 / Y) ∨ (f164 X Y = (X * 4294967296 / Y, X * 4294967296 % Y, false) ∧ X * 4294967296 / Y ≤ 576460752303423488) := by
  unfold f164
  by_cases h : Y ≤ X / 4294967296
  · left
    rw [decide_eq_true h]
    refine ⟨rfl, ?_⟩
    have h1 : Y * 4294967296 ≤ X := by omega
    have : 18446744073709551616 ≤ X * 4294967296 / Y := (Int.le_ediv_iff_mul_le hY0).2 (by omega)
    omega
  · rw [decide_eq_false h]
    by_cases h2 : 576460752303423488 < X * 4294967296 / Y
    · left; rw [decide_eq_true h2]; exact ⟨rfl, h2⟩
    · right; rw [decide_eq_false h2]; exact ⟨rfl, by omega⟩
theorem ov_eq (A B : Int) (hY0 : 0 < (B.natAbs : Int)) : ov A B = bif (!decide (A < 0) == decide (B < 0)) then -((A.natAbs : Int) * 4294967296 / B.natAbs) - (if (B.natAbs : Int) < 2 * ((A.natAbs : Int) * 4294967296 % B.natAbs) then 1 else 0)
    else (A.natAbs : Int) * 4294967296 / B.natAbs + (if (B.natAbs : Int) ≤ 2 * ((A.natAbs : Int) * 4294967296 % B.natAbs) then 1 else 0) := by
  have aux : ∀ {x y d : Int}, x = y → x / d = y / d := fun h => by rw [h]
  have e1 := half_up (T := (A.natAbs : Int) * 4294967296) hY0
  have e2 := half_down (T := (A.natAbs : Int) * 4294967296) hY0
  unfold ov
  by_cases h1 : A < 0
  · have hn : (A.natAbs : Int) = -A := by omega
    by_cases h2 : B < 0
    · rw [decide_eq_true h1, decide_eq_true h2, show (!true == true) = false from rfl, cond_true, cond_false]
      refine Eq.trans (aux ?_) e1
      rw [hn]; omega
    · rw [decide_eq_true h1, decide_eq_false h2, show (!true == false) = true from rfl, cond_true, cond_false]
      refine Eq.trans (aux ?_) e2
      rw [hn]; omega
  · have hn : (A.natAbs : Int) = A := by omega
    by_cases h2 : B < 0
    · rw [decide_eq_false h1, decide_eq_true h2, show (!false == true) = true from rfl, cond_true, cond_true]
      refine Eq.trans (aux ?_) e2
      rw [hn]; omega
    · rw [decide_eq_false h1, decide_eq_false h2, show (!false == false) = false from rfl, cond_false, cond_false]
      refine Eq.trans (aux ?_) e1
      rw [hn]; omega
theorem cl_top {n : Int} (h : 288230376151711744 < n) : cl n = 288230376151711744 ∧ (cl n != n) = true := by
  have e : cl n = 288230376151711744 := by have := cl_def n; omega
  exact ⟨e, by rw [e]; simp only [bne_iff_ne, ne_eq]; omega⟩
theorem cl_bot {n : Int} (h : n < -288230376151711744) : cl n = -288230376151711744 ∧ (cl n != n) = true := by
  have e : cl n = -288230376151711744 := by have := cl_def n; omega
  exact ⟨e, by rw [e]; simp only [bne_iff_ne, ne_eq]; omega⟩
theorem core (neg nA c : Bool) (X Y q r : Int) (hY : Y ≤ 288230376151711744) (r0 : 0 ≤ r) (r1 : r < Y) (q0 : 0 ≤ q)
    (hbig : ((f164 X Y).2.2 = true ∧ 576460752303423488 < q) ∨ (f164 X Y = (q, r, false) ∧ q ≤ 576460752303423488)) :
    (bif neg then (bif false then ((0, c || false)) else (bif false && nA then ((-288230376151711744, true)) else (bif false then ((288230376151711744, true)) else (bif (f164 X Y).snd.snd then ((-288230376151711744, true)) else (bif decide (IntKind.u64.wrap (2 * (f164 X Y).snd.fst) > Y) || IntKind.u64.wrap (2 * (f164 X Y).snd.fst) == Y && !neg then (bif neg then (((f82 (IntKind.i64.wrap (0 - IntKind.i64.wrap (IntKind.u64.wrap ((f164 X Y).fst + 1))))).fst, c || (f82 (IntKind.i64.wrap (0 - IntKind.i64.wrap (IntKind.u64.wrap ((f164 X Y).fst + 1))))).snd)) else (((f82 (IntKind.i64.wrap (IntKind.u64.wrap ((f164 X Y).fst + 1)))).fst, c || (f82 (IntKind.i64.wrap (IntKind.u64.wrap ((f164 X Y).fst + 1)))).snd))) else (bif neg then (((f82 (IntKind.i64.wrap (0 - IntKind.i64.wrap (f164 X Y).fst))).fst, c || (f82 (IntKind.i64.wrap (0 - IntKind.i64.wrap (f164 X Y).fst))).snd)) else (((f82 (IntKind.i64.wrap (f164 X Y).fst)).fst, c || (f82 (IntKind.i64.wrap (f164 X Y).fst)).snd)))))))) else (bif false then ((0, c || false)) else (bif false && nA then ((-288230376151711744, true)) else (bif false then ((288230376151711744, true)) else (bif (f164 X Y).snd.snd then ((288230376151711744, true)) else (bif decide (IntKind.u64.wrap (2 * (f164 X Y).snd.fst) > Y) || IntKind.u64.wrap (2 * (f164 X Y).snd.fst) == Y && !neg then (bif neg then (((f82 (IntKind.i64.wrap (0 - IntKind.i64.wrap (IntKind.u64.wrap ((f164 X Y).fst + 1))))).fst, c || (f82 (IntKind.i64.wrap (0 - IntKind.i64.wrap (IntKind.u64.wrap ((f164 X Y).fst + 1))))).snd)) else (((f82 (IntKind.i64.wrap (IntKind.u64.wrap ((f164 X Y).fst + 1)))).fst, c || (f82 (IntKind.i64.wrap (IntKind.u64.wrap ((f164 X Y).fst + 1)))).snd))) else (bif neg then (((f82 (IntKind.i64.wrap (0 - IntKind.i64.wrap (f164 X Y).fst))).fst, c || (f82 (IntKind.i64.wrap (0 - IntKind.i64.wrap (f164 X Y).fst))).snd)) else (((f82 (IntKind.i64.wrap (f164 X Y).fst)).fst, c || (f82 (IntKind.i64.wrap (f164 X Y).fst)).snd))))))))) =
    (bif false then (0, c || false) else bif false then (bif nA then -288230376151711744 else 288230376151711744, true) else
      (cl (bif neg then -q - (if Y < 2 * r then 1 else 0) else q + (if Y ≤ 2 * r then 1 else 0)), c || cl (bif neg then -q - (if Y < 2 * r then 1 else 0) else q + (if Y ≤ 2 * r then 1 else 0)) != (bif neg then -q - (if Y < 2 * r then 1 else 0) else q + (if Y ≤ 2 * r then 1 else 0)))) := by
  rcases hbig with ⟨hf, hq⟩ | ⟨hf, hq⟩
  · rw [hf]
    cases neg
    · have h := cl_top (n := q + (if Y ≤ 2 * r then 1 else 0)) (by split <;> omega)
      simp only [cond_true, cond_false, Bool.false_and]
      rw [h.2, h.1, Bool.or_true]
    · have h := cl_bot (n := -q - (if Y < 2 * r then 1 else 0)) (by split <;> omega)
      simp only [cond_true, cond_false, Bool.false_and]
      rw [h.2, h.1, Bool.or_true]
  · rw [hf]
    have w1 : IntKind.u64.wrap (2 * r) = 2 * r := wrapU (by omega) (by omega)
    have w2 : IntKind.u64.wrap (q + 1) = q + 1 := wrapU (by omega) (by omega)
    have w3 : IntKind.i64.wrap (q + 1) = q + 1 := wS (by omega) (by omega)
    have w4 : IntKind.i64.wrap q = q := wS (by omega) (by omega)
    have w5 : IntKind.i64.wrap (0 - (q + 1)) = -q - 1 := by rw [wS (by omega) (by omega)]; omega
    have w6 : IntKind.i64.wrap (0 - q) = -q := by rw [wS (by omega) (by omega)]; omega
    simp only [cond_false, Bool.false_and, w1, w2, w3, w4, w5, w6, f82_eq]
    clear w1 w2 w3 w4 w5 w6 hf hq q0 r0
    cases neg
    · by_cases h : Y ≤ 2 * r
      · have e : (decide (2 * r > Y) || 2 * r == Y && !false) = true := by
          simp only [Bool.or_eq_true, decide_eq_true_eq, Bool.and_eq_true, beq_iff_eq, Bool.not_false, and_true]; omega
        rw [e, if_pos h]; simp only [cond_true, cond_false]
      · have e : (decide (2 * r > Y) || 2 * r == Y && !false) = false := by
          rw [Bool.eq_false_iff]; simp only [ne_eq, Bool.or_eq_true, decide_eq_true_eq, Bool.and_eq_true, beq_iff_eq, Bool.not_false, and_true]; omega
        rw [e, if_neg h, Int.add_zero]; simp only [cond_false]
    · by_cases h : Y < 2 * r
      · have e : (decide (2 * r > Y) || 2 * r == Y && !true) = true := by
          rw [decide_eq_true (show 2 * r > Y from h)]; rfl
        rw [e, if_pos h]; simp only [cond_true]
      · have e : (decide (2 * r > Y) || 2 * r == Y && !true) = false := by
          rw [decide_eq_false (show ¬ 2 * r > Y from h), Bool.not_true, Bool.and_false]; rfl
        rw [e, if_neg h, Int.sub_zero]; simp only [cond_true, cond_false]
theorem f105_eq (a b : Int) : f105 a b = ovr (cl a) (cl b) (cl a != a || cl b != b) := by
  unfold f105 ovr
  have a1 := cl_lo a; have a2 := cl_hi a; have b1 := cl_lo b; have b2 := cl_hi b
  have ea : IntKind.u64.wrap (f163 a) = (cl a).natAbs := by rw [f163_eq]; exact wrapU (by omega) (by omega)
  have eb : IntKind.u64.wrap (f163 b) = (cl b).natAbs := by rw [f163_eq]; exact wrapU (by omega) (by omega)
  have hs : decide (a < 0) = decide (cl a < 0) := by have := cl_def a; rw [decide_eq_decide]; omega
  have ht : decide (b < 0) = decide (cl b < 0) := by have := cl_def b; rw [decide_eq_decide]; omega
  rw [ea, eb, f159_two, hs, ht]
  generalize (cl a != a || cl b != b) = c
  generalize cl a = A at *
  generalize cl b = B at *
  clear ea eb hs ht
  have hAA : ((A.natAbs : Int) == 0) = (A == 0) := by rw [Bool.eq_iff_iff]; simp
  have hBB : ((B.natAbs : Int) == 0) = (B == 0) := by rw [Bool.eq_iff_iff]; simp
  rw [hAA, hBB]
  by_cases hA : (A == 0) = true
  · rw [hA]
    generalize (!decide (A < 0) == decide (B < 0)) = neg
    cases neg <;> rfl
  · have hA2 : (A == 0) = false := by simpa using hA
    rw [hA2]
    by_cases hB : (B == 0) = true
    · rw [hB]
      have hB0 : B = 0 := by simpa using hB
      have : decide (B < 0) = false := decide_eq_false (by omega)
      rw [this]
      generalize decide (A < 0) = nA
      cases nA <;> rfl
    · have hB2 : (B == 0) = false := by simpa using hB
      rw [hB2]
      have hA0 : A ≠ 0 := by simpa using hA
      have hB0 : B ≠ 0 := by simpa using hB
      have hX0 : 0 < (A.natAbs : Int) := by omega
      have hX : (A.natAbs : Int) ≤ 288230376151711744 := by omega
      have hY0 : 0 < (B.natAbs : Int) := by omega
      have hY : (B.natAbs : Int) ≤ 288230376151711744 := by omega
      have hbig := f164_big hX0 hX hY0 hY
      have hov := ov_eq A B hY0
      have r0 := Int.emod_nonneg ((A.natAbs : Int) * 4294967296) (b := (B.natAbs : Int)) (by omega)
      have r1 := Int.emod_lt_of_pos ((A.natAbs : Int) * 4294967296) hY0
      have q0 : 0 ≤ (A.natAbs : Int) * 4294967296 / B.natAbs := Int.ediv_nonneg (by omega) (by omega)
      rw [hov]
      clear hov hAA hBB hA hA2 hB hB2 a1 a2 b1 b2
      generalize (!decide (A < 0) == decide (B < 0)) = neg
      generalize (A.natAbs : Int) * 4294967296 / B.natAbs = q at *
      generalize (A.natAbs : Int) * 4294967296 % B.natAbs = r at *
      generalize (B.natAbs : Int) = Y at *
      generalize (A.natAbs : Int) = X at *
      generalize decide (A < 0) = nA
      exact core neg nA c X Y q r hY r0 r1 q0 hbig
end Go.Proofs.YtmnglkcodbecbaaGreat
