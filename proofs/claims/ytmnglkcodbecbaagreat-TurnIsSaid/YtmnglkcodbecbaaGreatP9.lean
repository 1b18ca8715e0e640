/- The reference's Over answers as scale's; ScaleIs. -/
import Derived.Test.YtmnglkcodbecbaaGreatP8
namespace Go.Proofs.YtmnglkcodbecbaaGreat
open Go Go.Sx
theorem core21 (nA nB c1 c2 : Bool) (X Y q q' r : Int) (hY : Y ≤ 288230376151711744) (r0 : 0 ≤ r) (r1 : r < Y) (q0 : 0 ≤ q)
    (hq : (q < 576460752303423488 ∧ q' = q) ∨ (576460752303423488 ≤ q ∧ 576460752303423488 ≤ q' ∧ q' ≤ 576460752303423489)) (hf : f166 X Y = (q', r)) :
    (bif nA == nB && decide (IntKind.i64.wrap (2 * (f166 X Y).snd) ≥ Y) then (bif !nA == nB then (bif decide (IntKind.i64.wrap (2 * (f166 X Y).snd) > Y) then (((f146 (IntKind.i64.wrap (0 - IntKind.i64.wrap (IntKind.i64.wrap ((f166 X Y).fst + 1) + 1)))).fst, (f146 (IntKind.i64.wrap (0 - IntKind.i64.wrap (IntKind.i64.wrap ((f166 X Y).fst + 1) + 1)))).snd || c1 || c2)) else (((f146 (IntKind.i64.wrap (0 - IntKind.i64.wrap ((f166 X Y).fst + 1)))).fst, (f146 (IntKind.i64.wrap (0 - IntKind.i64.wrap ((f166 X Y).fst + 1)))).snd || c1 || c2))) else (((f146 (IntKind.i64.wrap ((f166 X Y).fst + 1))).fst, (f146 (IntKind.i64.wrap ((f166 X Y).fst + 1))).snd || c1 || c2))) else (bif !nA == nB then (bif decide (IntKind.i64.wrap (2 * (f166 X Y).snd) > Y) then (((f146 (IntKind.i64.wrap (0 - IntKind.i64.wrap ((f166 X Y).fst + 1)))).fst, (f146 (IntKind.i64.wrap (0 - IntKind.i64.wrap ((f166 X Y).fst + 1)))).snd || c1 || c2)) else (((f146 (IntKind.i64.wrap (0 - (f166 X Y).fst))).fst, (f146 (IntKind.i64.wrap (0 - (f166 X Y).fst))).snd || c1 || c2))) else (((f146 (f166 X Y).fst).fst, (f146 (f166 X Y).fst).snd || c1 || c2)))) =
    (cl (bif !nA == nB then -q - (if Y < 2 * r then 1 else 0) else q + (if Y ≤ 2 * r then 1 else 0)), (c1 || c2) || cl (bif !nA == nB then -q - (if Y < 2 * r then 1 else 0) else q + (if Y ≤ 2 * r then 1 else 0)) != (bif !nA == nB then -q - (if Y < 2 * r then 1 else 0) else q + (if Y ≤ 2 * r then 1 else 0))) := by
  rw [hf]
  have w1 : IntKind.i64.wrap (2 * r) = 2 * r := wS (by omega) (by omega)
  have w3 : IntKind.i64.wrap (q' + 1) = q' + 1 := wS (by omega) (by omega)
  have w5 : IntKind.i64.wrap (0 - (q' + 1)) = -q' - 1 := by rw [wS (by omega) (by omega)]; omega
  have w6 : IntKind.i64.wrap (0 - q') = -q' := by rw [wS (by omega) (by omega)]; omega
  simp only [w1, w3, w5, w6, f146_eq]
  -- a rounded number and its stand-in end alike
  have same : ∀ u v : Int, (u = v ∨ (288230376151711744 < u ∧ 288230376151711744 < v) ∨ (u < -288230376151711744 ∧ v < -288230376151711744)) → cl u = cl v ∧ (cl u != u) = (cl v != v) := by
    intro u v h
    rcases h with rfl | ⟨h1, h2⟩ | ⟨h1, h2⟩
    · exact ⟨rfl, rfl⟩
    · have a := cl_top h1; have b := cl_top h2
      exact ⟨by rw [a.1, b.1], by rw [a.2, b.2]⟩
    · have a := cl_bot h1; have b := cl_bot h2
      exact ⟨by rw [a.1, b.1], by rw [a.2, b.2]⟩
  have fin : ∀ u v : Int, (u = v ∨ (288230376151711744 < u ∧ 288230376151711744 < v) ∨ (u < -288230376151711744 ∧ v < -288230376151711744)) → ((cl u, cl u != u || c1 || c2) : Int × Bool) = (cl v, (c1 || c2) || cl v != v) := by
    intro u v h
    obtain ⟨a, b⟩ := same u v h
    rw [b, a]
    cases (cl v != v) <;> cases c1 <;> cases c2 <;> rfl
  by_cases hp : Y ≤ 2 * r <;> by_cases hs : Y < 2 * r
  · cases nA <;> cases nB <;> simp only [hp, hs, ge_iff_le, gt_iff_lt, decide_true, Bool.and_true, Bool.and_false, beq_self_eq_true, Bool.not_true, cond_true, cond_false, if_true, show ((true == false) : Bool) = false from rfl, show ((false == true) : Bool) = false from rfl, Bool.false_and, Bool.not_false] <;> exact fin _ _ (by omega)
  · cases nA <;> cases nB <;> simp only [hp, hs, ge_iff_le, gt_iff_lt, decide_true, decide_false, Bool.and_true, Bool.and_false, beq_self_eq_true, Bool.not_true, cond_true, cond_false, if_true, if_false, show ((true == false) : Bool) = false from rfl, show ((false == true) : Bool) = false from rfl, Bool.false_and, Bool.not_false] <;> exact fin _ _ (by omega)
  · omega
  · cases nA <;> cases nB <;> simp only [hp, hs, ge_iff_le, gt_iff_lt, decide_false, Bool.and_true, Bool.and_false, beq_self_eq_true, Bool.not_true, cond_true, cond_false, if_false, show ((true == false) : Bool) = false from rfl, show ((false == true) : Bool) = false from rfl, Bool.false_and, Bool.not_false] <;> exact fin _ _ (by omega)
theorem f109_eq (a b : Int) : f109 a b = f105 a b := by
  rw [f105_eq]
  unfold f109 ovr
  have a1 := cl_lo a; have a2 := cl_hi a; have b1 := cl_lo b; have b2 := cl_hi b
  simp only [f88_eq, f132_eq, f162_eq, cl_cl]
  generalize (cl a != a) = c1
  generalize (cl b != b) = c2
  generalize cl a = A at *
  generalize cl b = B at *
  by_cases hB : B = 0
  · subst hB
    by_cases hA : A = 0
    · subst hA; simp
    · have hA2 : (A == 0) = false := by simpa using hA
      by_cases hn : A < 0
      · have h0 : ¬ 0 < A := by omega
        simp [hA2, hn, h0]
      · have h0 : 0 < A := by omega
        simp [hA2, hn, h0]
  · have hB2 : (B == 0) = false := by simpa using hB
    have hY0 : 0 < (B.natAbs : Int) := by omega
    have hd := drun_is (x := A.natAbs) (y := B.natAbs) (by omega) (by omega) hY0 (by omega) 91 (by omega)
    have hT : part A.natAbs 91 = (A.natAbs : Int) * 4294967296 := by unfold part; exact Int.ediv_one _
    rw [hT] at hd
    have r0 := Int.emod_nonneg ((A.natAbs : Int) * 4294967296) (b := (B.natAbs : Int)) (by omega)
    have r1 := Int.emod_lt_of_pos ((A.natAbs : Int) * 4294967296) hY0
    have q0 : 0 ≤ (A.natAbs : Int) * 4294967296 / B.natAbs := Int.ediv_nonneg (by omega) (by omega)
    have hf : f166 A.natAbs B.natAbs = ((drun A.natAbs B.natAbs 91).1, (A.natAbs : Int) * 4294967296 % B.natAbs) := by
      unfold f166
      rw [← hd.1]
    have hov := ov_eq A B hY0
    have hcore := core21 (decide (A < 0)) (decide (B < 0)) c1 c2 _ _ _ _ _ (by omega) r0 r1 q0 hd.2 hf
    rw [hB2]
    simp only [Bool.false_and, cond_false]
    refine hcore.trans ?_
    rw [← hov]
    by_cases hA : A = 0
    · subst hA
      rw [ov_zero hB]
      cases c1 <;> cases c2 <;> rfl
    · have hA2 : (A == 0) = false := by simpa using hA
      rw [hA2]; rfl
end Go.Proofs.YtmnglkcodbecbaaGreat
