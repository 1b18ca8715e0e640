/- What may be stays so behind a sample: the plain law of filter.Feed that FilterKeeps wants. -/
import Derived.Test.YtmnglkcodbecbaaGreatT1
import Derived.Test.YtmnglkcodbecbaaGreatRn
namespace Go.Proofs.YtmnglkcodbecbaaGreat
open Go Go.Sx
set_option linter.unusedVariables false
set_option linter.unusedSimpArgs false
set_option linter.constructorNameAsVariable false
set_option maxRecDepth 100000
set_option maxHeartbeats 8000000
theorem ok170 (a b : Int) : f114 (f170 a b).fst = true := by
  unfold f114 f170; simp only [f82_eq, cl_cl]; simp
theorem ok98 (a b : Int) : f114 (f98 a b).fst = true := by
  unfold f114; rw [f98_eq]; simp only [f82_eq, cl_cl]; simp
theorem okmm (x : Int) : f134 (mxI 4096 (mnI x 4503599627370496)) = true := by
  unfold f134 mxI mnI
  simp only [Bool.and_eq_true, decide_eq_true_eq]
  split <;> split <;> omega
theorem f72_flag {p v pp pv vv : Int} {b : Bool} (c : Bool) (h : f72 p v pp pv vv b = true) : f72 p v pp pv vv c = true := h
theorem start72 (c : Bool) : f72 (f76 0 0).fst (f76 0 0).snd.fst (f76 0 0).snd.snd.fst (f76 0 0).snd.snd.snd.fst (f76 0 0).snd.snd.snd.snd.fst c = true := by kernel_rfl
theorem s114 : f114 (f76 0 0).fst = true ∧ f114 (f76 0 0).snd.fst = true ∧ f114 (f76 0 0).snd.snd.snd.fst = true ∧ f134 (f76 0 0).snd.snd.fst = true ∧ f134 (f76 0 0).snd.snd.snd.snd.fst = true := ⟨by kernel_rfl, by kernel_rfl, by kernel_rfl, by kernel_rfl, by kernel_rfl⟩
theorem pred_sane (p v pp pv vv : Int) (b : Bool) (a1 a2 a3 : Int) : ∃ p' v' pp' pv' vv' b', f63 p v pp pv vv b a1 a2 a3 = (p', v', pp', pv', vv', b') ∧ f72 p' v' pp' pv' vv' b' = true ∧ (b = true → b' = true) := by
  refine ⟨_, _, _, _, _, _, rfl, ?_, ?_⟩
  · skip
    generalize (!f114 a1 || decide (a2 < 0) || decide (a2 > 1099511627776) || decide (a3 < 0) || decide (a3 > 1099511627776)) = X
    obtain ⟨k1, k2, k3, k4, k5⟩ := s114
    cases hs : f72 p v pp pv vv b <;> cases X <;> simp only [Bool.not_true, Bool.not_false, cond_true, cond_false]
    · unfold f72; simp only [ok170, okmm, Bool.and_self]
    · unfold f72; simp only [k1, k2, k3, k4, k5, Bool.and_self]
    · unfold f72; simp only [ok170, okmm, Bool.and_self]
    · exact f72_flag _ hs
  · intro h; subst h; simp
theorem upd_sane (p v pp pv vv : Int) (b : Bool) (a1 a2 a3 : Int) : ∃ p' v' pp' pv' vv' b' i, f202 p v pp pv vv b a1 a2 a3 = (p', v', pp', pv', vv', b', i) ∧ f72 p' v' pp' pv' vv' b' = true ∧ (b = true → b' = true) := by
  refine ⟨_, _, _, _, _, _, _, rfl, ?_, ?_⟩
  · skip
    generalize (!f114 a1 || !f134 a2 || decide (a3 < 0) || decide (a3 > 1099511627776)) = X
    obtain ⟨k1, k2, k3, k4, k5⟩ := s114
    generalize hY : decide (f163 (f98 a1 (f76 0 0).fst).fst > (f96 a3 (f211 (f170 (f76 0 0).snd.snd.fst a2).fst).fst).fst) = Y
    generalize hZ : decide (f163 (f98 a1 p).fst > (f96 a3 (f211 (f170 pp a2).fst).fst).fst) = Z
    cases hs : f72 p v pp pv vv b <;> cases X <;> simp only [Bool.not_true, Bool.not_false, cond_true, cond_false]
    · cases Y <;> simp only [cond_true, cond_false]
      · unfold f72; simp only [ok170, ok98, okmm, Bool.and_self]
      · unfold f72; simp only [k1, k2, k3, k4, k5, Bool.and_self]
    · unfold f72; simp only [k1, k2, k3, k4, k5, Bool.and_self]
    · cases Z <;> simp only [cond_true, cond_false]
      · unfold f72; simp only [ok170, ok98, okmm, Bool.and_self]
      · exact f72_flag _ hs
    · exact f72_flag _ hs
  · intro h; subst h; simp
theorem flags4 {a b c d a' b' c' d' : Bool} (h0 : a = true → a' = true) (h1 : b = true → b' = true) (h2 : c = true → c' = true) (h3 : d = true → d' = true) : (a || b || c || d) = true → (a' || b' || c' || d') = true := by
  cases a <;> cases b <;> cases c <;> cases d <;> simp_all
theorem f73_iff (a : Int) : f73 a = true ↔ 0 ≤ a ∧ a ≤ 1099511627776 := by unfold f73; simp
theorem f60_as (a0_0 : Int) (a0_1 : Int) (a0_2 : Int) (a0_3 : Int) (a0_4 : Int) (a0_5 : Int) (a0_6 : Int) (a0_7 : Int) (a0_8 : Int) (a0_9 : Int) (a0_10 : Bool) (a0_11 : Int) (a0_12 : Int) (a0_13 : Int) (a0_14 : Int) (a0_15 : Int) (a0_16 : Bool) (a0_17 : Int) (a0_18 : Int) (a0_19 : Int) (a0_20 : Int) (a0_21 : Int) (a0_22 : Bool) (a0_23 : Int) (a0_24 : Int) (a0_25 : Int) (a0_26 : Int) (a0_27 : Int) (a0_28 : Bool) (hs : f26 a0_0 a0_1 a0_2 a0_3 a0_4 a0_5 a0_6 a0_7 a0_8 a0_9 a0_10 a0_11 a0_12 a0_13 a0_14 a0_15 a0_16 a0_17 a0_18 a0_19 a0_20 a0_21 a0_22 a0_23 a0_24 a0_25 a0_26 a0_27 a0_28 = true) : f60 a0_0 a0_1 a0_2 a0_3 a0_4 a0_5 a0_6 a0_7 a0_8 a0_9 a0_10 a0_11 a0_12 a0_13 a0_14 a0_15 a0_16 a0_17 a0_18 a0_19 a0_20 a0_21 a0_22 a0_23 a0_24 a0_25 a0_26 a0_27 a0_28 = (a0_0, a0_1, a0_2, a0_3, a0_4, a0_5, a0_6, a0_7, a0_8, a0_9, a0_10, a0_11, a0_12, a0_13, a0_14, a0_15, a0_16, a0_17, a0_18, a0_19, a0_20, a0_21, a0_22, a0_23, a0_24, a0_25, a0_26, a0_27, a0_28) := by
  unfold f60
  simp only [hs, cond_true, Bool.not_true, Bool.false_or]
theorem f26_iff (a0_0 : Int) (a0_1 : Int) (a0_2 : Int) (a0_3 : Int) (a0_4 : Int) (a0_5 : Int) (a0_6 : Int) (a0_7 : Int) (a0_8 : Int) (a0_9 : Int) (a0_10 : Bool) (a0_11 : Int) (a0_12 : Int) (a0_13 : Int) (a0_14 : Int) (a0_15 : Int) (a0_16 : Bool) (a0_17 : Int) (a0_18 : Int) (a0_19 : Int) (a0_20 : Int) (a0_21 : Int) (a0_22 : Bool) (a0_23 : Int) (a0_24 : Int) (a0_25 : Int) (a0_26 : Int) (a0_27 : Int) (a0_28 : Bool) : f26 a0_0 a0_1 a0_2 a0_3 a0_4 a0_5 a0_6 a0_7 a0_8 a0_9 a0_10 a0_11 a0_12 a0_13 a0_14 a0_15 a0_16 a0_17 a0_18 a0_19 a0_20 a0_21 a0_22 a0_23 a0_24 a0_25 a0_26 a0_27 a0_28 = true ↔ (0 ≤ a0_0 ∧ a0_0 ≤ 1099511627776) ∧ (0 ≤ a0_1 ∧ a0_1 ≤ 1099511627776) ∧ (0 ≤ a0_2 ∧ a0_2 ≤ 1099511627776) ∧ f13 a0_3 a0_4 a0_5 a0_6 a0_7 a0_8 a0_9 a0_10 = true ∧ f72 a0_11 a0_12 a0_13 a0_14 a0_15 a0_16 = true ∧ f72 a0_17 a0_18 a0_19 a0_20 a0_21 a0_22 = true ∧ f72 a0_23 a0_24 a0_25 a0_26 a0_27 a0_28 = true := by
  unfold f26
  simp only [first_any3, Bool.and_eq_true, f73_iff]
  generalize f72 a0_11 a0_12 a0_13 a0_14 a0_15 a0_16 = X
  generalize f72 a0_17 a0_18 a0_19 a0_20 a0_21 a0_22 = Y
  generalize f72 a0_23 a0_24 a0_25 a0_26 a0_27 a0_28 = Z
  generalize f13 a0_3 a0_4 a0_5 a0_6 a0_7 a0_8 a0_9 a0_10 = V
  cases X <;> cases Y <;> cases Z <;> cases V <;> simp [and_assoc]
theorem rd0 (a0_0 : Int) (a0_1 : Int) (a0_2 : Int) (a0_3 : Int) (a0_4 : Int) (a0_5 : Int) (a0_6 : Int) (a0_7 : Int) (a0_8 : Int) (a0_9 : Int) (a0_10 : Bool) (a0_11 : Int) (a0_12 : Int) (a0_13 : Int) (a0_14 : Int) (a0_15 : Int) (a0_16 : Bool) (a0_17 : Int) (a0_18 : Int) (a0_19 : Int) (a0_20 : Int) (a0_21 : Int) (a0_22 : Bool) (a0_23 : Int) (a0_24 : Int) (a0_25 : Int) (a0_26 : Int) (a0_27 : Int) (a0_28 : Bool) (a1_0 a1_1 a1_2 a1_3 a1_4 a1_5 a1_6 a1_7 a1_8 a1_9 a1_10 a1_11 a1_12 a1_13 a1_14 a1_15 a1_16 a1_17 a1_18 a1_19 : Int) (a2_0 a2_2 a2_3 a2_4 : Int) : (f61 a0_0 a0_1 a0_2 a0_3 a0_4 a0_5 a0_6 a0_7 a0_8 a0_9 a0_10 a0_11 a0_12 a0_13 a0_14 a0_15 a0_16 a0_17 a0_18 a0_19 a0_20 a0_21 a0_22 a0_23 a0_24 a0_25 a0_26 a0_27 a0_28 a1_0 a1_1 a1_2 a1_3 a1_4 a1_5 a1_6 a1_7 a1_8 a1_9 a1_10 a1_11 a1_12 a1_13 a1_14 a1_15 a1_16 a1_17 a1_18 a1_19 a2_0 0 a2_2 a2_3 a2_4).snd.snd.snd = 0 → a0_0 ≤ a2_0 ∧ 0 ≤ a2_0 ∧ a2_0 ≤ 1099511627776 ∧ a0_1 ≠ 1099511627776 ∧ a0_2 ≠ 1099511627776 := by
  have e : f61 a0_0 a0_1 a0_2 a0_3 a0_4 a0_5 a0_6 a0_7 a0_8 a0_9 a0_10 a0_11 a0_12 a0_13 a0_14 a0_15 a0_16 a0_17 a0_18 a0_19 a0_20 a0_21 a0_22 a0_23 a0_24 a0_25 a0_26 a0_27 a0_28 a1_0 a1_1 a1_2 a1_3 a1_4 a1_5 a1_6 a1_7 a1_8 a1_9 a1_10 a1_11 a1_12 a1_13 a1_14 a1_15 a1_16 a1_17 a1_18 a1_19 a2_0 0 a2_2 a2_3 a2_4 = f61p0 a0_0 a0_1 a0_2 a0_3 a0_4 a0_5 a0_6 a0_7 a0_8 a0_9 a0_10 a0_11 a0_12 a0_13 a0_14 a0_15 a0_16 a0_17 a0_18 a0_19 a0_20 a0_21 a0_22 a0_23 a0_24 a0_25 a0_26 a0_27 a0_28 a1_0 a1_1 a1_2 a1_3 a1_4 a1_5 a1_6 a1_7 a1_8 a1_9 a1_10 a1_11 a1_12 a1_13 a1_14 a1_15 a1_16 a1_17 a1_18 a1_19 a2_0 a2_2 a2_3 a2_4 := rfl
  rw [e]; unfold f61p0
  simp only
  intro h
  cases h1 : (!f111 a2_0 0 a2_2 a2_3 a2_4 || a0_1 == 1099511627776 || a0_2 == 1099511627776) with
  | true => rw [h1] at h; simp only [cond_true] at h; exact absurd h (by decide)
  | false =>
    rw [h1] at h; simp only [cond_false] at h
    cases h2 : decide (a2_0 < a0_0) with
    | true => rw [h2] at h; simp only [cond_true] at h; exact absurd h (by decide)
    | false =>
      have h3 := of_decide_eq_false h2
      simp only [Bool.or_eq_false_iff, Bool.not_eq_false', beq_eq_false_iff_ne] at h1
      obtain ⟨⟨h4, h5⟩, h6⟩ := h1
      unfold f111 at h4
      simp only [Bool.and_eq_true, decide_eq_true_eq] at h4
      refine ⟨by omega, ?_, ?_, h5, h6⟩ <;> simp only [ge_iff_le] at h4 <;> omega
theorem rd1 (a0_0 : Int) (a0_1 : Int) (a0_2 : Int) (a0_3 : Int) (a0_4 : Int) (a0_5 : Int) (a0_6 : Int) (a0_7 : Int) (a0_8 : Int) (a0_9 : Int) (a0_10 : Bool) (a0_11 : Int) (a0_12 : Int) (a0_13 : Int) (a0_14 : Int) (a0_15 : Int) (a0_16 : Bool) (a0_17 : Int) (a0_18 : Int) (a0_19 : Int) (a0_20 : Int) (a0_21 : Int) (a0_22 : Bool) (a0_23 : Int) (a0_24 : Int) (a0_25 : Int) (a0_26 : Int) (a0_27 : Int) (a0_28 : Bool) (a1_0 a1_1 a1_2 a1_3 a1_4 a1_5 a1_6 a1_7 a1_8 a1_9 a1_10 a1_11 a1_12 a1_13 a1_14 a1_15 a1_16 a1_17 a1_18 a1_19 : Int) (a2_0 a2_2 a2_3 a2_4 : Int) : (f61 a0_0 a0_1 a0_2 a0_3 a0_4 a0_5 a0_6 a0_7 a0_8 a0_9 a0_10 a0_11 a0_12 a0_13 a0_14 a0_15 a0_16 a0_17 a0_18 a0_19 a0_20 a0_21 a0_22 a0_23 a0_24 a0_25 a0_26 a0_27 a0_28 a1_0 a1_1 a1_2 a1_3 a1_4 a1_5 a1_6 a1_7 a1_8 a1_9 a1_10 a1_11 a1_12 a1_13 a1_14 a1_15 a1_16 a1_17 a1_18 a1_19 a2_0 1 a2_2 a2_3 a2_4).snd.snd.snd = 0 → a0_0 ≤ a2_0 ∧ 0 ≤ a2_0 ∧ a2_0 ≤ 1099511627776 ∧ a0_1 ≠ 1099511627776 ∧ a0_2 ≠ 1099511627776 := by
  have e : f61 a0_0 a0_1 a0_2 a0_3 a0_4 a0_5 a0_6 a0_7 a0_8 a0_9 a0_10 a0_11 a0_12 a0_13 a0_14 a0_15 a0_16 a0_17 a0_18 a0_19 a0_20 a0_21 a0_22 a0_23 a0_24 a0_25 a0_26 a0_27 a0_28 a1_0 a1_1 a1_2 a1_3 a1_4 a1_5 a1_6 a1_7 a1_8 a1_9 a1_10 a1_11 a1_12 a1_13 a1_14 a1_15 a1_16 a1_17 a1_18 a1_19 a2_0 1 a2_2 a2_3 a2_4 = f61p1 a0_0 a0_1 a0_2 a0_3 a0_4 a0_5 a0_6 a0_7 a0_8 a0_9 a0_10 a0_11 a0_12 a0_13 a0_14 a0_15 a0_16 a0_17 a0_18 a0_19 a0_20 a0_21 a0_22 a0_23 a0_24 a0_25 a0_26 a0_27 a0_28 a1_0 a1_1 a1_2 a1_3 a1_4 a1_5 a1_6 a1_7 a1_8 a1_9 a1_10 a1_11 a1_12 a1_13 a1_14 a1_15 a1_16 a1_17 a1_18 a1_19 a2_0 a2_2 a2_3 a2_4 := rfl
  rw [e]; unfold f61p1
  simp only
  intro h
  cases h1 : (!f111 a2_0 1 a2_2 a2_3 a2_4 || a0_1 == 1099511627776 || a0_2 == 1099511627776) with
  | true => rw [h1] at h; simp only [cond_true] at h; exact absurd h (by decide)
  | false =>
    rw [h1] at h; simp only [cond_false] at h
    cases h2 : decide (a2_0 < a0_0) with
    | true => rw [h2] at h; simp only [cond_true] at h; exact absurd h (by decide)
    | false =>
      have h3 := of_decide_eq_false h2
      simp only [Bool.or_eq_false_iff, Bool.not_eq_false', beq_eq_false_iff_ne] at h1
      obtain ⟨⟨h4, h5⟩, h6⟩ := h1
      unfold f111 at h4
      simp only [Bool.and_eq_true, decide_eq_true_eq] at h4
      refine ⟨by omega, ?_, ?_, h5, h6⟩ <;> simp only [ge_iff_le] at h4 <;> omega
theorem rd2 (a0_0 : Int) (a0_1 : Int) (a0_2 : Int) (a0_3 : Int) (a0_4 : Int) (a0_5 : Int) (a0_6 : Int) (a0_7 : Int) (a0_8 : Int) (a0_9 : Int) (a0_10 : Bool) (a0_11 : Int) (a0_12 : Int) (a0_13 : Int) (a0_14 : Int) (a0_15 : Int) (a0_16 : Bool) (a0_17 : Int) (a0_18 : Int) (a0_19 : Int) (a0_20 : Int) (a0_21 : Int) (a0_22 : Bool) (a0_23 : Int) (a0_24 : Int) (a0_25 : Int) (a0_26 : Int) (a0_27 : Int) (a0_28 : Bool) (a1_0 a1_1 a1_2 a1_3 a1_4 a1_5 a1_6 a1_7 a1_8 a1_9 a1_10 a1_11 a1_12 a1_13 a1_14 a1_15 a1_16 a1_17 a1_18 a1_19 : Int) (a2_0 a2_2 a2_3 a2_4 : Int) : (f61 a0_0 a0_1 a0_2 a0_3 a0_4 a0_5 a0_6 a0_7 a0_8 a0_9 a0_10 a0_11 a0_12 a0_13 a0_14 a0_15 a0_16 a0_17 a0_18 a0_19 a0_20 a0_21 a0_22 a0_23 a0_24 a0_25 a0_26 a0_27 a0_28 a1_0 a1_1 a1_2 a1_3 a1_4 a1_5 a1_6 a1_7 a1_8 a1_9 a1_10 a1_11 a1_12 a1_13 a1_14 a1_15 a1_16 a1_17 a1_18 a1_19 a2_0 2 a2_2 a2_3 a2_4).snd.snd.snd = 0 → a0_0 ≤ a2_0 ∧ 0 ≤ a2_0 ∧ a2_0 ≤ 1099511627776 ∧ a0_1 ≠ 1099511627776 ∧ a0_2 ≠ 1099511627776 := by
  have e : f61 a0_0 a0_1 a0_2 a0_3 a0_4 a0_5 a0_6 a0_7 a0_8 a0_9 a0_10 a0_11 a0_12 a0_13 a0_14 a0_15 a0_16 a0_17 a0_18 a0_19 a0_20 a0_21 a0_22 a0_23 a0_24 a0_25 a0_26 a0_27 a0_28 a1_0 a1_1 a1_2 a1_3 a1_4 a1_5 a1_6 a1_7 a1_8 a1_9 a1_10 a1_11 a1_12 a1_13 a1_14 a1_15 a1_16 a1_17 a1_18 a1_19 a2_0 2 a2_2 a2_3 a2_4 = f61p2 a0_0 a0_1 a0_2 a0_3 a0_4 a0_5 a0_6 a0_7 a0_8 a0_9 a0_10 a0_11 a0_12 a0_13 a0_14 a0_15 a0_16 a0_17 a0_18 a0_19 a0_20 a0_21 a0_22 a0_23 a0_24 a0_25 a0_26 a0_27 a0_28 a1_0 a1_1 a1_2 a1_3 a1_4 a1_5 a1_6 a1_7 a1_8 a1_9 a1_10 a1_11 a1_12 a1_13 a1_14 a1_15 a1_16 a1_17 a1_18 a1_19 a2_0 a2_2 a2_3 a2_4 := rfl
  rw [e]; unfold f61p2
  simp only
  intro h
  cases h1 : (!f111 a2_0 2 a2_2 a2_3 a2_4 || a0_1 == 1099511627776 || a0_2 == 1099511627776) with
  | true => rw [h1] at h; simp only [cond_true] at h; exact absurd h (by decide)
  | false =>
    rw [h1] at h; simp only [cond_false] at h
    cases h2 : decide (a2_0 < a0_0) with
    | true => rw [h2] at h; simp only [cond_true] at h; exact absurd h (by decide)
    | false =>
      have h3 := of_decide_eq_false h2
      simp only [Bool.or_eq_false_iff, Bool.not_eq_false', beq_eq_false_iff_ne] at h1
      obtain ⟨⟨h4, h5⟩, h6⟩ := h1
      unfold f111 at h4
      simp only [Bool.and_eq_true, decide_eq_true_eq] at h4
      refine ⟨by omega, ?_, ?_, h5, h6⟩ <;> simp only [ge_iff_le] at h4 <;> omega
theorem rd3 (a0_0 : Int) (a0_1 : Int) (a0_2 : Int) (a0_3 : Int) (a0_4 : Int) (a0_5 : Int) (a0_6 : Int) (a0_7 : Int) (a0_8 : Int) (a0_9 : Int) (a0_10 : Bool) (a0_11 : Int) (a0_12 : Int) (a0_13 : Int) (a0_14 : Int) (a0_15 : Int) (a0_16 : Bool) (a0_17 : Int) (a0_18 : Int) (a0_19 : Int) (a0_20 : Int) (a0_21 : Int) (a0_22 : Bool) (a0_23 : Int) (a0_24 : Int) (a0_25 : Int) (a0_26 : Int) (a0_27 : Int) (a0_28 : Bool) (a1_0 a1_1 a1_2 a1_3 a1_4 a1_5 a1_6 a1_7 a1_8 a1_9 a1_10 a1_11 a1_12 a1_13 a1_14 a1_15 a1_16 a1_17 a1_18 a1_19 : Int) (a2_0 a2_2 a2_3 a2_4 : Int) : (f61 a0_0 a0_1 a0_2 a0_3 a0_4 a0_5 a0_6 a0_7 a0_8 a0_9 a0_10 a0_11 a0_12 a0_13 a0_14 a0_15 a0_16 a0_17 a0_18 a0_19 a0_20 a0_21 a0_22 a0_23 a0_24 a0_25 a0_26 a0_27 a0_28 a1_0 a1_1 a1_2 a1_3 a1_4 a1_5 a1_6 a1_7 a1_8 a1_9 a1_10 a1_11 a1_12 a1_13 a1_14 a1_15 a1_16 a1_17 a1_18 a1_19 a2_0 3 a2_2 a2_3 a2_4).snd.snd.snd = 0 → a0_0 ≤ a2_0 ∧ 0 ≤ a2_0 ∧ a2_0 ≤ 1099511627776 ∧ a0_1 ≠ 1099511627776 ∧ a0_2 ≠ 1099511627776 := by
  have e : f61 a0_0 a0_1 a0_2 a0_3 a0_4 a0_5 a0_6 a0_7 a0_8 a0_9 a0_10 a0_11 a0_12 a0_13 a0_14 a0_15 a0_16 a0_17 a0_18 a0_19 a0_20 a0_21 a0_22 a0_23 a0_24 a0_25 a0_26 a0_27 a0_28 a1_0 a1_1 a1_2 a1_3 a1_4 a1_5 a1_6 a1_7 a1_8 a1_9 a1_10 a1_11 a1_12 a1_13 a1_14 a1_15 a1_16 a1_17 a1_18 a1_19 a2_0 3 a2_2 a2_3 a2_4 = f61p3 a0_0 a0_1 a0_2 a0_3 a0_4 a0_5 a0_6 a0_7 a0_8 a0_9 a0_10 a0_11 a0_12 a0_13 a0_14 a0_15 a0_16 a0_17 a0_18 a0_19 a0_20 a0_21 a0_22 a0_23 a0_24 a0_25 a0_26 a0_27 a0_28 a1_0 a1_1 a1_2 a1_3 a1_4 a1_5 a1_6 a1_7 a1_8 a1_9 a1_10 a1_11 a1_12 a1_13 a1_14 a1_15 a1_16 a1_17 a1_18 a1_19 a2_0 a2_2 a2_3 a2_4 := rfl
  rw [e]; unfold f61p3
  simp only
  intro h
  cases h1 : (!f111 a2_0 3 a2_2 a2_3 a2_4 || a0_1 == 1099511627776 || a0_2 == 1099511627776) with
  | true => rw [h1] at h; simp only [cond_true] at h; exact absurd h (by decide)
  | false =>
    rw [h1] at h; simp only [cond_false] at h
    cases h2 : decide (a2_0 < a0_0) with
    | true => rw [h2] at h; simp only [cond_true] at h; exact absurd h (by decide)
    | false =>
      have h3 := of_decide_eq_false h2
      simp only [Bool.or_eq_false_iff, Bool.not_eq_false', beq_eq_false_iff_ne] at h1
      obtain ⟨⟨h4, h5⟩, h6⟩ := h1
      unfold f111 at h4
      simp only [Bool.and_eq_true, decide_eq_true_eq] at h4
      refine ⟨by omega, ?_, ?_, h5, h6⟩ <;> simp only [ge_iff_le] at h4 <;> omega
theorem keep0 (a0_0 : Int) (a0_1 : Int) (a0_2 : Int) (a0_3 : Int) (a0_4 : Int) (a0_5 : Int) (a0_6 : Int) (a0_7 : Int) (a0_8 : Int) (a0_9 : Int) (a0_10 : Bool) (a0_11 : Int) (a0_12 : Int) (a0_13 : Int) (a0_14 : Int) (a0_15 : Int) (a0_16 : Bool) (a0_17 : Int) (a0_18 : Int) (a0_19 : Int) (a0_20 : Int) (a0_21 : Int) (a0_22 : Bool) (a0_23 : Int) (a0_24 : Int) (a0_25 : Int) (a0_26 : Int) (a0_27 : Int) (a0_28 : Bool) (a1_0 a1_1 a1_2 a1_3 a1_4 a1_5 a1_6 a1_7 a1_8 a1_9 a1_10 a1_11 a1_12 a1_13 a1_14 a1_15 a1_16 a1_17 a1_18 a1_19 : Int) (a2_0 a2_2 a2_3 a2_4 : Int) (hs : f26 a0_0 a0_1 a0_2 a0_3 a0_4 a0_5 a0_6 a0_7 a0_8 a0_9 a0_10 a0_11 a0_12 a0_13 a0_14 a0_15 a0_16 a0_17 a0_18 a0_19 a0_20 a0_21 a0_22 a0_23 a0_24 a0_25 a0_26 a0_27 a0_28 = true) : ∃ b0 b1 b2 b3 b4 b5 b6 b7 b8 b9 b10 b11 b12 b13 b14 b15 b16 b17 b18 b19 b20 b21 b22 b23 b24 b25 b26 b27 b28 E, f24p0 a0_0 a0_1 a0_2 a0_3 a0_4 a0_5 a0_6 a0_7 a0_8 a0_9 a0_10 a0_11 a0_12 a0_13 a0_14 a0_15 a0_16 a0_17 a0_18 a0_19 a0_20 a0_21 a0_22 a0_23 a0_24 a0_25 a0_26 a0_27 a0_28 a1_0 a1_1 a1_2 a1_3 a1_4 a1_5 a1_6 a1_7 a1_8 a1_9 a1_10 a1_11 a1_12 a1_13 a1_14 a1_15 a1_16 a1_17 a1_18 a1_19 a2_0 a2_2 a2_3 a2_4 = (b0, b1, b2, b3, b4, b5, b6, b7, b8, b9, b10, b11, b12, b13, b14, b15, b16, b17, b18, b19, b20, b21, b22, b23, b24, b25, b26, b27, b28, E) ∧ f26 b0 b1 b2 b3 b4 b5 b6 b7 b8 b9 b10 b11 b12 b13 b14 b15 b16 b17 b18 b19 b20 b21 b22 b23 b24 b25 b26 b27 b28 = true ∧ ((a0_10 || a0_16 || a0_22 || a0_28) = true → (b10 || b16 || b22 || b28) = true) ∧ a0_0 ≤ b0 ∧ ((b1 = a0_1 ∧ (b2 = a0_2 + 1 ∨ ((1099511627776 ≤ a0_1 ∨ 1099511627776 ≤ a0_2) ∧ b2 = a0_2))) ∨ (b1 = a0_1 + 1 ∧ (b2 = a0_2 ∨ b2 = a0_2 + 1))) := by
  have hk := f60_as a0_0 a0_1 a0_2 a0_3 a0_4 a0_5 a0_6 a0_7 a0_8 a0_9 a0_10 a0_11 a0_12 a0_13 a0_14 a0_15 a0_16 a0_17 a0_18 a0_19 a0_20 a0_21 a0_22 a0_23 a0_24 a0_25 a0_26 a0_27 a0_28 hs
  obtain ⟨⟨t0, t1⟩, ⟨n0, n1⟩, ⟨o0, o1⟩, hq, hx, hy, hz⟩ := (f26_iff a0_0 a0_1 a0_2 a0_3 a0_4 a0_5 a0_6 a0_7 a0_8 a0_9 a0_10 a0_11 a0_12 a0_13 a0_14 a0_15 a0_16 a0_17 a0_18 a0_19 a0_20 a0_21 a0_22 a0_23 a0_24 a0_25 a0_26 a0_27 a0_28).1 hs
  have wn : ∀ m : Int, 0 ≤ m → m ≤ 1099511627776 → IntKind.i64.wrap (m + 1) = m + 1 := fun m h0 h1 => (rg_iff (k := .i64)).2 ⟨by simp only [loK]; omega, by simp only [hiK]; omega⟩
  have hw1 := wn a0_1 n0 n1
  have hw2 := wn a0_2 o0 o1
  have hrd := rd0 a0_0 a0_1 a0_2 a0_3 a0_4 a0_5 a0_6 a0_7 a0_8 a0_9 a0_10 a0_11 a0_12 a0_13 a0_14 a0_15 a0_16 a0_17 a0_18 a0_19 a0_20 a0_21 a0_22 a0_23 a0_24 a0_25 a0_26 a0_27 a0_28 a1_0 a1_1 a1_2 a1_3 a1_4 a1_5 a1_6 a1_7 a1_8 a1_9 a1_10 a1_11 a1_12 a1_13 a1_14 a1_15 a1_16 a1_17 a1_18 a1_19 a2_0 a2_2 a2_3 a2_4
  unfold f24p0
  simp only [hk]
  generalize f61 a0_0 a0_1 a0_2 a0_3 a0_4 a0_5 a0_6 a0_7 a0_8 a0_9 a0_10 a0_11 a0_12 a0_13 a0_14 a0_15 a0_16 a0_17 a0_18 a0_19 a0_20 a0_21 a0_22 a0_23 a0_24 a0_25 a0_26 a0_27 a0_28 a1_0 a1_1 a1_2 a1_3 a1_4 a1_5 a1_6 a1_7 a1_8 a1_9 a1_10 a1_11 a1_12 a1_13 a1_14 a1_15 a1_16 a1_17 a1_18 a1_19 a2_0 0 a2_2 a2_3 a2_4 = E at hrd ⊢
  by_cases he : E.snd.snd.snd = 0
  · obtain ⟨r0, r1, r2, r3, r4⟩ := hrd he
    generalize IntKind.i64.wrap (mnI (IntKind.i64.wrap (a2_0 - a0_0)) 16384 * 4194304) = D
    obtain ⟨p0, v0, pp0, pv0, vv0, c0, e0, s0, g0⟩ := pred_sane a0_11 a0_12 a0_13 a0_14 a0_15 a0_16 0 D 1073741824
    obtain ⟨p1, v1, pp1, pv1, vv1, c1, e1, s1, g1⟩ := pred_sane a0_17 a0_18 a0_19 a0_20 a0_21 a0_22 0 D 1073741824
    obtain ⟨p2, v2, pp2, pv2, vv2, c2, e2, s2, g2⟩ := pred_sane a0_23 a0_24 a0_25 a0_26 a0_27 a0_28 0 D 1073741824
    obtain ⟨u0, u1, u2, u3, x0, x1, x2, cb, eq, hsq, hx0, hx1, hx2, gb⟩ := move_sane a0_3 a0_4 a0_5 a0_6 a0_7 a0_8 a0_9 a0_10 E.fst E.snd.fst E.snd.snd.fst D
    simp only [he, bne_self_eq_false, cond_false, Bool.cond_self, hw1, hw2, e0, e1, e2, eq]
    exact ⟨_, _, _, _, _, _, _, _, _, _, _, _, _, _, _, _, _, _, _, _, _, _, _, _, _, _, _, _, _, _, rfl, (f26_iff _ _ _ _ _ _ _ _ _ _ _ _ _ _ _ _ _ _ _ _ _ _ _ _ _ _ _ _ _).2 ⟨⟨by omega, by omega⟩, ⟨by omega, by omega⟩, ⟨by omega, by omega⟩, (f13_iff _ _ _ _ _ _ _ _).2 ⟨hsq, hx0, hx1, hx2⟩, s0, s1, s2⟩, (flags4 (fun h => gb (.inl h)) (fun h => g0 h) (fun h => g1 h) (fun h => g2 h)), r0, .inr ⟨rfl, .inl rfl⟩⟩
  · have hb : (E.snd.snd.snd != 0) = true := by simpa using he
    by_cases hN : a0_1 < 1099511627776
    · by_cases hO : a0_2 < 1099511627776
      · exact ⟨_, _, _, _, _, _, _, _, _, _, _, _, _, _, _, _, _, _, _, _, _, _, _, _, _, _, _, _, _, _, by simp only [hb, cond_true, decide_eq_true hN, decide_eq_true hO, Bool.and_self, hw2]; rfl, (f26_iff _ _ _ _ _ _ _ _ _ _ _ _ _ _ _ _ _ _ _ _ _ _ _ _ _ _ _ _ _).2 ⟨⟨by omega, by omega⟩, ⟨by omega, by omega⟩, ⟨by omega, by omega⟩, hq, hx, hy, hz⟩, fun h => h, Int.le_refl _, .inl ⟨rfl, .inl rfl⟩⟩
      · exact ⟨_, _, _, _, _, _, _, _, _, _, _, _, _, _, _, _, _, _, _, _, _, _, _, _, _, _, _, _, _, _, by simp only [hb, cond_true, decide_eq_false hO, Bool.and_false, cond_false]; rfl, hs, fun h => h, Int.le_refl _, .inl ⟨rfl, .inr ⟨.inr (by omega), rfl⟩⟩⟩
    · exact ⟨_, _, _, _, _, _, _, _, _, _, _, _, _, _, _, _, _, _, _, _, _, _, _, _, _, _, _, _, _, _, by simp only [hb, cond_true, decide_eq_false hN, Bool.false_and, cond_false]; rfl, hs, fun h => h, Int.le_refl _, .inl ⟨rfl, .inr ⟨.inl (by omega), rfl⟩⟩⟩
theorem keep1 (a0_0 : Int) (a0_1 : Int) (a0_2 : Int) (a0_3 : Int) (a0_4 : Int) (a0_5 : Int) (a0_6 : Int) (a0_7 : Int) (a0_8 : Int) (a0_9 : Int) (a0_10 : Bool) (a0_11 : Int) (a0_12 : Int) (a0_13 : Int) (a0_14 : Int) (a0_15 : Int) (a0_16 : Bool) (a0_17 : Int) (a0_18 : Int) (a0_19 : Int) (a0_20 : Int) (a0_21 : Int) (a0_22 : Bool) (a0_23 : Int) (a0_24 : Int) (a0_25 : Int) (a0_26 : Int) (a0_27 : Int) (a0_28 : Bool) (a1_0 a1_1 a1_2 a1_3 a1_4 a1_5 a1_6 a1_7 a1_8 a1_9 a1_10 a1_11 a1_12 a1_13 a1_14 a1_15 a1_16 a1_17 a1_18 a1_19 : Int) (a2_0 a2_2 a2_3 a2_4 : Int) (hs : f26 a0_0 a0_1 a0_2 a0_3 a0_4 a0_5 a0_6 a0_7 a0_8 a0_9 a0_10 a0_11 a0_12 a0_13 a0_14 a0_15 a0_16 a0_17 a0_18 a0_19 a0_20 a0_21 a0_22 a0_23 a0_24 a0_25 a0_26 a0_27 a0_28 = true) : ∃ b0 b1 b2 b3 b4 b5 b6 b7 b8 b9 b10 b11 b12 b13 b14 b15 b16 b17 b18 b19 b20 b21 b22 b23 b24 b25 b26 b27 b28 E, f24p1 a0_0 a0_1 a0_2 a0_3 a0_4 a0_5 a0_6 a0_7 a0_8 a0_9 a0_10 a0_11 a0_12 a0_13 a0_14 a0_15 a0_16 a0_17 a0_18 a0_19 a0_20 a0_21 a0_22 a0_23 a0_24 a0_25 a0_26 a0_27 a0_28 a1_0 a1_1 a1_2 a1_3 a1_4 a1_5 a1_6 a1_7 a1_8 a1_9 a1_10 a1_11 a1_12 a1_13 a1_14 a1_15 a1_16 a1_17 a1_18 a1_19 a2_0 a2_2 a2_3 a2_4 = (b0, b1, b2, b3, b4, b5, b6, b7, b8, b9, b10, b11, b12, b13, b14, b15, b16, b17, b18, b19, b20, b21, b22, b23, b24, b25, b26, b27, b28, E) ∧ f26 b0 b1 b2 b3 b4 b5 b6 b7 b8 b9 b10 b11 b12 b13 b14 b15 b16 b17 b18 b19 b20 b21 b22 b23 b24 b25 b26 b27 b28 = true ∧ ((a0_10 || a0_16 || a0_22 || a0_28) = true → (b10 || b16 || b22 || b28) = true) ∧ a0_0 ≤ b0 ∧ ((b1 = a0_1 ∧ (b2 = a0_2 + 1 ∨ ((1099511627776 ≤ a0_1 ∨ 1099511627776 ≤ a0_2) ∧ b2 = a0_2))) ∨ (b1 = a0_1 + 1 ∧ (b2 = a0_2 ∨ b2 = a0_2 + 1))) := by
  have hk := f60_as a0_0 a0_1 a0_2 a0_3 a0_4 a0_5 a0_6 a0_7 a0_8 a0_9 a0_10 a0_11 a0_12 a0_13 a0_14 a0_15 a0_16 a0_17 a0_18 a0_19 a0_20 a0_21 a0_22 a0_23 a0_24 a0_25 a0_26 a0_27 a0_28 hs
  obtain ⟨⟨t0, t1⟩, ⟨n0, n1⟩, ⟨o0, o1⟩, hq, hx, hy, hz⟩ := (f26_iff a0_0 a0_1 a0_2 a0_3 a0_4 a0_5 a0_6 a0_7 a0_8 a0_9 a0_10 a0_11 a0_12 a0_13 a0_14 a0_15 a0_16 a0_17 a0_18 a0_19 a0_20 a0_21 a0_22 a0_23 a0_24 a0_25 a0_26 a0_27 a0_28).1 hs
  have wn : ∀ m : Int, 0 ≤ m → m ≤ 1099511627776 → IntKind.i64.wrap (m + 1) = m + 1 := fun m h0 h1 => (rg_iff (k := .i64)).2 ⟨by simp only [loK]; omega, by simp only [hiK]; omega⟩
  have hw1 := wn a0_1 n0 n1
  have hw2 := wn a0_2 o0 o1
  have hrd := rd1 a0_0 a0_1 a0_2 a0_3 a0_4 a0_5 a0_6 a0_7 a0_8 a0_9 a0_10 a0_11 a0_12 a0_13 a0_14 a0_15 a0_16 a0_17 a0_18 a0_19 a0_20 a0_21 a0_22 a0_23 a0_24 a0_25 a0_26 a0_27 a0_28 a1_0 a1_1 a1_2 a1_3 a1_4 a1_5 a1_6 a1_7 a1_8 a1_9 a1_10 a1_11 a1_12 a1_13 a1_14 a1_15 a1_16 a1_17 a1_18 a1_19 a2_0 a2_2 a2_3 a2_4
  unfold f24p1
  simp only [hk]
  generalize f61 a0_0 a0_1 a0_2 a0_3 a0_4 a0_5 a0_6 a0_7 a0_8 a0_9 a0_10 a0_11 a0_12 a0_13 a0_14 a0_15 a0_16 a0_17 a0_18 a0_19 a0_20 a0_21 a0_22 a0_23 a0_24 a0_25 a0_26 a0_27 a0_28 a1_0 a1_1 a1_2 a1_3 a1_4 a1_5 a1_6 a1_7 a1_8 a1_9 a1_10 a1_11 a1_12 a1_13 a1_14 a1_15 a1_16 a1_17 a1_18 a1_19 a2_0 1 a2_2 a2_3 a2_4 = E at hrd ⊢
  by_cases he : E.snd.snd.snd = 0
  · obtain ⟨r0, r1, r2, r3, r4⟩ := hrd he
    generalize IntKind.i64.wrap (mnI (IntKind.i64.wrap (a2_0 - a0_0)) 16384 * 4194304) = D
    generalize f52 (f42 a0_3 a0_4 a0_5 a0_6 E.fst E.snd.fst E.snd.snd.fst).fst (f42 a0_3 a0_4 a0_5 a0_6 E.fst E.snd.fst E.snd.snd.fst).snd.fst (f42 a0_3 a0_4 a0_5 a0_6 E.fst E.snd.fst E.snd.snd.fst).snd.snd.fst 0 0 42119241033 = G
    obtain ⟨p0, v0, pp0, pv0, vv0, c0, e0, s0, g0⟩ := pred_sane a0_11 a0_12 a0_13 a0_14 a0_15 a0_16 G.fst D 1073741824
    obtain ⟨p1, v1, pp1, pv1, vv1, c1, e1, s1, g1⟩ := pred_sane a0_17 a0_18 a0_19 a0_20 a0_21 a0_22 G.snd.fst D 1073741824
    obtain ⟨p2, v2, pp2, pv2, vv2, c2, e2, s2, g2⟩ := pred_sane a0_23 a0_24 a0_25 a0_26 a0_27 a0_28 G.snd.snd.fst D 1073741824
    obtain ⟨u0, u1, u2, u3, x0, x1, x2, cb, eq, hsq, hx0, hx1, hx2, gb⟩ := level_sane a0_3 a0_4 a0_5 a0_6 a0_7 a0_8 a0_9 a0_10 E.fst E.snd.fst E.snd.snd.fst 67108864
    simp only [he, bne_self_eq_false, cond_false, Bool.cond_self, hw1, hw2, e0, e1, e2, eq]
    exact ⟨_, _, _, _, _, _, _, _, _, _, _, _, _, _, _, _, _, _, _, _, _, _, _, _, _, _, _, _, _, _, rfl, (f26_iff _ _ _ _ _ _ _ _ _ _ _ _ _ _ _ _ _ _ _ _ _ _ _ _ _ _ _ _ _).2 ⟨⟨by omega, by omega⟩, ⟨by omega, by omega⟩, ⟨by omega, by omega⟩, (f13_iff _ _ _ _ _ _ _ _).2 ⟨hsq, hx0, hx1, hx2⟩, s0, s1, s2⟩, (flags4 (fun h => gb (.inl h)) (fun h => g0 h) (fun h => g1 h) (fun h => g2 h)), r0, .inr ⟨rfl, .inl rfl⟩⟩
  · have hb : (E.snd.snd.snd != 0) = true := by simpa using he
    by_cases hN : a0_1 < 1099511627776
    · by_cases hO : a0_2 < 1099511627776
      · exact ⟨_, _, _, _, _, _, _, _, _, _, _, _, _, _, _, _, _, _, _, _, _, _, _, _, _, _, _, _, _, _, by simp only [hb, cond_true, decide_eq_true hN, decide_eq_true hO, Bool.and_self, hw2]; rfl, (f26_iff _ _ _ _ _ _ _ _ _ _ _ _ _ _ _ _ _ _ _ _ _ _ _ _ _ _ _ _ _).2 ⟨⟨by omega, by omega⟩, ⟨by omega, by omega⟩, ⟨by omega, by omega⟩, hq, hx, hy, hz⟩, fun h => h, Int.le_refl _, .inl ⟨rfl, .inl rfl⟩⟩
      · exact ⟨_, _, _, _, _, _, _, _, _, _, _, _, _, _, _, _, _, _, _, _, _, _, _, _, _, _, _, _, _, _, by simp only [hb, cond_true, decide_eq_false hO, Bool.and_false, cond_false]; rfl, hs, fun h => h, Int.le_refl _, .inl ⟨rfl, .inr ⟨.inr (by omega), rfl⟩⟩⟩
    · exact ⟨_, _, _, _, _, _, _, _, _, _, _, _, _, _, _, _, _, _, _, _, _, _, _, _, _, _, _, _, _, _, by simp only [hb, cond_true, decide_eq_false hN, Bool.false_and, cond_false]; rfl, hs, fun h => h, Int.le_refl _, .inl ⟨rfl, .inr ⟨.inl (by omega), rfl⟩⟩⟩
theorem keep2 (a0_0 : Int) (a0_1 : Int) (a0_2 : Int) (a0_3 : Int) (a0_4 : Int) (a0_5 : Int) (a0_6 : Int) (a0_7 : Int) (a0_8 : Int) (a0_9 : Int) (a0_10 : Bool) (a0_11 : Int) (a0_12 : Int) (a0_13 : Int) (a0_14 : Int) (a0_15 : Int) (a0_16 : Bool) (a0_17 : Int) (a0_18 : Int) (a0_19 : Int) (a0_20 : Int) (a0_21 : Int) (a0_22 : Bool) (a0_23 : Int) (a0_24 : Int) (a0_25 : Int) (a0_26 : Int) (a0_27 : Int) (a0_28 : Bool) (a1_0 a1_1 a1_2 a1_3 a1_4 a1_5 a1_6 a1_7 a1_8 a1_9 a1_10 a1_11 a1_12 a1_13 a1_14 a1_15 a1_16 a1_17 a1_18 a1_19 : Int) (a2_0 a2_2 a2_3 a2_4 : Int) (hs : f26 a0_0 a0_1 a0_2 a0_3 a0_4 a0_5 a0_6 a0_7 a0_8 a0_9 a0_10 a0_11 a0_12 a0_13 a0_14 a0_15 a0_16 a0_17 a0_18 a0_19 a0_20 a0_21 a0_22 a0_23 a0_24 a0_25 a0_26 a0_27 a0_28 = true) : ∃ b0 b1 b2 b3 b4 b5 b6 b7 b8 b9 b10 b11 b12 b13 b14 b15 b16 b17 b18 b19 b20 b21 b22 b23 b24 b25 b26 b27 b28 E, f24p2 a0_0 a0_1 a0_2 a0_3 a0_4 a0_5 a0_6 a0_7 a0_8 a0_9 a0_10 a0_11 a0_12 a0_13 a0_14 a0_15 a0_16 a0_17 a0_18 a0_19 a0_20 a0_21 a0_22 a0_23 a0_24 a0_25 a0_26 a0_27 a0_28 a1_0 a1_1 a1_2 a1_3 a1_4 a1_5 a1_6 a1_7 a1_8 a1_9 a1_10 a1_11 a1_12 a1_13 a1_14 a1_15 a1_16 a1_17 a1_18 a1_19 a2_0 a2_2 a2_3 a2_4 = (b0, b1, b2, b3, b4, b5, b6, b7, b8, b9, b10, b11, b12, b13, b14, b15, b16, b17, b18, b19, b20, b21, b22, b23, b24, b25, b26, b27, b28, E) ∧ f26 b0 b1 b2 b3 b4 b5 b6 b7 b8 b9 b10 b11 b12 b13 b14 b15 b16 b17 b18 b19 b20 b21 b22 b23 b24 b25 b26 b27 b28 = true ∧ ((a0_10 || a0_16 || a0_22 || a0_28) = true → (b10 || b16 || b22 || b28) = true) ∧ a0_0 ≤ b0 ∧ ((b1 = a0_1 ∧ (b2 = a0_2 + 1 ∨ ((1099511627776 ≤ a0_1 ∨ 1099511627776 ≤ a0_2) ∧ b2 = a0_2))) ∨ (b1 = a0_1 + 1 ∧ (b2 = a0_2 ∨ b2 = a0_2 + 1))) := by
  have hk := f60_as a0_0 a0_1 a0_2 a0_3 a0_4 a0_5 a0_6 a0_7 a0_8 a0_9 a0_10 a0_11 a0_12 a0_13 a0_14 a0_15 a0_16 a0_17 a0_18 a0_19 a0_20 a0_21 a0_22 a0_23 a0_24 a0_25 a0_26 a0_27 a0_28 hs
  obtain ⟨⟨t0, t1⟩, ⟨n0, n1⟩, ⟨o0, o1⟩, hq, hx, hy, hz⟩ := (f26_iff a0_0 a0_1 a0_2 a0_3 a0_4 a0_5 a0_6 a0_7 a0_8 a0_9 a0_10 a0_11 a0_12 a0_13 a0_14 a0_15 a0_16 a0_17 a0_18 a0_19 a0_20 a0_21 a0_22 a0_23 a0_24 a0_25 a0_26 a0_27 a0_28).1 hs
  have wn : ∀ m : Int, 0 ≤ m → m ≤ 1099511627776 → IntKind.i64.wrap (m + 1) = m + 1 := fun m h0 h1 => (rg_iff (k := .i64)).2 ⟨by simp only [loK]; omega, by simp only [hiK]; omega⟩
  have hw1 := wn a0_1 n0 n1
  have hw2 := wn a0_2 o0 o1
  have hrd := rd2 a0_0 a0_1 a0_2 a0_3 a0_4 a0_5 a0_6 a0_7 a0_8 a0_9 a0_10 a0_11 a0_12 a0_13 a0_14 a0_15 a0_16 a0_17 a0_18 a0_19 a0_20 a0_21 a0_22 a0_23 a0_24 a0_25 a0_26 a0_27 a0_28 a1_0 a1_1 a1_2 a1_3 a1_4 a1_5 a1_6 a1_7 a1_8 a1_9 a1_10 a1_11 a1_12 a1_13 a1_14 a1_15 a1_16 a1_17 a1_18 a1_19 a2_0 a2_2 a2_3 a2_4
  unfold f24p2
  simp only [hk]
  generalize f61 a0_0 a0_1 a0_2 a0_3 a0_4 a0_5 a0_6 a0_7 a0_8 a0_9 a0_10 a0_11 a0_12 a0_13 a0_14 a0_15 a0_16 a0_17 a0_18 a0_19 a0_20 a0_21 a0_22 a0_23 a0_24 a0_25 a0_26 a0_27 a0_28 a1_0 a1_1 a1_2 a1_3 a1_4 a1_5 a1_6 a1_7 a1_8 a1_9 a1_10 a1_11 a1_12 a1_13 a1_14 a1_15 a1_16 a1_17 a1_18 a1_19 a2_0 2 a2_2 a2_3 a2_4 = E at hrd ⊢
  by_cases he : E.snd.snd.snd = 0
  · obtain ⟨r0, r1, r2, r3, r4⟩ := hrd he
    generalize IntKind.i64.wrap (mnI (IntKind.i64.wrap (a2_0 - a0_0)) 16384 * 4194304) = D
    obtain ⟨p0, v0, pp0, pv0, vv0, c0, e0, s0, g0⟩ := pred_sane a0_11 a0_12 a0_13 a0_14 a0_15 a0_16 0 D 1073741824
    obtain ⟨p1, v1, pp1, pv1, vv1, c1, e1, s1, g1⟩ := pred_sane a0_17 a0_18 a0_19 a0_20 a0_21 a0_22 0 D 1073741824
    obtain ⟨p2, v2, pp2, pv2, vv2, c2, e2, s2, g2⟩ := pred_sane a0_23 a0_24 a0_25 a0_26 a0_27 a0_28 0 D 1073741824
    simp only [e0, e1, e2]
    obtain ⟨y0, yv0, yp0, yq0, yw0, d0, i0, m0, ms0, mg0⟩ := upd_sane p0 v0 pp0 pv0 vv0 c0 E.fst 4294967296 68719476736
    obtain ⟨y1, yv1, yp1, yq1, yw1, d1, i1, m1, ms1, mg1⟩ := upd_sane p1 v1 pp1 pv1 vv1 c1 E.snd.fst 4294967296 68719476736
    obtain ⟨y2, yv2, yp2, yq2, yw2, d2, i2, m2, ms2, mg2⟩ := upd_sane p2 v2 pp2 pv2 vv2 c2 E.snd.snd.fst 4294967296 68719476736
    simp only [he, bne_self_eq_false, cond_false, Bool.cond_self, hw1, hw2, m0, m1, m2]
    generalize (!(i0 && i1 && i2)) = X
    cases X
    · simp only [cond_true, cond_false]
      exact ⟨_, _, _, _, _, _, _, _, _, _, _, _, _, _, _, _, _, _, _, _, _, _, _, _, _, _, _, _, _, _, rfl, (f26_iff _ _ _ _ _ _ _ _ _ _ _ _ _ _ _ _ _ _ _ _ _ _ _ _ _ _ _ _ _).2 ⟨⟨by omega, by omega⟩, ⟨by omega, by omega⟩, ⟨by omega, by omega⟩, hq, ms0, ms1, ms2⟩, (flags4 (fun h => h) (fun h => mg0 (g0 h)) (fun h => mg1 (g1 h)) (fun h => mg2 (g2 h))), r0, .inr ⟨rfl, .inl rfl⟩⟩
    · simp only [cond_true, cond_false]
      exact ⟨_, _, _, _, _, _, _, _, _, _, _, _, _, _, _, _, _, _, _, _, _, _, _, _, _, _, _, _, _, _, rfl, (f26_iff _ _ _ _ _ _ _ _ _ _ _ _ _ _ _ _ _ _ _ _ _ _ _ _ _ _ _ _ _).2 ⟨⟨by omega, by omega⟩, ⟨by omega, by omega⟩, ⟨by omega, by omega⟩, hq, ms0, ms1, ms2⟩, (flags4 (fun h => h) (fun h => mg0 (g0 h)) (fun h => mg1 (g1 h)) (fun h => mg2 (g2 h))), r0, .inr ⟨rfl, .inr rfl⟩⟩
  · have hb : (E.snd.snd.snd != 0) = true := by simpa using he
    by_cases hN : a0_1 < 1099511627776
    · by_cases hO : a0_2 < 1099511627776
      · exact ⟨_, _, _, _, _, _, _, _, _, _, _, _, _, _, _, _, _, _, _, _, _, _, _, _, _, _, _, _, _, _, by simp only [hb, cond_true, decide_eq_true hN, decide_eq_true hO, Bool.and_self, hw2]; rfl, (f26_iff _ _ _ _ _ _ _ _ _ _ _ _ _ _ _ _ _ _ _ _ _ _ _ _ _ _ _ _ _).2 ⟨⟨by omega, by omega⟩, ⟨by omega, by omega⟩, ⟨by omega, by omega⟩, hq, hx, hy, hz⟩, fun h => h, Int.le_refl _, .inl ⟨rfl, .inl rfl⟩⟩
      · exact ⟨_, _, _, _, _, _, _, _, _, _, _, _, _, _, _, _, _, _, _, _, _, _, _, _, _, _, _, _, _, _, by simp only [hb, cond_true, decide_eq_false hO, Bool.and_false, cond_false]; rfl, hs, fun h => h, Int.le_refl _, .inl ⟨rfl, .inr ⟨.inr (by omega), rfl⟩⟩⟩
    · exact ⟨_, _, _, _, _, _, _, _, _, _, _, _, _, _, _, _, _, _, _, _, _, _, _, _, _, _, _, _, _, _, by simp only [hb, cond_true, decide_eq_false hN, Bool.false_and, cond_false]; rfl, hs, fun h => h, Int.le_refl _, .inl ⟨rfl, .inr ⟨.inl (by omega), rfl⟩⟩⟩
theorem keep3 (a0_0 : Int) (a0_1 : Int) (a0_2 : Int) (a0_3 : Int) (a0_4 : Int) (a0_5 : Int) (a0_6 : Int) (a0_7 : Int) (a0_8 : Int) (a0_9 : Int) (a0_10 : Bool) (a0_11 : Int) (a0_12 : Int) (a0_13 : Int) (a0_14 : Int) (a0_15 : Int) (a0_16 : Bool) (a0_17 : Int) (a0_18 : Int) (a0_19 : Int) (a0_20 : Int) (a0_21 : Int) (a0_22 : Bool) (a0_23 : Int) (a0_24 : Int) (a0_25 : Int) (a0_26 : Int) (a0_27 : Int) (a0_28 : Bool) (a1_0 a1_1 a1_2 a1_3 a1_4 a1_5 a1_6 a1_7 a1_8 a1_9 a1_10 a1_11 a1_12 a1_13 a1_14 a1_15 a1_16 a1_17 a1_18 a1_19 : Int) (a2_0 a2_2 a2_3 a2_4 : Int) (hs : f26 a0_0 a0_1 a0_2 a0_3 a0_4 a0_5 a0_6 a0_7 a0_8 a0_9 a0_10 a0_11 a0_12 a0_13 a0_14 a0_15 a0_16 a0_17 a0_18 a0_19 a0_20 a0_21 a0_22 a0_23 a0_24 a0_25 a0_26 a0_27 a0_28 = true) : ∃ b0 b1 b2 b3 b4 b5 b6 b7 b8 b9 b10 b11 b12 b13 b14 b15 b16 b17 b18 b19 b20 b21 b22 b23 b24 b25 b26 b27 b28 E, f24p3 a0_0 a0_1 a0_2 a0_3 a0_4 a0_5 a0_6 a0_7 a0_8 a0_9 a0_10 a0_11 a0_12 a0_13 a0_14 a0_15 a0_16 a0_17 a0_18 a0_19 a0_20 a0_21 a0_22 a0_23 a0_24 a0_25 a0_26 a0_27 a0_28 a1_0 a1_1 a1_2 a1_3 a1_4 a1_5 a1_6 a1_7 a1_8 a1_9 a1_10 a1_11 a1_12 a1_13 a1_14 a1_15 a1_16 a1_17 a1_18 a1_19 a2_0 a2_2 a2_3 a2_4 = (b0, b1, b2, b3, b4, b5, b6, b7, b8, b9, b10, b11, b12, b13, b14, b15, b16, b17, b18, b19, b20, b21, b22, b23, b24, b25, b26, b27, b28, E) ∧ f26 b0 b1 b2 b3 b4 b5 b6 b7 b8 b9 b10 b11 b12 b13 b14 b15 b16 b17 b18 b19 b20 b21 b22 b23 b24 b25 b26 b27 b28 = true ∧ ((a0_10 || a0_16 || a0_22 || a0_28) = true → (b10 || b16 || b22 || b28) = true) ∧ a0_0 ≤ b0 ∧ ((b1 = a0_1 ∧ (b2 = a0_2 + 1 ∨ ((1099511627776 ≤ a0_1 ∨ 1099511627776 ≤ a0_2) ∧ b2 = a0_2))) ∨ (b1 = a0_1 + 1 ∧ (b2 = a0_2 ∨ b2 = a0_2 + 1))) := by
  have hk := f60_as a0_0 a0_1 a0_2 a0_3 a0_4 a0_5 a0_6 a0_7 a0_8 a0_9 a0_10 a0_11 a0_12 a0_13 a0_14 a0_15 a0_16 a0_17 a0_18 a0_19 a0_20 a0_21 a0_22 a0_23 a0_24 a0_25 a0_26 a0_27 a0_28 hs
  obtain ⟨⟨t0, t1⟩, ⟨n0, n1⟩, ⟨o0, o1⟩, hq, hx, hy, hz⟩ := (f26_iff a0_0 a0_1 a0_2 a0_3 a0_4 a0_5 a0_6 a0_7 a0_8 a0_9 a0_10 a0_11 a0_12 a0_13 a0_14 a0_15 a0_16 a0_17 a0_18 a0_19 a0_20 a0_21 a0_22 a0_23 a0_24 a0_25 a0_26 a0_27 a0_28).1 hs
  have wn : ∀ m : Int, 0 ≤ m → m ≤ 1099511627776 → IntKind.i64.wrap (m + 1) = m + 1 := fun m h0 h1 => (rg_iff (k := .i64)).2 ⟨by simp only [loK]; omega, by simp only [hiK]; omega⟩
  have hw1 := wn a0_1 n0 n1
  have hw2 := wn a0_2 o0 o1
  have hrd := rd3 a0_0 a0_1 a0_2 a0_3 a0_4 a0_5 a0_6 a0_7 a0_8 a0_9 a0_10 a0_11 a0_12 a0_13 a0_14 a0_15 a0_16 a0_17 a0_18 a0_19 a0_20 a0_21 a0_22 a0_23 a0_24 a0_25 a0_26 a0_27 a0_28 a1_0 a1_1 a1_2 a1_3 a1_4 a1_5 a1_6 a1_7 a1_8 a1_9 a1_10 a1_11 a1_12 a1_13 a1_14 a1_15 a1_16 a1_17 a1_18 a1_19 a2_0 a2_2 a2_3 a2_4
  unfold f24p3
  simp only [hk]
  generalize f61 a0_0 a0_1 a0_2 a0_3 a0_4 a0_5 a0_6 a0_7 a0_8 a0_9 a0_10 a0_11 a0_12 a0_13 a0_14 a0_15 a0_16 a0_17 a0_18 a0_19 a0_20 a0_21 a0_22 a0_23 a0_24 a0_25 a0_26 a0_27 a0_28 a1_0 a1_1 a1_2 a1_3 a1_4 a1_5 a1_6 a1_7 a1_8 a1_9 a1_10 a1_11 a1_12 a1_13 a1_14 a1_15 a1_16 a1_17 a1_18 a1_19 a2_0 3 a2_2 a2_3 a2_4 = E at hrd ⊢
  by_cases he : E.snd.snd.snd = 0
  · obtain ⟨r0, r1, r2, r3, r4⟩ := hrd he
    generalize IntKind.i64.wrap (mnI (IntKind.i64.wrap (a2_0 - a0_0)) 16384 * 4194304) = D
    obtain ⟨p0, v0, pp0, pv0, vv0, c0, e0, s0, g0⟩ := pred_sane a0_11 a0_12 a0_13 a0_14 a0_15 a0_16 0 D 1073741824
    obtain ⟨p1, v1, pp1, pv1, vv1, c1, e1, s1, g1⟩ := pred_sane a0_17 a0_18 a0_19 a0_20 a0_21 a0_22 0 D 1073741824
    obtain ⟨p2, v2, pp2, pv2, vv2, c2, e2, s2, g2⟩ := pred_sane a0_23 a0_24 a0_25 a0_26 a0_27 a0_28 0 D 1073741824
    simp only [e0, e1, e2]
    obtain ⟨y2, yv2, yp2, yq2, yw2, d2, i2, m2, ms2, mg2⟩ := upd_sane p2 v2 pp2 pv2 vv2 c2 E.fst 1073741824 68719476736
    simp only [he, bne_self_eq_false, cond_false, Bool.cond_self, hw1, hw2, m2]
    generalize (!i2) = X
    cases X
    · simp only [cond_true, cond_false]
      exact ⟨_, _, _, _, _, _, _, _, _, _, _, _, _, _, _, _, _, _, _, _, _, _, _, _, _, _, _, _, _, _, rfl, (f26_iff _ _ _ _ _ _ _ _ _ _ _ _ _ _ _ _ _ _ _ _ _ _ _ _ _ _ _ _ _).2 ⟨⟨by omega, by omega⟩, ⟨by omega, by omega⟩, ⟨by omega, by omega⟩, hq, s0, s1, ms2⟩, (flags4 (fun h => h) (fun h => g0 h) (fun h => g1 h) (fun h => mg2 (g2 h))), r0, .inr ⟨rfl, .inl rfl⟩⟩
    · simp only [cond_true, cond_false]
      exact ⟨_, _, _, _, _, _, _, _, _, _, _, _, _, _, _, _, _, _, _, _, _, _, _, _, _, _, _, _, _, _, rfl, (f26_iff _ _ _ _ _ _ _ _ _ _ _ _ _ _ _ _ _ _ _ _ _ _ _ _ _ _ _ _ _).2 ⟨⟨by omega, by omega⟩, ⟨by omega, by omega⟩, ⟨by omega, by omega⟩, hq, s0, s1, ms2⟩, (flags4 (fun h => h) (fun h => g0 h) (fun h => g1 h) (fun h => mg2 (g2 h))), r0, .inr ⟨rfl, .inr rfl⟩⟩
  · have hb : (E.snd.snd.snd != 0) = true := by simpa using he
    by_cases hN : a0_1 < 1099511627776
    · by_cases hO : a0_2 < 1099511627776
      · exact ⟨_, _, _, _, _, _, _, _, _, _, _, _, _, _, _, _, _, _, _, _, _, _, _, _, _, _, _, _, _, _, by simp only [hb, cond_true, decide_eq_true hN, decide_eq_true hO, Bool.and_self, hw2]; rfl, (f26_iff _ _ _ _ _ _ _ _ _ _ _ _ _ _ _ _ _ _ _ _ _ _ _ _ _ _ _ _ _).2 ⟨⟨by omega, by omega⟩, ⟨by omega, by omega⟩, ⟨by omega, by omega⟩, hq, hx, hy, hz⟩, fun h => h, Int.le_refl _, .inl ⟨rfl, .inl rfl⟩⟩
      · exact ⟨_, _, _, _, _, _, _, _, _, _, _, _, _, _, _, _, _, _, _, _, _, _, _, _, _, _, _, _, _, _, by simp only [hb, cond_true, decide_eq_false hO, Bool.and_false, cond_false]; rfl, hs, fun h => h, Int.le_refl _, .inl ⟨rfl, .inr ⟨.inr (by omega), rfl⟩⟩⟩
    · exact ⟨_, _, _, _, _, _, _, _, _, _, _, _, _, _, _, _, _, _, _, _, _, _, _, _, _, _, _, _, _, _, by simp only [hb, cond_true, decide_eq_false hN, Bool.false_and, cond_false]; rfl, hs, fun h => h, Int.le_refl _, .inl ⟨rfl, .inr ⟨.inl (by omega), rfl⟩⟩⟩
theorem keepe (a0_0 : Int) (a0_1 : Int) (a0_2 : Int) (a0_3 : Int) (a0_4 : Int) (a0_5 : Int) (a0_6 : Int) (a0_7 : Int) (a0_8 : Int) (a0_9 : Int) (a0_10 : Bool) (a0_11 : Int) (a0_12 : Int) (a0_13 : Int) (a0_14 : Int) (a0_15 : Int) (a0_16 : Bool) (a0_17 : Int) (a0_18 : Int) (a0_19 : Int) (a0_20 : Int) (a0_21 : Int) (a0_22 : Bool) (a0_23 : Int) (a0_24 : Int) (a0_25 : Int) (a0_26 : Int) (a0_27 : Int) (a0_28 : Bool) (a1_0 a1_1 a1_2 a1_3 a1_4 a1_5 a1_6 a1_7 a1_8 a1_9 a1_10 a1_11 a1_12 a1_13 a1_14 a1_15 a1_16 a1_17 a1_18 a1_19 : Int) (a2_0 a2_1 a2_2 a2_3 a2_4 : Int) (hs : f26 a0_0 a0_1 a0_2 a0_3 a0_4 a0_5 a0_6 a0_7 a0_8 a0_9 a0_10 a0_11 a0_12 a0_13 a0_14 a0_15 a0_16 a0_17 a0_18 a0_19 a0_20 a0_21 a0_22 a0_23 a0_24 a0_25 a0_26 a0_27 a0_28 = true) : ∃ b0 b1 b2 b3 b4 b5 b6 b7 b8 b9 b10 b11 b12 b13 b14 b15 b16 b17 b18 b19 b20 b21 b22 b23 b24 b25 b26 b27 b28 E, f24pe a0_0 a0_1 a0_2 a0_3 a0_4 a0_5 a0_6 a0_7 a0_8 a0_9 a0_10 a0_11 a0_12 a0_13 a0_14 a0_15 a0_16 a0_17 a0_18 a0_19 a0_20 a0_21 a0_22 a0_23 a0_24 a0_25 a0_26 a0_27 a0_28 a1_0 a1_1 a1_2 a1_3 a1_4 a1_5 a1_6 a1_7 a1_8 a1_9 a1_10 a1_11 a1_12 a1_13 a1_14 a1_15 a1_16 a1_17 a1_18 a1_19 a2_0 a2_1 a2_2 a2_3 a2_4 = (b0, b1, b2, b3, b4, b5, b6, b7, b8, b9, b10, b11, b12, b13, b14, b15, b16, b17, b18, b19, b20, b21, b22, b23, b24, b25, b26, b27, b28, E) ∧ f26 b0 b1 b2 b3 b4 b5 b6 b7 b8 b9 b10 b11 b12 b13 b14 b15 b16 b17 b18 b19 b20 b21 b22 b23 b24 b25 b26 b27 b28 = true ∧ ((a0_10 || a0_16 || a0_22 || a0_28) = true → (b10 || b16 || b22 || b28) = true) ∧ a0_0 ≤ b0 ∧ ((b1 = a0_1 ∧ (b2 = a0_2 + 1 ∨ ((1099511627776 ≤ a0_1 ∨ 1099511627776 ≤ a0_2) ∧ b2 = a0_2))) ∨ (b1 = a0_1 + 1 ∧ (b2 = a0_2 ∨ b2 = a0_2 + 1))) := by
  have hk := f60_as a0_0 a0_1 a0_2 a0_3 a0_4 a0_5 a0_6 a0_7 a0_8 a0_9 a0_10 a0_11 a0_12 a0_13 a0_14 a0_15 a0_16 a0_17 a0_18 a0_19 a0_20 a0_21 a0_22 a0_23 a0_24 a0_25 a0_26 a0_27 a0_28 hs
  obtain ⟨⟨t0, t1⟩, ⟨n0, n1⟩, ⟨o0, o1⟩, hq, hx, hy, hz⟩ := (f26_iff a0_0 a0_1 a0_2 a0_3 a0_4 a0_5 a0_6 a0_7 a0_8 a0_9 a0_10 a0_11 a0_12 a0_13 a0_14 a0_15 a0_16 a0_17 a0_18 a0_19 a0_20 a0_21 a0_22 a0_23 a0_24 a0_25 a0_26 a0_27 a0_28).1 hs
  have wn : ∀ m : Int, 0 ≤ m → m ≤ 1099511627776 → IntKind.i64.wrap (m + 1) = m + 1 := fun m h0 h1 => (rg_iff (k := .i64)).2 ⟨by simp only [loK]; omega, by simp only [hiK]; omega⟩
  have hw1 := wn a0_1 n0 n1
  have hw2 := wn a0_2 o0 o1
  unfold f24pe
  simp only [hk]
  by_cases hN : a0_1 < 1099511627776
  · by_cases hO : a0_2 < 1099511627776
    · exact ⟨_, _, _, _, _, _, _, _, _, _, _, _, _, _, _, _, _, _, _, _, _, _, _, _, _, _, _, _, _, _, by simp only [decide_eq_true hN, decide_eq_true hO, Bool.and_self, cond_true, hw2]; rfl, (f26_iff _ _ _ _ _ _ _ _ _ _ _ _ _ _ _ _ _ _ _ _ _ _ _ _ _ _ _ _ _).2 ⟨⟨by omega, by omega⟩, ⟨by omega, by omega⟩, ⟨by omega, by omega⟩, hq, hx, hy, hz⟩, fun h => h, Int.le_refl _, .inl ⟨rfl, .inl rfl⟩⟩
    · exact ⟨_, _, _, _, _, _, _, _, _, _, _, _, _, _, _, _, _, _, _, _, _, _, _, _, _, _, _, _, _, _, by simp only [decide_eq_false hO, Bool.and_false, cond_false]; rfl, hs, fun h => h, Int.le_refl _, .inl ⟨rfl, .inr ⟨.inr (by omega), rfl⟩⟩⟩
  · exact ⟨_, _, _, _, _, _, _, _, _, _, _, _, _, _, _, _, _, _, _, _, _, _, _, _, _, _, _, _, _, _, by simp only [decide_eq_false hN, Bool.false_and, cond_false]; rfl, hs, fun h => h, Int.le_refl _, .inl ⟨rfl, .inr ⟨.inl (by omega), rfl⟩⟩⟩
theorem keep (a0_0 : Int) (a0_1 : Int) (a0_2 : Int) (a0_3 : Int) (a0_4 : Int) (a0_5 : Int) (a0_6 : Int) (a0_7 : Int) (a0_8 : Int) (a0_9 : Int) (a0_10 : Bool) (a0_11 : Int) (a0_12 : Int) (a0_13 : Int) (a0_14 : Int) (a0_15 : Int) (a0_16 : Bool) (a0_17 : Int) (a0_18 : Int) (a0_19 : Int) (a0_20 : Int) (a0_21 : Int) (a0_22 : Bool) (a0_23 : Int) (a0_24 : Int) (a0_25 : Int) (a0_26 : Int) (a0_27 : Int) (a0_28 : Bool) (a1_0 a1_1 a1_2 a1_3 a1_4 a1_5 a1_6 a1_7 a1_8 a1_9 a1_10 a1_11 a1_12 a1_13 a1_14 a1_15 a1_16 a1_17 a1_18 a1_19 : Int) (a2_0 a2_1 a2_2 a2_3 a2_4 : Int) (hs : f26 a0_0 a0_1 a0_2 a0_3 a0_4 a0_5 a0_6 a0_7 a0_8 a0_9 a0_10 a0_11 a0_12 a0_13 a0_14 a0_15 a0_16 a0_17 a0_18 a0_19 a0_20 a0_21 a0_22 a0_23 a0_24 a0_25 a0_26 a0_27 a0_28 = true) : ∃ b0 b1 b2 b3 b4 b5 b6 b7 b8 b9 b10 b11 b12 b13 b14 b15 b16 b17 b18 b19 b20 b21 b22 b23 b24 b25 b26 b27 b28 E, f24 a0_0 a0_1 a0_2 a0_3 a0_4 a0_5 a0_6 a0_7 a0_8 a0_9 a0_10 a0_11 a0_12 a0_13 a0_14 a0_15 a0_16 a0_17 a0_18 a0_19 a0_20 a0_21 a0_22 a0_23 a0_24 a0_25 a0_26 a0_27 a0_28 a1_0 a1_1 a1_2 a1_3 a1_4 a1_5 a1_6 a1_7 a1_8 a1_9 a1_10 a1_11 a1_12 a1_13 a1_14 a1_15 a1_16 a1_17 a1_18 a1_19 a2_0 a2_1 a2_2 a2_3 a2_4 = (b0, b1, b2, b3, b4, b5, b6, b7, b8, b9, b10, b11, b12, b13, b14, b15, b16, b17, b18, b19, b20, b21, b22, b23, b24, b25, b26, b27, b28, E) ∧ f26 b0 b1 b2 b3 b4 b5 b6 b7 b8 b9 b10 b11 b12 b13 b14 b15 b16 b17 b18 b19 b20 b21 b22 b23 b24 b25 b26 b27 b28 = true ∧ ((a0_10 || a0_16 || a0_22 || a0_28) = true → (b10 || b16 || b22 || b28) = true) ∧ a0_0 ≤ b0 ∧ ((b1 = a0_1 ∧ (b2 = a0_2 + 1 ∨ ((1099511627776 ≤ a0_1 ∨ 1099511627776 ≤ a0_2) ∧ b2 = a0_2))) ∨ (b1 = a0_1 + 1 ∧ (b2 = a0_2 ∨ b2 = a0_2 + 1))) := by
  unfold f24
  cases (a2_1 == 0)
  · cases (a2_1 == 1)
    · cases (a2_1 == 2)
      · cases (a2_1 == 3)
        · simp only [cond_false]; exact keepe a0_0 a0_1 a0_2 a0_3 a0_4 a0_5 a0_6 a0_7 a0_8 a0_9 a0_10 a0_11 a0_12 a0_13 a0_14 a0_15 a0_16 a0_17 a0_18 a0_19 a0_20 a0_21 a0_22 a0_23 a0_24 a0_25 a0_26 a0_27 a0_28 a1_0 a1_1 a1_2 a1_3 a1_4 a1_5 a1_6 a1_7 a1_8 a1_9 a1_10 a1_11 a1_12 a1_13 a1_14 a1_15 a1_16 a1_17 a1_18 a1_19 a2_0 a2_1 a2_2 a2_3 a2_4 hs
        · simp only [cond_true, cond_false]; exact keep3 a0_0 a0_1 a0_2 a0_3 a0_4 a0_5 a0_6 a0_7 a0_8 a0_9 a0_10 a0_11 a0_12 a0_13 a0_14 a0_15 a0_16 a0_17 a0_18 a0_19 a0_20 a0_21 a0_22 a0_23 a0_24 a0_25 a0_26 a0_27 a0_28 a1_0 a1_1 a1_2 a1_3 a1_4 a1_5 a1_6 a1_7 a1_8 a1_9 a1_10 a1_11 a1_12 a1_13 a1_14 a1_15 a1_16 a1_17 a1_18 a1_19 a2_0 a2_2 a2_3 a2_4 hs
      · simp only [cond_true, cond_false]; exact keep2 a0_0 a0_1 a0_2 a0_3 a0_4 a0_5 a0_6 a0_7 a0_8 a0_9 a0_10 a0_11 a0_12 a0_13 a0_14 a0_15 a0_16 a0_17 a0_18 a0_19 a0_20 a0_21 a0_22 a0_23 a0_24 a0_25 a0_26 a0_27 a0_28 a1_0 a1_1 a1_2 a1_3 a1_4 a1_5 a1_6 a1_7 a1_8 a1_9 a1_10 a1_11 a1_12 a1_13 a1_14 a1_15 a1_16 a1_17 a1_18 a1_19 a2_0 a2_2 a2_3 a2_4 hs
    · simp only [cond_true, cond_false]; exact keep1 a0_0 a0_1 a0_2 a0_3 a0_4 a0_5 a0_6 a0_7 a0_8 a0_9 a0_10 a0_11 a0_12 a0_13 a0_14 a0_15 a0_16 a0_17 a0_18 a0_19 a0_20 a0_21 a0_22 a0_23 a0_24 a0_25 a0_26 a0_27 a0_28 a1_0 a1_1 a1_2 a1_3 a1_4 a1_5 a1_6 a1_7 a1_8 a1_9 a1_10 a1_11 a1_12 a1_13 a1_14 a1_15 a1_16 a1_17 a1_18 a1_19 a2_0 a2_2 a2_3 a2_4 hs
  · simp only [cond_true, cond_false]; exact keep0 a0_0 a0_1 a0_2 a0_3 a0_4 a0_5 a0_6 a0_7 a0_8 a0_9 a0_10 a0_11 a0_12 a0_13 a0_14 a0_15 a0_16 a0_17 a0_18 a0_19 a0_20 a0_21 a0_22 a0_23 a0_24 a0_25 a0_26 a0_27 a0_28 a1_0 a1_1 a1_2 a1_3 a1_4 a1_5 a1_6 a1_7 a1_8 a1_9 a1_10 a1_11 a1_12 a1_13 a1_14 a1_15 a1_16 a1_17 a1_18 a1_19 a2_0 a2_2 a2_3 a2_4 hs
def Sn (p : T29) : Prop := f26 p.1 p.2.1 p.2.2.1 p.2.2.2.1 p.2.2.2.2.1 p.2.2.2.2.2.1 p.2.2.2.2.2.2.1 p.2.2.2.2.2.2.2.1 p.2.2.2.2.2.2.2.2.1 p.2.2.2.2.2.2.2.2.2.1 p.2.2.2.2.2.2.2.2.2.2.1 p.2.2.2.2.2.2.2.2.2.2.2.1 p.2.2.2.2.2.2.2.2.2.2.2.2.1 p.2.2.2.2.2.2.2.2.2.2.2.2.2.1 p.2.2.2.2.2.2.2.2.2.2.2.2.2.2.1 p.2.2.2.2.2.2.2.2.2.2.2.2.2.2.2.1 p.2.2.2.2.2.2.2.2.2.2.2.2.2.2.2.2.1 p.2.2.2.2.2.2.2.2.2.2.2.2.2.2.2.2.2.1 p.2.2.2.2.2.2.2.2.2.2.2.2.2.2.2.2.2.2.1 p.2.2.2.2.2.2.2.2.2.2.2.2.2.2.2.2.2.2.2.1 p.2.2.2.2.2.2.2.2.2.2.2.2.2.2.2.2.2.2.2.2.1 p.2.2.2.2.2.2.2.2.2.2.2.2.2.2.2.2.2.2.2.2.2.1 p.2.2.2.2.2.2.2.2.2.2.2.2.2.2.2.2.2.2.2.2.2.2.1 p.2.2.2.2.2.2.2.2.2.2.2.2.2.2.2.2.2.2.2.2.2.2.2.1 p.2.2.2.2.2.2.2.2.2.2.2.2.2.2.2.2.2.2.2.2.2.2.2.2.1 p.2.2.2.2.2.2.2.2.2.2.2.2.2.2.2.2.2.2.2.2.2.2.2.2.2.1 p.2.2.2.2.2.2.2.2.2.2.2.2.2.2.2.2.2.2.2.2.2.2.2.2.2.2.1 p.2.2.2.2.2.2.2.2.2.2.2.2.2.2.2.2.2.2.2.2.2.2.2.2.2.2.2.1 p.2.2.2.2.2.2.2.2.2.2.2.2.2.2.2.2.2.2.2.2.2.2.2.2.2.2.2.2 = true
def Bd (p : T29) : Bool := p.2.2.2.2.2.2.2.2.2.2.1 || p.2.2.2.2.2.2.2.2.2.2.2.2.2.2.2.2.1 || p.2.2.2.2.2.2.2.2.2.2.2.2.2.2.2.2.2.2.2.2.2.2.1 || p.2.2.2.2.2.2.2.2.2.2.2.2.2.2.2.2.2.2.2.2.2.2.2.2.2.2.2.2
/-- what a sample makes of the counts -/
def Cn (p y : T29) : Prop := p.1 ≤ y.1 ∧ ((y.2.1 = p.2.1 ∧ (y.2.2.1 = p.2.2.1 + 1 ∨ ((1099511627776 ≤ p.2.1 ∨ 1099511627776 ≤ p.2.2.1) ∧ y.2.2.1 = p.2.2.1))) ∨ (y.2.1 = p.2.1 + 1 ∧ (y.2.2.1 = p.2.2.1 ∨ y.2.2.1 = p.2.2.1 + 1)))
theorem step_keeps (c : C20) (p : T29) (s : S5) (h : Sn p) : Sn (stepR c p s) ∧ (Bd p = true → Bd (stepR c p s) = true) ∧ Cn p (stepR c p s) := by
  obtain ⟨b0, b1, b2, b3, b4, b5, b6, b7, b8, b9, b10, b11, b12, b13, b14, b15, b16, b17, b18, b19, b20, b21, b22, b23, b24, b25, b26, b27, b28, E, he, h1, h2, h3, h4⟩ := keep p.1 p.2.1 p.2.2.1 p.2.2.2.1 p.2.2.2.2.1 p.2.2.2.2.2.1 p.2.2.2.2.2.2.1 p.2.2.2.2.2.2.2.1 p.2.2.2.2.2.2.2.2.1 p.2.2.2.2.2.2.2.2.2.1 p.2.2.2.2.2.2.2.2.2.2.1 p.2.2.2.2.2.2.2.2.2.2.2.1 p.2.2.2.2.2.2.2.2.2.2.2.2.1 p.2.2.2.2.2.2.2.2.2.2.2.2.2.1 p.2.2.2.2.2.2.2.2.2.2.2.2.2.2.1 p.2.2.2.2.2.2.2.2.2.2.2.2.2.2.2.1 p.2.2.2.2.2.2.2.2.2.2.2.2.2.2.2.2.1 p.2.2.2.2.2.2.2.2.2.2.2.2.2.2.2.2.2.1 p.2.2.2.2.2.2.2.2.2.2.2.2.2.2.2.2.2.2.1 p.2.2.2.2.2.2.2.2.2.2.2.2.2.2.2.2.2.2.2.1 p.2.2.2.2.2.2.2.2.2.2.2.2.2.2.2.2.2.2.2.2.1 p.2.2.2.2.2.2.2.2.2.2.2.2.2.2.2.2.2.2.2.2.2.1 p.2.2.2.2.2.2.2.2.2.2.2.2.2.2.2.2.2.2.2.2.2.2.1 p.2.2.2.2.2.2.2.2.2.2.2.2.2.2.2.2.2.2.2.2.2.2.2.1 p.2.2.2.2.2.2.2.2.2.2.2.2.2.2.2.2.2.2.2.2.2.2.2.2.1 p.2.2.2.2.2.2.2.2.2.2.2.2.2.2.2.2.2.2.2.2.2.2.2.2.2.1 p.2.2.2.2.2.2.2.2.2.2.2.2.2.2.2.2.2.2.2.2.2.2.2.2.2.2.1 p.2.2.2.2.2.2.2.2.2.2.2.2.2.2.2.2.2.2.2.2.2.2.2.2.2.2.2.1 p.2.2.2.2.2.2.2.2.2.2.2.2.2.2.2.2.2.2.2.2.2.2.2.2.2.2.2.2 c.1 c.2.1 c.2.2.1 c.2.2.2.1 c.2.2.2.2.1 c.2.2.2.2.2.1 c.2.2.2.2.2.2.1 c.2.2.2.2.2.2.2.1 c.2.2.2.2.2.2.2.2.1 c.2.2.2.2.2.2.2.2.2.1 c.2.2.2.2.2.2.2.2.2.2.1 c.2.2.2.2.2.2.2.2.2.2.2.1 c.2.2.2.2.2.2.2.2.2.2.2.2.1 c.2.2.2.2.2.2.2.2.2.2.2.2.2.1 c.2.2.2.2.2.2.2.2.2.2.2.2.2.2.1 c.2.2.2.2.2.2.2.2.2.2.2.2.2.2.2.1 c.2.2.2.2.2.2.2.2.2.2.2.2.2.2.2.2.1 c.2.2.2.2.2.2.2.2.2.2.2.2.2.2.2.2.2.1 c.2.2.2.2.2.2.2.2.2.2.2.2.2.2.2.2.2.2.1 c.2.2.2.2.2.2.2.2.2.2.2.2.2.2.2.2.2.2.2 s.1 s.2.1 s.2.2.1 s.2.2.2.1 s.2.2.2.2 h
  have hst : stepR c p s = (b0, b1, b2, b3, b4, b5, b6, b7, b8, b9, b10, b11, b12, b13, b14, b15, b16, b17, b18, b19, b20, b21, b22, b23, b24, b25, b26, b27, b28) := by unfold stepR feed; rw [he]
  rw [hst]
  exact ⟨h1, h2, h3, h4⟩
end Go.Proofs.YtmnglkcodbecbaaGreat
