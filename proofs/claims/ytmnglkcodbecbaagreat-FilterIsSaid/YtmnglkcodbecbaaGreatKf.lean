/- What may be, told by its parts. -/
import Derived.Test.YtmnglkcodbecbaaGreatT1
import Derived.Test.YtmnglkcodbecbaaGreatRo
namespace Go.Proofs.YtmnglkcodbecbaaGreat
open Go Go.Sx
set_option linter.unusedVariables false
set_option linter.unusedSimpArgs false
set_option linter.constructorNameAsVariable false
set_option maxRecDepth 100000
set_option maxHeartbeats 8000000
theorem ok170 (a b : Int) : f114 (f170 a b).fst = true := by
  unfold f114 f170; simp only [f82_eq, cl_cl]; simp
theorem ok98 (a b : Int) : f114 (f98 a b).fst = true := by
  unfold f114; rw [f98_eq]; simp only [f82_eq, cl_cl]; simp
theorem okmm (x : Int) : f134 (mxI 4096 (mnI x 4503599627370496)) = true := by
  unfold f134 mxI mnI
  simp only [Bool.and_eq_true, decide_eq_true_eq]
  split <;> split <;> omega
theorem f72_flag {p v pp pv vv : Int} {b : Bool} (c : Bool) (h : f72 p v pp pv vv b = true) : f72 p v pp pv vv c = true := h
theorem start72 (c : Bool) : f72 (f76 0 0).fst (f76 0 0).snd.fst (f76 0 0).snd.snd.fst (f76 0 0).snd.snd.snd.fst (f76 0 0).snd.snd.snd.snd.fst c = true := by kernel_rfl
theorem s114 : f114 (f76 0 0).fst = true ∧ f114 (f76 0 0).snd.fst = true ∧ f114 (f76 0 0).snd.snd.snd.fst = true ∧ f134 (f76 0 0).snd.snd.fst = true ∧ f134 (f76 0 0).snd.snd.snd.snd.fst = true := ⟨by kernel_rfl, by kernel_rfl, by kernel_rfl, by kernel_rfl, by kernel_rfl⟩
theorem pred_sane (p v pp pv vv : Int) (b : Bool) (a1 a2 a3 : Int) : ∃ p' v' pp' pv' vv' b', f63 p v pp pv vv b a1 a2 a3 = (p', v', pp', pv', vv', b') ∧ f72 p' v' pp' pv' vv' b' = true ∧ (b = true → b' = true) := by
  refine ⟨_, _, _, _, _, _, rfl, ?_, ?_⟩
  · skip
    generalize (!f114 a1 || decide (a2 < 0) || decide (a2 > 1099511627776) || decide (a3 < 0) || decide (a3 > 1099511627776)) = X
    obtain ⟨k1, k2, k3, k4, k5⟩ := s114
    cases hs : f72 p v pp pv vv b <;> cases X <;> simp only [Bool.not_true, Bool.not_false, cond_true, cond_false]
    · unfold f72; simp only [ok170, okmm, Bool.and_self]
    · unfold f72; simp only [k1, k2, k3, k4, k5, Bool.and_self]
    · unfold f72; simp only [ok170, okmm, Bool.and_self]
    · exact f72_flag _ hs
  · intro h; subst h; simp
theorem upd_sane (p v pp pv vv : Int) (b : Bool) (a1 a2 a3 : Int) : ∃ p' v' pp' pv' vv' b' i, f202 p v pp pv vv b a1 a2 a3 = (p', v', pp', pv', vv', b', i) ∧ f72 p' v' pp' pv' vv' b' = true ∧ (b = true → b' = true) := by
  refine ⟨_, _, _, _, _, _, _, rfl, ?_, ?_⟩
  · skip
    generalize (!f114 a1 || !f134 a2 || decide (a3 < 0) || decide (a3 > 1099511627776)) = X
    obtain ⟨k1, k2, k3, k4, k5⟩ := s114
    generalize hY : decide (f163 (f98 a1 (f76 0 0).fst).fst > (f96 a3 (f211 (f170 (f76 0 0).snd.snd.fst a2).fst).fst).fst) = Y
    generalize hZ : decide (f163 (f98 a1 p).fst > (f96 a3 (f211 (f170 pp a2).fst).fst).fst) = Z
    cases hs : f72 p v pp pv vv b <;> cases X <;> simp only [Bool.not_true, Bool.not_false, cond_true, cond_false]
    · cases Y <;> simp only [cond_true, cond_false]
      · unfold f72; simp only [ok170, ok98, okmm, Bool.and_self]
      · unfold f72; simp only [k1, k2, k3, k4, k5, Bool.and_self]
    · unfold f72; simp only [k1, k2, k3, k4, k5, Bool.and_self]
    · cases Z <;> simp only [cond_true, cond_false]
      · unfold f72; simp only [ok170, ok98, okmm, Bool.and_self]
      · exact f72_flag _ hs
    · exact f72_flag _ hs
  · intro h; subst h; simp
theorem flags4 {a b c d a' b' c' d' : Bool} (h0 : a = true → a' = true) (h1 : b = true → b' = true) (h2 : c = true → c' = true) (h3 : d = true → d' = true) : (a || b || c || d) = true → (a' || b' || c' || d') = true := by
  cases a <;> cases b <;> cases c <;> cases d <;> simp_all
theorem f73_iff (a : Int) : f73 a = true ↔ 0 ≤ a ∧ a ≤ 1099511627776 := by unfold f73; simp
theorem f60_as (a0_0 a0_1 a0_2 a0_3 a0_4 a0_5 a0_6 a0_7 a0_8 a0_9 : Int) (a0_10 : Bool) (a0_11 a0_12 a0_13 a0_14 a0_15 : Int) (a0_16 : Bool) (a0_17 a0_18 a0_19 a0_20 a0_21 : Int) (a0_22 : Bool) (a0_23 a0_24 a0_25 a0_26 a0_27 : Int) (a0_28 : Bool) (hs : f26 a0_0 a0_1 a0_2 a0_3 a0_4 a0_5 a0_6 a0_7 a0_8 a0_9 a0_10 a0_11 a0_12 a0_13 a0_14 a0_15 a0_16 a0_17 a0_18 a0_19 a0_20 a0_21 a0_22 a0_23 a0_24 a0_25 a0_26 a0_27 a0_28 = true) : f60 a0_0 a0_1 a0_2 a0_3 a0_4 a0_5 a0_6 a0_7 a0_8 a0_9 a0_10 a0_11 a0_12 a0_13 a0_14 a0_15 a0_16 a0_17 a0_18 a0_19 a0_20 a0_21 a0_22 a0_23 a0_24 a0_25 a0_26 a0_27 a0_28 = (a0_0, a0_1, a0_2, a0_3, a0_4, a0_5, a0_6, a0_7, a0_8, a0_9, a0_10, a0_11, a0_12, a0_13, a0_14, a0_15, a0_16, a0_17, a0_18, a0_19, a0_20, a0_21, a0_22, a0_23, a0_24, a0_25, a0_26, a0_27, a0_28) := by
  unfold f60
  simp only [hs, cond_true, Bool.not_true, Bool.false_or]
theorem f26_iff (a0_0 a0_1 a0_2 a0_3 a0_4 a0_5 a0_6 a0_7 a0_8 a0_9 : Int) (a0_10 : Bool) (a0_11 a0_12 a0_13 a0_14 a0_15 : Int) (a0_16 : Bool) (a0_17 a0_18 a0_19 a0_20 a0_21 : Int) (a0_22 : Bool) (a0_23 a0_24 a0_25 a0_26 a0_27 : Int) (a0_28 : Bool) : f26 a0_0 a0_1 a0_2 a0_3 a0_4 a0_5 a0_6 a0_7 a0_8 a0_9 a0_10 a0_11 a0_12 a0_13 a0_14 a0_15 a0_16 a0_17 a0_18 a0_19 a0_20 a0_21 a0_22 a0_23 a0_24 a0_25 a0_26 a0_27 a0_28 = true ↔ (0 ≤ a0_0 ∧ a0_0 ≤ 1099511627776) ∧ (0 ≤ a0_1 ∧ a0_1 ≤ 1099511627776) ∧ (0 ≤ a0_2 ∧ a0_2 ≤ 1099511627776) ∧ f13 a0_3 a0_4 a0_5 a0_6 a0_7 a0_8 a0_9 a0_10 = true ∧ f72 a0_11 a0_12 a0_13 a0_14 a0_15 a0_16 = true ∧ f72 a0_17 a0_18 a0_19 a0_20 a0_21 a0_22 = true ∧ f72 a0_23 a0_24 a0_25 a0_26 a0_27 a0_28 = true := by
  unfold f26
  simp only [first_any3, Bool.and_eq_true, f73_iff]
  generalize f72 a0_11 a0_12 a0_13 a0_14 a0_15 a0_16 = X
  generalize f72 a0_17 a0_18 a0_19 a0_20 a0_21 a0_22 = Y
  generalize f72 a0_23 a0_24 a0_25 a0_26 a0_27 a0_28 = Z
  generalize f13 a0_3 a0_4 a0_5 a0_6 a0_7 a0_8 a0_9 a0_10 = V
  cases X <;> cases Y <;> cases Z <;> cases V <;> simp [and_assoc]
end Go.Proofs.YtmnglkcodbecbaaGreat
