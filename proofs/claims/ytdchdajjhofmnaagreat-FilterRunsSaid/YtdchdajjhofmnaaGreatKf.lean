/- What may be, told by its parts. -/
import Derived.Test.YtdchdajjhofmnaaGreatT1
import Derived.Test.YtdchdajjhofmnaaGreatRo
namespace Go.Proofs.YtdchdajjhofmnaaGreat
open Go Go.Sx
set_option linter.unusedVariables false
set_option linter.unusedSimpArgs false
set_option linter.constructorNameAsVariable false
set_option maxRecDepth 100000
set_option maxHeartbeats 8000000
theorem ok170 (a b : Int) : f138 (f207 a b).fst = true := by
 unfold f138 f207; simp only [f99_eq, cl_cl]; simp
theorem ok98 (a b : Int) : f138 (f204 a b).fst = true := by
 unfold f138; rw [f204_eq]; simp only [f99_eq, cl_cl]; simp
theorem okmm (x : Int) : f139 (mxI 4096 (mnI x 4503599627370496)) = true := by
 unfold f139 mxI mnI
 simp only [Bool.and_eq_true, decide_eq_true_eq]
 split <;> split <;> omega
theorem f91_flag {p v pp pv vv : Int} {b : Bool} (c : Bool) (h : f91 p v pp pv vv b = true) : f91 p v pp pv vv c = true := h
theorem start72 (c : Bool) : f91 (f53 0 0).fst (f53 0 0).snd.fst (f53 0 0).snd.snd.fst (f53 0 0).snd.snd.snd.fst (f53 0 0).snd.snd.snd.snd.fst c = true := by kernel_rfl
theorem s114 : f138 (f53 0 0).fst = true ∧ f138 (f53 0 0).snd.fst = true ∧ f138 (f53 0 0).snd.snd.snd.fst = true ∧ f139 (f53 0 0).snd.snd.fst = true ∧ f139 (f53 0 0).snd.snd.snd.snd.fst = true := ⟨by kernel_rfl, by kernel_rfl, by kernel_rfl, by kernel_rfl, by kernel_rfl⟩
theorem pred_sane (p v pp pv vv : Int) (b : Bool) (a1 a2 a3 : Int) : ∃ p' v' pp' pv' vv' b', f103 p v pp pv vv b a1 a2 a3 = (p', v', pp', pv', vv', b') ∧ f91 p' v' pp' pv' vv' b' = true ∧ (b = true → b' = true) := by
 refine ⟨_, _, _, _, _, _, rfl, ?_, ?_⟩
 ·skip
  generalize (!f138 a1 || decide (a2 < 0) || decide (a2 > 1099511627776) || decide (a3 < 0) || decide (a3 > 1099511627776)) = X
  obtain ⟨k1, k2, k3, k4, k5⟩ := s114
  cases hs : f91 p v pp pv vv b <;> cases X <;> simp only [Bool.not_true, Bool.not_false, cond_true, cond_false]
  ·unfold f91; simp only [ok170, okmm, Bool.and_self]
  ·unfold f91; simp only [k1, k2, k3, k4, k5, Bool.and_self]
  ·unfold f91; simp only [ok170, okmm, Bool.and_self]
  ·exact f91_flag _ hs
 ·intro h; subst h; simp
theorem upd_sane (p v pp pv vv : Int) (b : Bool) (a1 a2 a3 : Int) : ∃ p' v' pp' pv' vv' b' i, f267 p v pp pv vv b a1 a2 a3 = (p', v', pp', pv', vv', b', i) ∧ f91 p' v' pp' pv' vv' b' = true ∧ (b = true → b' = true) := by
 refine ⟨_, _, _, _, _, _, _, rfl, ?_, ?_⟩
 ·skip
  generalize (!f138 a1 || !f139 a2 || decide (a3 < 0) || decide (a3 > 1099511627776)) = X
  obtain ⟨k1, k2, k3, k4, k5⟩ := s114
  generalize hY : decide (f303 (f204 a1 (f53 0 0).fst).fst > (f206 a3 (f315 (f207 (f53 0 0).snd.snd.fst a2).fst).fst).fst) = Y
  generalize hZ : decide (f303 (f204 a1 p).fst > (f206 a3 (f315 (f207 pp a2).fst).fst).fst) = Z
  cases hs : f91 p v pp pv vv b <;> cases X <;> simp only [Bool.not_true, Bool.not_false, cond_true, cond_false]
  ·cases Y <;> simp only [cond_true, cond_false]
   ·unfold f91; simp only [ok170, ok98, okmm, Bool.and_self]
   ·unfold f91; simp only [k1, k2, k3, k4, k5, Bool.and_self]
  ·unfold f91; simp only [k1, k2, k3, k4, k5, Bool.and_self]
  ·cases Z <;> simp only [cond_true, cond_false]
   ·unfold f91; simp only [ok170, ok98, okmm, Bool.and_self]
   ·exact f91_flag _ hs
  ·exact f91_flag _ hs
 ·intro h; subst h; simp
theorem flags4 {a b c d a' b' c' d' : Bool} (h0 : a = true → a' = true) (h1 : b = true → b' = true) (h2 : c = true → c' = true) (h3 : d = true → d' = true) : (a || b || c || d) = true → (a' || b' || c' || d') = true := by
 cases a <;> cases b <;> cases c <;> cases d <;> simp_all
theorem f92_iff (a : Int) : f92 a = true ↔ 0 ≤ a ∧ a ≤ 1099511627776 := by unfold f92; simp
theorem f54_as (I0 I1 I2 I3 I4 I5 I6 I7 I8 I9 : Int) (I10 : Bool) (I11 I12 I13 I14 I15 : Int) (I16 : Bool) (I17 I18 I19 I20 I21 : Int) (I22 : Bool) (I23 I24 I25 I26 I27 : Int) (I28 : Bool) (hs : f44 I0 I1 I2 I3 I4 I5 I6 I7 I8 I9 I10 I11 I12 I13 I14 I15 I16 I17 I18 I19 I20 I21 I22 I23 I24 I25 I26 I27 I28 = true) : f54 I0 I1 I2 I3 I4 I5 I6 I7 I8 I9 I10 I11 I12 I13 I14 I15 I16 I17 I18 I19 I20 I21 I22 I23 I24 I25 I26 I27 I28 = (I0, I1, I2, I3, I4, I5, I6, I7, I8, I9, I10, I11, I12, I13, I14, I15, I16, I17, I18, I19, I20, I21, I22, I23, I24, I25, I26, I27, I28) := by
 unfold f54
 simp only [hs, cond_true, Bool.not_true, Bool.false_or]
theorem f44_iff (I0 I1 I2 I3 I4 I5 I6 I7 I8 I9 : Int) (I10 : Bool) (I11 I12 I13 I14 I15 : Int) (I16 : Bool) (I17 I18 I19 I20 I21 : Int) (I22 : Bool) (I23 I24 I25 I26 I27 : Int) (I28 : Bool) : f44 I0 I1 I2 I3 I4 I5 I6 I7 I8 I9 I10 I11 I12 I13 I14 I15 I16 I17 I18 I19 I20 I21 I22 I23 I24 I25 I26 I27 I28 = true ↔ (0 ≤ I0 ∧ I0 ≤ 1099511627776) ∧ (0 ≤ I1 ∧ I1 ≤ 1099511627776) ∧ (0 ≤ I2 ∧ I2 ≤ 1099511627776) ∧ f13 I3 I4 I5 I6 I7 I8 I9 I10 = true ∧ f91 I11 I12 I13 I14 I15 I16 = true ∧ f91 I17 I18 I19 I20 I21 I22 = true ∧ f91 I23 I24 I25 I26 I27 I28 = true := by
 unfold f44
 simp only [first_any3, Bool.and_eq_true, f92_iff]
 generalize f91 I11 I12 I13 I14 I15 I16 = X
 generalize f91 I17 I18 I19 I20 I21 I22 = Y
 generalize f91 I23 I24 I25 I26 I27 I28 = Z
 generalize f13 I3 I4 I5 I6 I7 I8 I9 I10 = V
 cases X <;> cases Y <;> cases Z <;> cases V <;> simp [and_assoc]
end Go.Proofs.YtdchdajjhofmnaaGreat
