/- The references of scale answer as scale: Round, Times. -/
import Derived.Test.YtmnglkcodbecbaaGreatP5
namespace Go.Proofs.YtmnglkcodbecbaaGreat
open Go Go.Sx
/-- within a wide number's bounds -/
def inW (v : Int) : Prop := -10633823966279326983230456482242756608 ≤ v ∧ v < 10633823966279326983230456482242756608
theorem f203_some (h l : Int) : ∃ v, inW v ∧ f203 h l = wd v := by
  unfold f203
  by_cases c : f176 h l = true
  · rw [c, cond_true]
    rw [f176_eq] at c
    have c := of_decide_eq_true c
    refine ⟨h * 4611686018427387904 + l, ⟨by omega, by omega⟩, ?_⟩
    simp only [wd, Prod.mk.injEq]; omega
  · rw [Bool.not_eq_true] at c
    rw [c, cond_false]
    exact ⟨0, ⟨by omega, by omega⟩, rfl⟩
theorem f203_out {v : Int} (h : v < -10633823966279326983230456482242756608 ∨ 10633823966279326983230456482242756608 ≤ v) : f203 (wd v).1 (wd v).2 = (0, 0) := by
  unfold f203
  rw [f176_eq, decide_eq_false (by simp only [wd]; omega), cond_false]
theorem f178_gen {h l c d u v : Int} (hu : inW u) (hv : inW v) (e1 : f203 h l = wd u) (e2 : f203 c d = wd v) :
    (inW (u + v) → f178 h l c d = ((wd (u + v)).1, (wd (u + v)).2, true)) ∧ (¬ inW (u + v) → f178 h l c d = (0, 0, false)) := by
  unfold inW at *
  unfold f178
  rw [e1, e2]
  have w2 : IntKind.u64.wrap (IntKind.u64.wrap (wd u).2 + IntKind.u64.wrap (wd v).2) = (wd u).2 + (wd v).2 := by
    simp only [wrapU_mod, wd]; omega
  have w1 : IntKind.i64.wrap (IntKind.i64.wrap ((wd u).1 + (wd v).1) + IntKind.i64.wrap (((wd u).2 + (wd v).2).fdiv (2 ^ 62))) = (wd (u + v)).1 := by
    rw [fdiv62]; simp only [w64, wd]; omega
  have w3 : IntKind.i64.wrap (bitsv BinOp.and IntKind.u64 ((wd u).2 + (wd v).2) 4611686018427387903) = (wd (u + v)).2 := by
    rw [and62u]; simp only [w64, wd]; omega
  rw [w2, w1, w3]
  constructor
  · intro h
    rw [f203_wd h.1 h.2]; simp
  · intro h
    rw [f203_out (by omega)]
    have : ((0 : Int) == (wd (u + v)).1) = false := by rw [beq_eq_false_iff_ne]; simp only [wd]; omega
    rw [this]; rfl
theorem f187_gen {h l c d u v : Int} (hu : inW u) (hv : inW v) (e1 : f203 h l = wd u) (e2 : f203 c d = wd v) :
    (inW (u + v) → f187 h l c d = ((wd (u + v)).1, (wd (u + v)).2, true)) ∧ (¬ inW (u + v) → f187 h l c d = (0, 0, false)) := by
  unfold inW at *
  unfold f187
  rw [f184_is, f184_is, e1, e2]
  have hs : ∀ s : Int, f186 (wd s).1 (wd s).2 = decide (-10633823966279326983230456482242756608 ≤ s ∧ s < 10633823966279326983230456482242756608) := by
    intro s; rw [f186_is, f176_eq, decide_eq_decide]; simp only [wd]; omega
  have w2 : IntKind.i64.wrap ((wd u).2 + (wd v).2) = (wd u).2 + (wd v).2 := by simp only [w64, wd]; omega
  have w1 : IntKind.i64.wrap ((wd u).1 + (wd v).1) = (wd u).1 + (wd v).1 := by simp only [w64, wd]; omega
  rw [w2, w1]
  have hn : ¬ (wd u).2 + (wd v).2 < 0 := by simp only [wd]; omega
  rw [decide_eq_false hn, Bool.false_or]
  by_cases hc : (wd u).2 + (wd v).2 ≥ 4611686018427387904
  · have g1 : IntKind.i64.wrap ((wd u).1 + (wd v).1 + 1) = (wd (u + v)).1 := by simp only [w64, wd] at *; omega
    have g2 : IntKind.i64.wrap ((wd u).2 + (wd v).2 - 4611686018427387904) = (wd (u + v)).2 := by simp only [w64, wd] at *; omega
    rw [decide_eq_true hc, cond_true, g1, g2, hs]
    constructor <;> intro h
    · rw [decide_eq_true h]; rfl
    · rw [decide_eq_false h]; rfl
  · have g1 : (wd u).1 + (wd v).1 = (wd (u + v)).1 := by simp only [wd] at *; omega
    have g2 : (wd u).2 + (wd v).2 = (wd (u + v)).2 := by simp only [wd] at *; omega
    rw [decide_eq_false hc, cond_false, g1, g2, hs]
    constructor <;> intro h
    · rw [decide_eq_true h]; rfl
    · rw [decide_eq_false h]; rfl
theorem f160_eq (h l : Int) : f160 h l = f157 h l := by
  obtain ⟨v, hv, e⟩ := f203_some h l
  have hk : inW 2147483648 := ⟨by omega, by omega⟩
  have ek : f203 0 2147483648 = wd 2147483648 := f203_wd (v := 2147483648) (by omega) (by omega)
  have ek2 : f203 (f179 2147483648).1 (f179 2147483648).2 = wd 2147483648 := by rw [f179_wd]; exact f203_wd (by omega) (by omega)
  have g178 := f178_gen hv hk e ek2
  have g187 := f187_gen hv hk e ek
  unfold f160 f157
  by_cases c : inW (v + 2147483648)
  · rw [g178.1 c, g187.1 c]
    have ea : (((wd (v + 2147483648)).1, (wd (v + 2147483648)).2, true) : Int × Int × Bool).1 = (wd (v + 2147483648)).1 := rfl
    have eb : (((wd (v + 2147483648)).1, (wd (v + 2147483648)).2, true) : Int × Int × Bool).2.1 = (wd (v + 2147483648)).2 := rfl
    rw [ea, eb, f203_wd c.1 c.2, f197_wd c.1 c.2]
    have hu0 := c.1
    have hu1 := c.2
    generalize v + 2147483648 = u at *
    have e1 : (wd u).1.fdiv (2 ^ 32) = (wd (u / 4294967296)).1 := by rw [fdiv32]; simp only [wd]; omega
    have e2 : bitsv BinOp.and IntKind.i64 (bitsv BinOp.or IntKind.i64 (IntKind.i64.wrap ((wd u).1 * 2 ^ 30)) ((wd u).2.fdiv (2 ^ 32))) 4611686018427387903 = (wd (u / 4294967296)).2 := by
      have : (2:Int) ^ 30 = 1073741824 := rfl
      rw [fdiv32, this, or_i _ _ (by rw [w64]; omega) (by rw [w64]; omega) (by rw [w64]; omega) (by simp only [wd]; omega) (by simp only [wd]; omega), and62i]
      simp only [w64, wd]; omega
    rw [e1, e2, f192_wd (by omega) (by omega), f196_wd (by omega) (by omega), f186_is]
  · rw [g178.2 c, g187.2 c]; simp only [Bool.not_false, cond_true]
end Go.Proofs.YtmnglkcodbecbaaGreat
