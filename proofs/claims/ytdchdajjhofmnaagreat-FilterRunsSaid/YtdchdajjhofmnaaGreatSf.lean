/- What some samples come to, part 0. What some samples come to, part 1. What some samples come to, part 2. What some samples come to, part 3. The document's example of the filter. Known states. -/
import Derived.Test.YtdchdajjhofmnaaGreatGq
import Derived.Test.YtdchdajjhofmnaaGreatKf
namespace Go.Proofs.YtdchdajjhofmnaaGreat
open Go Go.Sx
theorem fe0 : f59 0 0 0 4294967296 0 0 0 0 0 0 false 0 0 17592186044416 0 17592186044416 false 0 0 17592186044416 0 17592186044416 false 0 0 17592186044416 0 17592186044416 false 0 0 0 4294967296 4503599627370496 0 0 0 4294967296 4503599627370496 0 0 0 4294967296 4503599627370496 0 0 0 4294967296 4503599627370496 4 1 0 0 42119241033 = (4, 1, 0, 4294967296, 0, 0, 0, 0, 0, 0, false, 0, 0, 17592454479872, 68719476736, 17592190238720, false, 0, 0, 17592454479872, 68719476736, 17592190238720, false, 0, 0, 17592454479872, 68719476736, 17592190238720, false, 0) := by kernel_rfl
theorem fe1 : f59 4 1 0 4294967296 0 0 0 0 0 0 false 0 0 17592454479872 68719476736 17592190238720 false 0 0 17592454479872 68719476736 17592190238720 false 0 0 17592454479872 68719476736 17592190238720 false 0 0 0 4294967296 4503599627370496 0 0 0 4294967296 4503599627370496 0 0 0 4294967296 4503599627370496 0 0 0 4294967296 4503599627370496 8 0 0 0 0 = (8, 2, 0, 4294967296, 0, 0, 0, 0, 0, 0, false, 0, 0, 17593259786304, 137438969856, 17592194433024, false, 0, 0, 17593259786304, 137438969856, 17592194433024, false, 0, 0, 17593259786304, 137438969856, 17592194433024, false, 0) := by kernel_rfl
theorem fe2 : f59 8 2 0 4294967296 0 0 0 0 0 0 false 0 0 17593259786304 137438969856 17592194433024 false 0 0 17593259786304 137438969856 17592194433024 false 0 0 17593259786304 137438969856 17592194433024 false 0 0 0 4294967296 4503599627370496 0 0 0 4294967296 4503599627370496 0 0 0 4294967296 4503599627370496 0 0 0 4294967296 4503599627370496 12 1 0 0 42119241033 = (12, 3, 0, 4294967296, 0, 0, 0, 0, 0, 0, false, 0, 0, 17594601963840, 206158479360, 17592198627328, false, 0, 0, 17594601963840, 206158479360, 17592198627328, false, 0, 0, 17594601963840, 206158479360, 17592198627328, false, 0) := by kernel_rfl
end Go.Proofs.YtdchdajjhofmnaaGreat
namespace Go.Proofs.YtdchdajjhofmnaaGreat
open Go Go.Sx
theorem fe3 : f59 12 3 0 4294967296 0 0 0 0 0 0 false 0 0 17594601963840 206158479360 17592198627328 false 0 0 17594601963840 206158479360 17592198627328 false 0 0 17594601963840 206158479360 17592198627328 false 0 0 0 4294967296 4503599627370496 0 0 0 4294967296 4503599627370496 0 0 0 4294967296 4503599627370496 0 0 0 4294967296 4503599627370496 16 0 0 0 0 = (16, 4, 0, 4294967296, 0, 0, 0, 0, 0, 0, false, 0, 0, 17596481012608, 274878005248, 17592202821632, false, 0, 0, 17596481012608, 274878005248, 17592202821632, false, 0, 0, 17596481012608, 274878005248, 17592202821632, false, 0) := by kernel_rfl
theorem fe4 : f59 16 4 0 4294967296 0 0 0 0 0 0 false 0 0 17596481012608 274878005248 17592202821632 false 0 0 17596481012608 274878005248 17592202821632 false 0 0 17596481012608 274878005248 17592202821632 false 0 0 0 4294967296 4503599627370496 0 0 0 4294967296 4503599627370496 0 0 0 4294967296 4503599627370496 0 0 0 4294967296 4503599627370496 20 1 0 0 42119241033 = (20, 5, 0, 4294967296, 0, 0, 0, 0, 0, 0, false, 0, 0, 17598896932736, 343597547520, 17592207015936, false, 0, 0, 17598896932736, 343597547520, 17592207015936, false, 0, 0, 17598896932736, 343597547520, 17592207015936, false, 0) := by kernel_rfl
theorem fe5 : f59 20 5 0 4294967296 0 0 0 0 0 0 false 0 0 17598896932736 343597547520 17592207015936 false 0 0 17598896932736 343597547520 17592207015936 false 0 0 17598896932736 343597547520 17592207015936 false 0 0 0 4294967296 4503599627370496 0 0 0 4294967296 4503599627370496 0 0 0 4294967296 4503599627370496 0 0 0 4294967296 4503599627370496 24 0 0 0 0 = (24, 6, 0, 4294967296, 0, 0, 0, 0, 0, 0, false, 0, 0, 17601849724352, 412317106176, 17592211210240, false, 0, 0, 17601849724352, 412317106176, 17592211210240, false, 0, 0, 17601849724352, 412317106176, 17592211210240, false, 0) := by kernel_rfl
end Go.Proofs.YtdchdajjhofmnaaGreat
namespace Go.Proofs.YtdchdajjhofmnaaGreat
open Go Go.Sx
theorem fe6 : f59 24 6 0 4294967296 0 0 0 0 0 0 false 0 0 17601849724352 412317106176 17592211210240 false 0 0 17601849724352 412317106176 17592211210240 false 0 0 17601849724352 412317106176 17592211210240 false 0 0 0 4294967296 4503599627370496 0 0 0 4294967296 4503599627370496 0 0 0 4294967296 4503599627370496 0 0 0 4294967296 4503599627370496 28 1 0 0 42119241033 = (28, 7, 0, 4294967296, 0, 0, 0, 0, 0, 0, false, 0, 0, 17605339387584, 481036681216, 17592215404544, false, 0, 0, 17605339387584, 481036681216, 17592215404544, false, 0, 0, 17605339387584, 481036681216, 17592215404544, false, 0) := by kernel_rfl
theorem fe7 : f59 28 7 0 4294967296 0 0 0 0 0 0 false 0 0 17605339387584 481036681216 17592215404544 false 0 0 17605339387584 481036681216 17592215404544 false 0 0 17605339387584 481036681216 17592215404544 false 0 0 0 4294967296 4503599627370496 0 0 0 4294967296 4503599627370496 0 0 0 4294967296 4503599627370496 0 0 0 4294967296 4503599627370496 32 0 0 0 0 = (32, 8, 0, 4294967296, 0, 0, 0, 0, 0, 0, false, 0, 0, 17609365922560, 549756272640, 17592219598848, false, 0, 0, 17609365922560, 549756272640, 17592219598848, false, 0, 0, 17609365922560, 549756272640, 17592219598848, false, 0) := by kernel_rfl
end Go.Proofs.YtdchdajjhofmnaaGreat
namespace Go.Proofs.YtdchdajjhofmnaaGreat
open Go Go.Sx
theorem fe8 : f59 0 0 0 4294967296 0 0 0 0 0 0 false 0 0 17592186044416 0 17592186044416 false 0 0 17592186044416 0 17592186044416 false 0 0 17592186044416 0 17592186044416 false 0 0 0 4294967296 4503599627370496 0 0 0 4294967296 4503599627370496 0 0 0 4294967296 4503599627370496 0 0 0 4294967296 4503599627370496 0 2 4294967296 8589934592 12884901888 = (0, 1, 0, 4294967296, 0, 0, 0, 0, 0, 0, false, 4293918976, 0, 4293918720, 0, 17592186044416, false, 8587837952, 0, 4293918720, 0, 17592186044416, false, 12881756928, 0, 4293918720, 0, 17592186044416, false, 0) := by kernel_rfl
theorem fe9 : f59 32 8 0 4294967296 0 0 0 0 0 0 false 0 0 17609365922560 549756272640 17592219598848 false 0 0 17609365922560 549756272640 17592219598848 false 0 0 17609365922560 549756272640 17592219598848 false 0 0 0 4294967296 4503599627370496 0 0 0 4294967296 4503599627370496 0 0 0 4294967296 4503599627370496 0 0 0 4294967296 4503599627370496 1 0 0 0 0 = (32, 8, 1, 4294967296, 0, 0, 0, 0, 0, 0, false, 0, 0, 17609365922560, 549756272640, 17592219598848, false, 0, 0, 17609365922560, 549756272640, 17592219598848, false, 0, 0, 17609365922560, 549756272640, 17592219598848, false, 3) := by kernel_rfl
end Go.Proofs.YtdchdajjhofmnaaGreat
namespace Go.Proofs.YtdchdajjhofmnaaGreat
open Go Go.Sx Go.RowKit Go.Proofs
set_option linter.unusedVariables false
set_option linter.unusedSimpArgs false
set_option maxRecDepth 1000000
mutual
def eqSV : SV → SV → Bool
 | .int k (.lit a), .int k' (.lit b) => decide (k = k') && (a == b)
 | .bool (.lit a), .bool (.lit b) => a == b
 | .agg xs, .agg ys => eqSVL xs ys
 | _, _ => false
def eqSVL : List SV → List SV → Bool
 | [], [] => true
 | x :: xs, y :: ys => eqSV x y && eqSVL xs ys
 | _, _ => false
end
mutual
theorem eqSV_eq : ∀ (x y : SV), eqSV x y = true → x = y
 | .int k (.lit a), y, h => by
  cases y <;> try (simp [eqSV] at h; done)
  rename_i k' n; cases n <;> try (simp [eqSV] at h; done)
  simp only [eqSV, Bool.and_eq_true, decide_eq_true_eq, beq_iff_eq] at h
  rw [h.1, h.2]
 | .int k (.sym a), y, h => by cases y <;> simp [eqSV] at h
 | .bool (.lit a), y, h => by
  cases y <;> try (simp [eqSV] at h; done)
  rename_i n; cases n <;> try (simp [eqSV] at h; done)
  simp only [eqSV, beq_iff_eq] at h
  rw [h]
 | .bool (.sym a), y, h => by cases y <;> simp [eqSV] at h
 | .agg xs, y, h => by
  cases y <;> try (simp [eqSV] at h; done)
  simp only [eqSV] at h
  rw [eqSVL_eq _ _ h]
 | .ptr _ _, y, h => by cases y <;> simp [eqSV] at h
 | .nilp, y, h => by cases y <;> simp [eqSV] at h
 | .slice _ _ _ _, y, h => by cases y <;> simp [eqSV] at h
 | .own _ _ _, y, h => by cases y <;> simp [eqSV] at h
 | .func _ _ _, y, h => by cases y <;> simp [eqSV] at h
 | .tuple _, y, h => by cases y <;> simp [eqSV] at h
 | .raw _, y, h => by cases y <;> simp [eqSV] at h
theorem eqSVL_eq : ∀ (x y : List SV), eqSVL x y = true → x = y
 | [], y, h => by cases y <;> simp [eqSVL] at h; rfl
 | x :: xs, y, h => by
  cases y <;> simp only [eqSVL, Bool.false_eq_true, Bool.and_eq_true] at h
  rw [eqSV_eq _ _ h.1, eqSVL_eq _ _ h.2]
end
def eqSA : List SA → List SA → Bool
 | [], [] => true
 | .v x :: xs, .v y :: ys => eqSV x y && eqSA xs ys
 | _, _ => false
theorem eqSA_eq : ∀ (x y : List SA), eqSA x y = true → x = y
 | [], y, h => by cases y <;> simp [eqSA] at h; rfl
 | .v x :: xs, y, h => by
  cases y with
  | nil => simp [eqSA] at h
  | cons y ys =>
   cases y with
   | row _ => simp [eqSA] at h
   | v y =>
    simp only [eqSA, Bool.and_eq_true] at h
    rw [eqSV_eq _ _ h.1, eqSA_eq _ _ h.2]
 | .row _ :: _, y, h => by cases y <;> simp [eqSA] at h
def tabS : List (List SA × SV) → Summ → Summ
 | [], S => S
 | (a, r) :: l, S => fun fs => if eqSA fs a then some r else tabS l S fs
def tabOk (P : Program) (f : FuncId) : List (List SA × SV) → Prop
 | [] => True
 | (a, r) :: l => (∀ (w : World) (vs : List Value), SArels w a vs → Calls P f vs.toArray w fun e w' => (∃ v, e = .returned v ∧ SV.rel noLab r v) ∧ Below w.heap.size w w') ∧ tabOk P f l
theorem tabS_ok {P : Program} {f : FuncId} {S : Summ} (hS : SummFn P f S) : ∀ {l : List (List SA × SV)}, tabOk P f l → SummFn P f (tabS l S)
 | [], _ => hS
 | (a, r) :: l, h => by
  intro fs r' hr w vs hv
  simp only [tabS] at hr
  split at hr
  ·rename_i e
   simp only [Option.some.injEq] at hr; subst hr
   rw [eqSA_eq _ _ e] at hv
   exact h.1 w vs hv
  ·exact tabS_ok hS h.2 fs r' hr w vs hv
noncomputable def calV : SV := .agg [.int .i64 (.lit 0), .int .i64 (.lit 0), .int .i64 (.lit 0), .int .i64 (.lit 4294967296), .int .i64 (.lit 4503599627370496), .int .i64 (.lit 0), .int .i64 (.lit 0), .int .i64 (.lit 0), .int .i64 (.lit 4294967296), .int .i64 (.lit 4503599627370496), .int .i64 (.lit 0), .int .i64 (.lit 0), .int .i64 (.lit 0), .int .i64 (.lit 4294967296), .int .i64 (.lit 4503599627370496), .int .i64 (.lit 0), .int .i64 (.lit 0), .int .i64 (.lit 0), .int .i64 (.lit 4294967296), .int .i64 (.lit 4503599627370496)]
noncomputable def fa0 : List SA := [.v (.agg [.int .i64 (.lit 0), .int .i64 (.lit 0), .int .i64 (.lit 0), .int .i64 (.lit 4294967296), .int .i64 (.lit 0), .int .i64 (.lit 0), .int .i64 (.lit 0), .int .i64 (.lit 0), .int .i64 (.lit 0), .int .i64 (.lit 0), .bool (.lit false), .int .i64 (.lit 0), .int .i64 (.lit 0), .int .i64 (.lit 17592186044416), .int .i64 (.lit 0), .int .i64 (.lit 17592186044416), .bool (.lit false), .int .i64 (.lit 0), .int .i64 (.lit 0), .int .i64 (.lit 17592186044416), .int .i64 (.lit 0), .int .i64 (.lit 17592186044416), .bool (.lit false), .int .i64 (.lit 0), .int .i64 (.lit 0), .int .i64 (.lit 17592186044416), .int .i64 (.lit 0), .int .i64 (.lit 17592186044416), .bool (.lit false)]), .v (.agg [.int .i64 (.lit 0), .int .i64 (.lit 0), .int .i64 (.lit 0), .int .i64 (.lit 4294967296), .int .i64 (.lit 4503599627370496), .int .i64 (.lit 0), .int .i64 (.lit 0), .int .i64 (.lit 0), .int .i64 (.lit 4294967296), .int .i64 (.lit 4503599627370496), .int .i64 (.lit 0), .int .i64 (.lit 0), .int .i64 (.lit 0), .int .i64 (.lit 4294967296), .int .i64 (.lit 4503599627370496), .int .i64 (.lit 0), .int .i64 (.lit 0), .int .i64 (.lit 0), .int .i64 (.lit 4294967296), .int .i64 (.lit 4503599627370496)]), .v (.agg [.int .i64 (.lit 4), .int .i64 (.lit 1), .int .i64 (.lit 0), .int .i64 (.lit 0), .int .i64 (.lit 42119241033)])]
noncomputable def fr0 : SV := .tuple [.agg [.int .i64 (.lit 4), .int .i64 (.lit 1), .int .i64 (.lit 0), .int .i64 (.lit 4294967296), .int .i64 (.lit 0), .int .i64 (.lit 0), .int .i64 (.lit 0), .int .i64 (.lit 0), .int .i64 (.lit 0), .int .i64 (.lit 0), .bool (.lit false), .int .i64 (.lit 0), .int .i64 (.lit 0), .int .i64 (.lit 17592454479872), .int .i64 (.lit 68719476736), .int .i64 (.lit 17592190238720), .bool (.lit false), .int .i64 (.lit 0), .int .i64 (.lit 0), .int .i64 (.lit 17592454479872), .int .i64 (.lit 68719476736), .int .i64 (.lit 17592190238720), .bool (.lit false), .int .i64 (.lit 0), .int .i64 (.lit 0), .int .i64 (.lit 17592454479872), .int .i64 (.lit 68719476736), .int .i64 (.lit 17592190238720), .bool (.lit false)], .int .i64 (.lit 0)]
theorem fk0 (w : World) (vs : List Value) (hv : SArels w fa0 vs) : Calls Tryz.prog 59 vs.toArray w fun e w' => (∃ v, e = .returned v ∧ SV.rel noLab fr0 v) ∧ Below w.heap.size w w' := by
 refine (S59_ok fa0 (g59 (4, 1, 0, 4294967296, 0, 0, 0, 0, 0, 0, false, 0, 0, 17592454479872, 68719476736, 17592190238720, false, 0, 0, 17592454479872, 68719476736, 17592190238720, false, 0, 0, 17592454479872, 68719476736, 17592190238720, false, 0)) (by unfold S59 fa0; dsimp only [SI.val, SB.val]; rw [fe0]) w vs hv).mono ?_
 rintro e w' ⟨⟨v, rfl, h⟩, hb⟩
 refine ⟨⟨v, rfl, ?_⟩, hb⟩
 simp only [g59, fr0, SV.rel, relL, SI.val, SB.val] at h ⊢
 exact h
noncomputable def fa1 : List SA := [.v (.agg [.int .i64 (.lit 4), .int .i64 (.lit 1), .int .i64 (.lit 0), .int .i64 (.lit 4294967296), .int .i64 (.lit 0), .int .i64 (.lit 0), .int .i64 (.lit 0), .int .i64 (.lit 0), .int .i64 (.lit 0), .int .i64 (.lit 0), .bool (.lit false), .int .i64 (.lit 0), .int .i64 (.lit 0), .int .i64 (.lit 17592454479872), .int .i64 (.lit 68719476736), .int .i64 (.lit 17592190238720), .bool (.lit false), .int .i64 (.lit 0), .int .i64 (.lit 0), .int .i64 (.lit 17592454479872), .int .i64 (.lit 68719476736), .int .i64 (.lit 17592190238720), .bool (.lit false), .int .i64 (.lit 0), .int .i64 (.lit 0), .int .i64 (.lit 17592454479872), .int .i64 (.lit 68719476736), .int .i64 (.lit 17592190238720), .bool (.lit false)]), .v (.agg [.int .i64 (.lit 0), .int .i64 (.lit 0), .int .i64 (.lit 0), .int .i64 (.lit 4294967296), .int .i64 (.lit 4503599627370496), .int .i64 (.lit 0), .int .i64 (.lit 0), .int .i64 (.lit 0), .int .i64 (.lit 4294967296), .int .i64 (.lit 4503599627370496), .int .i64 (.lit 0), .int .i64 (.lit 0), .int .i64 (.lit 0), .int .i64 (.lit 4294967296), .int .i64 (.lit 4503599627370496), .int .i64 (.lit 0), .int .i64 (.lit 0), .int .i64 (.lit 0), .int .i64 (.lit 4294967296), .int .i64 (.lit 4503599627370496)]), .v (.agg [.int .i64 (.lit 8), .int .i64 (.lit 0), .int .i64 (.lit 0), .int .i64 (.lit 0), .int .i64 (.lit 0)])]
noncomputable def fr1 : SV := .tuple [.agg [.int .i64 (.lit 8), .int .i64 (.lit 2), .int .i64 (.lit 0), .int .i64 (.lit 4294967296), .int .i64 (.lit 0), .int .i64 (.lit 0), .int .i64 (.lit 0), .int .i64 (.lit 0), .int .i64 (.lit 0), .int .i64 (.lit 0), .bool (.lit false), .int .i64 (.lit 0), .int .i64 (.lit 0), .int .i64 (.lit 17593259786304), .int .i64 (.lit 137438969856), .int .i64 (.lit 17592194433024), .bool (.lit false), .int .i64 (.lit 0), .int .i64 (.lit 0), .int .i64 (.lit 17593259786304), .int .i64 (.lit 137438969856), .int .i64 (.lit 17592194433024), .bool (.lit false), .int .i64 (.lit 0), .int .i64 (.lit 0), .int .i64 (.lit 17593259786304), .int .i64 (.lit 137438969856), .int .i64 (.lit 17592194433024), .bool (.lit false)], .int .i64 (.lit 0)]
theorem fk1 (w : World) (vs : List Value) (hv : SArels w fa1 vs) : Calls Tryz.prog 59 vs.toArray w fun e w' => (∃ v, e = .returned v ∧ SV.rel noLab fr1 v) ∧ Below w.heap.size w w' := by
 refine (S59_ok fa1 (g59 (8, 2, 0, 4294967296, 0, 0, 0, 0, 0, 0, false, 0, 0, 17593259786304, 137438969856, 17592194433024, false, 0, 0, 17593259786304, 137438969856, 17592194433024, false, 0, 0, 17593259786304, 137438969856, 17592194433024, false, 0)) (by unfold S59 fa1; dsimp only [SI.val, SB.val]; rw [fe1]) w vs hv).mono ?_
 rintro e w' ⟨⟨v, rfl, h⟩, hb⟩
 refine ⟨⟨v, rfl, ?_⟩, hb⟩
 simp only [g59, fr1, SV.rel, relL, SI.val, SB.val] at h ⊢
 exact h
noncomputable def fa2 : List SA := [.v (.agg [.int .i64 (.lit 8), .int .i64 (.lit 2), .int .i64 (.lit 0), .int .i64 (.lit 4294967296), .int .i64 (.lit 0), .int .i64 (.lit 0), .int .i64 (.lit 0), .int .i64 (.lit 0), .int .i64 (.lit 0), .int .i64 (.lit 0), .bool (.lit false), .int .i64 (.lit 0), .int .i64 (.lit 0), .int .i64 (.lit 17593259786304), .int .i64 (.lit 137438969856), .int .i64 (.lit 17592194433024), .bool (.lit false), .int .i64 (.lit 0), .int .i64 (.lit 0), .int .i64 (.lit 17593259786304), .int .i64 (.lit 137438969856), .int .i64 (.lit 17592194433024), .bool (.lit false), .int .i64 (.lit 0), .int .i64 (.lit 0), .int .i64 (.lit 17593259786304), .int .i64 (.lit 137438969856), .int .i64 (.lit 17592194433024), .bool (.lit false)]), .v (.agg [.int .i64 (.lit 0), .int .i64 (.lit 0), .int .i64 (.lit 0), .int .i64 (.lit 4294967296), .int .i64 (.lit 4503599627370496), .int .i64 (.lit 0), .int .i64 (.lit 0), .int .i64 (.lit 0), .int .i64 (.lit 4294967296), .int .i64 (.lit 4503599627370496), .int .i64 (.lit 0), .int .i64 (.lit 0), .int .i64 (.lit 0), .int .i64 (.lit 4294967296), .int .i64 (.lit 4503599627370496), .int .i64 (.lit 0), .int .i64 (.lit 0), .int .i64 (.lit 0), .int .i64 (.lit 4294967296), .int .i64 (.lit 4503599627370496)]), .v (.agg [.int .i64 (.lit 12), .int .i64 (.lit 1), .int .i64 (.lit 0), .int .i64 (.lit 0), .int .i64 (.lit 42119241033)])]
noncomputable def fr2 : SV := .tuple [.agg [.int .i64 (.lit 12), .int .i64 (.lit 3), .int .i64 (.lit 0), .int .i64 (.lit 4294967296), .int .i64 (.lit 0), .int .i64 (.lit 0), .int .i64 (.lit 0), .int .i64 (.lit 0), .int .i64 (.lit 0), .int .i64 (.lit 0), .bool (.lit false), .int .i64 (.lit 0), .int .i64 (.lit 0), .int .i64 (.lit 17594601963840), .int .i64 (.lit 206158479360), .int .i64 (.lit 17592198627328), .bool (.lit false), .int .i64 (.lit 0), .int .i64 (.lit 0), .int .i64 (.lit 17594601963840), .int .i64 (.lit 206158479360), .int .i64 (.lit 17592198627328), .bool (.lit false), .int .i64 (.lit 0), .int .i64 (.lit 0), .int .i64 (.lit 17594601963840), .int .i64 (.lit 206158479360), .int .i64 (.lit 17592198627328), .bool (.lit false)], .int .i64 (.lit 0)]
theorem fk2 (w : World) (vs : List Value) (hv : SArels w fa2 vs) : Calls Tryz.prog 59 vs.toArray w fun e w' => (∃ v, e = .returned v ∧ SV.rel noLab fr2 v) ∧ Below w.heap.size w w' := by
 refine (S59_ok fa2 (g59 (12, 3, 0, 4294967296, 0, 0, 0, 0, 0, 0, false, 0, 0, 17594601963840, 206158479360, 17592198627328, false, 0, 0, 17594601963840, 206158479360, 17592198627328, false, 0, 0, 17594601963840, 206158479360, 17592198627328, false, 0)) (by unfold S59 fa2; dsimp only [SI.val, SB.val]; rw [fe2]) w vs hv).mono ?_
 rintro e w' ⟨⟨v, rfl, h⟩, hb⟩
 refine ⟨⟨v, rfl, ?_⟩, hb⟩
 simp only [g59, fr2, SV.rel, relL, SI.val, SB.val] at h ⊢
 exact h
noncomputable def fa3 : List SA := [.v (.agg [.int .i64 (.lit 12), .int .i64 (.lit 3), .int .i64 (.lit 0), .int .i64 (.lit 4294967296), .int .i64 (.lit 0), .int .i64 (.lit 0), .int .i64 (.lit 0), .int .i64 (.lit 0), .int .i64 (.lit 0), .int .i64 (.lit 0), .bool (.lit false), .int .i64 (.lit 0), .int .i64 (.lit 0), .int .i64 (.lit 17594601963840), .int .i64 (.lit 206158479360), .int .i64 (.lit 17592198627328), .bool (.lit false), .int .i64 (.lit 0), .int .i64 (.lit 0), .int .i64 (.lit 17594601963840), .int .i64 (.lit 206158479360), .int .i64 (.lit 17592198627328), .bool (.lit false), .int .i64 (.lit 0), .int .i64 (.lit 0), .int .i64 (.lit 17594601963840), .int .i64 (.lit 206158479360), .int .i64 (.lit 17592198627328), .bool (.lit false)]), .v (.agg [.int .i64 (.lit 0), .int .i64 (.lit 0), .int .i64 (.lit 0), .int .i64 (.lit 4294967296), .int .i64 (.lit 4503599627370496), .int .i64 (.lit 0), .int .i64 (.lit 0), .int .i64 (.lit 0), .int .i64 (.lit 4294967296), .int .i64 (.lit 4503599627370496), .int .i64 (.lit 0), .int .i64 (.lit 0), .int .i64 (.lit 0), .int .i64 (.lit 4294967296), .int .i64 (.lit 4503599627370496), .int .i64 (.lit 0), .int .i64 (.lit 0), .int .i64 (.lit 0), .int .i64 (.lit 4294967296), .int .i64 (.lit 4503599627370496)]), .v (.agg [.int .i64 (.lit 16), .int .i64 (.lit 0), .int .i64 (.lit 0), .int .i64 (.lit 0), .int .i64 (.lit 0)])]
noncomputable def fr3 : SV := .tuple [.agg [.int .i64 (.lit 16), .int .i64 (.lit 4), .int .i64 (.lit 0), .int .i64 (.lit 4294967296), .int .i64 (.lit 0), .int .i64 (.lit 0), .int .i64 (.lit 0), .int .i64 (.lit 0), .int .i64 (.lit 0), .int .i64 (.lit 0), .bool (.lit false), .int .i64 (.lit 0), .int .i64 (.lit 0), .int .i64 (.lit 17596481012608), .int .i64 (.lit 274878005248), .int .i64 (.lit 17592202821632), .bool (.lit false), .int .i64 (.lit 0), .int .i64 (.lit 0), .int .i64 (.lit 17596481012608), .int .i64 (.lit 274878005248), .int .i64 (.lit 17592202821632), .bool (.lit false), .int .i64 (.lit 0), .int .i64 (.lit 0), .int .i64 (.lit 17596481012608), .int .i64 (.lit 274878005248), .int .i64 (.lit 17592202821632), .bool (.lit false)], .int .i64 (.lit 0)]
theorem fk3 (w : World) (vs : List Value) (hv : SArels w fa3 vs) : Calls Tryz.prog 59 vs.toArray w fun e w' => (∃ v, e = .returned v ∧ SV.rel noLab fr3 v) ∧ Below w.heap.size w w' := by
 refine (S59_ok fa3 (g59 (16, 4, 0, 4294967296, 0, 0, 0, 0, 0, 0, false, 0, 0, 17596481012608, 274878005248, 17592202821632, false, 0, 0, 17596481012608, 274878005248, 17592202821632, false, 0, 0, 17596481012608, 274878005248, 17592202821632, false, 0)) (by unfold S59 fa3; dsimp only [SI.val, SB.val]; rw [fe3]) w vs hv).mono ?_
 rintro e w' ⟨⟨v, rfl, h⟩, hb⟩
 refine ⟨⟨v, rfl, ?_⟩, hb⟩
 simp only [g59, fr3, SV.rel, relL, SI.val, SB.val] at h ⊢
 exact h
noncomputable def fa4 : List SA := [.v (.agg [.int .i64 (.lit 16), .int .i64 (.lit 4), .int .i64 (.lit 0), .int .i64 (.lit 4294967296), .int .i64 (.lit 0), .int .i64 (.lit 0), .int .i64 (.lit 0), .int .i64 (.lit 0), .int .i64 (.lit 0), .int .i64 (.lit 0), .bool (.lit false), .int .i64 (.lit 0), .int .i64 (.lit 0), .int .i64 (.lit 17596481012608), .int .i64 (.lit 274878005248), .int .i64 (.lit 17592202821632), .bool (.lit false), .int .i64 (.lit 0), .int .i64 (.lit 0), .int .i64 (.lit 17596481012608), .int .i64 (.lit 274878005248), .int .i64 (.lit 17592202821632), .bool (.lit false), .int .i64 (.lit 0), .int .i64 (.lit 0), .int .i64 (.lit 17596481012608), .int .i64 (.lit 274878005248), .int .i64 (.lit 17592202821632), .bool (.lit false)]), .v (.agg [.int .i64 (.lit 0), .int .i64 (.lit 0), .int .i64 (.lit 0), .int .i64 (.lit 4294967296), .int .i64 (.lit 4503599627370496), .int .i64 (.lit 0), .int .i64 (.lit 0), .int .i64 (.lit 0), .int .i64 (.lit 4294967296), .int .i64 (.lit 4503599627370496), .int .i64 (.lit 0), .int .i64 (.lit 0), .int .i64 (.lit 0), .int .i64 (.lit 4294967296), .int .i64 (.lit 4503599627370496), .int .i64 (.lit 0), .int .i64 (.lit 0), .int .i64 (.lit 0), .int .i64 (.lit 4294967296), .int .i64 (.lit 4503599627370496)]), .v (.agg [.int .i64 (.lit 20), .int .i64 (.lit 1), .int .i64 (.lit 0), .int .i64 (.lit 0), .int .i64 (.lit 42119241033)])]
noncomputable def fr4 : SV := .tuple [.agg [.int .i64 (.lit 20), .int .i64 (.lit 5), .int .i64 (.lit 0), .int .i64 (.lit 4294967296), .int .i64 (.lit 0), .int .i64 (.lit 0), .int .i64 (.lit 0), .int .i64 (.lit 0), .int .i64 (.lit 0), .int .i64 (.lit 0), .bool (.lit false), .int .i64 (.lit 0), .int .i64 (.lit 0), .int .i64 (.lit 17598896932736), .int .i64 (.lit 343597547520), .int .i64 (.lit 17592207015936), .bool (.lit false), .int .i64 (.lit 0), .int .i64 (.lit 0), .int .i64 (.lit 17598896932736), .int .i64 (.lit 343597547520), .int .i64 (.lit 17592207015936), .bool (.lit false), .int .i64 (.lit 0), .int .i64 (.lit 0), .int .i64 (.lit 17598896932736), .int .i64 (.lit 343597547520), .int .i64 (.lit 17592207015936), .bool (.lit false)], .int .i64 (.lit 0)]
theorem fk4 (w : World) (vs : List Value) (hv : SArels w fa4 vs) : Calls Tryz.prog 59 vs.toArray w fun e w' => (∃ v, e = .returned v ∧ SV.rel noLab fr4 v) ∧ Below w.heap.size w w' := by
 refine (S59_ok fa4 (g59 (20, 5, 0, 4294967296, 0, 0, 0, 0, 0, 0, false, 0, 0, 17598896932736, 343597547520, 17592207015936, false, 0, 0, 17598896932736, 343597547520, 17592207015936, false, 0, 0, 17598896932736, 343597547520, 17592207015936, false, 0)) (by unfold S59 fa4; dsimp only [SI.val, SB.val]; rw [fe4]) w vs hv).mono ?_
 rintro e w' ⟨⟨v, rfl, h⟩, hb⟩
 refine ⟨⟨v, rfl, ?_⟩, hb⟩
 simp only [g59, fr4, SV.rel, relL, SI.val, SB.val] at h ⊢
 exact h
noncomputable def fa5 : List SA := [.v (.agg [.int .i64 (.lit 20), .int .i64 (.lit 5), .int .i64 (.lit 0), .int .i64 (.lit 4294967296), .int .i64 (.lit 0), .int .i64 (.lit 0), .int .i64 (.lit 0), .int .i64 (.lit 0), .int .i64 (.lit 0), .int .i64 (.lit 0), .bool (.lit false), .int .i64 (.lit 0), .int .i64 (.lit 0), .int .i64 (.lit 17598896932736), .int .i64 (.lit 343597547520), .int .i64 (.lit 17592207015936), .bool (.lit false), .int .i64 (.lit 0), .int .i64 (.lit 0), .int .i64 (.lit 17598896932736), .int .i64 (.lit 343597547520), .int .i64 (.lit 17592207015936), .bool (.lit false), .int .i64 (.lit 0), .int .i64 (.lit 0), .int .i64 (.lit 17598896932736), .int .i64 (.lit 343597547520), .int .i64 (.lit 17592207015936), .bool (.lit false)]), .v (.agg [.int .i64 (.lit 0), .int .i64 (.lit 0), .int .i64 (.lit 0), .int .i64 (.lit 4294967296), .int .i64 (.lit 4503599627370496), .int .i64 (.lit 0), .int .i64 (.lit 0), .int .i64 (.lit 0), .int .i64 (.lit 4294967296), .int .i64 (.lit 4503599627370496), .int .i64 (.lit 0), .int .i64 (.lit 0), .int .i64 (.lit 0), .int .i64 (.lit 4294967296), .int .i64 (.lit 4503599627370496), .int .i64 (.lit 0), .int .i64 (.lit 0), .int .i64 (.lit 0), .int .i64 (.lit 4294967296), .int .i64 (.lit 4503599627370496)]), .v (.agg [.int .i64 (.lit 24), .int .i64 (.lit 0), .int .i64 (.lit 0), .int .i64 (.lit 0), .int .i64 (.lit 0)])]
noncomputable def fr5 : SV := .tuple [.agg [.int .i64 (.lit 24), .int .i64 (.lit 6), .int .i64 (.lit 0), .int .i64 (.lit 4294967296), .int .i64 (.lit 0), .int .i64 (.lit 0), .int .i64 (.lit 0), .int .i64 (.lit 0), .int .i64 (.lit 0), .int .i64 (.lit 0), .bool (.lit false), .int .i64 (.lit 0), .int .i64 (.lit 0), .int .i64 (.lit 17601849724352), .int .i64 (.lit 412317106176), .int .i64 (.lit 17592211210240), .bool (.lit false), .int .i64 (.lit 0), .int .i64 (.lit 0), .int .i64 (.lit 17601849724352), .int .i64 (.lit 412317106176), .int .i64 (.lit 17592211210240), .bool (.lit false), .int .i64 (.lit 0), .int .i64 (.lit 0), .int .i64 (.lit 17601849724352), .int .i64 (.lit 412317106176), .int .i64 (.lit 17592211210240), .bool (.lit false)], .int .i64 (.lit 0)]
theorem fk5 (w : World) (vs : List Value) (hv : SArels w fa5 vs) : Calls Tryz.prog 59 vs.toArray w fun e w' => (∃ v, e = .returned v ∧ SV.rel noLab fr5 v) ∧ Below w.heap.size w w' := by
 refine (S59_ok fa5 (g59 (24, 6, 0, 4294967296, 0, 0, 0, 0, 0, 0, false, 0, 0, 17601849724352, 412317106176, 17592211210240, false, 0, 0, 17601849724352, 412317106176, 17592211210240, false, 0, 0, 17601849724352, 412317106176, 17592211210240, false, 0)) (by unfold S59 fa5; dsimp only [SI.val, SB.val]; rw [fe5]) w vs hv).mono ?_
 rintro e w' ⟨⟨v, rfl, h⟩, hb⟩
 refine ⟨⟨v, rfl, ?_⟩, hb⟩
 simp only [g59, fr5, SV.rel, relL, SI.val, SB.val] at h ⊢
 exact h
noncomputable def fa6 : List SA := [.v (.agg [.int .i64 (.lit 24), .int .i64 (.lit 6), .int .i64 (.lit 0), .int .i64 (.lit 4294967296), .int .i64 (.lit 0), .int .i64 (.lit 0), .int .i64 (.lit 0), .int .i64 (.lit 0), .int .i64 (.lit 0), .int .i64 (.lit 0), .bool (.lit false), .int .i64 (.lit 0), .int .i64 (.lit 0), .int .i64 (.lit 17601849724352), .int .i64 (.lit 412317106176), .int .i64 (.lit 17592211210240), .bool (.lit false), .int .i64 (.lit 0), .int .i64 (.lit 0), .int .i64 (.lit 17601849724352), .int .i64 (.lit 412317106176), .int .i64 (.lit 17592211210240), .bool (.lit false), .int .i64 (.lit 0), .int .i64 (.lit 0), .int .i64 (.lit 17601849724352), .int .i64 (.lit 412317106176), .int .i64 (.lit 17592211210240), .bool (.lit false)]), .v (.agg [.int .i64 (.lit 0), .int .i64 (.lit 0), .int .i64 (.lit 0), .int .i64 (.lit 4294967296), .int .i64 (.lit 4503599627370496), .int .i64 (.lit 0), .int .i64 (.lit 0), .int .i64 (.lit 0), .int .i64 (.lit 4294967296), .int .i64 (.lit 4503599627370496), .int .i64 (.lit 0), .int .i64 (.lit 0), .int .i64 (.lit 0), .int .i64 (.lit 4294967296), .int .i64 (.lit 4503599627370496), .int .i64 (.lit 0), .int .i64 (.lit 0), .int .i64 (.lit 0), .int .i64 (.lit 4294967296), .int .i64 (.lit 4503599627370496)]), .v (.agg [.int .i64 (.lit 28), .int .i64 (.lit 1), .int .i64 (.lit 0), .int .i64 (.lit 0), .int .i64 (.lit 42119241033)])]
noncomputable def fr6 : SV := .tuple [.agg [.int .i64 (.lit 28), .int .i64 (.lit 7), .int .i64 (.lit 0), .int .i64 (.lit 4294967296), .int .i64 (.lit 0), .int .i64 (.lit 0), .int .i64 (.lit 0), .int .i64 (.lit 0), .int .i64 (.lit 0), .int .i64 (.lit 0), .bool (.lit false), .int .i64 (.lit 0), .int .i64 (.lit 0), .int .i64 (.lit 17605339387584), .int .i64 (.lit 481036681216), .int .i64 (.lit 17592215404544), .bool (.lit false), .int .i64 (.lit 0), .int .i64 (.lit 0), .int .i64 (.lit 17605339387584), .int .i64 (.lit 481036681216), .int .i64 (.lit 17592215404544), .bool (.lit false), .int .i64 (.lit 0), .int .i64 (.lit 0), .int .i64 (.lit 17605339387584), .int .i64 (.lit 481036681216), .int .i64 (.lit 17592215404544), .bool (.lit false)], .int .i64 (.lit 0)]
theorem fk6 (w : World) (vs : List Value) (hv : SArels w fa6 vs) : Calls Tryz.prog 59 vs.toArray w fun e w' => (∃ v, e = .returned v ∧ SV.rel noLab fr6 v) ∧ Below w.heap.size w w' := by
 refine (S59_ok fa6 (g59 (28, 7, 0, 4294967296, 0, 0, 0, 0, 0, 0, false, 0, 0, 17605339387584, 481036681216, 17592215404544, false, 0, 0, 17605339387584, 481036681216, 17592215404544, false, 0, 0, 17605339387584, 481036681216, 17592215404544, false, 0)) (by unfold S59 fa6; dsimp only [SI.val, SB.val]; rw [fe6]) w vs hv).mono ?_
 rintro e w' ⟨⟨v, rfl, h⟩, hb⟩
 refine ⟨⟨v, rfl, ?_⟩, hb⟩
 simp only [g59, fr6, SV.rel, relL, SI.val, SB.val] at h ⊢
 exact h
noncomputable def fa7 : List SA := [.v (.agg [.int .i64 (.lit 28), .int .i64 (.lit 7), .int .i64 (.lit 0), .int .i64 (.lit 4294967296), .int .i64 (.lit 0), .int .i64 (.lit 0), .int .i64 (.lit 0), .int .i64 (.lit 0), .int .i64 (.lit 0), .int .i64 (.lit 0), .bool (.lit false), .int .i64 (.lit 0), .int .i64 (.lit 0), .int .i64 (.lit 17605339387584), .int .i64 (.lit 481036681216), .int .i64 (.lit 17592215404544), .bool (.lit false), .int .i64 (.lit 0), .int .i64 (.lit 0), .int .i64 (.lit 17605339387584), .int .i64 (.lit 481036681216), .int .i64 (.lit 17592215404544), .bool (.lit false), .int .i64 (.lit 0), .int .i64 (.lit 0), .int .i64 (.lit 17605339387584), .int .i64 (.lit 481036681216), .int .i64 (.lit 17592215404544), .bool (.lit false)]), .v (.agg [.int .i64 (.lit 0), .int .i64 (.lit 0), .int .i64 (.lit 0), .int .i64 (.lit 4294967296), .int .i64 (.lit 4503599627370496), .int .i64 (.lit 0), .int .i64 (.lit 0), .int .i64 (.lit 0), .int .i64 (.lit 4294967296), .int .i64 (.lit 4503599627370496), .int .i64 (.lit 0), .int .i64 (.lit 0), .int .i64 (.lit 0), .int .i64 (.lit 4294967296), .int .i64 (.lit 4503599627370496), .int .i64 (.lit 0), .int .i64 (.lit 0), .int .i64 (.lit 0), .int .i64 (.lit 4294967296), .int .i64 (.lit 4503599627370496)]), .v (.agg [.int .i64 (.lit 32), .int .i64 (.lit 0), .int .i64 (.lit 0), .int .i64 (.lit 0), .int .i64 (.lit 0)])]
noncomputable def fr7 : SV := .tuple [.agg [.int .i64 (.lit 32), .int .i64 (.lit 8), .int .i64 (.lit 0), .int .i64 (.lit 4294967296), .int .i64 (.lit 0), .int .i64 (.lit 0), .int .i64 (.lit 0), .int .i64 (.lit 0), .int .i64 (.lit 0), .int .i64 (.lit 0), .bool (.lit false), .int .i64 (.lit 0), .int .i64 (.lit 0), .int .i64 (.lit 17609365922560), .int .i64 (.lit 549756272640), .int .i64 (.lit 17592219598848), .bool (.lit false), .int .i64 (.lit 0), .int .i64 (.lit 0), .int .i64 (.lit 17609365922560), .int .i64 (.lit 549756272640), .int .i64 (.lit 17592219598848), .bool (.lit false), .int .i64 (.lit 0), .int .i64 (.lit 0), .int .i64 (.lit 17609365922560), .int .i64 (.lit 549756272640), .int .i64 (.lit 17592219598848), .bool (.lit false)], .int .i64 (.lit 0)]
theorem fk7 (w : World) (vs : List Value) (hv : SArels w fa7 vs) : Calls Tryz.prog 59 vs.toArray w fun e w' => (∃ v, e = .returned v ∧ SV.rel noLab fr7 v) ∧ Below w.heap.size w w' := by
 refine (S59_ok fa7 (g59 (32, 8, 0, 4294967296, 0, 0, 0, 0, 0, 0, false, 0, 0, 17609365922560, 549756272640, 17592219598848, false, 0, 0, 17609365922560, 549756272640, 17592219598848, false, 0, 0, 17609365922560, 549756272640, 17592219598848, false, 0)) (by unfold S59 fa7; dsimp only [SI.val, SB.val]; rw [fe7]) w vs hv).mono ?_
 rintro e w' ⟨⟨v, rfl, h⟩, hb⟩
 refine ⟨⟨v, rfl, ?_⟩, hb⟩
 simp only [g59, fr7, SV.rel, relL, SI.val, SB.val] at h ⊢
 exact h
noncomputable def fa8 : List SA := [.v (.agg [.int .i64 (.lit 0), .int .i64 (.lit 0), .int .i64 (.lit 0), .int .i64 (.lit 4294967296), .int .i64 (.lit 0), .int .i64 (.lit 0), .int .i64 (.lit 0), .int .i64 (.lit 0), .int .i64 (.lit 0), .int .i64 (.lit 0), .bool (.lit false), .int .i64 (.lit 0), .int .i64 (.lit 0), .int .i64 (.lit 17592186044416), .int .i64 (.lit 0), .int .i64 (.lit 17592186044416), .bool (.lit false), .int .i64 (.lit 0), .int .i64 (.lit 0), .int .i64 (.lit 17592186044416), .int .i64 (.lit 0), .int .i64 (.lit 17592186044416), .bool (.lit false), .int .i64 (.lit 0), .int .i64 (.lit 0), .int .i64 (.lit 17592186044416), .int .i64 (.lit 0), .int .i64 (.lit 17592186044416), .bool (.lit false)]), .v (.agg [.int .i64 (.lit 0), .int .i64 (.lit 0), .int .i64 (.lit 0), .int .i64 (.lit 4294967296), .int .i64 (.lit 4503599627370496), .int .i64 (.lit 0), .int .i64 (.lit 0), .int .i64 (.lit 0), .int .i64 (.lit 4294967296), .int .i64 (.lit 4503599627370496), .int .i64 (.lit 0), .int .i64 (.lit 0), .int .i64 (.lit 0), .int .i64 (.lit 4294967296), .int .i64 (.lit 4503599627370496), .int .i64 (.lit 0), .int .i64 (.lit 0), .int .i64 (.lit 0), .int .i64 (.lit 4294967296), .int .i64 (.lit 4503599627370496)]), .v (.agg [.int .i64 (.lit 0), .int .i64 (.lit 2), .int .i64 (.lit 4294967296), .int .i64 (.lit 8589934592), .int .i64 (.lit 12884901888)])]
noncomputable def fr8 : SV := .tuple [.agg [.int .i64 (.lit 0), .int .i64 (.lit 1), .int .i64 (.lit 0), .int .i64 (.lit 4294967296), .int .i64 (.lit 0), .int .i64 (.lit 0), .int .i64 (.lit 0), .int .i64 (.lit 0), .int .i64 (.lit 0), .int .i64 (.lit 0), .bool (.lit false), .int .i64 (.lit 4293918976), .int .i64 (.lit 0), .int .i64 (.lit 4293918720), .int .i64 (.lit 0), .int .i64 (.lit 17592186044416), .bool (.lit false), .int .i64 (.lit 8587837952), .int .i64 (.lit 0), .int .i64 (.lit 4293918720), .int .i64 (.lit 0), .int .i64 (.lit 17592186044416), .bool (.lit false), .int .i64 (.lit 12881756928), .int .i64 (.lit 0), .int .i64 (.lit 4293918720), .int .i64 (.lit 0), .int .i64 (.lit 17592186044416), .bool (.lit false)], .int .i64 (.lit 0)]
theorem fk8 (w : World) (vs : List Value) (hv : SArels w fa8 vs) : Calls Tryz.prog 59 vs.toArray w fun e w' => (∃ v, e = .returned v ∧ SV.rel noLab fr8 v) ∧ Below w.heap.size w w' := by
 refine (S59_ok fa8 (g59 (0, 1, 0, 4294967296, 0, 0, 0, 0, 0, 0, false, 4293918976, 0, 4293918720, 0, 17592186044416, false, 8587837952, 0, 4293918720, 0, 17592186044416, false, 12881756928, 0, 4293918720, 0, 17592186044416, false, 0)) (by unfold S59 fa8; dsimp only [SI.val, SB.val]; rw [fe8]) w vs hv).mono ?_
 rintro e w' ⟨⟨v, rfl, h⟩, hb⟩
 refine ⟨⟨v, rfl, ?_⟩, hb⟩
 simp only [g59, fr8, SV.rel, relL, SI.val, SB.val] at h ⊢
 exact h
noncomputable def fa9 : List SA := [.v (.agg [.int .i64 (.lit 32), .int .i64 (.lit 8), .int .i64 (.lit 0), .int .i64 (.lit 4294967296), .int .i64 (.lit 0), .int .i64 (.lit 0), .int .i64 (.lit 0), .int .i64 (.lit 0), .int .i64 (.lit 0), .int .i64 (.lit 0), .bool (.lit false), .int .i64 (.lit 0), .int .i64 (.lit 0), .int .i64 (.lit 17609365922560), .int .i64 (.lit 549756272640), .int .i64 (.lit 17592219598848), .bool (.lit false), .int .i64 (.lit 0), .int .i64 (.lit 0), .int .i64 (.lit 17609365922560), .int .i64 (.lit 549756272640), .int .i64 (.lit 17592219598848), .bool (.lit false), .int .i64 (.lit 0), .int .i64 (.lit 0), .int .i64 (.lit 17609365922560), .int .i64 (.lit 549756272640), .int .i64 (.lit 17592219598848), .bool (.lit false)]), .v (.agg [.int .i64 (.lit 0), .int .i64 (.lit 0), .int .i64 (.lit 0), .int .i64 (.lit 4294967296), .int .i64 (.lit 4503599627370496), .int .i64 (.lit 0), .int .i64 (.lit 0), .int .i64 (.lit 0), .int .i64 (.lit 4294967296), .int .i64 (.lit 4503599627370496), .int .i64 (.lit 0), .int .i64 (.lit 0), .int .i64 (.lit 0), .int .i64 (.lit 4294967296), .int .i64 (.lit 4503599627370496), .int .i64 (.lit 0), .int .i64 (.lit 0), .int .i64 (.lit 0), .int .i64 (.lit 4294967296), .int .i64 (.lit 4503599627370496)]), .v (.agg [.int .i64 (.lit 1), .int .i64 (.lit 0), .int .i64 (.lit 0), .int .i64 (.lit 0), .int .i64 (.lit 0)])]
noncomputable def fr9 : SV := .tuple [.agg [.int .i64 (.lit 32), .int .i64 (.lit 8), .int .i64 (.lit 1), .int .i64 (.lit 4294967296), .int .i64 (.lit 0), .int .i64 (.lit 0), .int .i64 (.lit 0), .int .i64 (.lit 0), .int .i64 (.lit 0), .int .i64 (.lit 0), .bool (.lit false), .int .i64 (.lit 0), .int .i64 (.lit 0), .int .i64 (.lit 17609365922560), .int .i64 (.lit 549756272640), .int .i64 (.lit 17592219598848), .bool (.lit false), .int .i64 (.lit 0), .int .i64 (.lit 0), .int .i64 (.lit 17609365922560), .int .i64 (.lit 549756272640), .int .i64 (.lit 17592219598848), .bool (.lit false), .int .i64 (.lit 0), .int .i64 (.lit 0), .int .i64 (.lit 17609365922560), .int .i64 (.lit 549756272640), .int .i64 (.lit 17592219598848), .bool (.lit false)], .int .i64 (.lit 3)]
theorem fk9 (w : World) (vs : List Value) (hv : SArels w fa9 vs) : Calls Tryz.prog 59 vs.toArray w fun e w' => (∃ v, e = .returned v ∧ SV.rel noLab fr9 v) ∧ Below w.heap.size w w' := by
 refine (S59_ok fa9 (g59 (32, 8, 1, 4294967296, 0, 0, 0, 0, 0, 0, false, 0, 0, 17609365922560, 549756272640, 17592219598848, false, 0, 0, 17609365922560, 549756272640, 17592219598848, false, 0, 0, 17609365922560, 549756272640, 17592219598848, false, 3)) (by unfold S59 fa9; dsimp only [SI.val, SB.val]; rw [fe9]) w vs hv).mono ?_
 rintro e w' ⟨⟨v, rfl, h⟩, hb⟩
 refine ⟨⟨v, rfl, ?_⟩, hb⟩
 simp only [g59, fr9, SV.rel, relL, SI.val, SB.val] at h ⊢
 exact h
noncomputable def S24T : Summ := tabS [(fa0, fr0), (fa1, fr1), (fa2, fr2), (fa3, fr3), (fa4, fr4), (fa5, fr5), (fa6, fr6), (fa7, fr7), (fa8, fr8), (fa9, fr9)] S59
theorem S24T_ok : SummFn Tryz.prog 59 S24T := tabS_ok S59_ok ⟨fk0, fk1, fk2, fk3, fk4, fk5, fk6, fk7, fk8, fk9, trivial⟩
noncomputable def ka : List SA := [.v (.agg [.int .i64 (.lit 0), .int .i64 (.lit 0), .int .i64 (.lit 0), .int .i64 (.lit 4294967296), .int .i64 (.lit 0), .int .i64 (.lit 0), .int .i64 (.lit 0), .int .i64 (.lit 0), .int .i64 (.lit 0), .int .i64 (.lit 0), .bool (.lit false), .int .i64 (.lit 0), .int .i64 (.lit 0), .int .i64 (.lit 17592186044416), .int .i64 (.lit 0), .int .i64 (.lit 17592186044416), .bool (.lit false), .int .i64 (.lit 0), .int .i64 (.lit 0), .int .i64 (.lit 17592186044416), .int .i64 (.lit 0), .int .i64 (.lit 17592186044416), .bool (.lit false), .int .i64 (.lit 0), .int .i64 (.lit 0), .int .i64 (.lit 17592186044416), .int .i64 (.lit 0), .int .i64 (.lit 17592186044416), .bool (.lit false)])]
noncomputable def kr : SV := .agg [.int .i64 (.lit 0), .int .i64 (.lit 0), .int .i64 (.lit 0), .int .i64 (.lit 4294967296), .int .i64 (.lit 0), .int .i64 (.lit 0), .int .i64 (.lit 0), .int .i64 (.lit 0), .int .i64 (.lit 0), .int .i64 (.lit 0), .bool (.lit false), .int .i64 (.lit 0), .int .i64 (.lit 0), .int .i64 (.lit 17592186044416), .int .i64 (.lit 0), .int .i64 (.lit 17592186044416), .bool (.lit false), .int .i64 (.lit 0), .int .i64 (.lit 0), .int .i64 (.lit 17592186044416), .int .i64 (.lit 0), .int .i64 (.lit 17592186044416), .bool (.lit false), .int .i64 (.lit 0), .int .i64 (.lit 0), .int .i64 (.lit 17592186044416), .int .i64 (.lit 0), .int .i64 (.lit 17592186044416), .bool (.lit false)]
theorem ke : f54 0 0 0 4294967296 0 0 0 0 0 0 false 0 0 17592186044416 0 17592186044416 false 0 0 17592186044416 0 17592186044416 false 0 0 17592186044416 0 17592186044416 false = (0, 0, 0, 4294967296, 0, 0, 0, 0, 0, 0, false, 0, 0, 17592186044416, 0, 17592186044416, false, 0, 0, 17592186044416, 0, 17592186044416, false, 0, 0, 17592186044416, 0, 17592186044416, false) := by kernel_rfl
theorem kk (w : World) (vs : List Value) (hv : SArels w ka vs) : Calls Tryz.prog 54 vs.toArray w fun e w' => (∃ v, e = .returned v ∧ SV.rel noLab kr v) ∧ Below w.heap.size w w' := by
 refine (S54_ok ka (g54 (0, 0, 0, 4294967296, 0, 0, 0, 0, 0, 0, false, 0, 0, 17592186044416, 0, 17592186044416, false, 0, 0, 17592186044416, 0, 17592186044416, false, 0, 0, 17592186044416, 0, 17592186044416, false)) (by unfold S54 ka; dsimp only [SI.val, SB.val]; rw [ke]) w vs hv).mono ?_
 rintro e w' ⟨⟨v, rfl, h⟩, hb⟩
 refine ⟨⟨v, rfl, ?_⟩, hb⟩
 simp only [g54, kr, SV.rel, relL, SI.val, SB.val] at h ⊢
 exact h
noncomputable def S60T : Summ := tabS [(ka, kr)] S54
theorem S60T_ok : SummFn Tryz.prog 54 S60T := tabS_ok S54_ok ⟨kk, trivial⟩
theorem se : f17 = (0, 0, 0, 4294967296, 0, 0, 0, 0, 0, 0, false, 0, 0, 17592186044416, 0, 17592186044416, false, 0, 0, 17592186044416, 0, 17592186044416, false, 0, 0, 17592186044416, 0, 17592186044416, false) := by kernel_rfl
theorem sk (w : World) (vs : List Value) (hv : SArels w [] vs) : Calls Tryz.prog 17 vs.toArray w fun e w' => (∃ v, e = .returned v ∧ SV.rel noLab kr v) ∧ Below w.heap.size w w' := by
 refine (S17_ok [] (g17 (0, 0, 0, 4294967296, 0, 0, 0, 0, 0, 0, false, 0, 0, 17592186044416, 0, 17592186044416, false, 0, 0, 17592186044416, 0, 17592186044416, false, 0, 0, 17592186044416, 0, 17592186044416, false)) (by unfold S17; rw [se]) w vs hv).mono ?_
 rintro e w' ⟨⟨v, rfl, h⟩, hb⟩
 refine ⟨⟨v, rfl, ?_⟩, hb⟩
 simp only [g17, kr, SV.rel, relL, SI.val, SB.val] at h ⊢
 exact h
noncomputable def S28T : Summ := tabS [([], kr)] S17
theorem S28T_ok : SummFn Tryz.prog 17 S28T := tabS_ok S17_ok ⟨sk, trivial⟩
theorem pe : f57 = (0, 0, 0, 4294967296, 4503599627370496, 0, 0, 0, 4294967296, 4503599627370496, 0, 0, 0, 4294967296, 4503599627370496, 0, 0, 0, 4294967296, 4503599627370496) := by kernel_rfl
theorem pk (w : World) (vs : List Value) (hv : SArels w [] vs) : Calls Tryz.prog 57 vs.toArray w fun e w' => (∃ v, e = .returned v ∧ SV.rel noLab calV v) ∧ Below w.heap.size w w' := by
 refine (S57_ok [] (g57 (0, 0, 0, 4294967296, 4503599627370496, 0, 0, 0, 4294967296, 4503599627370496, 0, 0, 0, 4294967296, 4503599627370496, 0, 0, 0, 4294967296, 4503599627370496)) (by unfold S57; rw [pe]) w vs hv).mono ?_
 rintro e w' ⟨⟨v, rfl, h⟩, hb⟩
 refine ⟨⟨v, rfl, ?_⟩, hb⟩
 simp only [g57, calV, SV.rel, relL, SI.val, SB.val] at h ⊢
 exact h
noncomputable def S35T : Summ := tabS [([], calV)] S57
theorem S35T_ok : SummFn Tryz.prog 57 S35T := tabS_ok S57_ok ⟨pk, trivial⟩
noncomputable def f19 : Bool := true
def g19 (p : Bool) : SV := bv p
noncomputable def S19 : Summ
 | [] => some (g19 (f19))
 | _ => none
theorem S19_ok : SummFn Go.Proofs.Tryz.prog 19 S19 := by
 have ev : (symCall ⟨Go.Proofs.Tryz.prog, [(59, S24T), (54, S60T), (44, S44), (18, S18), (17, S28T), (57, S35T), (52, S52)], 3, 336, true, [], [], [], []⟩ 30 19 [] []).out = ((g19 (f19)).toV) := by
  kernel_rfl
 intro fs r h w vs hv
 unfold S19 at h
 split at h
 ·cases h
  refine sx_calls ?_ 30 19 _ vs (symifyL_rel _ _ (SArels_v (xs := []) hv)) (by kernel_rfl) rfl ev w
  exact envOkU' ⟨S24T_ok, S60T_ok, S44_ok, S18_ok, S28T_ok, S35T_ok, S52_ok, trivial⟩ trivial trivial trivial
 ·cases h
theorem f19_eq : f19 = true := rfl
end Go.Proofs.YtdchdajjhofmnaaGreat
namespace Go.Proofs.YtdchdajjhofmnaaGreat
open Go Go.RowKit Go.Proofs Go.Sx
set_option linter.unusedVariables false
set_option linter.unusedSimpArgs false
set_option linter.constructorNameAsVariable false
set_option maxRecDepth 1000000
set_option maxHeartbeats 100000000
def Sn (p : T29) : Prop := f44 p.1 p.2.1 p.2.2.1 p.2.2.2.1 p.2.2.2.2.1 p.2.2.2.2.2.1 p.2.2.2.2.2.2.1 p.2.2.2.2.2.2.2.1 p.2.2.2.2.2.2.2.2.1 p.2.2.2.2.2.2.2.2.2.1 p.2.2.2.2.2.2.2.2.2.2.1 p.2.2.2.2.2.2.2.2.2.2.2.1 p.2.2.2.2.2.2.2.2.2.2.2.2.1 p.2.2.2.2.2.2.2.2.2.2.2.2.2.1 p.2.2.2.2.2.2.2.2.2.2.2.2.2.2.1 p.2.2.2.2.2.2.2.2.2.2.2.2.2.2.2.1 p.2.2.2.2.2.2.2.2.2.2.2.2.2.2.2.2.1 p.2.2.2.2.2.2.2.2.2.2.2.2.2.2.2.2.2.1 p.2.2.2.2.2.2.2.2.2.2.2.2.2.2.2.2.2.2.1 p.2.2.2.2.2.2.2.2.2.2.2.2.2.2.2.2.2.2.2.1 p.2.2.2.2.2.2.2.2.2.2.2.2.2.2.2.2.2.2.2.2.1 p.2.2.2.2.2.2.2.2.2.2.2.2.2.2.2.2.2.2.2.2.2.1 p.2.2.2.2.2.2.2.2.2.2.2.2.2.2.2.2.2.2.2.2.2.2.1 p.2.2.2.2.2.2.2.2.2.2.2.2.2.2.2.2.2.2.2.2.2.2.2.1 p.2.2.2.2.2.2.2.2.2.2.2.2.2.2.2.2.2.2.2.2.2.2.2.2.1 p.2.2.2.2.2.2.2.2.2.2.2.2.2.2.2.2.2.2.2.2.2.2.2.2.2.1 p.2.2.2.2.2.2.2.2.2.2.2.2.2.2.2.2.2.2.2.2.2.2.2.2.2.2.1 p.2.2.2.2.2.2.2.2.2.2.2.2.2.2.2.2.2.2.2.2.2.2.2.2.2.2.2.1 p.2.2.2.2.2.2.2.2.2.2.2.2.2.2.2.2.2.2.2.2.2.2.2.2.2.2.2.2 = true
def Bd (p : T29) : Bool := p.2.2.2.2.2.2.2.2.2.2.1 || p.2.2.2.2.2.2.2.2.2.2.2.2.2.2.2.2.1 || p.2.2.2.2.2.2.2.2.2.2.2.2.2.2.2.2.2.2.2.2.2.2.1 || p.2.2.2.2.2.2.2.2.2.2.2.2.2.2.2.2.2.2.2.2.2.2.2.2.2.2.2.2
noncomputable def B26 (p : T29) : Bool := f44 p.1 p.2.1 p.2.2.1 p.2.2.2.1 p.2.2.2.2.1 p.2.2.2.2.2.1 p.2.2.2.2.2.2.1 p.2.2.2.2.2.2.2.1 p.2.2.2.2.2.2.2.2.1 p.2.2.2.2.2.2.2.2.2.1 p.2.2.2.2.2.2.2.2.2.2.1 p.2.2.2.2.2.2.2.2.2.2.2.1 p.2.2.2.2.2.2.2.2.2.2.2.2.1 p.2.2.2.2.2.2.2.2.2.2.2.2.2.1 p.2.2.2.2.2.2.2.2.2.2.2.2.2.2.1 p.2.2.2.2.2.2.2.2.2.2.2.2.2.2.2.1 p.2.2.2.2.2.2.2.2.2.2.2.2.2.2.2.2.1 p.2.2.2.2.2.2.2.2.2.2.2.2.2.2.2.2.2.1 p.2.2.2.2.2.2.2.2.2.2.2.2.2.2.2.2.2.2.1 p.2.2.2.2.2.2.2.2.2.2.2.2.2.2.2.2.2.2.2.1 p.2.2.2.2.2.2.2.2.2.2.2.2.2.2.2.2.2.2.2.2.1 p.2.2.2.2.2.2.2.2.2.2.2.2.2.2.2.2.2.2.2.2.2.1 p.2.2.2.2.2.2.2.2.2.2.2.2.2.2.2.2.2.2.2.2.2.2.1 p.2.2.2.2.2.2.2.2.2.2.2.2.2.2.2.2.2.2.2.2.2.2.2.1 p.2.2.2.2.2.2.2.2.2.2.2.2.2.2.2.2.2.2.2.2.2.2.2.2.1 p.2.2.2.2.2.2.2.2.2.2.2.2.2.2.2.2.2.2.2.2.2.2.2.2.2.1 p.2.2.2.2.2.2.2.2.2.2.2.2.2.2.2.2.2.2.2.2.2.2.2.2.2.2.1 p.2.2.2.2.2.2.2.2.2.2.2.2.2.2.2.2.2.2.2.2.2.2.2.2.2.2.2.1 p.2.2.2.2.2.2.2.2.2.2.2.2.2.2.2.2.2.2.2.2.2.2.2.2.2.2.2.2
noncomputable def B30 (p : T29) : Bool := f18 p.1 p.2.1 p.2.2.1 p.2.2.2.1 p.2.2.2.2.1 p.2.2.2.2.2.1 p.2.2.2.2.2.2.1 p.2.2.2.2.2.2.2.1 p.2.2.2.2.2.2.2.2.1 p.2.2.2.2.2.2.2.2.2.1 p.2.2.2.2.2.2.2.2.2.2.1 p.2.2.2.2.2.2.2.2.2.2.2.1 p.2.2.2.2.2.2.2.2.2.2.2.2.1 p.2.2.2.2.2.2.2.2.2.2.2.2.2.1 p.2.2.2.2.2.2.2.2.2.2.2.2.2.2.1 p.2.2.2.2.2.2.2.2.2.2.2.2.2.2.2.1 p.2.2.2.2.2.2.2.2.2.2.2.2.2.2.2.2.1 p.2.2.2.2.2.2.2.2.2.2.2.2.2.2.2.2.2.1 p.2.2.2.2.2.2.2.2.2.2.2.2.2.2.2.2.2.2.1 p.2.2.2.2.2.2.2.2.2.2.2.2.2.2.2.2.2.2.2.1 p.2.2.2.2.2.2.2.2.2.2.2.2.2.2.2.2.2.2.2.2.1 p.2.2.2.2.2.2.2.2.2.2.2.2.2.2.2.2.2.2.2.2.2.1 p.2.2.2.2.2.2.2.2.2.2.2.2.2.2.2.2.2.2.2.2.2.2.1 p.2.2.2.2.2.2.2.2.2.2.2.2.2.2.2.2.2.2.2.2.2.2.2.1 p.2.2.2.2.2.2.2.2.2.2.2.2.2.2.2.2.2.2.2.2.2.2.2.2.1 p.2.2.2.2.2.2.2.2.2.2.2.2.2.2.2.2.2.2.2.2.2.2.2.2.2.1 p.2.2.2.2.2.2.2.2.2.2.2.2.2.2.2.2.2.2.2.2.2.2.2.2.2.2.1 p.2.2.2.2.2.2.2.2.2.2.2.2.2.2.2.2.2.2.2.2.2.2.2.2.2.2.2.1 p.2.2.2.2.2.2.2.2.2.2.2.2.2.2.2.2.2.2.2.2.2.2.2.2.2.2.2.2
theorem startB : f44 0 0 0 4294967296 0 0 0 0 0 0 true 0 0 17592186044416 0 17592186044416 false 0 0 17592186044416 0 17592186044416 false 0 0 17592186044416 0 17592186044416 false = true := by kernel_rfl
theorem st60_sane (p : T29) (h : Sn p) : st60 p = p := by
 unfold st60
 rw [f54_as _ _ _ _ _ _ _ _ _ _ _ _ _ _ _ _ _ _ _ _ _ _ _ _ _ _ _ _ _ h]
theorem st60_bad (p : T29) (h : ¬ Sn p) : st60 p = (0, 0, 0, 4294967296, 0, 0, 0, 0, 0, 0, true, 0, 0, 17592186044416, 0, 17592186044416, false, 0, 0, 17592186044416, 0, 17592186044416, false, 0, 0, 17592186044416, 0, 17592186044416, false) := by
 have hf : f44 p.1 p.2.1 p.2.2.1 p.2.2.2.1 p.2.2.2.2.1 p.2.2.2.2.2.1 p.2.2.2.2.2.2.1 p.2.2.2.2.2.2.2.1 p.2.2.2.2.2.2.2.2.1 p.2.2.2.2.2.2.2.2.2.1 p.2.2.2.2.2.2.2.2.2.2.1 p.2.2.2.2.2.2.2.2.2.2.2.1 p.2.2.2.2.2.2.2.2.2.2.2.2.1 p.2.2.2.2.2.2.2.2.2.2.2.2.2.1 p.2.2.2.2.2.2.2.2.2.2.2.2.2.2.1 p.2.2.2.2.2.2.2.2.2.2.2.2.2.2.2.1 p.2.2.2.2.2.2.2.2.2.2.2.2.2.2.2.2.1 p.2.2.2.2.2.2.2.2.2.2.2.2.2.2.2.2.2.1 p.2.2.2.2.2.2.2.2.2.2.2.2.2.2.2.2.2.2.1 p.2.2.2.2.2.2.2.2.2.2.2.2.2.2.2.2.2.2.2.1 p.2.2.2.2.2.2.2.2.2.2.2.2.2.2.2.2.2.2.2.2.1 p.2.2.2.2.2.2.2.2.2.2.2.2.2.2.2.2.2.2.2.2.2.1 p.2.2.2.2.2.2.2.2.2.2.2.2.2.2.2.2.2.2.2.2.2.2.1 p.2.2.2.2.2.2.2.2.2.2.2.2.2.2.2.2.2.2.2.2.2.2.2.1 p.2.2.2.2.2.2.2.2.2.2.2.2.2.2.2.2.2.2.2.2.2.2.2.2.1 p.2.2.2.2.2.2.2.2.2.2.2.2.2.2.2.2.2.2.2.2.2.2.2.2.2.1 p.2.2.2.2.2.2.2.2.2.2.2.2.2.2.2.2.2.2.2.2.2.2.2.2.2.2.1 p.2.2.2.2.2.2.2.2.2.2.2.2.2.2.2.2.2.2.2.2.2.2.2.2.2.2.2.1 p.2.2.2.2.2.2.2.2.2.2.2.2.2.2.2.2.2.2.2.2.2.2.2.2.2.2.2.2 = false := by simpa [Sn] using h
 have h28 : f17 = (0, 0, 0, 4294967296, 0, 0, 0, 0, 0, 0, false, 0, 0, 17592186044416, 0, 17592186044416, false, 0, 0, 17592186044416, 0, 17592186044416, false, 0, 0, 17592186044416, 0, 17592186044416, false) := by kernel_rfl
 unfold st60 f54
 simp only [hf, h28, cond_false, Bool.not_false, Bool.true_or]
theorem st60_sn (p : T29) : Sn (st60 p) := by
 by_cases h : Sn p
 ·rw [st60_sane p h]; exact h
 ·rw [st60_bad p h]; exact startB
theorem bad30 (p : T29) : B30 p = Bd (st60 p) := by
 unfold B30 Bd f18 st60
 simp only [first_any3]
 cases (f54 p.1 p.2.1 p.2.2.1 p.2.2.2.1 p.2.2.2.2.1 p.2.2.2.2.2.1 p.2.2.2.2.2.2.1 p.2.2.2.2.2.2.2.1 p.2.2.2.2.2.2.2.2.1 p.2.2.2.2.2.2.2.2.2.1 p.2.2.2.2.2.2.2.2.2.2.1 p.2.2.2.2.2.2.2.2.2.2.2.1 p.2.2.2.2.2.2.2.2.2.2.2.2.1 p.2.2.2.2.2.2.2.2.2.2.2.2.2.1 p.2.2.2.2.2.2.2.2.2.2.2.2.2.2.1 p.2.2.2.2.2.2.2.2.2.2.2.2.2.2.2.1 p.2.2.2.2.2.2.2.2.2.2.2.2.2.2.2.2.1 p.2.2.2.2.2.2.2.2.2.2.2.2.2.2.2.2.2.1 p.2.2.2.2.2.2.2.2.2.2.2.2.2.2.2.2.2.2.1 p.2.2.2.2.2.2.2.2.2.2.2.2.2.2.2.2.2.2.2.1 p.2.2.2.2.2.2.2.2.2.2.2.2.2.2.2.2.2.2.2.2.1 p.2.2.2.2.2.2.2.2.2.2.2.2.2.2.2.2.2.2.2.2.2.1 p.2.2.2.2.2.2.2.2.2.2.2.2.2.2.2.2.2.2.2.2.2.2.1 p.2.2.2.2.2.2.2.2.2.2.2.2.2.2.2.2.2.2.2.2.2.2.2.1 p.2.2.2.2.2.2.2.2.2.2.2.2.2.2.2.2.2.2.2.2.2.2.2.2.1 p.2.2.2.2.2.2.2.2.2.2.2.2.2.2.2.2.2.2.2.2.2.2.2.2.2.1 p.2.2.2.2.2.2.2.2.2.2.2.2.2.2.2.2.2.2.2.2.2.2.2.2.2.2.1 p.2.2.2.2.2.2.2.2.2.2.2.2.2.2.2.2.2.2.2.2.2.2.2.2.2.2.2.1 p.2.2.2.2.2.2.2.2.2.2.2.2.2.2.2.2.2.2.2.2.2.2.2.2.2.2.2.2).snd.snd.snd.snd.snd.snd.snd.snd.snd.snd.fst <;> simp [Bool.or_assoc]
theorem f19_true : f19 = true := by kernel_rfl
end Go.Proofs.YtdchdajjhofmnaaGreat
