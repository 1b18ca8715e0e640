/- ScaleTimes is true: whatever the numbers, the law returns true, and its arguments read as they did. No further condition.

The walk is done by an executor proved sound over the model (YtejlbofmlaclpaaSx); what each function computes was printed by a program and is checked by the kernel; the plain law is f7_eq. -/
import Derived.Test.YtejlbofmlaclpaaRows
import Derived.Test.YtejlbofmlaclpaaP4
import Derived.ProofKit
import Derived.Carry
namespace Go.Proofs.Ytejlbofmlaclpaa
open Go.ChangeShapes Go.WideShapes Go.ChangeAt Go.RowKit Go.Sx
theorem ScaleTimes.own : ownKnob Try.prog.godebug = none := by kernel_rfl
theorem ScaleTimes.laidOut : laidOutB Try.prog = true := by kernel_rfl
theorem ScaleTimes.rg {n : Int} (h : (Lit.int .i64 n).wf = true) : Rg .i64 n := by
  simp only [Lit.wf, Bool.and_eq_true, decide_eq_true_eq] at h
  exact wS h.1 (by have h2 : n ≤ 9223372036854775807 := h.2; omega)
theorem ScaleTimes.calls (a0 a1 : Int) (ha0 : Rg .i64 a0) (ha1 : Rg .i64 a1) (w : World) :
    Calls Try.prog 7 #[.int .i64 a0, .int .i64 a1] w fun e w' => e = .returned (.bool true) ∧ Below w.heap.size w w' := by
  have h := S7_ok [.v (.int .i64 (.sym a0)), .v (.int .i64 (.sym a1))] _ rfl w [.int .i64 a0, .int .i64 a1] ⟨_, _, ⟨rfl, ha0⟩, ⟨_, _, ⟨rfl, ha1⟩, rfl, rfl⟩, rfl⟩
  refine h.mono ?_
  rintro e w' ⟨⟨v, rfl, hv⟩, hb⟩
  have hv1 : v = .bool (f7 a0 a1) := hv
  rw [hv1, f7_eq]
  exact ⟨rfl, hb⟩
set_option maxRecDepth 100000 in
theorem ScaleTimes.lifted (os : Os) (started : os.Started) (H : Type) (enc : TypeId × Value → H) :
    ReturnsInHanded {} Try.checked os 7 .any (Rows.scaleTimesSpec.pre6 enc Try.prog Try.f7 Rows.scaleTimesRow.domain false) (Rows.scaleTimesSpec.post enc Try.prog Try.f7 false true false false) := by
  refine returnsInHanded_of_change (C := Try.checked) ScaleTimes.own started (by kernel_rfl) Try.func7
    (ChangeSpec.witness6 (enc := enc) (C := Try.checked) false ⟨#[], #[.int .i64 0, .int .i64 0], []⟩ 8 (by kernel_rfl) (by kernel_rfl) (by kernel_rfl) (by kernel_rfl)) ?_
  intro W base args ds gs before hval0 hW hcnd _
  have hval : ∀ (j : Nat) t v, Try.f7.params[j]? = some t → args[j]? = some v → Value.okWide Try.prog W .any base t v := hval0
  have hW' := hW
  obtain ⟨p, q, hA0, hV, rfl, hfz, hnd⟩ := hW
  have hA : DataW.TrodAll enc Try.prog W 0 (fun _ => true) true Try.f7.params.toList args.toList ds p := hA0
  rw [Try.params7] at hA hval
  obtain ⟨v0, v1, d0, d1, p0, p1, rfl, rfl, rfl, h0, h1⟩ := trodAll_two hA
  obtain ⟨rfl, rfl⟩ := trodVars_none hV

  obtain ⟨a0, rfl, rfl, rfl, wa0⟩ := open_int Try.underlying3 (hval 0 3 v0 rfl rfl) h0
  obtain ⟨a1, rfl, rfl, rfl, wa1⟩ := open_int Try.underlying3 (hval 1 3 v1 rfl rfl) h1
  clear hA0 hval0
  simp only [List.append_nil] at hW'
  refine (ScaleTimes.calls a0 a1 (ScaleTimes.rg wa0) (ScaleTimes.rg wa1) W).mono fun e W' ⟨he, hB⟩ => ?_
  subst he
  refine ⟨_, rfl, _, _, _, [], [], [], hW', ?_, ?_, ?_, hB.frame _, fun h => by cases h⟩
  · exact trodAll_mk1 (shut_bool Try.underlying4 true)
  · exact trodAll_mk2 (shut_int Try.underlying3 wa0) (shut_int Try.underlying3 wa1)
  · rfl
theorem scaleTimes_holds : Rows.ScaleTimesSaid :=
  OpenClaim.holds_of_wide 7 Try.f7 rfl rfl rfl rfl rfl rfl rfl ⟨rfl, rfl, rfl, rfl, rfl⟩ rfl rfl rfl rfl rfl (by kernel_rfl) Try.func7 (by kernel_rfl)
    (of_decide_eq_true (by kernel_rfl)) (by unfold Func.isWrapper; first | (rw [if_pos (by decide +kernel)]; kernel_rfl) | (rw [if_neg (by decide +kernel)]; exact ⟨rfl, rfl⟩))
    (fun os started H enc _ => ScaleTimes.lifted os started H enc)
#print axioms scaleTimes_holds
end Go.Proofs.Ytejlbofmlaclpaa
