/- ScaleIs is true: whatever the numbers, the law returns true, and its arguments read as they did. No further condition.

The walk is done by an executor proved sound over the model (YtejlbofmlaclpaaSx); what each function computes was printed by a program and is checked by the kernel; the plain law is f3_eq. -/
import Derived.Test.YtejlbofmlaclpaaRows
import Derived.Test.YtejlbofmlaclpaaP9
import Derived.Test.YtejlbofmlaclpaaOp
import Derived.ProofKit
import Derived.Carry
namespace Go.Proofs.Ytejlbofmlaclpaa
open Go.ChangeShapes Go.WideShapes Go.ChangeAt Go.RowKit Go.Sx
theorem ScaleIs.own : ownKnob Try.prog.godebug = none := by kernel_rfl
theorem ScaleIs.laidOut : laidOutB Try.prog = true := by kernel_rfl
theorem ScaleIs.rg {n : Int} (h : (Lit.int .i64 n).wf = true) : Rg .i64 n := by
  simp only [Lit.wf, Bool.and_eq_true, decide_eq_true_eq] at h
  exact wS h.1 (by have h2 : n ≤ 9223372036854775807 := h.2; omega)
theorem ScaleIs.calls (h l a b c : Int) (hh : Rg .i64 h) (hl : Rg .i64 l) (ha : Rg .i64 a) (hb : Rg .i64 b) (hc : Rg .i64 c) (w : World) :
    Calls Try.prog 3 #[.agg #[.int .i64 h, .int .i64 l], .int .i64 a, .int .i64 b, .int .i64 c] w fun e w' => e = .returned (.bool true) ∧ Below w.heap.size w w' := by
  have hs := S3_ok [.v (.agg [.int .i64 (.sym h), .int .i64 (.sym l)]), .v (.int .i64 (.sym a)), .v (.int .i64 (.sym b)), .v (.int .i64 (.sym c))] _ rfl w [.agg #[.int .i64 h, .int .i64 l], .int .i64 a, .int .i64 b, .int .i64 c]
    ⟨_, _, ⟨[.int .i64 h, .int .i64 l], ⟨_, _, ⟨rfl, hh⟩, ⟨_, _, ⟨rfl, hl⟩, rfl, rfl⟩, rfl⟩, rfl⟩, ⟨_, _, ⟨rfl, ha⟩, ⟨_, _, ⟨rfl, hb⟩, ⟨_, _, ⟨rfl, hc⟩, rfl, rfl⟩, rfl⟩, rfl⟩, rfl⟩
  refine hs.mono ?_
  rintro e w' ⟨⟨v, rfl, hv⟩, hb⟩
  have hv1 : v = .bool (f3 h l a b c) := hv
  rw [hv1, f3_eq]
  exact ⟨rfl, hb⟩
set_option maxRecDepth 100000 in
theorem ScaleIs.lifted (os : Os) (started : os.Started) (H : Type) (enc : TypeId × Value → H) :
    ReturnsInHanded {} Try.checked os 3 .any (Rows.scaleIsSpec.pre6 enc Try.prog Try.f3 Rows.scaleIsRow.domain false) (Rows.scaleIsSpec.post enc Try.prog Try.f3 false true false false) := by
  refine returnsInHanded_of_change (C := Try.checked) ScaleIs.own started (by kernel_rfl) Try.func3
    (ChangeSpec.witness6 (enc := enc) (C := Try.checked) false ⟨#[], #[.agg #[.int .i64 0, .int .i64 0], .int .i64 0, .int .i64 0, .int .i64 0], []⟩ 8 (by kernel_rfl) (by kernel_rfl) (by kernel_rfl) (by kernel_rfl)) ?_
  intro W base args ds gs before hval0 hW hcnd _
  have hval : ∀ (j : Nat) t v, Try.f3.params[j]? = some t → args[j]? = some v → Value.okWide Try.prog W .any base t v := hval0
  have hW' := hW
  obtain ⟨p, q, hA0, hV, rfl, hfz, hnd⟩ := hW
  have hA : DataW.TrodAll enc Try.prog W 0 (fun _ => true) true Try.f3.params.toList args.toList ds p := hA0
  rw [Try.params3] at hA hval
  obtain ⟨v0, v1, v2, v3, d0, d1, d2, d3, p0, p1, p2, p3, rfl, rfl, rfl, h0, h1, h2, h3⟩ := trodAll_four hA
  obtain ⟨rfl, rfl⟩ := trodVars_none hV

  obtain ⟨x0, y0, rfl, rfl, rfl, wx0, wy0⟩ := open_wide (hval 0 23 v0 rfl rfl) h0
  obtain ⟨a1, rfl, rfl, rfl, wa1⟩ := open_int Try.underlying3 (hval 1 3 v1 rfl rfl) h1
  obtain ⟨a2, rfl, rfl, rfl, wa2⟩ := open_int Try.underlying3 (hval 2 3 v2 rfl rfl) h2
  obtain ⟨a3, rfl, rfl, rfl, wa3⟩ := open_int Try.underlying3 (hval 3 3 v3 rfl rfl) h3
  clear hA0 hval0
  simp only [List.append_nil] at hW'
  refine (ScaleIs.calls x0 y0 a1 a2 a3 (ScaleIs.rg wx0) (ScaleIs.rg wy0) (ScaleIs.rg wa1) (ScaleIs.rg wa2) (ScaleIs.rg wa3) W).mono fun e W' ⟨he, hB⟩ => ?_
  subst he
  refine ⟨_, rfl, _, _, _, [], [], [], hW', ?_, ?_, ?_, hB.frame _, fun h => by cases h⟩
  · exact trodAll_mk1 (shut_bool Try.underlying4 true)
  · exact trodAll_mk4 (shut_wide wx0 wy0) (shut_int Try.underlying3 wa1) (shut_int Try.underlying3 wa2) (shut_int Try.underlying3 wa3)
  · rfl
theorem scaleIs_holds : Rows.ScaleIsSaid :=
  OpenClaim.holds_of_wide 3 Try.f3 rfl rfl rfl rfl rfl rfl rfl ⟨rfl, rfl, rfl, rfl, rfl⟩ rfl rfl rfl rfl rfl (by kernel_rfl) Try.func3 (by kernel_rfl)
    (of_decide_eq_true (by kernel_rfl)) (by unfold Func.isWrapper; first | (rw [if_pos (by decide +kernel)]; kernel_rfl) | (rw [if_neg (by decide +kernel)]; exact ⟨rfl, rfl⟩))
    (fun os started H enc _ => ScaleIs.lifted os started H enc)
#print axioms scaleIs_holds
end Go.Proofs.Ytejlbofmlaclpaa
