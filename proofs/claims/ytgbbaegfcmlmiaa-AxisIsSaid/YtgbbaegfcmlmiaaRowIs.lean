/- AxisIs is true: whatever the arguments, the law returns true, and its arguments read as they did. No further condition.

The walk is done by an executor proved sound over the model (YtgbbaegfcmlmiaaSx); what each function computes was printed by a program and is checked by the kernel; the plain law is f3_eq. -/
import Derived.Test.YtgbbaegfcmlmiaaRows
import Derived.Test.YtgbbaegfcmlmiaaA7
import Derived.Test.YtgbbaegfcmlmiaaFl
import Derived.ProofKit
import Derived.Carry
namespace Go.Proofs.Ytgbbaegfcmlmiaa
open Go.ChangeShapes Go.WideShapes Go.ChangeAt Go.RowKit Go.Sx
theorem AxisIs.own : ownKnob Try.prog.godebug = none := by kernel_rfl
theorem AxisIs.laidOut : laidOutB Try.prog = true := by kernel_rfl
set_option maxRecDepth 100000 in
theorem AxisIs.calls (x0_0 : Int) (x0_1 : Int) (x0_2 : Int) (x0_3 : Int) (x0_4 : Int) (x0_5 : Bool) (x1_0 : Int) (x2_0 : Int) (x3_0 : Int) (hx0_0 : Rg .i64 x0_0) (hx0_1 : Rg .i64 x0_1) (hx0_2 : Rg .i64 x0_2) (hx0_3 : Rg .i64 x0_3) (hx0_4 : Rg .i64 x0_4) (hx1_0 : Rg .i64 x1_0) (hx2_0 : Rg .i64 x2_0) (hx3_0 : Rg .i64 x3_0) (w : World) :
    Calls Try.prog 3 #[.agg #[.int .i64 x0_0, .int .i64 x0_1, .int .i64 x0_2, .int .i64 x0_3, .int .i64 x0_4, .bool x0_5], .int .i64 x1_0, .int .i64 x2_0, .int .i64 x3_0] w fun e w' => e = .returned (.bool true) ∧ Below w.heap.size w w' := by
  have hs := S3_ok [.v (.agg [.int .i64 (.sym x0_0), .int .i64 (.sym x0_1), .int .i64 (.sym x0_2), .int .i64 (.sym x0_3), .int .i64 (.sym x0_4), .bool (.sym x0_5)]), .v (.int .i64 (.sym x1_0)), .v (.int .i64 (.sym x2_0)), .v (.int .i64 (.sym x3_0))] _ rfl w [.agg #[.int .i64 x0_0, .int .i64 x0_1, .int .i64 x0_2, .int .i64 x0_3, .int .i64 x0_4, .bool x0_5], .int .i64 x1_0, .int .i64 x2_0, .int .i64 x3_0]
    ⟨_, _, ⟨[.int .i64 x0_0, .int .i64 x0_1, .int .i64 x0_2, .int .i64 x0_3, .int .i64 x0_4, .bool x0_5], ⟨_, _, ⟨rfl, hx0_0⟩, ⟨_, _, ⟨rfl, hx0_1⟩, ⟨_, _, ⟨rfl, hx0_2⟩, ⟨_, _, ⟨rfl, hx0_3⟩, ⟨_, _, ⟨rfl, hx0_4⟩, ⟨_, _, rfl, rfl, rfl⟩, rfl⟩, rfl⟩, rfl⟩, rfl⟩, rfl⟩, rfl⟩, ⟨_, _, ⟨rfl, hx1_0⟩, ⟨_, _, ⟨rfl, hx2_0⟩, ⟨_, _, ⟨rfl, hx3_0⟩, rfl, rfl⟩, rfl⟩, rfl⟩, rfl⟩
  refine hs.mono ?_
  rintro e w' ⟨⟨v, rfl, hv⟩, hb⟩
  have hv1 : v = .bool (f3 x0_0 x0_1 x0_2 x0_3 x0_4 x0_5 x1_0 x2_0 x3_0) := hv
  rw [hv1, f3_eq]
  exact ⟨rfl, hb⟩
set_option maxRecDepth 100000 in
theorem AxisIs.lifted (os : Os) (started : os.Started) (H : Type) (enc : TypeId × Value → H) :
    ReturnsInHanded {} Try.checked os 3 .any (Rows.axisIsSpec.pre6 enc Try.prog Try.f3 Rows.axisIsRow.domain false) (Rows.axisIsSpec.post enc Try.prog Try.f3 false true false false) := by
  refine returnsInHanded_of_change (C := Try.checked) AxisIs.own started (by kernel_rfl) Try.func3
    (ChangeSpec.witness6 (enc := enc) (C := Try.checked) false ⟨#[], #[.agg #[.int .i64 0, .int .i64 0, .int .i64 0, .int .i64 0, .int .i64 0, .bool false], .int .i64 0, .int .i64 0, .int .i64 0], []⟩ 8 (by kernel_rfl) (by kernel_rfl) (by kernel_rfl) (by kernel_rfl)) ?_
  intro W base args ds gs before hval0 hW hcnd _
  have hval : ∀ (j : Nat) t v, Try.f3.params[j]? = some t → args[j]? = some v → Value.okWide Try.prog W .any base t v := hval0
  have hW' := hW
  obtain ⟨p, q, hA0, hV, rfl, hfz, hnd⟩ := hW
  have hA : DataW.TrodAll enc Try.prog W 0 (fun _ => true) true Try.f3.params.toList args.toList ds p := hA0
  rw [Try.params3] at hA hval
  obtain ⟨v0, v1, v2, v3, d0, d1, d2, d3, p0, p1, p2, p3, rfl, rfl, rfl, h0, h1, h2, h3⟩ := trodAll_four hA
  obtain ⟨rfl, rfl⟩ := trodVars_none hV
  obtain ⟨cs0, rfl, hc0, rfl, hs0⟩ := open_flat (D := 6) (L := [.int .i64, .int .i64, .int .i64, .int .i64, .int .i64, .bool]) (by kernel_rfl) (agg_struct Try.underlying23 (hval 0 23 v0 rfl rfl)) h0
  obtain ⟨x0_0, _, rx0_0, ⟨x0_1, _, rx0_1, ⟨x0_2, _, rx0_2, ⟨x0_3, _, rx0_3, ⟨x0_4, _, rx0_4, ⟨x0_5, _, rfl, rfl⟩, rfl⟩, rfl⟩, rfl⟩, rfl⟩, rfl⟩ := hc0
  obtain ⟨x1_0, rfl, rfl, rfl, wa1⟩ := open_int Try.underlying3 (hval 1 3 v1 rfl rfl) h1
  have rx1_0 := rg_of_wf wa1
  obtain ⟨x2_0, rfl, rfl, rfl, wa2⟩ := open_int Try.underlying3 (hval 2 3 v2 rfl rfl) h2
  have rx2_0 := rg_of_wf wa2
  obtain ⟨x3_0, rfl, rfl, rfl, wa3⟩ := open_int Try.underlying3 (hval 3 3 v3 rfl rfl) h3
  have rx3_0 := rg_of_wf wa3
  clear hA0 hval0
  simp only [List.append_nil] at hW'
  refine (AxisIs.calls x0_0 x0_1 x0_2 x0_3 x0_4 x0_5 x1_0 x2_0 x3_0 rx0_0 rx0_1 rx0_2 rx0_3 rx0_4 rx1_0 rx2_0 rx3_0 W).mono fun e W' ⟨he, hB⟩ => ?_
  subst he
  refine ⟨_, rfl, _, _, _, [], [], [], hW', ?_, ?_, ?_, hB.frame _, fun h => by cases h⟩
  · exact trodAll_mk1 (shut_bool Try.underlying4 true)
  · exact trodAll_mk4 (hs0 _ _ _ _) (shut_int Try.underlying3 wa1) (shut_int Try.underlying3 wa2) (shut_int Try.underlying3 wa3)
  · rfl
theorem axisIs_holds : Rows.AxisIsSaid :=
  OpenClaim.holds_of_wide 3 Try.f3 rfl rfl rfl rfl rfl rfl rfl ⟨rfl, rfl, rfl, rfl, rfl⟩ rfl rfl rfl rfl rfl (by kernel_rfl) Try.func3 (by kernel_rfl)
    (of_decide_eq_true (by kernel_rfl)) (by unfold Func.isWrapper; first | (rw [if_pos (by decide +kernel)]; kernel_rfl) | (rw [if_neg (by decide +kernel)]; exact ⟨rfl, rfl⟩))
    (fun os started H enc _ => AxisIs.lifted os started H enc)
#print axioms axisIs_holds
end Go.Proofs.Ytgbbaegfcmlmiaa
