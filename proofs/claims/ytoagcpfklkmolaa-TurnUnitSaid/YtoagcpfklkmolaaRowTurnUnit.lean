/- TurnUnit is true: whatever the arguments, the law returns true, and its arguments read as they did. No further condition.

The walk is done by an executor proved sound over the model (YtoagcpfklkmolaaSx); what each function computes was printed by a program and is checked by the kernel; the plain law is f10_eq. -/
import Derived.Test.YtoagcpfklkmolaaRows
import Derived.Test.YtoagcpfklkmolaaT1
import Derived.Test.YtoagcpfklkmolaaFm
import Derived.ProofKit
import Derived.Carry
namespace Go.Proofs.Ytoagcpfklkmolaa
open Go.ChangeShapes Go.WideShapes Go.ChangeAt Go.RowKit Go.Sx
theorem TurnUnit.own : ownKnob Try.prog.godebug = none := by kernel_rfl
theorem TurnUnit.laidOut : laidOutB Try.prog = true := by kernel_rfl
set_option maxRecDepth 100000 in
theorem TurnUnit.calls (x0_0 : Int) (x0_1 : Int) (x0_2 : Int) (x0_3 : Int) (x0_4 : Int) (x0_5 : Int) (x0_6 : Int) (x0_7 : Bool) (x1_0 : Int) (x1_1 : Int) (x1_2 : Int) (x2_0 : Int) (x3_0 : Int) (x3_1 : Int) (x3_2 : Int) (x4_0 : Int) (hx0_0 : Rg .i64 x0_0) (hx0_1 : Rg .i64 x0_1) (hx0_2 : Rg .i64 x0_2) (hx0_3 : Rg .i64 x0_3) (hx0_4 : Rg .i64 x0_4) (hx0_5 : Rg .i64 x0_5) (hx0_6 : Rg .i64 x0_6) (hx1_0 : Rg .i64 x1_0) (hx1_1 : Rg .i64 x1_1) (hx1_2 : Rg .i64 x1_2) (hx2_0 : Rg .i64 x2_0) (hx3_0 : Rg .i64 x3_0) (hx3_1 : Rg .i64 x3_1) (hx3_2 : Rg .i64 x3_2) (hx4_0 : Rg .i64 x4_0) (w : World) :
    Calls Try.prog 10 #[.agg #[.int .i64 x0_0, .int .i64 x0_1, .int .i64 x0_2, .int .i64 x0_3, .int .i64 x0_4, .int .i64 x0_5, .int .i64 x0_6, .bool x0_7], .agg #[.int .i64 x1_0, .int .i64 x1_1, .int .i64 x1_2], .int .i64 x2_0, .agg #[.int .i64 x3_0, .int .i64 x3_1, .int .i64 x3_2], .int .i64 x4_0] w fun e w' => e = .returned (.bool true) ∧ Below w.heap.size w w' := by
  have hs := S10_ok [.v (.agg [.int .i64 (.sym x0_0), .int .i64 (.sym x0_1), .int .i64 (.sym x0_2), .int .i64 (.sym x0_3), .int .i64 (.sym x0_4), .int .i64 (.sym x0_5), .int .i64 (.sym x0_6), .bool (.sym x0_7)]), .v (.agg [.int .i64 (.sym x1_0), .int .i64 (.sym x1_1), .int .i64 (.sym x1_2)]), .v (.int .i64 (.sym x2_0)), .v (.agg [.int .i64 (.sym x3_0), .int .i64 (.sym x3_1), .int .i64 (.sym x3_2)]), .v (.int .i64 (.sym x4_0))] _ rfl w [.agg #[.int .i64 x0_0, .int .i64 x0_1, .int .i64 x0_2, .int .i64 x0_3, .int .i64 x0_4, .int .i64 x0_5, .int .i64 x0_6, .bool x0_7], .agg #[.int .i64 x1_0, .int .i64 x1_1, .int .i64 x1_2], .int .i64 x2_0, .agg #[.int .i64 x3_0, .int .i64 x3_1, .int .i64 x3_2], .int .i64 x4_0]
    ⟨_, _, ⟨[.int .i64 x0_0, .int .i64 x0_1, .int .i64 x0_2, .int .i64 x0_3, .int .i64 x0_4, .int .i64 x0_5, .int .i64 x0_6, .bool x0_7], ⟨_, _, ⟨rfl, hx0_0⟩, ⟨_, _, ⟨rfl, hx0_1⟩, ⟨_, _, ⟨rfl, hx0_2⟩, ⟨_, _, ⟨rfl, hx0_3⟩, ⟨_, _, ⟨rfl, hx0_4⟩, ⟨_, _, ⟨rfl, hx0_5⟩, ⟨_, _, ⟨rfl, hx0_6⟩, ⟨_, _, rfl, rfl, rfl⟩, rfl⟩, rfl⟩, rfl⟩, rfl⟩, rfl⟩, rfl⟩, rfl⟩, rfl⟩, ⟨_, _, ⟨[.int .i64 x1_0, .int .i64 x1_1, .int .i64 x1_2], ⟨_, _, ⟨rfl, hx1_0⟩, ⟨_, _, ⟨rfl, hx1_1⟩, ⟨_, _, ⟨rfl, hx1_2⟩, rfl, rfl⟩, rfl⟩, rfl⟩, rfl⟩, ⟨_, _, ⟨rfl, hx2_0⟩, ⟨_, _, ⟨[.int .i64 x3_0, .int .i64 x3_1, .int .i64 x3_2], ⟨_, _, ⟨rfl, hx3_0⟩, ⟨_, _, ⟨rfl, hx3_1⟩, ⟨_, _, ⟨rfl, hx3_2⟩, rfl, rfl⟩, rfl⟩, rfl⟩, rfl⟩, ⟨_, _, ⟨rfl, hx4_0⟩, rfl, rfl⟩, rfl⟩, rfl⟩, rfl⟩, rfl⟩
  refine hs.mono ?_
  rintro e w' ⟨⟨v, rfl, hv⟩, hb⟩
  have hv1 : v = .bool (f10 x0_0 x0_1 x0_2 x0_3 x0_4 x0_5 x0_6 x0_7 x1_0 x1_1 x1_2 x2_0 x3_0 x3_1 x3_2 x4_0) := hv
  rw [hv1, f10_eq]
  exact ⟨rfl, hb⟩
set_option maxRecDepth 100000 in
theorem TurnUnit.lifted (os : Os) (started : os.Started) (H : Type) (enc : TypeId × Value → H) :
    ReturnsInHanded {} Try.checked os 10 .any (Rows.turnUnitSpec.pre6 enc Try.prog Try.f10 Rows.turnUnitRow.domain false) (Rows.turnUnitSpec.post enc Try.prog Try.f10 false true false false) := by
  refine returnsInHanded_of_change (C := Try.checked) TurnUnit.own started (by kernel_rfl) Try.func10
    (ChangeSpec.witness6 (enc := enc) (C := Try.checked) false ⟨#[], #[.agg #[.int .i64 0, .int .i64 0, .int .i64 0, .int .i64 0, .int .i64 0, .int .i64 0, .int .i64 0, .bool false], .agg #[.int .i64 0, .int .i64 0, .int .i64 0], .int .i64 0, .agg #[.int .i64 0, .int .i64 0, .int .i64 0], .int .i64 0], []⟩ 8 (by kernel_rfl) (by kernel_rfl) (by kernel_rfl) (by kernel_rfl)) ?_
  intro W base args ds gs before hval0 hW hcnd _
  have hval : ∀ (j : Nat) t v, Try.f10.params[j]? = some t → args[j]? = some v → Value.okWide Try.prog W .any base t v := hval0
  have hW' := hW
  obtain ⟨p, q, hA0, hV, rfl, hfz, hnd⟩ := hW
  have hA : DataW.TrodAll enc Try.prog W 0 (fun _ => true) true Try.f10.params.toList args.toList ds p := hA0
  rw [Try.params10] at hA hval
  obtain ⟨v0, v1, v2, v3, v4, d0, d1, d2, d3, d4, p0, p1, p2, p3, p4, rfl, rfl, rfl, h0, h1, h2, h3, h4⟩ := trodAll_five hA
  obtain ⟨rfl, rfl⟩ := trodVars_none hV
  obtain ⟨cs0, rfl, hc0, rfl, hs0⟩ := open_flat (D := 6) (L := [.int .i64, .int .i64, .int .i64, .int .i64, .int .i64, .int .i64, .int .i64, .bool]) (by kernel_rfl) (agg_struct Try.underlying42 (hval 0 42 v0 rfl rfl)) h0
  obtain ⟨x0_0, _, rx0_0, ⟨x0_1, _, rx0_1, ⟨x0_2, _, rx0_2, ⟨x0_3, _, rx0_3, ⟨x0_4, _, rx0_4, ⟨x0_5, _, rx0_5, ⟨x0_6, _, rx0_6, ⟨x0_7, _, rfl, rfl⟩, rfl⟩, rfl⟩, rfl⟩, rfl⟩, rfl⟩, rfl⟩, rfl⟩ := hc0
  obtain ⟨cs1, rfl, hc1, rfl, hs1⟩ := open_flat (D := 6) (L := [.int .i64, .int .i64, .int .i64]) (by kernel_rfl) (agg_array Try.underlying23 (hval 1 23 v1 rfl rfl)) h1
  obtain ⟨x1_0, _, rx1_0, ⟨x1_1, _, rx1_1, ⟨x1_2, _, rx1_2, rfl, rfl⟩, rfl⟩, rfl⟩ := hc1
  obtain ⟨x2_0, rfl, rfl, rfl, wa2⟩ := open_int Try.underlying3 (hval 2 3 v2 rfl rfl) h2
  have rx2_0 := rg_of_wf wa2
  obtain ⟨cs3, rfl, hc3, rfl, hs3⟩ := open_flat (D := 6) (L := [.int .i64, .int .i64, .int .i64]) (by kernel_rfl) (agg_array Try.underlying23 (hval 3 23 v3 rfl rfl)) h3
  obtain ⟨x3_0, _, rx3_0, ⟨x3_1, _, rx3_1, ⟨x3_2, _, rx3_2, rfl, rfl⟩, rfl⟩, rfl⟩ := hc3
  obtain ⟨x4_0, rfl, rfl, rfl, wa4⟩ := open_int Try.underlying3 (hval 4 3 v4 rfl rfl) h4
  have rx4_0 := rg_of_wf wa4
  clear hA0 hval0
  simp only [List.append_nil] at hW'
  refine (TurnUnit.calls x0_0 x0_1 x0_2 x0_3 x0_4 x0_5 x0_6 x0_7 x1_0 x1_1 x1_2 x2_0 x3_0 x3_1 x3_2 x4_0 rx0_0 rx0_1 rx0_2 rx0_3 rx0_4 rx0_5 rx0_6 rx1_0 rx1_1 rx1_2 rx2_0 rx3_0 rx3_1 rx3_2 rx4_0 W).mono fun e W' ⟨he, hB⟩ => ?_
  subst he
  refine ⟨_, rfl, _, _, _, [], [], [], hW', ?_, ?_, ?_, hB.frame _, fun h => by cases h⟩
  · exact trodAll_mk1 (shut_bool Try.underlying4 true)
  · exact trodAll_mk5 (hs0 _ _ _ _) (hs1 _ _ _ _) (shut_int Try.underlying3 wa2) (hs3 _ _ _ _) (shut_int Try.underlying3 wa4)
  · rfl
theorem turnUnit_holds : Rows.TurnUnitSaid :=
  OpenClaim.holds_of_wide 10 Try.f10 rfl rfl rfl rfl rfl rfl rfl ⟨rfl, rfl, rfl, rfl, rfl⟩ rfl rfl rfl rfl rfl (by kernel_rfl) Try.func10 (by kernel_rfl)
    (of_decide_eq_true (by kernel_rfl)) (by unfold Func.isWrapper; first | (rw [if_pos (by decide +kernel)]; kernel_rfl) | (rw [if_neg (by decide +kernel)]; exact ⟨rfl, rfl⟩))
    (fun os started H enc _ => TurnUnit.lifted os started H enc)
#print axioms turnUnit_holds
end Go.Proofs.Ytoagcpfklkmolaa
