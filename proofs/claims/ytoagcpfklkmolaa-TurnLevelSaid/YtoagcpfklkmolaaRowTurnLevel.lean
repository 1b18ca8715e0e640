/- TurnLevel is true: whatever the arguments, the law returns true, and its arguments read as they did. No further condition.

The walk is done by an executor proved sound over the model (YtoagcpfklkmolaaSx); what each function computes was printed by a program and is checked by the kernel; the plain law is f13_eq. -/
import Derived.Test.YtoagcpfklkmolaaRows
import Derived.Test.YtoagcpfklkmolaaT5
import Derived.Test.YtoagcpfklkmolaaFl
import Derived.ProofKit
import Derived.Carry
namespace Go.Proofs.Ytoagcpfklkmolaa
open Go.ChangeShapes Go.WideShapes Go.ChangeAt Go.RowKit Go.Sx
theorem TurnLevel.own : ownKnob Try.prog.godebug = none := by kernel_rfl
theorem TurnLevel.laidOut : laidOutB Try.prog = true := by kernel_rfl
set_option maxRecDepth 100000 in
theorem TurnLevel.calls (x0_0 : Int) (x0_1 : Int) (x0_2 : Int) (x1_0 : Int) (hx0_0 : Rg .i64 x0_0) (hx0_1 : Rg .i64 x0_1) (hx0_2 : Rg .i64 x0_2) (hx1_0 : Rg .i64 x1_0) (w : World) :
    Calls Try.prog 13 #[.agg #[.int .i64 x0_0, .int .i64 x0_1, .int .i64 x0_2], .int .i64 x1_0] w fun e w' => e = .returned (.bool true) ∧ Below w.heap.size w w' := by
  have hs := S13_ok [.v (.agg [.int .i64 (.sym x0_0), .int .i64 (.sym x0_1), .int .i64 (.sym x0_2)]), .v (.int .i64 (.sym x1_0))] _ rfl w [.agg #[.int .i64 x0_0, .int .i64 x0_1, .int .i64 x0_2], .int .i64 x1_0]
    ⟨_, _, ⟨[.int .i64 x0_0, .int .i64 x0_1, .int .i64 x0_2], ⟨_, _, ⟨rfl, hx0_0⟩, ⟨_, _, ⟨rfl, hx0_1⟩, ⟨_, _, ⟨rfl, hx0_2⟩, rfl, rfl⟩, rfl⟩, rfl⟩, rfl⟩, ⟨_, _, ⟨rfl, hx1_0⟩, rfl, rfl⟩, rfl⟩
  refine hs.mono ?_
  rintro e w' ⟨⟨v, rfl, hv⟩, hb⟩
  have hv1 : v = .bool (f13 x0_0 x0_1 x0_2 x1_0) := hv
  rw [hv1, f13_eq]
  exact ⟨rfl, hb⟩
set_option maxRecDepth 100000 in
theorem TurnLevel.lifted (os : Os) (started : os.Started) (H : Type) (enc : TypeId × Value → H) :
    ReturnsInHanded {} Try.checked os 13 .any (Rows.turnLevelSpec.pre6 enc Try.prog Try.f13 Rows.turnLevelRow.domain false) (Rows.turnLevelSpec.post enc Try.prog Try.f13 false true false false) := by
  refine returnsInHanded_of_change (C := Try.checked) TurnLevel.own started (by kernel_rfl) Try.func13
    (ChangeSpec.witness6 (enc := enc) (C := Try.checked) false ⟨#[], #[.agg #[.int .i64 0, .int .i64 0, .int .i64 0], .int .i64 0], []⟩ 8 (by kernel_rfl) (by kernel_rfl) (by kernel_rfl) (by kernel_rfl)) ?_
  intro W base args ds gs before hval0 hW hcnd _
  have hval : ∀ (j : Nat) t v, Try.f13.params[j]? = some t → args[j]? = some v → Value.okWide Try.prog W .any base t v := hval0
  have hW' := hW
  obtain ⟨p, q, hA0, hV, rfl, hfz, hnd⟩ := hW
  have hA : DataW.TrodAll enc Try.prog W 0 (fun _ => true) true Try.f13.params.toList args.toList ds p := hA0
  rw [Try.params13] at hA hval
  obtain ⟨v0, v1, d0, d1, p0, p1, rfl, rfl, rfl, h0, h1⟩ := trodAll_two hA
  obtain ⟨rfl, rfl⟩ := trodVars_none hV
  obtain ⟨cs0, rfl, hc0, rfl, hs0⟩ := open_flat (D := 6) (L := [.int .i64, .int .i64, .int .i64]) (by kernel_rfl) (agg_array Try.underlying23 (hval 0 23 v0 rfl rfl)) h0
  obtain ⟨x0_0, _, rx0_0, ⟨x0_1, _, rx0_1, ⟨x0_2, _, rx0_2, rfl, rfl⟩, rfl⟩, rfl⟩ := hc0
  obtain ⟨x1_0, rfl, rfl, rfl, wa1⟩ := open_int Try.underlying3 (hval 1 3 v1 rfl rfl) h1
  have rx1_0 := rg_of_wf wa1
  clear hA0 hval0
  simp only [List.append_nil] at hW'
  refine (TurnLevel.calls x0_0 x0_1 x0_2 x1_0 rx0_0 rx0_1 rx0_2 rx1_0 W).mono fun e W' ⟨he, hB⟩ => ?_
  subst he
  refine ⟨_, rfl, _, _, _, [], [], [], hW', ?_, ?_, ?_, hB.frame _, fun h => by cases h⟩
  · exact trodAll_mk1 (shut_bool Try.underlying4 true)
  · exact trodAll_mk2 (hs0 _ _ _ _) (shut_int Try.underlying3 wa1)
  · rfl
theorem turnLevel_holds : Rows.TurnLevelSaid :=
  OpenClaim.holds_of_wide 13 Try.f13 rfl rfl rfl rfl rfl rfl rfl ⟨rfl, rfl, rfl, rfl, rfl⟩ rfl rfl rfl rfl rfl (by kernel_rfl) Try.func13 (by kernel_rfl)
    (of_decide_eq_true (by kernel_rfl)) (by unfold Func.isWrapper; first | (rw [if_pos (by decide +kernel)]; kernel_rfl) | (rw [if_neg (by decide +kernel)]; exact ⟨rfl, rfl⟩))
    (fun os started H enc _ => TurnLevel.lifted os started H enc)
#print axioms turnLevel_holds
end Go.Proofs.Ytoagcpfklkmolaa
