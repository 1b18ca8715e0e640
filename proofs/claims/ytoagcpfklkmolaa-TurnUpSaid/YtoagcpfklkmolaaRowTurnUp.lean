/- TurnUp is true: whatever the arguments, the law returns true, and its arguments read as they did. No further condition.

The walk is done by an executor proved sound over the model (YtoagcpfklkmolaaSx); what each function computes was printed by a program and is checked by the kernel; the plain law is f12_eq. -/
import Derived.Test.YtoagcpfklkmolaaRows
import Derived.Test.YtoagcpfklkmolaaT2
import Derived.Test.YtoagcpfklkmolaaFl
import Derived.ProofKit
import Derived.Carry
namespace Go.Proofs.Ytoagcpfklkmolaa
open Go.ChangeShapes Go.WideShapes Go.ChangeAt Go.RowKit Go.Sx
theorem TurnUp.own : ownKnob Try.prog.godebug = none := by kernel_rfl
theorem TurnUp.laidOut : laidOutB Try.prog = true := by kernel_rfl
set_option maxRecDepth 100000 in
theorem TurnUp.calls (x0_0 : Int) (x0_1 : Int) (x0_2 : Int) (x0_3 : Int) (x0_4 : Int) (x0_5 : Int) (x0_6 : Int) (x0_7 : Bool) (hx0_0 : Rg .i64 x0_0) (hx0_1 : Rg .i64 x0_1) (hx0_2 : Rg .i64 x0_2) (hx0_3 : Rg .i64 x0_3) (hx0_4 : Rg .i64 x0_4) (hx0_5 : Rg .i64 x0_5) (hx0_6 : Rg .i64 x0_6) (w : World) :
    Calls Try.prog 12 #[.agg #[.int .i64 x0_0, .int .i64 x0_1, .int .i64 x0_2, .int .i64 x0_3, .int .i64 x0_4, .int .i64 x0_5, .int .i64 x0_6, .bool x0_7]] w fun e w' => e = .returned (.bool true) ∧ Below w.heap.size w w' := by
  have hs := S12_ok [.v (.agg [.int .i64 (.sym x0_0), .int .i64 (.sym x0_1), .int .i64 (.sym x0_2), .int .i64 (.sym x0_3), .int .i64 (.sym x0_4), .int .i64 (.sym x0_5), .int .i64 (.sym x0_6), .bool (.sym x0_7)])] _ rfl w [.agg #[.int .i64 x0_0, .int .i64 x0_1, .int .i64 x0_2, .int .i64 x0_3, .int .i64 x0_4, .int .i64 x0_5, .int .i64 x0_6, .bool x0_7]]
    ⟨_, _, ⟨[.int .i64 x0_0, .int .i64 x0_1, .int .i64 x0_2, .int .i64 x0_3, .int .i64 x0_4, .int .i64 x0_5, .int .i64 x0_6, .bool x0_7], ⟨_, _, ⟨rfl, hx0_0⟩, ⟨_, _, ⟨rfl, hx0_1⟩, ⟨_, _, ⟨rfl, hx0_2⟩, ⟨_, _, ⟨rfl, hx0_3⟩, ⟨_, _, ⟨rfl, hx0_4⟩, ⟨_, _, ⟨rfl, hx0_5⟩, ⟨_, _, ⟨rfl, hx0_6⟩, ⟨_, _, rfl, rfl, rfl⟩, rfl⟩, rfl⟩, rfl⟩, rfl⟩, rfl⟩, rfl⟩, rfl⟩, rfl⟩, rfl, rfl⟩
  refine hs.mono ?_
  rintro e w' ⟨⟨v, rfl, hv⟩, hb⟩
  have hv1 : v = .bool (f12 x0_0 x0_1 x0_2 x0_3 x0_4 x0_5 x0_6 x0_7) := hv
  rw [hv1, f12_eq]
  exact ⟨rfl, hb⟩
set_option maxRecDepth 100000 in
theorem TurnUp.lifted (os : Os) (started : os.Started) (H : Type) (enc : TypeId × Value → H) :
    ReturnsInHanded {} Try.checked os 12 .any (Rows.turnUpSpec.pre6 enc Try.prog Try.f12 Rows.turnUpRow.domain false) (Rows.turnUpSpec.post enc Try.prog Try.f12 false true false false) := by
  refine returnsInHanded_of_change (C := Try.checked) TurnUp.own started (by kernel_rfl) Try.func12
    (ChangeSpec.witness6 (enc := enc) (C := Try.checked) false ⟨#[], #[.agg #[.int .i64 0, .int .i64 0, .int .i64 0, .int .i64 0, .int .i64 0, .int .i64 0, .int .i64 0, .bool false]], []⟩ 8 (by kernel_rfl) (by kernel_rfl) (by kernel_rfl) (by kernel_rfl)) ?_
  intro W base args ds gs before hval0 hW hcnd _
  have hval : ∀ (j : Nat) t v, Try.f12.params[j]? = some t → args[j]? = some v → Value.okWide Try.prog W .any base t v := hval0
  have hW' := hW
  obtain ⟨p, q, hA0, hV, rfl, hfz, hnd⟩ := hW
  have hA : DataW.TrodAll enc Try.prog W 0 (fun _ => true) true Try.f12.params.toList args.toList ds p := hA0
  rw [Try.params12] at hA hval
  obtain ⟨v0, d0, rfl, rfl, h0⟩ := trodAll_one hA
  obtain ⟨rfl, rfl⟩ := trodVars_none hV
  obtain ⟨cs0, rfl, hc0, rfl, hs0⟩ := open_flat (D := 6) (L := [.int .i64, .int .i64, .int .i64, .int .i64, .int .i64, .int .i64, .int .i64, .bool]) (by kernel_rfl) (agg_struct Try.underlying42 (hval 0 42 v0 rfl rfl)) h0
  obtain ⟨x0_0, _, rx0_0, ⟨x0_1, _, rx0_1, ⟨x0_2, _, rx0_2, ⟨x0_3, _, rx0_3, ⟨x0_4, _, rx0_4, ⟨x0_5, _, rx0_5, ⟨x0_6, _, rx0_6, ⟨x0_7, _, rfl, rfl⟩, rfl⟩, rfl⟩, rfl⟩, rfl⟩, rfl⟩, rfl⟩, rfl⟩ := hc0
  clear hA0 hval0
  simp only [List.append_nil] at hW'
  refine (TurnUp.calls x0_0 x0_1 x0_2 x0_3 x0_4 x0_5 x0_6 x0_7 rx0_0 rx0_1 rx0_2 rx0_3 rx0_4 rx0_5 rx0_6 W).mono fun e W' ⟨he, hB⟩ => ?_
  subst he
  refine ⟨_, rfl, _, _, _, [], [], [], hW', ?_, ?_, ?_, hB.frame _, fun h => by cases h⟩
  · exact trodAll_mk1 (shut_bool Try.underlying4 true)
  · exact trodAll_mk1 (hs0 _ _ _ _)
  · rfl
theorem turnUp_holds : Rows.TurnUpSaid :=
  OpenClaim.holds_of_wide 12 Try.f12 rfl rfl rfl rfl rfl rfl rfl ⟨rfl, rfl, rfl, rfl, rfl⟩ rfl rfl rfl rfl rfl (by kernel_rfl) Try.func12 (by kernel_rfl)
    (of_decide_eq_true (by kernel_rfl)) (by unfold Func.isWrapper; first | (rw [if_pos (by decide +kernel)]; kernel_rfl) | (rw [if_neg (by decide +kernel)]; exact ⟨rfl, rfl⟩))
    (fun os started H enc _ => TurnUp.lifted os started H enc)
#print axioms turnUp_holds
end Go.Proofs.Ytoagcpfklkmolaa
