/- TurnIs is true: whatever the arguments, the law returns true, and its arguments read as they did. No further condition.

The walk is done by an executor proved sound over the model (YtmnglkcodbecbaaGreatSx); what each function computes was printed by a program and is checked by the kernel; the plain law is f3_eq. -/
import Derived.Test.YtmnglkcodbecbaaGreatRows
import Derived.Test.YtmnglkcodbecbaaGreatT6
import Derived.Test.YtmnglkcodbecbaaGreatFl
import Derived.ProofKit
import Derived.Carry
namespace Go.Proofs.YtmnglkcodbecbaaGreat
open Go.ChangeShapes Go.WideShapes Go.ChangeAt Go.RowKit Go.Sx
theorem TurnIs.own : ownKnob Tryz.prog.godebug = none := by kernel_rfl
theorem TurnIs.laidOut : laidOutB Tryz.prog = true := by kernel_rfl
set_option maxRecDepth 100000 in
theorem TurnIs.calls (x0_0 : Int) (x0_1 : Int) (x0_2 : Int) (x0_3 : Int) (x0_4 : Int) (x0_5 : Int) (x0_6 : Int) (x0_7 : Bool) (x1_0 : Int) (x1_1 : Int) (x1_2 : Int) (x2_0 : Int) (hx0_0 : Rg .i64 x0_0) (hx0_1 : Rg .i64 x0_1) (hx0_2 : Rg .i64 x0_2) (hx0_3 : Rg .i64 x0_3) (hx0_4 : Rg .i64 x0_4) (hx0_5 : Rg .i64 x0_5) (hx0_6 : Rg .i64 x0_6) (hx1_0 : Rg .i64 x1_0) (hx1_1 : Rg .i64 x1_1) (hx1_2 : Rg .i64 x1_2) (hx2_0 : Rg .i64 x2_0) (w : World) :
    Calls Tryz.prog 3 #[.agg #[.int .i64 x0_0, .int .i64 x0_1, .int .i64 x0_2, .int .i64 x0_3, .int .i64 x0_4, .int .i64 x0_5, .int .i64 x0_6, .bool x0_7], .agg #[.int .i64 x1_0, .int .i64 x1_1, .int .i64 x1_2], .int .i64 x2_0] w fun e w' => e = .returned (.bool true) ∧ Below w.heap.size w w' := by
  have hs := S3_ok [.v (.agg [.int .i64 (.sym x0_0), .int .i64 (.sym x0_1), .int .i64 (.sym x0_2), .int .i64 (.sym x0_3), .int .i64 (.sym x0_4), .int .i64 (.sym x0_5), .int .i64 (.sym x0_6), .bool (.sym x0_7)]), .v (.agg [.int .i64 (.sym x1_0), .int .i64 (.sym x1_1), .int .i64 (.sym x1_2)]), .v (.int .i64 (.sym x2_0))] _ rfl w [.agg #[.int .i64 x0_0, .int .i64 x0_1, .int .i64 x0_2, .int .i64 x0_3, .int .i64 x0_4, .int .i64 x0_5, .int .i64 x0_6, .bool x0_7], .agg #[.int .i64 x1_0, .int .i64 x1_1, .int .i64 x1_2], .int .i64 x2_0]
    ⟨_, _, ⟨[.int .i64 x0_0, .int .i64 x0_1, .int .i64 x0_2, .int .i64 x0_3, .int .i64 x0_4, .int .i64 x0_5, .int .i64 x0_6, .bool x0_7], ⟨_, _, ⟨rfl, hx0_0⟩, ⟨_, _, ⟨rfl, hx0_1⟩, ⟨_, _, ⟨rfl, hx0_2⟩, ⟨_, _, ⟨rfl, hx0_3⟩, ⟨_, _, ⟨rfl, hx0_4⟩, ⟨_, _, ⟨rfl, hx0_5⟩, ⟨_, _, ⟨rfl, hx0_6⟩, ⟨_, _, rfl, rfl, rfl⟩, rfl⟩, rfl⟩, rfl⟩, rfl⟩, rfl⟩, rfl⟩, rfl⟩, rfl⟩, ⟨_, _, ⟨[.int .i64 x1_0, .int .i64 x1_1, .int .i64 x1_2], ⟨_, _, ⟨rfl, hx1_0⟩, ⟨_, _, ⟨rfl, hx1_1⟩, ⟨_, _, ⟨rfl, hx1_2⟩, rfl, rfl⟩, rfl⟩, rfl⟩, rfl⟩, ⟨_, _, ⟨rfl, hx2_0⟩, rfl, rfl⟩, rfl⟩, rfl⟩
  refine hs.mono ?_
  rintro e w' ⟨⟨v, rfl, hv⟩, hb⟩
  have hv1 : v = .bool (f3 x0_0 x0_1 x0_2 x0_3 x0_4 x0_5 x0_6 x0_7 x1_0 x1_1 x1_2 x2_0) := hv
  rw [hv1, f3_eq]
  exact ⟨rfl, hb⟩
set_option maxRecDepth 100000 in
theorem TurnIs.lifted (os : Os) (started : os.Started) (H : Type) (enc : TypeId × Value → H) :
    ReturnsInHanded {} Tryz.checked os 3 .any (Rows.turnIsSpec.pre6 enc Tryz.prog Tryz.f3 Rows.turnIsRow.domain false) (Rows.turnIsSpec.post enc Tryz.prog Tryz.f3 false true false false) := by
  refine returnsInHanded_of_change (C := Tryz.checked) TurnIs.own started (by kernel_rfl) Tryz.func3
    (ChangeSpec.witness6 (enc := enc) (C := Tryz.checked) false ⟨#[], #[.agg #[.int .i64 0, .int .i64 0, .int .i64 0, .int .i64 0, .int .i64 0, .int .i64 0, .int .i64 0, .bool false], .agg #[.int .i64 0, .int .i64 0, .int .i64 0], .int .i64 0], []⟩ 8 (by kernel_rfl) (by kernel_rfl) (by kernel_rfl) (by kernel_rfl)) ?_
  intro W base args ds gs before hval0 hW hcnd _
  have hval : ∀ (j : Nat) t v, Tryz.f3.params[j]? = some t → args[j]? = some v → Value.okWide Tryz.prog W .any base t v := hval0
  have hW' := hW
  obtain ⟨p, q, hA0, hV, rfl, hfz, hnd⟩ := hW
  have hA : DataW.TrodAll enc Tryz.prog W 0 (fun _ => true) true Tryz.f3.params.toList args.toList ds p := hA0
  rw [Tryz.params3] at hA hval
  obtain ⟨v0, v1, v2, d0, d1, d2, p0, p1, p2, rfl, rfl, rfl, h0, h1, h2⟩ := trodAll_three hA
  obtain ⟨rfl, rfl⟩ := trodVars_none hV
  obtain ⟨cs0, rfl, hc0, rfl, hs0⟩ := open_flat (D := 6) (L := [.int .i64, .int .i64, .int .i64, .int .i64, .int .i64, .int .i64, .int .i64, .bool]) (by kernel_rfl) (agg_struct Tryz.underlying25 (hval 0 25 v0 rfl rfl)) h0
  obtain ⟨x0_0, _, rx0_0, ⟨x0_1, _, rx0_1, ⟨x0_2, _, rx0_2, ⟨x0_3, _, rx0_3, ⟨x0_4, _, rx0_4, ⟨x0_5, _, rx0_5, ⟨x0_6, _, rx0_6, ⟨x0_7, _, rfl, rfl⟩, rfl⟩, rfl⟩, rfl⟩, rfl⟩, rfl⟩, rfl⟩, rfl⟩ := hc0
  obtain ⟨cs1, rfl, hc1, rfl, hs1⟩ := open_flat (D := 6) (L := [.int .i64, .int .i64, .int .i64]) (by kernel_rfl) (agg_array Tryz.underlying23 (hval 1 23 v1 rfl rfl)) h1
  obtain ⟨x1_0, _, rx1_0, ⟨x1_1, _, rx1_1, ⟨x1_2, _, rx1_2, rfl, rfl⟩, rfl⟩, rfl⟩ := hc1
  obtain ⟨x2_0, rfl, rfl, rfl, wa2⟩ := open_int Tryz.underlying3 (hval 2 3 v2 rfl rfl) h2
  have rx2_0 := rg_of_wf wa2
  clear hA0 hval0
  simp only [List.append_nil] at hW'
  refine (TurnIs.calls x0_0 x0_1 x0_2 x0_3 x0_4 x0_5 x0_6 x0_7 x1_0 x1_1 x1_2 x2_0 rx0_0 rx0_1 rx0_2 rx0_3 rx0_4 rx0_5 rx0_6 rx1_0 rx1_1 rx1_2 rx2_0 W).mono fun e W' ⟨he, hB⟩ => ?_
  subst he
  refine ⟨_, rfl, _, _, _, [], [], [], hW', ?_, ?_, ?_, hB.frame _, fun h => by cases h⟩
  · exact trodAll_mk1 (shut_bool Tryz.underlying4 true)
  · exact trodAll_mk3 (hs0 _ _ _ _) (hs1 _ _ _ _) (shut_int Tryz.underlying3 wa2)
  · rfl
theorem turnIs_holds : Rows.TurnIsSaid :=
  OpenClaim.holds_of_wide 3 Tryz.f3 rfl rfl rfl rfl rfl rfl rfl ⟨rfl, rfl, rfl, rfl, rfl⟩ rfl rfl rfl rfl rfl (by kernel_rfl) Tryz.func3 (by kernel_rfl)
    (of_decide_eq_true (by kernel_rfl)) (by unfold Func.isWrapper; first | (rw [if_pos (by decide +kernel)]; kernel_rfl) | (rw [if_neg (by decide +kernel)]; exact ⟨rfl, rfl⟩))
    (fun os started H enc _ => TurnIs.lifted os started H enc)
#print axioms turnIs_holds
end Go.Proofs.YtmnglkcodbecbaaGreat
