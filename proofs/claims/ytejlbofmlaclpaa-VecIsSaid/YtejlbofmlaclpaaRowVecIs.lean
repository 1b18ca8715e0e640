/- VecIs is true: whatever the arguments, the law returns true, and its arguments read as they did. No further condition.

The walk is done by an executor proved sound over the model (YtejlbofmlaclpaaSx); what each function computes was printed by a program and is checked by the kernel; the plain law is f13_eq. -/
import Derived.Test.YtejlbofmlaclpaaRows
import Derived.Test.YtejlbofmlaclpaaA7
import Derived.Test.YtejlbofmlaclpaaFl
import Derived.ProofKit
import Derived.Carry
namespace Go.Proofs.Ytejlbofmlaclpaa
open Go.ChangeShapes Go.WideShapes Go.ChangeAt Go.RowKit Go.Sx
theorem VecIs.own : ownKnob Try.prog.godebug = none := by kernel_rfl
theorem VecIs.laidOut : laidOutB Try.prog = true := by kernel_rfl
set_option maxRecDepth 100000 in
theorem VecIs.calls (x0_0 : Int) (x0_1 : Int) (x0_2 : Int) (x1_0 : Int) (x1_1 : Int) (x1_2 : Int) (x2_0 : Int) (hx0_0 : Rg .i64 x0_0) (hx0_1 : Rg .i64 x0_1) (hx0_2 : Rg .i64 x0_2) (hx1_0 : Rg .i64 x1_0) (hx1_1 : Rg .i64 x1_1) (hx1_2 : Rg .i64 x1_2) (hx2_0 : Rg .i64 x2_0) (w : World) :
    Calls Try.prog 13 #[.agg #[.int .i64 x0_0, .int .i64 x0_1, .int .i64 x0_2], .agg #[.int .i64 x1_0, .int .i64 x1_1, .int .i64 x1_2], .int .i64 x2_0] w fun e w' => e = .returned (.bool true) ∧ Below w.heap.size w w' := by
  have hs := S13_ok [.v (.agg [.int .i64 (.sym x0_0), .int .i64 (.sym x0_1), .int .i64 (.sym x0_2)]), .v (.agg [.int .i64 (.sym x1_0), .int .i64 (.sym x1_1), .int .i64 (.sym x1_2)]), .v (.int .i64 (.sym x2_0))] _ rfl w [.agg #[.int .i64 x0_0, .int .i64 x0_1, .int .i64 x0_2], .agg #[.int .i64 x1_0, .int .i64 x1_1, .int .i64 x1_2], .int .i64 x2_0]
    ⟨_, _, ⟨[.int .i64 x0_0, .int .i64 x0_1, .int .i64 x0_2], ⟨_, _, ⟨rfl, hx0_0⟩, ⟨_, _, ⟨rfl, hx0_1⟩, ⟨_, _, ⟨rfl, hx0_2⟩, rfl, rfl⟩, rfl⟩, rfl⟩, rfl⟩, ⟨_, _, ⟨[.int .i64 x1_0, .int .i64 x1_1, .int .i64 x1_2], ⟨_, _, ⟨rfl, hx1_0⟩, ⟨_, _, ⟨rfl, hx1_1⟩, ⟨_, _, ⟨rfl, hx1_2⟩, rfl, rfl⟩, rfl⟩, rfl⟩, rfl⟩, ⟨_, _, ⟨rfl, hx2_0⟩, rfl, rfl⟩, rfl⟩, rfl⟩
  refine hs.mono ?_
  rintro e w' ⟨⟨v, rfl, hv⟩, hb⟩
  have hv1 : v = .bool (f13 x0_0 x0_1 x0_2 x1_0 x1_1 x1_2 x2_0) := hv
  rw [hv1, f13_eq]
  exact ⟨rfl, hb⟩
set_option maxRecDepth 100000 in
theorem VecIs.lifted (os : Os) (started : os.Started) (H : Type) (enc : TypeId × Value → H) :
    ReturnsInHanded {} Try.checked os 13 .any (Rows.vecIsSpec.pre6 enc Try.prog Try.f13 Rows.vecIsRow.domain false) (Rows.vecIsSpec.post enc Try.prog Try.f13 false true false false) := by
  refine returnsInHanded_of_change (C := Try.checked) VecIs.own started (by kernel_rfl) Try.func13
    (ChangeSpec.witness6 (enc := enc) (C := Try.checked) false ⟨#[], #[.agg #[.int .i64 0, .int .i64 0, .int .i64 0], .agg #[.int .i64 0, .int .i64 0, .int .i64 0], .int .i64 0], []⟩ 8 (by kernel_rfl) (by kernel_rfl) (by kernel_rfl) (by kernel_rfl)) ?_
  intro W base args ds gs before hval0 hW hcnd _
  have hval : ∀ (j : Nat) t v, Try.f13.params[j]? = some t → args[j]? = some v → Value.okWide Try.prog W .any base t v := hval0
  have hW' := hW
  obtain ⟨p, q, hA0, hV, rfl, hfz, hnd⟩ := hW
  have hA : DataW.TrodAll enc Try.prog W 0 (fun _ => true) true Try.f13.params.toList args.toList ds p := hA0
  rw [Try.params13] at hA hval
  obtain ⟨v0, v1, v2, d0, d1, d2, p0, p1, p2, rfl, rfl, rfl, h0, h1, h2⟩ := trodAll_three hA
  obtain ⟨rfl, rfl⟩ := trodVars_none hV
  obtain ⟨cs0, rfl, hc0, rfl, hs0⟩ := open_flat (D := 6) (L := [.int .i64, .int .i64, .int .i64]) (by kernel_rfl) (agg_array Try.underlying40 (hval 0 40 v0 rfl rfl)) h0
  obtain ⟨x0_0, _, rx0_0, ⟨x0_1, _, rx0_1, ⟨x0_2, _, rx0_2, rfl, rfl⟩, rfl⟩, rfl⟩ := hc0
  obtain ⟨cs1, rfl, hc1, rfl, hs1⟩ := open_flat (D := 6) (L := [.int .i64, .int .i64, .int .i64]) (by kernel_rfl) (agg_array Try.underlying40 (hval 1 40 v1 rfl rfl)) h1
  obtain ⟨x1_0, _, rx1_0, ⟨x1_1, _, rx1_1, ⟨x1_2, _, rx1_2, rfl, rfl⟩, rfl⟩, rfl⟩ := hc1
  obtain ⟨x2_0, rfl, rfl, rfl, wa2⟩ := open_int Try.underlying3 (hval 2 3 v2 rfl rfl) h2
  have rx2_0 := rg_of_wf wa2
  clear hA0 hval0
  simp only [List.append_nil] at hW'
  refine (VecIs.calls x0_0 x0_1 x0_2 x1_0 x1_1 x1_2 x2_0 rx0_0 rx0_1 rx0_2 rx1_0 rx1_1 rx1_2 rx2_0 W).mono fun e W' ⟨he, hB⟩ => ?_
  subst he
  refine ⟨_, rfl, _, _, _, [], [], [], hW', ?_, ?_, ?_, hB.frame _, fun h => by cases h⟩
  · exact trodAll_mk1 (shut_bool Try.underlying4 true)
  · exact trodAll_mk3 (hs0 _ _ _ _) (hs1 _ _ _ _) (shut_int Try.underlying3 wa2)
  · rfl
theorem vecIs_holds : Rows.VecIsSaid :=
  OpenClaim.holds_of_wide 13 Try.f13 rfl rfl rfl rfl rfl rfl rfl ⟨rfl, rfl, rfl, rfl, rfl⟩ rfl rfl rfl rfl rfl (by kernel_rfl) Try.func13 (by kernel_rfl)
    (of_decide_eq_true (by kernel_rfl)) (by unfold Func.isWrapper; first | (rw [if_pos (by decide +kernel)]; kernel_rfl) | (rw [if_neg (by decide +kernel)]; exact ⟨rfl, rfl⟩))
    (fun os started H enc _ => VecIs.lifted os started H enc)
#print axioms vecIs_holds
end Go.Proofs.Ytejlbofmlaclpaa
