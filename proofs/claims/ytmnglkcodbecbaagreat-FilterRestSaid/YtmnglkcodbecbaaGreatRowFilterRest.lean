/- FilterRest is true: whatever the arguments, the law returns true, and its arguments read as they did. No further condition.

The walk is done by an executor proved sound over the model (YtmnglkcodbecbaaGreatSx, YtmnglkcodbecbaaGreatX); what it comes to is checked by the kernel; lists are read where they lie. -/
import Derived.Test.YtmnglkcodbecbaaGreatRows
import Derived.Test.YtmnglkcodbecbaaGreatLs
import Derived.Test.YtmnglkcodbecbaaGreatXr
import Derived.ProofKit
import Derived.Carry
namespace Go.Proofs.YtmnglkcodbecbaaGreat
open Go.ChangeShapes Go.WideShapes Go.ChangeAt Go.RowKit Go.Sx
set_option linter.unusedVariables false
set_option linter.unusedSimpArgs false
theorem FilterRest.own : ownKnob Tryz.prog.godebug = none := by kernel_rfl
theorem FilterRest.laidOut : laidOutB Tryz.prog = true := by kernel_rfl
set_option maxRecDepth 100000 in
theorem FilterRest.lifted (os : Os) (started : os.Started) (H : Type) (enc : TypeId × Value → H) :
    ReturnsInHanded {} Tryz.checked os 7 .any (Rows.filterRestSpec.pre6 enc Tryz.prog Tryz.f7 Rows.filterRestRow.domain false) (Rows.filterRestSpec.post enc Tryz.prog Tryz.f7 false true false false) := by
  refine returnsInHanded_of_change (C := Tryz.checked) FilterRest.own started (by kernel_rfl) Tryz.func7
    (ChangeSpec.witness6 (enc := enc) (C := Tryz.checked) false ⟨#[], #[.int .i64 0, .int .i64 0], []⟩ 8 (by kernel_rfl) (by kernel_rfl) (by kernel_rfl) (by kernel_rfl)) ?_
  intro W base args ds gs before hval0 hW hcnd _
  have hval : ∀ (j : Nat) t v, Tryz.f7.params[j]? = some t → args[j]? = some v → Value.okWide Tryz.prog W .any base t v := hval0
  have hW' := hW
  obtain ⟨p, q, hA0, hV, rfl, hfz, hnd⟩ := hW
  have hA : DataW.TrodAll enc Tryz.prog W 0 (fun _ => true) true Tryz.f7.params.toList args.toList ds p := hA0
  rw [Tryz.params7] at hA hval
  obtain ⟨v0, v1, d0, d1, p0, p1, rfl, rfl, rfl, h0, h1⟩ := trodAll_two hA
  obtain ⟨rfl, rfl⟩ := trodVars_none hV
  obtain ⟨x0_0, rfl, rfl, rfl, wa0⟩ := open_int Tryz.underlying3 (hval 0 3 v0 rfl rfl) h0
  have rx0_0 := rg_of_wf wa0
  obtain ⟨x1_0, rfl, rfl, rfl, wa1⟩ := open_int Tryz.underlying3 (hval 1 3 v1 rfl rfl) h1
  have rx1_0 := rg_of_wf wa1
  clear hA0 hval0
  simp only [List.append_nil, List.nil_append] at hW'
  -- FROM THE CALL TO 'post'
  suffices hcalls : Calls Tryz.prog 7 #[.int .i64 x0_0, .int .i64 x1_0] W (fun e w' => e = .returned (.bool true) ∧ Below W.heap.size W w') by
    refine hcalls.mono fun e W' ⟨he, hB⟩ => ?_
    subst he
    refine ⟨_, rfl, _, _, _, [], [] ++ ([]), [], hW', ?_, ?_, ?_, hB.frame _, fun h => by cases h⟩
    · exact trodAll_mk1 (shut_bool Tryz.underlying4 true)
    · exact trodAll_mk2 (p := []) (p' := []) (shut_int Tryz.underlying3 wa0) (shut_int Tryz.underlying3 wa1)
    · rfl
  exact calls7 W x0_0 x1_0 rx0_0 rx1_0
theorem filterRest_holds : Rows.FilterRestSaid :=
  OpenClaim.holds_of_wide 7 Tryz.f7 rfl rfl rfl rfl rfl rfl rfl ⟨rfl, rfl, rfl, rfl, rfl⟩ rfl rfl rfl rfl rfl (by kernel_rfl) Tryz.func7 (by kernel_rfl)
    (of_decide_eq_true (by kernel_rfl)) (by unfold Func.isWrapper; first | (rw [if_pos (by decide +kernel)]; kernel_rfl) | (rw [if_neg (by decide +kernel)]; exact ⟨rfl, rfl⟩))
    (fun os started H enc _ => FilterRest.lifted os started H enc)
#print axioms filterRest_holds
end Go.Proofs.YtmnglkcodbecbaaGreat
