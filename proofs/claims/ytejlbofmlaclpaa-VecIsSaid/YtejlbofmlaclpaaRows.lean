/-
  No cell of these rows narrows 'for every input' (looked for: loops, veiled, ifaces, maps, wideKeys, modest, calm, conditions, laid).
  DERIVED. THE GIVEN ROWS OF THIS SEAT. 12 by the template 'for every input the law returns true; each argument reads behind the call as it read before'; 0 by the template 'total and deterministic' (their statements: YtejlbofmlaclpaaTotals.lean).
  GIVEN WITH THE SEED: the statements are not yours to turn. If you find one false, say at which input.
  Laid BY PROGRAM, IN A SANDBOX (cutbox-rows.mjs): the forced cells as the released guide's own fill.sh prints them over the translation 7cbc3ffa78b06159… (all of the seat's roots in one cut). By AI agents, Wed Nov 11 2026. No macro, syntax, notation, axiom, sorry.
-/
import Derived.Test.YtejlbofmlaclpaaChecked
import GoSem.Claim
import GoSem.ClaimJoined
import GoSem.ClaimMapViews
import Derived.JoinedTies
import Derived.KernelRfl
namespace Go.Proofs.Ytejlbofmlaclpaa
/- THE CELL 'sum', in the pinned program and in every row, IS THE sha256 OF THE DUMP (.gsa) THAT YtejlbofmlaclpaaProg.lean LOADS. Nothing in Lean hashes anything: it is a label: what it is worth is what the hold of that sum in a sandbox is worth. -/
noncomputable def Try.pinned : Pinned := { name := "ytejlbofmlaclpaa", sum := "7cbc3ffa78b0615992320f3ea0a470bb9a63fb167b76946c2f84531895d0bf58", checked := Try.checked }
namespace Rows
def none {H : Type} : Left H := { results := [], args := [] }

/-- 'outriggerlaw03.ScaleIs': WHATEVER THE INPUT: true; the input reads as it did. -/
def scaleIsSpec : ChangeSpec := { name := "scaleIs", fn := fun _ => fun
  | [d1, d2, d3, d4] => { results := [.lit (.bool true)], args := [d1, d2, d3, d4] }
  | _ => none }
def scaleIsRow : OpenClaim := { program := "ytejlbofmlaclpaa", sum := "7cbc3ffa78b0615992320f3ea0a470bb9a63fb167b76946c2f84531895d0bf58", func := "outrigger/outriggerlaw03.ScaleIs", spec := "scaleIs", named := ["math/bits.divideError", "math/bits.overflowError"], apart := false }
def ScaleIsSaid : Prop := scaleIsRow.holds Try.pinned (OpenSpec.ofChange scaleIsSpec)

/-- ITS FALSE NEIGHBOUR: 'it returns false'. Refute it at one input. -/
def scaleIsWrong : ChangeSpec := { name := "scaleIs", fn := fun _ => fun
  | [d1, d2, d3, d4] => { results := [.lit (.bool false)], args := [d1, d2, d3, d4] }
  | _ => none }
def ScaleIsWrongFalsely : Prop := scaleIsRow.holds Try.pinned (OpenSpec.ofChange scaleIsWrong)

/-- 'outriggerlaw03.ScaleBack': WHATEVER THE INPUT: true; the input reads as it did. -/
def scaleBackSpec : ChangeSpec := { name := "scaleBack", fn := fun _ => fun
  | [d1, d2] => { results := [.lit (.bool true)], args := [d1, d2] }
  | _ => none }
def scaleBackRow : OpenClaim := { program := "ytejlbofmlaclpaa", sum := "7cbc3ffa78b0615992320f3ea0a470bb9a63fb167b76946c2f84531895d0bf58", func := "outrigger/outriggerlaw03.ScaleBack", spec := "scaleBack", named := ["math/bits.divideError", "math/bits.overflowError"], apart := false }
def ScaleBackSaid : Prop := scaleBackRow.holds Try.pinned (OpenSpec.ofChange scaleBackSpec)

/-- ITS FALSE NEIGHBOUR: 'it returns false'. Refute it at one input. -/
def scaleBackWrong : ChangeSpec := { name := "scaleBack", fn := fun _ => fun
  | [d1, d2] => { results := [.lit (.bool false)], args := [d1, d2] }
  | _ => none }
def ScaleBackWrongFalsely : Prop := scaleBackRow.holds Try.pinned (OpenSpec.ofChange scaleBackWrong)

/-- 'outriggerlaw03.ScaleMix': WHATEVER THE INPUT: true; the input reads as it did. -/
def scaleMixSpec : ChangeSpec := { name := "scaleMix", fn := fun _ => fun
  | [d1, d2, d3] => { results := [.lit (.bool true)], args := [d1, d2, d3] }
  | _ => none }
def scaleMixRow : OpenClaim := { program := "ytejlbofmlaclpaa", sum := "7cbc3ffa78b0615992320f3ea0a470bb9a63fb167b76946c2f84531895d0bf58", func := "outrigger/outriggerlaw03.ScaleMix", spec := "scaleMix", named := ["math/bits.divideError", "math/bits.overflowError"], apart := false }
def ScaleMixSaid : Prop := scaleMixRow.holds Try.pinned (OpenSpec.ofChange scaleMixSpec)

/-- ITS FALSE NEIGHBOUR: 'it returns false'. Refute it at one input. -/
def scaleMixWrong : ChangeSpec := { name := "scaleMix", fn := fun _ => fun
  | [d1, d2, d3] => { results := [.lit (.bool false)], args := [d1, d2, d3] }
  | _ => none }
def ScaleMixWrongFalsely : Prop := scaleMixRow.holds Try.pinned (OpenSpec.ofChange scaleMixWrong)

/-- 'outriggerlaw03.ScaleNeg': WHATEVER THE INPUT: true; the input reads as it did. -/
def scaleNegSpec : ChangeSpec := { name := "scaleNeg", fn := fun _ => fun
  | [d1, d2] => { results := [.lit (.bool true)], args := [d1, d2] }
  | _ => none }
def scaleNegRow : OpenClaim := { program := "ytejlbofmlaclpaa", sum := "7cbc3ffa78b0615992320f3ea0a470bb9a63fb167b76946c2f84531895d0bf58", func := "outrigger/outriggerlaw03.ScaleNeg", spec := "scaleNeg", named := ["math/bits.divideError", "math/bits.overflowError"], apart := false }
def ScaleNegSaid : Prop := scaleNegRow.holds Try.pinned (OpenSpec.ofChange scaleNegSpec)

/-- ITS FALSE NEIGHBOUR: 'it returns false'. Refute it at one input. -/
def scaleNegWrong : ChangeSpec := { name := "scaleNeg", fn := fun _ => fun
  | [d1, d2] => { results := [.lit (.bool false)], args := [d1, d2] }
  | _ => none }
def ScaleNegWrongFalsely : Prop := scaleNegRow.holds Try.pinned (OpenSpec.ofChange scaleNegWrong)

/-- 'outriggerlaw03.ScaleTimes': WHATEVER THE INPUT: true; the input reads as it did. -/
def scaleTimesSpec : ChangeSpec := { name := "scaleTimes", fn := fun _ => fun
  | [d1, d2] => { results := [.lit (.bool true)], args := [d1, d2] }
  | _ => none }
def scaleTimesRow : OpenClaim := { program := "ytejlbofmlaclpaa", sum := "7cbc3ffa78b0615992320f3ea0a470bb9a63fb167b76946c2f84531895d0bf58", func := "outrigger/outriggerlaw03.ScaleTimes", spec := "scaleTimes", named := ["math/bits.divideError", "math/bits.overflowError"], apart := false }
def ScaleTimesSaid : Prop := scaleTimesRow.holds Try.pinned (OpenSpec.ofChange scaleTimesSpec)

/-- ITS FALSE NEIGHBOUR: 'it returns false'. Refute it at one input. -/
def scaleTimesWrong : ChangeSpec := { name := "scaleTimes", fn := fun _ => fun
  | [d1, d2] => { results := [.lit (.bool false)], args := [d1, d2] }
  | _ => none }
def ScaleTimesWrongFalsely : Prop := scaleTimesRow.holds Try.pinned (OpenSpec.ofChange scaleTimesWrong)

/-- 'outriggerlaw03.ScaleOver': WHATEVER THE INPUT: true; the input reads as it did. -/
def scaleOverSpec : ChangeSpec := { name := "scaleOver", fn := fun _ => fun
  | [d1, d2] => { results := [.lit (.bool true)], args := [d1, d2] }
  | _ => none }
def scaleOverRow : OpenClaim := { program := "ytejlbofmlaclpaa", sum := "7cbc3ffa78b0615992320f3ea0a470bb9a63fb167b76946c2f84531895d0bf58", func := "outrigger/outriggerlaw03.ScaleOver", spec := "scaleOver", named := ["math/bits.divideError", "math/bits.overflowError"], apart := false }
def ScaleOverSaid : Prop := scaleOverRow.holds Try.pinned (OpenSpec.ofChange scaleOverSpec)

/-- ITS FALSE NEIGHBOUR: 'it returns false'. Refute it at one input. -/
def scaleOverWrong : ChangeSpec := { name := "scaleOver", fn := fun _ => fun
  | [d1, d2] => { results := [.lit (.bool false)], args := [d1, d2] }
  | _ => none }
def ScaleOverWrongFalsely : Prop := scaleOverRow.holds Try.pinned (OpenSpec.ofChange scaleOverWrong)

/-- 'outriggerlaw07.VecUnit': WHATEVER THE INPUT: true; the input reads as it did. -/
def vecUnitSpec : ChangeSpec := { name := "vecUnit", fn := fun _ => fun
  | [d] => { results := [.lit (.bool true)], args := [d] }
  | _ => none }
def vecUnitRow : OpenClaim := { program := "ytejlbofmlaclpaa", sum := "7cbc3ffa78b0615992320f3ea0a470bb9a63fb167b76946c2f84531895d0bf58", func := "outrigger/outriggerlaw07.VecUnit", spec := "vecUnit", unfollowed := true, recurses := true, named := ["math/bits.divideError", "math/bits.overflowError"], apart := false }
def VecUnitSaid : Prop := vecUnitRow.holds Try.pinned (OpenSpec.ofChange vecUnitSpec)

/-- ITS FALSE NEIGHBOUR: 'it returns false'. Refute it at one input. -/
def vecUnitWrong : ChangeSpec := { name := "vecUnit", fn := fun _ => fun
  | [d] => { results := [.lit (.bool false)], args := [d] }
  | _ => none }
def VecUnitWrongFalsely : Prop := vecUnitRow.holds Try.pinned (OpenSpec.ofChange vecUnitWrong)

/-- 'outriggerlaw07.VecCross': WHATEVER THE INPUT: true; the input reads as it did. -/
def vecCrossSpec : ChangeSpec := { name := "vecCross", fn := fun _ => fun
  | [d1, d2] => { results := [.lit (.bool true)], args := [d1, d2] }
  | _ => none }
def vecCrossRow : OpenClaim := { program := "ytejlbofmlaclpaa", sum := "7cbc3ffa78b0615992320f3ea0a470bb9a63fb167b76946c2f84531895d0bf58", func := "outrigger/outriggerlaw07.VecCross", spec := "vecCross", unfollowed := true, recurses := true, named := ["math/bits.divideError", "math/bits.overflowError"], apart := false }
def VecCrossSaid : Prop := vecCrossRow.holds Try.pinned (OpenSpec.ofChange vecCrossSpec)

/-- ITS FALSE NEIGHBOUR: 'it returns false'. Refute it at one input. -/
def vecCrossWrong : ChangeSpec := { name := "vecCross", fn := fun _ => fun
  | [d1, d2] => { results := [.lit (.bool false)], args := [d1, d2] }
  | _ => none }
def VecCrossWrongFalsely : Prop := vecCrossRow.holds Try.pinned (OpenSpec.ofChange vecCrossWrong)

/-- 'outriggerlaw07.VecTwo': WHATEVER THE INPUT: true; the input reads as it did. -/
def vecTwoSpec : ChangeSpec := { name := "vecTwo", fn := fun _ => fun
  | [d] => { results := [.lit (.bool true)], args := [d] }
  | _ => none }
def vecTwoRow : OpenClaim := { program := "ytejlbofmlaclpaa", sum := "7cbc3ffa78b0615992320f3ea0a470bb9a63fb167b76946c2f84531895d0bf58", func := "outrigger/outriggerlaw07.VecTwo", spec := "vecTwo", unfollowed := true, recurses := true, named := ["math/bits.divideError", "math/bits.overflowError"], apart := false }
def VecTwoSaid : Prop := vecTwoRow.holds Try.pinned (OpenSpec.ofChange vecTwoSpec)

/-- ITS FALSE NEIGHBOUR: 'it returns false'. Refute it at one input. -/
def vecTwoWrong : ChangeSpec := { name := "vecTwo", fn := fun _ => fun
  | [d] => { results := [.lit (.bool false)], args := [d] }
  | _ => none }
def VecTwoWrongFalsely : Prop := vecTwoRow.holds Try.pinned (OpenSpec.ofChange vecTwoWrong)

/-- 'outriggerlaw07.VecDots': WHATEVER THE INPUT: true; the input reads as it did. -/
def vecDotsSpec : ChangeSpec := { name := "vecDots", fn := fun _ => fun
  | [d1, d2, d3] => { results := [.lit (.bool true)], args := [d1, d2, d3] }
  | _ => none }
def vecDotsRow : OpenClaim := { program := "ytejlbofmlaclpaa", sum := "7cbc3ffa78b0615992320f3ea0a470bb9a63fb167b76946c2f84531895d0bf58", func := "outrigger/outriggerlaw07.VecDots", spec := "vecDots", unfollowed := true, recurses := true, named := ["math/bits.divideError", "math/bits.overflowError"], apart := false }
def VecDotsSaid : Prop := vecDotsRow.holds Try.pinned (OpenSpec.ofChange vecDotsSpec)

/-- ITS FALSE NEIGHBOUR: 'it returns false'. Refute it at one input. -/
def vecDotsWrong : ChangeSpec := { name := "vecDots", fn := fun _ => fun
  | [d1, d2, d3] => { results := [.lit (.bool false)], args := [d1, d2, d3] }
  | _ => none }
def VecDotsWrongFalsely : Prop := vecDotsRow.holds Try.pinned (OpenSpec.ofChange vecDotsWrong)

/-- 'outriggerlaw07.VecIs': WHATEVER THE INPUT: true; the input reads as it did. -/
def vecIsSpec : ChangeSpec := { name := "vecIs", fn := fun _ => fun
  | [d1, d2, d3] => { results := [.lit (.bool true)], args := [d1, d2, d3] }
  | _ => none }
def vecIsRow : OpenClaim := { program := "ytejlbofmlaclpaa", sum := "7cbc3ffa78b0615992320f3ea0a470bb9a63fb167b76946c2f84531895d0bf58", func := "outrigger/outriggerlaw07.VecIs", spec := "vecIs", unfollowed := true, recurses := true, named := ["math/bits.divideError", "math/bits.overflowError"], apart := false }
def VecIsSaid : Prop := vecIsRow.holds Try.pinned (OpenSpec.ofChange vecIsSpec)

/-- ITS FALSE NEIGHBOUR: 'it returns false'. Refute it at one input. -/
def vecIsWrong : ChangeSpec := { name := "vecIs", fn := fun _ => fun
  | [d1, d2, d3] => { results := [.lit (.bool false)], args := [d1, d2, d3] }
  | _ => none }
def VecIsWrongFalsely : Prop := vecIsRow.holds Try.pinned (OpenSpec.ofChange vecIsWrong)

/-- 'outriggerlaw07.VecTurn': WHATEVER THE INPUT: true; the input reads as it did. -/
def vecTurnSpec : ChangeSpec := { name := "vecTurn", fn := fun _ => fun
  | [d1, d2] => { results := [.lit (.bool true)], args := [d1, d2] }
  | _ => none }
def vecTurnRow : OpenClaim := { program := "ytejlbofmlaclpaa", sum := "7cbc3ffa78b0615992320f3ea0a470bb9a63fb167b76946c2f84531895d0bf58", func := "outrigger/outriggerlaw07.VecTurn", spec := "vecTurn", unfollowed := true, recurses := true, named := ["math/bits.divideError", "math/bits.overflowError"], apart := false }
def VecTurnSaid : Prop := vecTurnRow.holds Try.pinned (OpenSpec.ofChange vecTurnSpec)

/-- ITS FALSE NEIGHBOUR: 'it returns false'. Refute it at one input. -/
def vecTurnWrong : ChangeSpec := { name := "vecTurn", fn := fun _ => fun
  | [d1, d2] => { results := [.lit (.bool false)], args := [d1, d2] }
  | _ => none }
def VecTurnWrongFalsely : Prop := vecTurnRow.holds Try.pinned (OpenSpec.ofChange vecTurnWrong)

/- THE SECOND FORM. 'bulk': how many values and letters a reading holds, each counted each time it is reached (what is shared counts as often as it is met; a slice's spare places count too). A statement '..UptoSaid' is the law's where the arguments, and the package variables that the reading takes, are together of bulk at most 1048576: NARROWER than '..Said'. Prove '..Said' where nothing that the law and all that it calls make is longer than what came in: it says more and counts as full. Else prove '..UptoSaid'. A law counts once. -/
mutual
def uptoBulk {H : Type} : DataW H → Nat
  | .lit (.string bytes) => bytes.length + 1
  | .lit _ => 1
  | .nil => 1
  | .ptr d => uptoBulk d + 1
  | .slice elems spare => uptoBulkAll elems + uptoBulkAll spare + 1
  | .agg parts => uptoBulkAll parts + 1
  | .iface _ d => uptoBulk d + 1
  | .map entries => uptoBulkEntries entries + 1
  | .held _ => 1
def uptoBulkAll {H : Type} : List (DataW H) → Nat
  | [] => 0
  | d :: r => uptoBulk d + uptoBulkAll r
def uptoBulkEntries {H : Type} : List (Lit × DataW H) → Nat
  | [] => 0
  | x :: r => uptoBulkEntry x + uptoBulkEntries r
def uptoBulkEntry {H : Type} : Lit × DataW H → Nat
  | (.string bytes, d) => bytes.length + uptoBulk d + 1
  | (_, d) => uptoBulk d + 1
 end
def uptoSmall : (H : Type) → List (DataW H) → Bool := fun _ ds => decide (uptoBulkAll ds ≤ 1048576)
def OpenSpec.upto (s : _root_.Go.ChangeSpec) : _root_.Go.OpenSpec := { _root_.Go.OpenSpec.ofChange s with cond := some uptoSmall }

/-- 'outriggerlaw03.ScaleIs', WHERE WHAT IT READS IS OF BULK AT MOST 1048576: true; the input reads as it did. -/
def scaleIsUptoRow : OpenClaim := { program := "ytejlbofmlaclpaa", sum := "7cbc3ffa78b0615992320f3ea0a470bb9a63fb167b76946c2f84531895d0bf58", func := "outrigger/outriggerlaw03.ScaleIs", spec := "scaleIs", named := ["math/bits.divideError", "math/bits.overflowError"], apart := false, narrowed := true }
def ScaleIsUptoSaid : Prop := scaleIsUptoRow.holds Try.pinned (OpenSpec.upto scaleIsSpec)

/-- 'outriggerlaw03.ScaleBack', WHERE WHAT IT READS IS OF BULK AT MOST 1048576: true; the input reads as it did. -/
def scaleBackUptoRow : OpenClaim := { program := "ytejlbofmlaclpaa", sum := "7cbc3ffa78b0615992320f3ea0a470bb9a63fb167b76946c2f84531895d0bf58", func := "outrigger/outriggerlaw03.ScaleBack", spec := "scaleBack", named := ["math/bits.divideError", "math/bits.overflowError"], apart := false, narrowed := true }
def ScaleBackUptoSaid : Prop := scaleBackUptoRow.holds Try.pinned (OpenSpec.upto scaleBackSpec)

/-- 'outriggerlaw03.ScaleMix', WHERE WHAT IT READS IS OF BULK AT MOST 1048576: true; the input reads as it did. -/
def scaleMixUptoRow : OpenClaim := { program := "ytejlbofmlaclpaa", sum := "7cbc3ffa78b0615992320f3ea0a470bb9a63fb167b76946c2f84531895d0bf58", func := "outrigger/outriggerlaw03.ScaleMix", spec := "scaleMix", named := ["math/bits.divideError", "math/bits.overflowError"], apart := false, narrowed := true }
def ScaleMixUptoSaid : Prop := scaleMixUptoRow.holds Try.pinned (OpenSpec.upto scaleMixSpec)

/-- 'outriggerlaw03.ScaleNeg', WHERE WHAT IT READS IS OF BULK AT MOST 1048576: true; the input reads as it did. -/
def scaleNegUptoRow : OpenClaim := { program := "ytejlbofmlaclpaa", sum := "7cbc3ffa78b0615992320f3ea0a470bb9a63fb167b76946c2f84531895d0bf58", func := "outrigger/outriggerlaw03.ScaleNeg", spec := "scaleNeg", named := ["math/bits.divideError", "math/bits.overflowError"], apart := false, narrowed := true }
def ScaleNegUptoSaid : Prop := scaleNegUptoRow.holds Try.pinned (OpenSpec.upto scaleNegSpec)

/-- 'outriggerlaw03.ScaleTimes', WHERE WHAT IT READS IS OF BULK AT MOST 1048576: true; the input reads as it did. -/
def scaleTimesUptoRow : OpenClaim := { program := "ytejlbofmlaclpaa", sum := "7cbc3ffa78b0615992320f3ea0a470bb9a63fb167b76946c2f84531895d0bf58", func := "outrigger/outriggerlaw03.ScaleTimes", spec := "scaleTimes", named := ["math/bits.divideError", "math/bits.overflowError"], apart := false, narrowed := true }
def ScaleTimesUptoSaid : Prop := scaleTimesUptoRow.holds Try.pinned (OpenSpec.upto scaleTimesSpec)

/-- 'outriggerlaw03.ScaleOver', WHERE WHAT IT READS IS OF BULK AT MOST 1048576: true; the input reads as it did. -/
def scaleOverUptoRow : OpenClaim := { program := "ytejlbofmlaclpaa", sum := "7cbc3ffa78b0615992320f3ea0a470bb9a63fb167b76946c2f84531895d0bf58", func := "outrigger/outriggerlaw03.ScaleOver", spec := "scaleOver", named := ["math/bits.divideError", "math/bits.overflowError"], apart := false, narrowed := true }
def ScaleOverUptoSaid : Prop := scaleOverUptoRow.holds Try.pinned (OpenSpec.upto scaleOverSpec)

/-- 'outriggerlaw07.VecUnit', WHERE WHAT IT READS IS OF BULK AT MOST 1048576: true; the input reads as it did. -/
def vecUnitUptoRow : OpenClaim := { program := "ytejlbofmlaclpaa", sum := "7cbc3ffa78b0615992320f3ea0a470bb9a63fb167b76946c2f84531895d0bf58", func := "outrigger/outriggerlaw07.VecUnit", spec := "vecUnit", unfollowed := true, recurses := true, named := ["math/bits.divideError", "math/bits.overflowError"], apart := false, narrowed := true }
def VecUnitUptoSaid : Prop := vecUnitUptoRow.holds Try.pinned (OpenSpec.upto vecUnitSpec)

/-- 'outriggerlaw07.VecCross', WHERE WHAT IT READS IS OF BULK AT MOST 1048576: true; the input reads as it did. -/
def vecCrossUptoRow : OpenClaim := { program := "ytejlbofmlaclpaa", sum := "7cbc3ffa78b0615992320f3ea0a470bb9a63fb167b76946c2f84531895d0bf58", func := "outrigger/outriggerlaw07.VecCross", spec := "vecCross", unfollowed := true, recurses := true, named := ["math/bits.divideError", "math/bits.overflowError"], apart := false, narrowed := true }
def VecCrossUptoSaid : Prop := vecCrossUptoRow.holds Try.pinned (OpenSpec.upto vecCrossSpec)

/-- 'outriggerlaw07.VecTwo', WHERE WHAT IT READS IS OF BULK AT MOST 1048576: true; the input reads as it did. -/
def vecTwoUptoRow : OpenClaim := { program := "ytejlbofmlaclpaa", sum := "7cbc3ffa78b0615992320f3ea0a470bb9a63fb167b76946c2f84531895d0bf58", func := "outrigger/outriggerlaw07.VecTwo", spec := "vecTwo", unfollowed := true, recurses := true, named := ["math/bits.divideError", "math/bits.overflowError"], apart := false, narrowed := true }
def VecTwoUptoSaid : Prop := vecTwoUptoRow.holds Try.pinned (OpenSpec.upto vecTwoSpec)

/-- 'outriggerlaw07.VecDots', WHERE WHAT IT READS IS OF BULK AT MOST 1048576: true; the input reads as it did. -/
def vecDotsUptoRow : OpenClaim := { program := "ytejlbofmlaclpaa", sum := "7cbc3ffa78b0615992320f3ea0a470bb9a63fb167b76946c2f84531895d0bf58", func := "outrigger/outriggerlaw07.VecDots", spec := "vecDots", unfollowed := true, recurses := true, named := ["math/bits.divideError", "math/bits.overflowError"], apart := false, narrowed := true }
def VecDotsUptoSaid : Prop := vecDotsUptoRow.holds Try.pinned (OpenSpec.upto vecDotsSpec)

/-- 'outriggerlaw07.VecIs', WHERE WHAT IT READS IS OF BULK AT MOST 1048576: true; the input reads as it did. -/
def vecIsUptoRow : OpenClaim := { program := "ytejlbofmlaclpaa", sum := "7cbc3ffa78b0615992320f3ea0a470bb9a63fb167b76946c2f84531895d0bf58", func := "outrigger/outriggerlaw07.VecIs", spec := "vecIs", unfollowed := true, recurses := true, named := ["math/bits.divideError", "math/bits.overflowError"], apart := false, narrowed := true }
def VecIsUptoSaid : Prop := vecIsUptoRow.holds Try.pinned (OpenSpec.upto vecIsSpec)

/-- 'outriggerlaw07.VecTurn', WHERE WHAT IT READS IS OF BULK AT MOST 1048576: true; the input reads as it did. -/
def vecTurnUptoRow : OpenClaim := { program := "ytejlbofmlaclpaa", sum := "7cbc3ffa78b0615992320f3ea0a470bb9a63fb167b76946c2f84531895d0bf58", func := "outrigger/outriggerlaw07.VecTurn", spec := "vecTurn", unfollowed := true, recurses := true, named := ["math/bits.divideError", "math/bits.overflowError"], apart := false, narrowed := true }
def VecTurnUptoSaid : Prop := vecTurnUptoRow.holds Try.pinned (OpenSpec.upto vecTurnSpec)

end Rows
end Go.Proofs.Ytejlbofmlaclpaa
