/-
  No cell of these rows narrows 'for every input' (looked for: loops, veiled, ifaces, maps, wideKeys, modest, calm, conditions, laid).
  DERIVED. THE GIVEN ROWS OF THIS SEAT. 7 by the template 'for every input the law returns true; each argument reads behind the call as it read before'; 0 by the template 'total and deterministic' (their statements: YtgbbaegfcmlmiaaTotals.lean).
  GIVEN WITH THE SEED: the statements are not yours to turn. If you find one false, say at which input.
  Laid BY PROGRAM, IN A SANDBOX (cutbox-rows.mjs): the forced cells as the released guide's own fill.sh prints them over the translation 7ecfefd9a9e4d8ae… (all of the seat's roots in one cut). By AI agents, Wed Nov 11 2026. No macro, syntax, notation, axiom, sorry.
-/
import Derived.Test.YtgbbaegfcmlmiaaChecked
import GoSem.Claim
import GoSem.ClaimJoined
import GoSem.ClaimMapViews
import Derived.JoinedTies
import Derived.KernelRfl
namespace Go.Proofs.Ytgbbaegfcmlmiaa
/- THE CELL 'sum', in the pinned program and in every row, IS THE sha256 OF THE DUMP (.gsa) THAT YtgbbaegfcmlmiaaProg.lean LOADS. Nothing in Lean hashes anything: it is a label: what it is worth is what the hold of that sum in a sandbox is worth. -/
noncomputable def Try.pinned : Pinned := { name := "ytgbbaegfcmlmiaa", sum := "7ecfefd9a9e4d8ae51871543469b6c01f909006d519b4129b26e12ab8bd6568b", checked := Try.checked }
namespace Rows
def none {H : Type} : Left H := { results := [], args := [] }

/-- 'outriggerlaw19.AxisIs': WHATEVER THE INPUT: true; the input reads as it did. -/
def axisIsSpec : ChangeSpec := { name := "axisIs", fn := fun _ => fun
  | [d1, d2, d3, d4] => { results := [.lit (.bool true)], args := [d1, d2, d3, d4] }
  | _ => none }
def axisIsRow : OpenClaim := { program := "ytgbbaegfcmlmiaa", sum := "7ecfefd9a9e4d8ae51871543469b6c01f909006d519b4129b26e12ab8bd6568b", func := "outrigger/outriggerlaw19.AxisIs", spec := "axisIs", named := ["math/bits.divideError", "math/bits.overflowError"], apart := false }
def AxisIsSaid : Prop := axisIsRow.holds Try.pinned (OpenSpec.ofChange axisIsSpec)

/-- ITS FALSE NEIGHBOUR: 'it returns false'. Refute it at one input. -/
def axisIsWrong : ChangeSpec := { name := "axisIs", fn := fun _ => fun
  | [d1, d2, d3, d4] => { results := [.lit (.bool false)], args := [d1, d2, d3, d4] }
  | _ => none }
def AxisIsWrongFalsely : Prop := axisIsRow.holds Try.pinned (OpenSpec.ofChange axisIsWrong)

/-- 'outriggerlaw19.AxisKeeps': WHATEVER THE INPUT: true; the input reads as it did. -/
def axisKeepsSpec : ChangeSpec := { name := "axisKeeps", fn := fun _ => fun
  | [d1, d2, d3, d4] => { results := [.lit (.bool true)], args := [d1, d2, d3, d4] }
  | _ => none }
def axisKeepsRow : OpenClaim := { program := "ytgbbaegfcmlmiaa", sum := "7ecfefd9a9e4d8ae51871543469b6c01f909006d519b4129b26e12ab8bd6568b", func := "outrigger/outriggerlaw19.AxisKeeps", spec := "axisKeeps", named := ["math/bits.divideError", "math/bits.overflowError"], apart := false }
def AxisKeepsSaid : Prop := axisKeepsRow.holds Try.pinned (OpenSpec.ofChange axisKeepsSpec)

/-- ITS FALSE NEIGHBOUR: 'it returns false'. Refute it at one input. -/
def axisKeepsWrong : ChangeSpec := { name := "axisKeeps", fn := fun _ => fun
  | [d1, d2, d3, d4] => { results := [.lit (.bool false)], args := [d1, d2, d3, d4] }
  | _ => none }
def AxisKeepsWrongFalsely : Prop := axisKeepsRow.holds Try.pinned (OpenSpec.ofChange axisKeepsWrong)

/-- 'outriggerlaw19.AxisStill': WHATEVER THE INPUT: true; the input reads as it did. -/
def axisStillSpec : ChangeSpec := { name := "axisStill", fn := fun _ => fun
  | [d1, d2, d3, d4] => { results := [.lit (.bool true)], args := [d1, d2, d3, d4] }
  | _ => none }
def axisStillRow : OpenClaim := { program := "ytgbbaegfcmlmiaa", sum := "7ecfefd9a9e4d8ae51871543469b6c01f909006d519b4129b26e12ab8bd6568b", func := "outrigger/outriggerlaw19.AxisStill", spec := "axisStill", named := ["math/bits.divideError", "math/bits.overflowError"], apart := false }
def AxisStillSaid : Prop := axisStillRow.holds Try.pinned (OpenSpec.ofChange axisStillSpec)

/-- ITS FALSE NEIGHBOUR: 'it returns false'. Refute it at one input. -/
def axisStillWrong : ChangeSpec := { name := "axisStill", fn := fun _ => fun
  | [d1, d2, d3, d4] => { results := [.lit (.bool false)], args := [d1, d2, d3, d4] }
  | _ => none }
def AxisStillWrongFalsely : Prop := axisStillRow.holds Try.pinned (OpenSpec.ofChange axisStillWrong)

/-- 'outriggerlaw19.AxisKnows': WHATEVER THE INPUT: true; the input reads as it did. -/
def axisKnowsSpec : ChangeSpec := { name := "axisKnows", fn := fun _ => fun
  | [d1, d2, d3, d4] => { results := [.lit (.bool true)], args := [d1, d2, d3, d4] }
  | _ => none }
def axisKnowsRow : OpenClaim := { program := "ytgbbaegfcmlmiaa", sum := "7ecfefd9a9e4d8ae51871543469b6c01f909006d519b4129b26e12ab8bd6568b", func := "outrigger/outriggerlaw19.AxisKnows", spec := "axisKnows", named := ["math/bits.divideError", "math/bits.overflowError"], apart := false }
def AxisKnowsSaid : Prop := axisKnowsRow.holds Try.pinned (OpenSpec.ofChange axisKnowsSpec)

/-- ITS FALSE NEIGHBOUR: 'it returns false'. Refute it at one input. -/
def axisKnowsWrong : ChangeSpec := { name := "axisKnows", fn := fun _ => fun
  | [d1, d2, d3, d4] => { results := [.lit (.bool false)], args := [d1, d2, d3, d4] }
  | _ => none }
def AxisKnowsWrongFalsely : Prop := axisKnowsRow.holds Try.pinned (OpenSpec.ofChange axisKnowsWrong)

/-- 'outriggerlaw19.AxisGate': WHATEVER THE INPUT: true; the input reads as it did. -/
def axisGateSpec : ChangeSpec := { name := "axisGate", fn := fun _ => fun
  | [d1, d2, d3, d4, d5] => { results := [.lit (.bool true)], args := [d1, d2, d3, d4, d5] }
  | _ => none }
def axisGateRow : OpenClaim := { program := "ytgbbaegfcmlmiaa", sum := "7ecfefd9a9e4d8ae51871543469b6c01f909006d519b4129b26e12ab8bd6568b", func := "outrigger/outriggerlaw19.AxisGate", spec := "axisGate", named := ["math/bits.divideError", "math/bits.overflowError"], apart := false }
def AxisGateSaid : Prop := axisGateRow.holds Try.pinned (OpenSpec.ofChange axisGateSpec)

/-- ITS FALSE NEIGHBOUR: 'it returns false'. Refute it at one input. -/
def axisGateWrong : ChangeSpec := { name := "axisGate", fn := fun _ => fun
  | [d1, d2, d3, d4, d5] => { results := [.lit (.bool false)], args := [d1, d2, d3, d4, d5] }
  | _ => none }
def AxisGateWrongFalsely : Prop := axisGateRow.holds Try.pinned (OpenSpec.ofChange axisGateWrong)

/-- 'outriggerlaw19.AxisSure': WHATEVER THE INPUT: true; the input reads as it did. -/
def axisSureSpec : ChangeSpec := { name := "axisSure", fn := fun _ => fun
  | [d1, d2, d3, d4, d5] => { results := [.lit (.bool true)], args := [d1, d2, d3, d4, d5] }
  | _ => none }
def axisSureRow : OpenClaim := { program := "ytgbbaegfcmlmiaa", sum := "7ecfefd9a9e4d8ae51871543469b6c01f909006d519b4129b26e12ab8bd6568b", func := "outrigger/outriggerlaw19.AxisSure", spec := "axisSure", named := ["math/bits.divideError", "math/bits.overflowError"], apart := false }
def AxisSureSaid : Prop := axisSureRow.holds Try.pinned (OpenSpec.ofChange axisSureSpec)

/-- ITS FALSE NEIGHBOUR: 'it returns false'. Refute it at one input. -/
def axisSureWrong : ChangeSpec := { name := "axisSure", fn := fun _ => fun
  | [d1, d2, d3, d4, d5] => { results := [.lit (.bool false)], args := [d1, d2, d3, d4, d5] }
  | _ => none }
def AxisSureWrongFalsely : Prop := axisSureRow.holds Try.pinned (OpenSpec.ofChange axisSureWrong)

/-- 'outriggerlaw19.AxisGrows': WHATEVER THE INPUT: true; the input reads as it did. -/
def axisGrowsSpec : ChangeSpec := { name := "axisGrows", fn := fun _ => fun
  | [d1, d2, d3, d4, d5] => { results := [.lit (.bool true)], args := [d1, d2, d3, d4, d5] }
  | _ => none }
def axisGrowsRow : OpenClaim := { program := "ytgbbaegfcmlmiaa", sum := "7ecfefd9a9e4d8ae51871543469b6c01f909006d519b4129b26e12ab8bd6568b", func := "outrigger/outriggerlaw19.AxisGrows", spec := "axisGrows", named := ["math/bits.divideError", "math/bits.overflowError"], apart := false }
def AxisGrowsSaid : Prop := axisGrowsRow.holds Try.pinned (OpenSpec.ofChange axisGrowsSpec)

/-- ITS FALSE NEIGHBOUR: 'it returns false'. Refute it at one input. -/
def axisGrowsWrong : ChangeSpec := { name := "axisGrows", fn := fun _ => fun
  | [d1, d2, d3, d4, d5] => { results := [.lit (.bool false)], args := [d1, d2, d3, d4, d5] }
  | _ => none }
def AxisGrowsWrongFalsely : Prop := axisGrowsRow.holds Try.pinned (OpenSpec.ofChange axisGrowsWrong)

/- THE SECOND FORM. 'bulk': how many values and letters a reading holds, each counted each time it is reached (what is shared counts as often as it is met; a slice's spare places count too). A statement '..UptoSaid' is the law's where the arguments, and the package variables that the reading takes, are together of bulk at most 1048576: NARROWER than '..Said'. Prove '..Said' where nothing that the law and all that it calls make is longer than what came in: it says more and counts as full. Else prove '..UptoSaid'. A law counts once. -/
mutual
def uptoBulk {H : Type} : DataW H → Nat
  | .lit (.string bytes) => bytes.length + 1
  | .lit _ => 1
  | .nil => 1
  | .ptr d => uptoBulk d + 1
  | .slice elems spare => uptoBulkAll elems + uptoBulkAll spare + 1
  | .agg parts => uptoBulkAll parts + 1
  | .iface _ d => uptoBulk d + 1
  | .map entries => uptoBulkEntries entries + 1
  | .held _ => 1
def uptoBulkAll {H : Type} : List (DataW H) → Nat
  | [] => 0
  | d :: r => uptoBulk d + uptoBulkAll r
def uptoBulkEntries {H : Type} : List (Lit × DataW H) → Nat
  | [] => 0
  | x :: r => uptoBulkEntry x + uptoBulkEntries r
def uptoBulkEntry {H : Type} : Lit × DataW H → Nat
  | (.string bytes, d) => bytes.length + uptoBulk d + 1
  | (_, d) => uptoBulk d + 1
 end
def uptoSmall : (H : Type) → List (DataW H) → Bool := fun _ ds => decide (uptoBulkAll ds ≤ 1048576)
def OpenSpec.upto (s : _root_.Go.ChangeSpec) : _root_.Go.OpenSpec := { _root_.Go.OpenSpec.ofChange s with cond := some uptoSmall }

/-- 'outriggerlaw19.AxisIs', WHERE WHAT IT READS IS OF BULK AT MOST 1048576: true; the input reads as it did. -/
def axisIsUptoRow : OpenClaim := { program := "ytgbbaegfcmlmiaa", sum := "7ecfefd9a9e4d8ae51871543469b6c01f909006d519b4129b26e12ab8bd6568b", func := "outrigger/outriggerlaw19.AxisIs", spec := "axisIs", named := ["math/bits.divideError", "math/bits.overflowError"], apart := false, narrowed := true }
def AxisIsUptoSaid : Prop := axisIsUptoRow.holds Try.pinned (OpenSpec.upto axisIsSpec)

/-- 'outriggerlaw19.AxisKeeps', WHERE WHAT IT READS IS OF BULK AT MOST 1048576: true; the input reads as it did. -/
def axisKeepsUptoRow : OpenClaim := { program := "ytgbbaegfcmlmiaa", sum := "7ecfefd9a9e4d8ae51871543469b6c01f909006d519b4129b26e12ab8bd6568b", func := "outrigger/outriggerlaw19.AxisKeeps", spec := "axisKeeps", named := ["math/bits.divideError", "math/bits.overflowError"], apart := false, narrowed := true }
def AxisKeepsUptoSaid : Prop := axisKeepsUptoRow.holds Try.pinned (OpenSpec.upto axisKeepsSpec)

/-- 'outriggerlaw19.AxisStill', WHERE WHAT IT READS IS OF BULK AT MOST 1048576: true; the input reads as it did. -/
def axisStillUptoRow : OpenClaim := { program := "ytgbbaegfcmlmiaa", sum := "7ecfefd9a9e4d8ae51871543469b6c01f909006d519b4129b26e12ab8bd6568b", func := "outrigger/outriggerlaw19.AxisStill", spec := "axisStill", named := ["math/bits.divideError", "math/bits.overflowError"], apart := false, narrowed := true }
def AxisStillUptoSaid : Prop := axisStillUptoRow.holds Try.pinned (OpenSpec.upto axisStillSpec)

/-- 'outriggerlaw19.AxisKnows', WHERE WHAT IT READS IS OF BULK AT MOST 1048576: true; the input reads as it did. -/
def axisKnowsUptoRow : OpenClaim := { program := "ytgbbaegfcmlmiaa", sum := "7ecfefd9a9e4d8ae51871543469b6c01f909006d519b4129b26e12ab8bd6568b", func := "outrigger/outriggerlaw19.AxisKnows", spec := "axisKnows", named := ["math/bits.divideError", "math/bits.overflowError"], apart := false, narrowed := true }
def AxisKnowsUptoSaid : Prop := axisKnowsUptoRow.holds Try.pinned (OpenSpec.upto axisKnowsSpec)

/-- 'outriggerlaw19.AxisGate', WHERE WHAT IT READS IS OF BULK AT MOST 1048576: true; the input reads as it did. -/
def axisGateUptoRow : OpenClaim := { program := "ytgbbaegfcmlmiaa", sum := "7ecfefd9a9e4d8ae51871543469b6c01f909006d519b4129b26e12ab8bd6568b", func := "outrigger/outriggerlaw19.AxisGate", spec := "axisGate", named := ["math/bits.divideError", "math/bits.overflowError"], apart := false, narrowed := true }
def AxisGateUptoSaid : Prop := axisGateUptoRow.holds Try.pinned (OpenSpec.upto axisGateSpec)

/-- 'outriggerlaw19.AxisSure', WHERE WHAT IT READS IS OF BULK AT MOST 1048576: true; the input reads as it did. -/
def axisSureUptoRow : OpenClaim := { program := "ytgbbaegfcmlmiaa", sum := "7ecfefd9a9e4d8ae51871543469b6c01f909006d519b4129b26e12ab8bd6568b", func := "outrigger/outriggerlaw19.AxisSure", spec := "axisSure", named := ["math/bits.divideError", "math/bits.overflowError"], apart := false, narrowed := true }
def AxisSureUptoSaid : Prop := axisSureUptoRow.holds Try.pinned (OpenSpec.upto axisSureSpec)

/-- 'outriggerlaw19.AxisGrows', WHERE WHAT IT READS IS OF BULK AT MOST 1048576: true; the input reads as it did. -/
def axisGrowsUptoRow : OpenClaim := { program := "ytgbbaegfcmlmiaa", sum := "7ecfefd9a9e4d8ae51871543469b6c01f909006d519b4129b26e12ab8bd6568b", func := "outrigger/outriggerlaw19.AxisGrows", spec := "axisGrows", named := ["math/bits.divideError", "math/bits.overflowError"], apart := false, narrowed := true }
def AxisGrowsUptoSaid : Prop := axisGrowsUptoRow.holds Try.pinned (OpenSpec.upto axisGrowsSpec)

end Rows
end Go.Proofs.Ytgbbaegfcmlmiaa
