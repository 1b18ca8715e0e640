/-
  No cell of these rows narrows 'for every input' (looked for: loops, veiled, ifaces, maps, wideKeys, modest, calm, conditions, laid).
  DERIVED. THE GIVEN ROWS OF THIS SEAT. 9 by the template 'for every input the law returns true; each argument reads behind the call as it read before'; 0 by the template 'total and deterministic' (their statements: YtmnglkcodbecbaaGreatTotals.lean).
  GIVEN WITH THE SEED: the statements are not yours to turn. If you find one false, say at which input.
  Laid BY PROGRAM, IN A SANDBOX (cutbox-rows.mjs): the forced cells as the released guide's own fill.sh prints them over the translation 63bfcfcb3ab34a5c… (all of the seat's roots in one cut). By AI agents, Wed Nov 11 2026. No macro, syntax, notation, axiom, sorry.
-/
import Derived.Test.YtmnglkcodbecbaaGreatChecked
import GoSem.Claim
import GoSem.ClaimJoined
import GoSem.ClaimMapViews
import Derived.JoinedTies
import Derived.KernelRfl
namespace Go.Proofs.YtmnglkcodbecbaaGreat
/- THE CELL 'sum', in the pinned program and in every row, IS THE sha256 OF THE DUMP (.gsa) THAT YtmnglkcodbecbaaGreatProg.lean LOADS. Nothing in Lean hashes anything: it is a label: what it is worth is what the hold of that sum in a sandbox is worth. -/
noncomputable def Tryz.pinned : Pinned := { name := "ytmnglkcodbecbaagreat", sum := "63bfcfcb3ab34a5c76dee687ec8ab19e8f4000ae57844e4a26384ebee6d76934", checked := Tryz.checked }
namespace Rows
def none {H : Type} : Left H := { results := [], args := [] }

/-- 'outriggerlaw20.TurnIs': WHATEVER THE INPUT: true; the input reads as it did. -/
def turnIsSpec : ChangeSpec := { name := "turnIs", fn := fun _ => fun
  | [d1, d2, d3] => { results := [.lit (.bool true)], args := [d1, d2, d3] }
  | _ => none }
def turnIsRow : OpenClaim := { program := "ytmnglkcodbecbaagreat", sum := "63bfcfcb3ab34a5c76dee687ec8ab19e8f4000ae57844e4a26384ebee6d76934", func := "outrigger/outriggerlaw20.TurnIs", spec := "turnIs", unfollowed := true, recurses := true, named := ["math/bits.divideError", "math/bits.overflowError"], apart := false }
def TurnIsSaid : Prop := turnIsRow.holds Tryz.pinned (OpenSpec.ofChange turnIsSpec)

/-- ITS FALSE NEIGHBOUR: 'it returns false'. Refute it at one input. -/
def turnIsWrong : ChangeSpec := { name := "turnIs", fn := fun _ => fun
  | [d1, d2, d3] => { results := [.lit (.bool false)], args := [d1, d2, d3] }
  | _ => none }
def TurnIsWrongFalsely : Prop := turnIsRow.holds Tryz.pinned (OpenSpec.ofChange turnIsWrong)

/-- 'outriggerlaw21.FilterIs': WHATEVER THE INPUT: true; the input reads as it did. -/
def filterIsSpec : ChangeSpec := { name := "filterIs", fn := fun _ => fun
  | [d1, d2, d3] => { results := [.lit (.bool true)], args := [d1, d2, d3] }
  | _ => none }
def filterIsRow : OpenClaim := { program := "ytmnglkcodbecbaagreat", sum := "63bfcfcb3ab34a5c76dee687ec8ab19e8f4000ae57844e4a26384ebee6d76934", func := "outrigger/outriggerlaw21.FilterIs", spec := "filterIs", unfollowed := true, recurses := true, named := ["math/bits.divideError", "math/bits.overflowError"], apart := false }
def FilterIsSaid : Prop := filterIsRow.holds Tryz.pinned (OpenSpec.ofChange filterIsSpec)

/-- ITS FALSE NEIGHBOUR: 'it returns false'. Refute it at one input. -/
def filterIsWrong : ChangeSpec := { name := "filterIs", fn := fun _ => fun
  | [d1, d2, d3] => { results := [.lit (.bool false)], args := [d1, d2, d3] }
  | _ => none }
def FilterIsWrongFalsely : Prop := filterIsRow.holds Tryz.pinned (OpenSpec.ofChange filterIsWrong)

/-- 'outriggerlaw21.FilterRuns': WHATEVER THE INPUT: true; the input reads as it did. -/
def filterRunsSpec : ChangeSpec := { name := "filterRuns", fn := fun _ => fun
  | [d1, d2, d3] => { results := [.lit (.bool true)], args := [d1, d2, d3] }
  | _ => none }
def filterRunsRow : OpenClaim := { program := "ytmnglkcodbecbaagreat", sum := "63bfcfcb3ab34a5c76dee687ec8ab19e8f4000ae57844e4a26384ebee6d76934", func := "outrigger/outriggerlaw21.FilterRuns", spec := "filterRuns", unfollowed := true, recurses := true, named := ["math/bits.divideError", "math/bits.overflowError"], apart := false }
def FilterRunsSaid : Prop := filterRunsRow.holds Tryz.pinned (OpenSpec.ofChange filterRunsSpec)

/-- ITS FALSE NEIGHBOUR: 'it returns false'. Refute it at one input. -/
def filterRunsWrong : ChangeSpec := { name := "filterRuns", fn := fun _ => fun
  | [d1, d2, d3] => { results := [.lit (.bool false)], args := [d1, d2, d3] }
  | _ => none }
def FilterRunsWrongFalsely : Prop := filterRunsRow.holds Tryz.pinned (OpenSpec.ofChange filterRunsWrong)

/-- 'outriggerlaw21.FilterKeeps': WHATEVER THE INPUT: true; the input reads as it did. -/
def filterKeepsSpec : ChangeSpec := { name := "filterKeeps", fn := fun _ => fun
  | [d1, d2, d3] => { results := [.lit (.bool true)], args := [d1, d2, d3] }
  | _ => none }
def filterKeepsRow : OpenClaim := { program := "ytmnglkcodbecbaagreat", sum := "63bfcfcb3ab34a5c76dee687ec8ab19e8f4000ae57844e4a26384ebee6d76934", func := "outrigger/outriggerlaw21.FilterKeeps", spec := "filterKeeps", unfollowed := true, recurses := true, named := ["math/bits.divideError", "math/bits.overflowError"], apart := false }
def FilterKeepsSaid : Prop := filterKeepsRow.holds Tryz.pinned (OpenSpec.ofChange filterKeepsSpec)

/-- ITS FALSE NEIGHBOUR: 'it returns false'. Refute it at one input. -/
def filterKeepsWrong : ChangeSpec := { name := "filterKeeps", fn := fun _ => fun
  | [d1, d2, d3] => { results := [.lit (.bool false)], args := [d1, d2, d3] }
  | _ => none }
def FilterKeepsWrongFalsely : Prop := filterKeepsRow.holds Tryz.pinned (OpenSpec.ofChange filterKeepsWrong)

/-- 'outriggerlaw21.FilterRest': WHATEVER THE INPUT: true; the input reads as it did. -/
def filterRestSpec : ChangeSpec := { name := "filterRest", fn := fun _ => fun
  | [d1, d2] => { results := [.lit (.bool true)], args := [d1, d2] }
  | _ => none }
def filterRestRow : OpenClaim := { program := "ytmnglkcodbecbaagreat", sum := "63bfcfcb3ab34a5c76dee687ec8ab19e8f4000ae57844e4a26384ebee6d76934", func := "outrigger/outriggerlaw21.FilterRest", spec := "filterRest", unfollowed := true, recurses := true, named := ["math/bits.divideError", "math/bits.overflowError"], apart := false }
def FilterRestSaid : Prop := filterRestRow.holds Tryz.pinned (OpenSpec.ofChange filterRestSpec)

/-- ITS FALSE NEIGHBOUR: 'it returns false'. Refute it at one input. -/
def filterRestWrong : ChangeSpec := { name := "filterRest", fn := fun _ => fun
  | [d1, d2] => { results := [.lit (.bool false)], args := [d1, d2] }
  | _ => none }
def FilterRestWrongFalsely : Prop := filterRestRow.holds Tryz.pinned (OpenSpec.ofChange filterRestWrong)

/-- 'outriggerlaw21.FilterFinds': WHATEVER THE INPUT: true; the input reads as it did. -/
def filterFindsSpec : ChangeSpec := { name := "filterFinds", fn := fun _ => fun
  | [d] => { results := [.lit (.bool true)], args := [d] }
  | _ => none }
def filterFindsRow : OpenClaim := { program := "ytmnglkcodbecbaagreat", sum := "63bfcfcb3ab34a5c76dee687ec8ab19e8f4000ae57844e4a26384ebee6d76934", func := "outrigger/outriggerlaw21.FilterFinds", spec := "filterFinds", unfollowed := true, recurses := true, named := ["math/bits.divideError", "math/bits.overflowError"], apart := false }
def FilterFindsSaid : Prop := filterFindsRow.holds Tryz.pinned (OpenSpec.ofChange filterFindsSpec)

/-- ITS FALSE NEIGHBOUR: 'it returns false'. Refute it at one input. -/
def filterFindsWrong : ChangeSpec := { name := "filterFinds", fn := fun _ => fun
  | [d] => { results := [.lit (.bool false)], args := [d] }
  | _ => none }
def FilterFindsWrongFalsely : Prop := filterFindsRow.holds Tryz.pinned (OpenSpec.ofChange filterFindsWrong)

/-- 'outriggerlaw21.FilterLate': WHATEVER THE INPUT: true; the input reads as it did. -/
def filterLateSpec : ChangeSpec := { name := "filterLate", fn := fun _ => fun
  | [d1, d2, d3] => { results := [.lit (.bool true)], args := [d1, d2, d3] }
  | _ => none }
def filterLateRow : OpenClaim := { program := "ytmnglkcodbecbaagreat", sum := "63bfcfcb3ab34a5c76dee687ec8ab19e8f4000ae57844e4a26384ebee6d76934", func := "outrigger/outriggerlaw21.FilterLate", spec := "filterLate", unfollowed := true, recurses := true, named := ["math/bits.divideError", "math/bits.overflowError"], apart := false }
def FilterLateSaid : Prop := filterLateRow.holds Tryz.pinned (OpenSpec.ofChange filterLateSpec)

/-- ITS FALSE NEIGHBOUR: 'it returns false'. Refute it at one input. -/
def filterLateWrong : ChangeSpec := { name := "filterLate", fn := fun _ => fun
  | [d1, d2, d3] => { results := [.lit (.bool false)], args := [d1, d2, d3] }
  | _ => none }
def FilterLateWrongFalsely : Prop := filterLateRow.holds Tryz.pinned (OpenSpec.ofChange filterLateWrong)

/-- 'outriggerlaw21.FilterGap': WHATEVER THE INPUT: true; the input reads as it did. -/
def filterGapSpec : ChangeSpec := { name := "filterGap", fn := fun _ => fun
  | [d1, d2, d3, d4] => { results := [.lit (.bool true)], args := [d1, d2, d3, d4] }
  | _ => none }
def filterGapRow : OpenClaim := { program := "ytmnglkcodbecbaagreat", sum := "63bfcfcb3ab34a5c76dee687ec8ab19e8f4000ae57844e4a26384ebee6d76934", func := "outrigger/outriggerlaw21.FilterGap", spec := "filterGap", unfollowed := true, recurses := true, named := ["math/bits.divideError", "math/bits.overflowError"], apart := false }
def FilterGapSaid : Prop := filterGapRow.holds Tryz.pinned (OpenSpec.ofChange filterGapSpec)

/-- ITS FALSE NEIGHBOUR: 'it returns false'. Refute it at one input. -/
def filterGapWrong : ChangeSpec := { name := "filterGap", fn := fun _ => fun
  | [d1, d2, d3, d4] => { results := [.lit (.bool false)], args := [d1, d2, d3, d4] }
  | _ => none }
def FilterGapWrongFalsely : Prop := filterGapRow.holds Tryz.pinned (OpenSpec.ofChange filterGapWrong)

/-- 'outriggerlaw21.FilterTwice': WHATEVER THE INPUT: true; the input reads as it did. -/
def filterTwiceSpec : ChangeSpec := { name := "filterTwice", fn := fun _ => fun
  | [d] => { results := [.lit (.bool true)], args := [d] }
  | _ => none }
def filterTwiceRow : OpenClaim := { program := "ytmnglkcodbecbaagreat", sum := "63bfcfcb3ab34a5c76dee687ec8ab19e8f4000ae57844e4a26384ebee6d76934", func := "outrigger/outriggerlaw21.FilterTwice", spec := "filterTwice", unfollowed := true, recurses := true, named := ["math/bits.divideError", "math/bits.overflowError"], apart := false }
def FilterTwiceSaid : Prop := filterTwiceRow.holds Tryz.pinned (OpenSpec.ofChange filterTwiceSpec)

/-- ITS FALSE NEIGHBOUR: 'it returns false'. Refute it at one input. -/
def filterTwiceWrong : ChangeSpec := { name := "filterTwice", fn := fun _ => fun
  | [d] => { results := [.lit (.bool false)], args := [d] }
  | _ => none }
def FilterTwiceWrongFalsely : Prop := filterTwiceRow.holds Tryz.pinned (OpenSpec.ofChange filterTwiceWrong)

/- THE SECOND FORM. 'bulk': how many values and letters a reading holds, each counted each time it is reached (what is shared counts as often as it is met; a slice's spare places count too). A statement '..UptoSaid' is the law's where the arguments, and the package variables that the reading takes, are together of bulk at most 1048576: NARROWER than '..Said'. Prove '..Said' where nothing that the law and all that it calls make is longer than what came in: it says more and counts as full. Else prove '..UptoSaid'. A law counts once. -/
mutual
def uptoBulk {H : Type} : DataW H → Nat
  | .lit (.string bytes) => bytes.length + 1
  | .lit _ => 1
  | .nil => 1
  | .ptr d => uptoBulk d + 1
  | .slice elems spare => uptoBulkAll elems + uptoBulkAll spare + 1
  | .agg parts => uptoBulkAll parts + 1
  | .iface _ d => uptoBulk d + 1
  | .map entries => uptoBulkEntries entries + 1
  | .held _ => 1
def uptoBulkAll {H : Type} : List (DataW H) → Nat
  | [] => 0
  | d :: r => uptoBulk d + uptoBulkAll r
def uptoBulkEntries {H : Type} : List (Lit × DataW H) → Nat
  | [] => 0
  | x :: r => uptoBulkEntry x + uptoBulkEntries r
def uptoBulkEntry {H : Type} : Lit × DataW H → Nat
  | (.string bytes, d) => bytes.length + uptoBulk d + 1
  | (_, d) => uptoBulk d + 1
 end
def uptoSmall : (H : Type) → List (DataW H) → Bool := fun _ ds => decide (uptoBulkAll ds ≤ 1048576)
def OpenSpec.upto (s : _root_.Go.ChangeSpec) : _root_.Go.OpenSpec := { _root_.Go.OpenSpec.ofChange s with cond := some uptoSmall }

/-- 'outriggerlaw20.TurnIs', WHERE WHAT IT READS IS OF BULK AT MOST 1048576: true; the input reads as it did. -/
def turnIsUptoRow : OpenClaim := { program := "ytmnglkcodbecbaagreat", sum := "63bfcfcb3ab34a5c76dee687ec8ab19e8f4000ae57844e4a26384ebee6d76934", func := "outrigger/outriggerlaw20.TurnIs", spec := "turnIs", unfollowed := true, recurses := true, named := ["math/bits.divideError", "math/bits.overflowError"], apart := false, narrowed := true }
def TurnIsUptoSaid : Prop := turnIsUptoRow.holds Tryz.pinned (OpenSpec.upto turnIsSpec)

/-- 'outriggerlaw21.FilterIs', WHERE WHAT IT READS IS OF BULK AT MOST 1048576: true; the input reads as it did. -/
def filterIsUptoRow : OpenClaim := { program := "ytmnglkcodbecbaagreat", sum := "63bfcfcb3ab34a5c76dee687ec8ab19e8f4000ae57844e4a26384ebee6d76934", func := "outrigger/outriggerlaw21.FilterIs", spec := "filterIs", unfollowed := true, recurses := true, named := ["math/bits.divideError", "math/bits.overflowError"], apart := false, narrowed := true }
def FilterIsUptoSaid : Prop := filterIsUptoRow.holds Tryz.pinned (OpenSpec.upto filterIsSpec)

/-- 'outriggerlaw21.FilterRuns', WHERE WHAT IT READS IS OF BULK AT MOST 1048576: true; the input reads as it did. -/
def filterRunsUptoRow : OpenClaim := { program := "ytmnglkcodbecbaagreat", sum := "63bfcfcb3ab34a5c76dee687ec8ab19e8f4000ae57844e4a26384ebee6d76934", func := "outrigger/outriggerlaw21.FilterRuns", spec := "filterRuns", unfollowed := true, recurses := true, named := ["math/bits.divideError", "math/bits.overflowError"], apart := false, narrowed := true }
def FilterRunsUptoSaid : Prop := filterRunsUptoRow.holds Tryz.pinned (OpenSpec.upto filterRunsSpec)

/-- 'outriggerlaw21.FilterKeeps', WHERE WHAT IT READS IS OF BULK AT MOST 1048576: true; the input reads as it did. -/
def filterKeepsUptoRow : OpenClaim := { program := "ytmnglkcodbecbaagreat", sum := "63bfcfcb3ab34a5c76dee687ec8ab19e8f4000ae57844e4a26384ebee6d76934", func := "outrigger/outriggerlaw21.FilterKeeps", spec := "filterKeeps", unfollowed := true, recurses := true, named := ["math/bits.divideError", "math/bits.overflowError"], apart := false, narrowed := true }
def FilterKeepsUptoSaid : Prop := filterKeepsUptoRow.holds Tryz.pinned (OpenSpec.upto filterKeepsSpec)

/-- 'outriggerlaw21.FilterRest', WHERE WHAT IT READS IS OF BULK AT MOST 1048576: true; the input reads as it did. -/
def filterRestUptoRow : OpenClaim := { program := "ytmnglkcodbecbaagreat", sum := "63bfcfcb3ab34a5c76dee687ec8ab19e8f4000ae57844e4a26384ebee6d76934", func := "outrigger/outriggerlaw21.FilterRest", spec := "filterRest", unfollowed := true, recurses := true, named := ["math/bits.divideError", "math/bits.overflowError"], apart := false, narrowed := true }
def FilterRestUptoSaid : Prop := filterRestUptoRow.holds Tryz.pinned (OpenSpec.upto filterRestSpec)

/-- 'outriggerlaw21.FilterFinds', WHERE WHAT IT READS IS OF BULK AT MOST 1048576: true; the input reads as it did. -/
def filterFindsUptoRow : OpenClaim := { program := "ytmnglkcodbecbaagreat", sum := "63bfcfcb3ab34a5c76dee687ec8ab19e8f4000ae57844e4a26384ebee6d76934", func := "outrigger/outriggerlaw21.FilterFinds", spec := "filterFinds", unfollowed := true, recurses := true, named := ["math/bits.divideError", "math/bits.overflowError"], apart := false, narrowed := true }
def FilterFindsUptoSaid : Prop := filterFindsUptoRow.holds Tryz.pinned (OpenSpec.upto filterFindsSpec)

/-- 'outriggerlaw21.FilterLate', WHERE WHAT IT READS IS OF BULK AT MOST 1048576: true; the input reads as it did. -/
def filterLateUptoRow : OpenClaim := { program := "ytmnglkcodbecbaagreat", sum := "63bfcfcb3ab34a5c76dee687ec8ab19e8f4000ae57844e4a26384ebee6d76934", func := "outrigger/outriggerlaw21.FilterLate", spec := "filterLate", unfollowed := true, recurses := true, named := ["math/bits.divideError", "math/bits.overflowError"], apart := false, narrowed := true }
def FilterLateUptoSaid : Prop := filterLateUptoRow.holds Tryz.pinned (OpenSpec.upto filterLateSpec)

/-- 'outriggerlaw21.FilterGap', WHERE WHAT IT READS IS OF BULK AT MOST 1048576: true; the input reads as it did. -/
def filterGapUptoRow : OpenClaim := { program := "ytmnglkcodbecbaagreat", sum := "63bfcfcb3ab34a5c76dee687ec8ab19e8f4000ae57844e4a26384ebee6d76934", func := "outrigger/outriggerlaw21.FilterGap", spec := "filterGap", unfollowed := true, recurses := true, named := ["math/bits.divideError", "math/bits.overflowError"], apart := false, narrowed := true }
def FilterGapUptoSaid : Prop := filterGapUptoRow.holds Tryz.pinned (OpenSpec.upto filterGapSpec)

/-- 'outriggerlaw21.FilterTwice', WHERE WHAT IT READS IS OF BULK AT MOST 1048576: true; the input reads as it did. -/
def filterTwiceUptoRow : OpenClaim := { program := "ytmnglkcodbecbaagreat", sum := "63bfcfcb3ab34a5c76dee687ec8ab19e8f4000ae57844e4a26384ebee6d76934", func := "outrigger/outriggerlaw21.FilterTwice", spec := "filterTwice", unfollowed := true, recurses := true, named := ["math/bits.divideError", "math/bits.overflowError"], apart := false, narrowed := true }
def FilterTwiceUptoSaid : Prop := filterTwiceUptoRow.holds Tryz.pinned (OpenSpec.upto filterTwiceSpec)

end Rows
end Go.Proofs.YtmnglkcodbecbaaGreat
