/-
  No cell of these rows narrows 'for every input' (looked for: loops, veiled, ifaces, maps, wideKeys, modest, calm, conditions, laid).
  DERIVED. THE GIVEN ROWS OF THIS SEAT. 9 by the template 'for every input the law returns true; each argument reads behind the call as it read before'; 0 by the template 'total and deterministic' (their statements: YtdchdajjhofmnaaGreatTotals.lean).
  GIVEN WITH THE SEED: the statements are not yours to turn. If you find one false, say at which input.
  Laid BY PROGRAM, IN A SANDBOX (cutbox-rows.mjs): the forced cells as the released guide's own fill.sh prints them over the translation 91cfb2a4f6de6e96… (all of the seat's roots in one cut). By AI agents, Wed Nov 11 2026. No macro, syntax, notation, axiom, sorry.
-/
import Derived.Test.YtdchdajjhofmnaaGreatChecked
import GoSem.Claim
import GoSem.ClaimJoined
import GoSem.ClaimMapViews
import Derived.JoinedTies
import Derived.KernelRfl
namespace Go.Proofs.YtdchdajjhofmnaaGreat
/- THE CELL 'sum', in the pinned program and in every row, IS THE sha256 OF THE DUMP (.gsa) THAT YtdchdajjhofmnaaGreatProg.lean LOADS. Nothing in Lean hashes anything: it is a label: what it is worth is what the hold of that sum in a sandbox is worth. -/
noncomputable def Tryz.pinned : Pinned := { name := "ytdchdajjhofmnaagreat", sum := "91cfb2a4f6de6e96c3987219e58a47a557145c567f9833b619289d3855d99fa6", checked := Tryz.checked }
namespace Rows
def none {H : Type} : Left H := { results := [], args := [] }

/-- 'outriggertop.TopRest': WHATEVER THE INPUT: true; the input reads as it did. -/
def topRestSpec : ChangeSpec := { name := "topRest", fn := fun _ => fun
  | [d1, d2] => { results := [.lit (.bool true)], args := [d1, d2] }
  | _ => none }
def topRestRow : OpenClaim := { program := "ytdchdajjhofmnaagreat", sum := "91cfb2a4f6de6e96c3987219e58a47a557145c567f9833b619289d3855d99fa6", func := "outrigger/outriggertop.TopRest", spec := "topRest", unfollowed := true, recurses := true, named := ["math/bits.divideError", "math/bits.overflowError"], apart := false }
def TopRestSaid : Prop := topRestRow.holds Tryz.pinned (OpenSpec.ofChange topRestSpec)

/-- ITS FALSE NEIGHBOUR: 'it returns false'. Refute it at one input. -/
def topRestWrong : ChangeSpec := { name := "topRest", fn := fun _ => fun
  | [d1, d2] => { results := [.lit (.bool false)], args := [d1, d2] }
  | _ => none }
def TopRestWrongFalsely : Prop := topRestRow.holds Tryz.pinned (OpenSpec.ofChange topRestWrong)

/-- 'outriggerlaw21.FilterRuns': WHATEVER THE INPUT: true; the input reads as it did. -/
def filterRunsSpec : ChangeSpec := { name := "filterRuns", fn := fun _ => fun
  | [d1, d2, d3] => { results := [.lit (.bool true)], args := [d1, d2, d3] }
  | _ => none }
def filterRunsRow : OpenClaim := { program := "ytdchdajjhofmnaagreat", sum := "91cfb2a4f6de6e96c3987219e58a47a557145c567f9833b619289d3855d99fa6", func := "outrigger/outriggerlaw21.FilterRuns", spec := "filterRuns", unfollowed := true, recurses := true, named := ["math/bits.divideError", "math/bits.overflowError"], apart := false }
def FilterRunsSaid : Prop := filterRunsRow.holds Tryz.pinned (OpenSpec.ofChange filterRunsSpec)

/-- ITS FALSE NEIGHBOUR: 'it returns false'. Refute it at one input. -/
def filterRunsWrong : ChangeSpec := { name := "filterRuns", fn := fun _ => fun
  | [d1, d2, d3] => { results := [.lit (.bool false)], args := [d1, d2, d3] }
  | _ => none }
def FilterRunsWrongFalsely : Prop := filterRunsRow.holds Tryz.pinned (OpenSpec.ofChange filterRunsWrong)

/-- 'outriggerlaw23.BoardIs': WHATEVER THE INPUT: true; the input reads as it did. -/
def boardIsSpec : ChangeSpec := { name := "boardIs", fn := fun _ => fun
  | [d1, d2, d3, d4, d5] => { results := [.lit (.bool true)], args := [d1, d2, d3, d4, d5] }
  | _ => none }
def boardIsRow : OpenClaim := { program := "ytdchdajjhofmnaagreat", sum := "91cfb2a4f6de6e96c3987219e58a47a557145c567f9833b619289d3855d99fa6", func := "outrigger/outriggerlaw23.BoardIs", spec := "boardIs", unfollowed := true, recurses := true, named := ["math/bits.divideError", "math/bits.overflowError"], apart := false }
def BoardIsSaid : Prop := boardIsRow.holds Tryz.pinned (OpenSpec.ofChange boardIsSpec)

/-- ITS FALSE NEIGHBOUR: 'it returns false'. Refute it at one input. -/
def boardIsWrong : ChangeSpec := { name := "boardIs", fn := fun _ => fun
  | [d1, d2, d3, d4, d5] => { results := [.lit (.bool false)], args := [d1, d2, d3, d4, d5] }
  | _ => none }
def BoardIsWrongFalsely : Prop := boardIsRow.holds Tryz.pinned (OpenSpec.ofChange boardIsWrong)

/-- 'outriggerlaw23.BoardPure': WHATEVER THE INPUT: true; the input reads as it did. -/
def boardPureSpec : ChangeSpec := { name := "boardPure", fn := fun _ => fun
  | [d1, d2] => { results := [.lit (.bool true)], args := [d1, d2] }
  | _ => none }
def boardPureRow : OpenClaim := { program := "ytdchdajjhofmnaagreat", sum := "91cfb2a4f6de6e96c3987219e58a47a557145c567f9833b619289d3855d99fa6", func := "outrigger/outriggerlaw23.BoardPure", spec := "boardPure", unfollowed := true, recurses := true, named := ["math/bits.divideError", "math/bits.overflowError"], apart := false }
def BoardPureSaid : Prop := boardPureRow.holds Tryz.pinned (OpenSpec.ofChange boardPureSpec)

/-- ITS FALSE NEIGHBOUR: 'it returns false'. Refute it at one input. -/
def boardPureWrong : ChangeSpec := { name := "boardPure", fn := fun _ => fun
  | [d1, d2] => { results := [.lit (.bool false)], args := [d1, d2] }
  | _ => none }
def BoardPureWrongFalsely : Prop := boardPureRow.holds Tryz.pinned (OpenSpec.ofChange boardPureWrong)

/-- 'outriggerlaw23.BoardCounts': WHATEVER THE INPUT: true; the input reads as it did. -/
def boardCountsSpec : ChangeSpec := { name := "boardCounts", fn := fun _ => fun
  | [d1, d2] => { results := [.lit (.bool true)], args := [d1, d2] }
  | _ => none }
def boardCountsRow : OpenClaim := { program := "ytdchdajjhofmnaagreat", sum := "91cfb2a4f6de6e96c3987219e58a47a557145c567f9833b619289d3855d99fa6", func := "outrigger/outriggerlaw23.BoardCounts", spec := "boardCounts", unfollowed := true, recurses := true, named := ["math/bits.divideError", "math/bits.overflowError"], apart := false }
def BoardCountsSaid : Prop := boardCountsRow.holds Tryz.pinned (OpenSpec.ofChange boardCountsSpec)

/-- ITS FALSE NEIGHBOUR: 'it returns false'. Refute it at one input. -/
def boardCountsWrong : ChangeSpec := { name := "boardCounts", fn := fun _ => fun
  | [d1, d2] => { results := [.lit (.bool false)], args := [d1, d2] }
  | _ => none }
def BoardCountsWrongFalsely : Prop := boardCountsRow.holds Tryz.pinned (OpenSpec.ofChange boardCountsWrong)

/-- 'outriggerlaw23.BoardRuns': WHATEVER THE INPUT: true; the input reads as it did. -/
def boardRunsSpec : ChangeSpec := { name := "boardRuns", fn := fun _ => fun
  | [d1, d2, d3] => { results := [.lit (.bool true)], args := [d1, d2, d3] }
  | _ => none }
def boardRunsRow : OpenClaim := { program := "ytdchdajjhofmnaagreat", sum := "91cfb2a4f6de6e96c3987219e58a47a557145c567f9833b619289d3855d99fa6", func := "outrigger/outriggerlaw23.BoardRuns", spec := "boardRuns", unfollowed := true, recurses := true, named := ["math/bits.divideError", "math/bits.overflowError"], apart := false }
def BoardRunsSaid : Prop := boardRunsRow.holds Tryz.pinned (OpenSpec.ofChange boardRunsSpec)

/-- ITS FALSE NEIGHBOUR: 'it returns false'. Refute it at one input. -/
def boardRunsWrong : ChangeSpec := { name := "boardRuns", fn := fun _ => fun
  | [d1, d2, d3] => { results := [.lit (.bool false)], args := [d1, d2, d3] }
  | _ => none }
def BoardRunsWrongFalsely : Prop := boardRunsRow.holds Tryz.pinned (OpenSpec.ofChange boardRunsWrong)

/-- 'outriggerlaw23.BoardOrder': WHATEVER THE INPUT: true; the input reads as it did. -/
def boardOrderSpec : ChangeSpec := { name := "boardOrder", fn := fun _ => fun
  | [d1, d2, d3, d4, d5] => { results := [.lit (.bool true)], args := [d1, d2, d3, d4, d5] }
  | _ => none }
def boardOrderRow : OpenClaim := { program := "ytdchdajjhofmnaagreat", sum := "91cfb2a4f6de6e96c3987219e58a47a557145c567f9833b619289d3855d99fa6", func := "outrigger/outriggerlaw23.BoardOrder", spec := "boardOrder", unfollowed := true, recurses := true, named := ["math/bits.divideError", "math/bits.overflowError"], apart := false }
def BoardOrderSaid : Prop := boardOrderRow.holds Tryz.pinned (OpenSpec.ofChange boardOrderSpec)

/-- ITS FALSE NEIGHBOUR: 'it returns false'. Refute it at one input. -/
def boardOrderWrong : ChangeSpec := { name := "boardOrder", fn := fun _ => fun
  | [d1, d2, d3, d4, d5] => { results := [.lit (.bool false)], args := [d1, d2, d3, d4, d5] }
  | _ => none }
def BoardOrderWrongFalsely : Prop := boardOrderRow.holds Tryz.pinned (OpenSpec.ofChange boardOrderWrong)

/-- 'outriggerlaw23.BoardAgain': WHATEVER THE INPUT: true; the input reads as it did. -/
def boardAgainSpec : ChangeSpec := { name := "boardAgain", fn := fun _ => fun
  | [d1, d2, d3] => { results := [.lit (.bool true)], args := [d1, d2, d3] }
  | _ => none }
def boardAgainRow : OpenClaim := { program := "ytdchdajjhofmnaagreat", sum := "91cfb2a4f6de6e96c3987219e58a47a557145c567f9833b619289d3855d99fa6", func := "outrigger/outriggerlaw23.BoardAgain", spec := "boardAgain", unfollowed := true, recurses := true, named := ["math/bits.divideError", "math/bits.overflowError"], apart := false }
def BoardAgainSaid : Prop := boardAgainRow.holds Tryz.pinned (OpenSpec.ofChange boardAgainSpec)

/-- ITS FALSE NEIGHBOUR: 'it returns false'. Refute it at one input. -/
def boardAgainWrong : ChangeSpec := { name := "boardAgain", fn := fun _ => fun
  | [d1, d2, d3] => { results := [.lit (.bool false)], args := [d1, d2, d3] }
  | _ => none }
def BoardAgainWrongFalsely : Prop := boardAgainRow.holds Tryz.pinned (OpenSpec.ofChange boardAgainWrong)

/-- 'outriggerlaw23.BoardSnap': WHATEVER THE INPUT: true; the input reads as it did. -/
def boardSnapSpec : ChangeSpec := { name := "boardSnap", fn := fun _ => fun
  | [d1, d2, d3] => { results := [.lit (.bool true)], args := [d1, d2, d3] }
  | _ => none }
def boardSnapRow : OpenClaim := { program := "ytdchdajjhofmnaagreat", sum := "91cfb2a4f6de6e96c3987219e58a47a557145c567f9833b619289d3855d99fa6", func := "outrigger/outriggerlaw23.BoardSnap", spec := "boardSnap", unfollowed := true, recurses := true, named := ["math/bits.divideError", "math/bits.overflowError"], apart := false }
def BoardSnapSaid : Prop := boardSnapRow.holds Tryz.pinned (OpenSpec.ofChange boardSnapSpec)

/-- ITS FALSE NEIGHBOUR: 'it returns false'. Refute it at one input. -/
def boardSnapWrong : ChangeSpec := { name := "boardSnap", fn := fun _ => fun
  | [d1, d2, d3] => { results := [.lit (.bool false)], args := [d1, d2, d3] }
  | _ => none }
def BoardSnapWrongFalsely : Prop := boardSnapRow.holds Tryz.pinned (OpenSpec.ofChange boardSnapWrong)

/- THE SECOND FORM. 'bulk': how many values and letters a reading holds, each counted each time it is reached (what is shared counts as often as it is met; a slice's spare places count too). A statement '..UptoSaid' is the law's where the arguments, and the package variables that the reading takes, are together of bulk at most 1048576: NARROWER than '..Said'. Prove '..Said' where nothing that the law and all that it calls make is longer than what came in: it says more and counts as full. Else prove '..UptoSaid'. A law counts once. -/
mutual
def uptoBulk {H : Type} : DataW H → Nat
  | .lit (.string bytes) => bytes.length + 1
  | .lit _ => 1
  | .nil => 1
  | .ptr d => uptoBulk d + 1
  | .slice elems spare => uptoBulkAll elems + uptoBulkAll spare + 1
  | .agg parts => uptoBulkAll parts + 1
  | .iface _ d => uptoBulk d + 1
  | .map entries => uptoBulkEntries entries + 1
  | .held _ => 1
def uptoBulkAll {H : Type} : List (DataW H) → Nat
  | [] => 0
  | d :: r => uptoBulk d + uptoBulkAll r
def uptoBulkEntries {H : Type} : List (Lit × DataW H) → Nat
  | [] => 0
  | x :: r => uptoBulkEntry x + uptoBulkEntries r
def uptoBulkEntry {H : Type} : Lit × DataW H → Nat
  | (.string bytes, d) => bytes.length + uptoBulk d + 1
  | (_, d) => uptoBulk d + 1
 end
def uptoSmall : (H : Type) → List (DataW H) → Bool := fun _ ds => decide (uptoBulkAll ds ≤ 1048576)
def OpenSpec.upto (s : _root_.Go.ChangeSpec) : _root_.Go.OpenSpec := { _root_.Go.OpenSpec.ofChange s with cond := some uptoSmall }

/-- 'outriggertop.TopRest', WHERE WHAT IT READS IS OF BULK AT MOST 1048576: true; the input reads as it did. -/
def topRestUptoRow : OpenClaim := { program := "ytdchdajjhofmnaagreat", sum := "91cfb2a4f6de6e96c3987219e58a47a557145c567f9833b619289d3855d99fa6", func := "outrigger/outriggertop.TopRest", spec := "topRest", unfollowed := true, recurses := true, named := ["math/bits.divideError", "math/bits.overflowError"], apart := false, narrowed := true }
def TopRestUptoSaid : Prop := topRestUptoRow.holds Tryz.pinned (OpenSpec.upto topRestSpec)

/-- 'outriggerlaw21.FilterRuns', WHERE WHAT IT READS IS OF BULK AT MOST 1048576: true; the input reads as it did. -/
def filterRunsUptoRow : OpenClaim := { program := "ytdchdajjhofmnaagreat", sum := "91cfb2a4f6de6e96c3987219e58a47a557145c567f9833b619289d3855d99fa6", func := "outrigger/outriggerlaw21.FilterRuns", spec := "filterRuns", unfollowed := true, recurses := true, named := ["math/bits.divideError", "math/bits.overflowError"], apart := false, narrowed := true }
def FilterRunsUptoSaid : Prop := filterRunsUptoRow.holds Tryz.pinned (OpenSpec.upto filterRunsSpec)

/-- 'outriggerlaw23.BoardIs', WHERE WHAT IT READS IS OF BULK AT MOST 1048576: true; the input reads as it did. -/
def boardIsUptoRow : OpenClaim := { program := "ytdchdajjhofmnaagreat", sum := "91cfb2a4f6de6e96c3987219e58a47a557145c567f9833b619289d3855d99fa6", func := "outrigger/outriggerlaw23.BoardIs", spec := "boardIs", unfollowed := true, recurses := true, named := ["math/bits.divideError", "math/bits.overflowError"], apart := false, narrowed := true }
def BoardIsUptoSaid : Prop := boardIsUptoRow.holds Tryz.pinned (OpenSpec.upto boardIsSpec)

/-- 'outriggerlaw23.BoardPure', WHERE WHAT IT READS IS OF BULK AT MOST 1048576: true; the input reads as it did. -/
def boardPureUptoRow : OpenClaim := { program := "ytdchdajjhofmnaagreat", sum := "91cfb2a4f6de6e96c3987219e58a47a557145c567f9833b619289d3855d99fa6", func := "outrigger/outriggerlaw23.BoardPure", spec := "boardPure", unfollowed := true, recurses := true, named := ["math/bits.divideError", "math/bits.overflowError"], apart := false, narrowed := true }
def BoardPureUptoSaid : Prop := boardPureUptoRow.holds Tryz.pinned (OpenSpec.upto boardPureSpec)

/-- 'outriggerlaw23.BoardCounts', WHERE WHAT IT READS IS OF BULK AT MOST 1048576: true; the input reads as it did. -/
def boardCountsUptoRow : OpenClaim := { program := "ytdchdajjhofmnaagreat", sum := "91cfb2a4f6de6e96c3987219e58a47a557145c567f9833b619289d3855d99fa6", func := "outrigger/outriggerlaw23.BoardCounts", spec := "boardCounts", unfollowed := true, recurses := true, named := ["math/bits.divideError", "math/bits.overflowError"], apart := false, narrowed := true }
def BoardCountsUptoSaid : Prop := boardCountsUptoRow.holds Tryz.pinned (OpenSpec.upto boardCountsSpec)

/-- 'outriggerlaw23.BoardRuns', WHERE WHAT IT READS IS OF BULK AT MOST 1048576: true; the input reads as it did. -/
def boardRunsUptoRow : OpenClaim := { program := "ytdchdajjhofmnaagreat", sum := "91cfb2a4f6de6e96c3987219e58a47a557145c567f9833b619289d3855d99fa6", func := "outrigger/outriggerlaw23.BoardRuns", spec := "boardRuns", unfollowed := true, recurses := true, named := ["math/bits.divideError", "math/bits.overflowError"], apart := false, narrowed := true }
def BoardRunsUptoSaid : Prop := boardRunsUptoRow.holds Tryz.pinned (OpenSpec.upto boardRunsSpec)

/-- 'outriggerlaw23.BoardOrder', WHERE WHAT IT READS IS OF BULK AT MOST 1048576: true; the input reads as it did. -/
def boardOrderUptoRow : OpenClaim := { program := "ytdchdajjhofmnaagreat", sum := "91cfb2a4f6de6e96c3987219e58a47a557145c567f9833b619289d3855d99fa6", func := "outrigger/outriggerlaw23.BoardOrder", spec := "boardOrder", unfollowed := true, recurses := true, named := ["math/bits.divideError", "math/bits.overflowError"], apart := false, narrowed := true }
def BoardOrderUptoSaid : Prop := boardOrderUptoRow.holds Tryz.pinned (OpenSpec.upto boardOrderSpec)

/-- 'outriggerlaw23.BoardAgain', WHERE WHAT IT READS IS OF BULK AT MOST 1048576: true; the input reads as it did. -/
def boardAgainUptoRow : OpenClaim := { program := "ytdchdajjhofmnaagreat", sum := "91cfb2a4f6de6e96c3987219e58a47a557145c567f9833b619289d3855d99fa6", func := "outrigger/outriggerlaw23.BoardAgain", spec := "boardAgain", unfollowed := true, recurses := true, named := ["math/bits.divideError", "math/bits.overflowError"], apart := false, narrowed := true }
def BoardAgainUptoSaid : Prop := boardAgainUptoRow.holds Tryz.pinned (OpenSpec.upto boardAgainSpec)

/-- 'outriggerlaw23.BoardSnap', WHERE WHAT IT READS IS OF BULK AT MOST 1048576: true; the input reads as it did. -/
def boardSnapUptoRow : OpenClaim := { program := "ytdchdajjhofmnaagreat", sum := "91cfb2a4f6de6e96c3987219e58a47a557145c567f9833b619289d3855d99fa6", func := "outrigger/outriggerlaw23.BoardSnap", spec := "boardSnap", unfollowed := true, recurses := true, named := ["math/bits.divideError", "math/bits.overflowError"], apart := false, narrowed := true }
def BoardSnapUptoSaid : Prop := boardSnapUptoRow.holds Tryz.pinned (OpenSpec.upto boardSnapSpec)

end Rows
end Go.Proofs.YtdchdajjhofmnaaGreat
