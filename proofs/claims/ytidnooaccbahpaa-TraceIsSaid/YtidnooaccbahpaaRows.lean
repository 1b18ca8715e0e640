/-
  No cell of these rows narrows 'for every input' (looked for: loops, veiled, ifaces, maps, wideKeys, modest, calm, conditions, laid).
  DERIVED. THE GIVEN ROWS OF THIS SEAT. 5 by the template 'for every input the law returns true; each argument reads behind the call as it read before'; 0 by the template 'total and deterministic' (their statements: YtidnooaccbahpaaTotals.lean).
  GIVEN WITH THE SEED: the statements are not yours to turn. If you find one false, say at which input.
  Laid BY PROGRAM, IN A SANDBOX (cutbox-rows.mjs): the forced cells as the released guide's own fill.sh prints them over the translation 4ae8135d4ee089a4… (all of the seat's roots in one cut). By AI agents, Wed Nov 11 2026. No macro, syntax, notation, axiom, sorry.
-/
import Derived.Test.YtidnooaccbahpaaChecked
import GoSem.Claim
import GoSem.ClaimJoined
import GoSem.ClaimMapViews
import Derived.JoinedTies
import Derived.KernelRfl
namespace Go.Proofs.Ytidnooaccbahpaa
/- THE CELL 'sum', in the pinned program and in every row, IS THE sha256 OF THE DUMP (.gsa) THAT YtidnooaccbahpaaProg.lean LOADS. Nothing in Lean hashes anything: it is a label: what it is worth is what the hold of that sum in a sandbox is worth. -/
noncomputable def Try.pinned : Pinned := { name := "ytidnooaccbahpaa", sum := "4ae8135d4ee089a40e854f87162efbbf3d8039f33e8abe68eeeb44058e4c8f40", checked := Try.checked }
namespace Rows
def none {H : Type} : Left H := { results := [], args := [] }

/-- 'outriggerlaw16.TraceIs': WHATEVER THE INPUT: true; the input reads as it did. -/
def traceIsSpec : ChangeSpec := { name := "traceIs", fn := fun _ => fun
  | [d1, d2] => { results := [.lit (.bool true)], args := [d1, d2] }
  | _ => none }
def traceIsRow : OpenClaim := { program := "ytidnooaccbahpaa", sum := "4ae8135d4ee089a40e854f87162efbbf3d8039f33e8abe68eeeb44058e4c8f40", func := "outrigger/outriggerlaw16.TraceIs", spec := "traceIs", unfollowed := true, recurses := true, apart := false }
def TraceIsSaid : Prop := traceIsRow.holds Try.pinned (OpenSpec.ofChange traceIsSpec)

/-- ITS FALSE NEIGHBOUR: 'it returns false'. Refute it at one input. -/
def traceIsWrong : ChangeSpec := { name := "traceIs", fn := fun _ => fun
  | [d1, d2] => { results := [.lit (.bool false)], args := [d1, d2] }
  | _ => none }
def TraceIsWrongFalsely : Prop := traceIsRow.holds Try.pinned (OpenSpec.ofChange traceIsWrong)

/-- 'outriggerlaw16.TraceOrder': WHATEVER THE INPUT: true; the input reads as it did. -/
def traceOrderSpec : ChangeSpec := { name := "traceOrder", fn := fun _ => fun
  | [d1, d2] => { results := [.lit (.bool true)], args := [d1, d2] }
  | _ => none }
def traceOrderRow : OpenClaim := { program := "ytidnooaccbahpaa", sum := "4ae8135d4ee089a40e854f87162efbbf3d8039f33e8abe68eeeb44058e4c8f40", func := "outrigger/outriggerlaw16.TraceOrder", spec := "traceOrder", unfollowed := true, recurses := true, apart := false }
def TraceOrderSaid : Prop := traceOrderRow.holds Try.pinned (OpenSpec.ofChange traceOrderSpec)

/-- ITS FALSE NEIGHBOUR: 'it returns false'. Refute it at one input. -/
def traceOrderWrong : ChangeSpec := { name := "traceOrder", fn := fun _ => fun
  | [d1, d2] => { results := [.lit (.bool false)], args := [d1, d2] }
  | _ => none }
def TraceOrderWrongFalsely : Prop := traceOrderRow.holds Try.pinned (OpenSpec.ofChange traceOrderWrong)

/-- 'outriggerlaw16.TraceRow': WHATEVER THE INPUT: true; the input reads as it did. -/
def traceRowSpec : ChangeSpec := { name := "traceRow", fn := fun _ => fun
  | [d1, d2] => { results := [.lit (.bool true)], args := [d1, d2] }
  | _ => none }
def traceRowRow : OpenClaim := { program := "ytidnooaccbahpaa", sum := "4ae8135d4ee089a40e854f87162efbbf3d8039f33e8abe68eeeb44058e4c8f40", func := "outrigger/outriggerlaw16.TraceRow", spec := "traceRow", unfollowed := true, recurses := true, apart := false }
def TraceRowSaid : Prop := traceRowRow.holds Try.pinned (OpenSpec.ofChange traceRowSpec)

/-- ITS FALSE NEIGHBOUR: 'it returns false'. Refute it at one input. -/
def traceRowWrong : ChangeSpec := { name := "traceRow", fn := fun _ => fun
  | [d1, d2] => { results := [.lit (.bool false)], args := [d1, d2] }
  | _ => none }
def TraceRowWrongFalsely : Prop := traceRowRow.holds Try.pinned (OpenSpec.ofChange traceRowWrong)

/-- 'outriggerlaw16.TraceWide': WHATEVER THE INPUT: true; the input reads as it did. -/
def traceWideSpec : ChangeSpec := { name := "traceWide", fn := fun _ => fun
  | [d1, d2, d3, d4] => { results := [.lit (.bool true)], args := [d1, d2, d3, d4] }
  | _ => none }
def traceWideRow : OpenClaim := { program := "ytidnooaccbahpaa", sum := "4ae8135d4ee089a40e854f87162efbbf3d8039f33e8abe68eeeb44058e4c8f40", func := "outrigger/outriggerlaw16.TraceWide", spec := "traceWide", unfollowed := true, recurses := true, apart := false }
def TraceWideSaid : Prop := traceWideRow.holds Try.pinned (OpenSpec.ofChange traceWideSpec)

/-- ITS FALSE NEIGHBOUR: 'it returns false'. Refute it at one input. -/
def traceWideWrong : ChangeSpec := { name := "traceWide", fn := fun _ => fun
  | [d1, d2, d3, d4] => { results := [.lit (.bool false)], args := [d1, d2, d3, d4] }
  | _ => none }
def TraceWideWrongFalsely : Prop := traceWideRow.holds Try.pinned (OpenSpec.ofChange traceWideWrong)

/-- 'outriggerlaw16.TraceMore': WHATEVER THE INPUT: true; the input reads as it did. -/
def traceMoreSpec : ChangeSpec := { name := "traceMore", fn := fun _ => fun
  | [d1, d2] => { results := [.lit (.bool true)], args := [d1, d2] }
  | _ => none }
def traceMoreRow : OpenClaim := { program := "ytidnooaccbahpaa", sum := "4ae8135d4ee089a40e854f87162efbbf3d8039f33e8abe68eeeb44058e4c8f40", func := "outrigger/outriggerlaw16.TraceMore", spec := "traceMore", unfollowed := true, recurses := true, apart := false }
def TraceMoreSaid : Prop := traceMoreRow.holds Try.pinned (OpenSpec.ofChange traceMoreSpec)

/-- ITS FALSE NEIGHBOUR: 'it returns false'. Refute it at one input. -/
def traceMoreWrong : ChangeSpec := { name := "traceMore", fn := fun _ => fun
  | [d1, d2] => { results := [.lit (.bool false)], args := [d1, d2] }
  | _ => none }
def TraceMoreWrongFalsely : Prop := traceMoreRow.holds Try.pinned (OpenSpec.ofChange traceMoreWrong)

/- THE SECOND FORM. 'bulk': how many values and letters a reading holds, each counted each time it is reached (what is shared counts as often as it is met; a slice's spare places count too). A statement '..UptoSaid' is the law's where the arguments, and the package variables that the reading takes, are together of bulk at most 1048576: NARROWER than '..Said'. Prove '..Said' where nothing that the law and all that it calls make is longer than what came in: it says more and counts as full. Else prove '..UptoSaid'. A law counts once. -/
mutual
def uptoBulk {H : Type} : DataW H → Nat
  | .lit (.string bytes) => bytes.length + 1
  | .lit _ => 1
  | .nil => 1
  | .ptr d => uptoBulk d + 1
  | .slice elems spare => uptoBulkAll elems + uptoBulkAll spare + 1
  | .agg parts => uptoBulkAll parts + 1
  | .iface _ d => uptoBulk d + 1
  | .map entries => uptoBulkEntries entries + 1
  | .held _ => 1
def uptoBulkAll {H : Type} : List (DataW H) → Nat
  | [] => 0
  | d :: r => uptoBulk d + uptoBulkAll r
def uptoBulkEntries {H : Type} : List (Lit × DataW H) → Nat
  | [] => 0
  | x :: r => uptoBulkEntry x + uptoBulkEntries r
def uptoBulkEntry {H : Type} : Lit × DataW H → Nat
  | (.string bytes, d) => bytes.length + uptoBulk d + 1
  | (_, d) => uptoBulk d + 1
 end
def uptoSmall : (H : Type) → List (DataW H) → Bool := fun _ ds => decide (uptoBulkAll ds ≤ 1048576)
def OpenSpec.upto (s : _root_.Go.ChangeSpec) : _root_.Go.OpenSpec := { _root_.Go.OpenSpec.ofChange s with cond := some uptoSmall }

/-- 'outriggerlaw16.TraceIs', WHERE WHAT IT READS IS OF BULK AT MOST 1048576: true; the input reads as it did. -/
def traceIsUptoRow : OpenClaim := { program := "ytidnooaccbahpaa", sum := "4ae8135d4ee089a40e854f87162efbbf3d8039f33e8abe68eeeb44058e4c8f40", func := "outrigger/outriggerlaw16.TraceIs", spec := "traceIs", unfollowed := true, recurses := true, apart := false, narrowed := true }
def TraceIsUptoSaid : Prop := traceIsUptoRow.holds Try.pinned (OpenSpec.upto traceIsSpec)

/-- 'outriggerlaw16.TraceOrder', WHERE WHAT IT READS IS OF BULK AT MOST 1048576: true; the input reads as it did. -/
def traceOrderUptoRow : OpenClaim := { program := "ytidnooaccbahpaa", sum := "4ae8135d4ee089a40e854f87162efbbf3d8039f33e8abe68eeeb44058e4c8f40", func := "outrigger/outriggerlaw16.TraceOrder", spec := "traceOrder", unfollowed := true, recurses := true, apart := false, narrowed := true }
def TraceOrderUptoSaid : Prop := traceOrderUptoRow.holds Try.pinned (OpenSpec.upto traceOrderSpec)

/-- 'outriggerlaw16.TraceRow', WHERE WHAT IT READS IS OF BULK AT MOST 1048576: true; the input reads as it did. -/
def traceRowUptoRow : OpenClaim := { program := "ytidnooaccbahpaa", sum := "4ae8135d4ee089a40e854f87162efbbf3d8039f33e8abe68eeeb44058e4c8f40", func := "outrigger/outriggerlaw16.TraceRow", spec := "traceRow", unfollowed := true, recurses := true, apart := false, narrowed := true }
def TraceRowUptoSaid : Prop := traceRowUptoRow.holds Try.pinned (OpenSpec.upto traceRowSpec)

/-- 'outriggerlaw16.TraceWide', WHERE WHAT IT READS IS OF BULK AT MOST 1048576: true; the input reads as it did. -/
def traceWideUptoRow : OpenClaim := { program := "ytidnooaccbahpaa", sum := "4ae8135d4ee089a40e854f87162efbbf3d8039f33e8abe68eeeb44058e4c8f40", func := "outrigger/outriggerlaw16.TraceWide", spec := "traceWide", unfollowed := true, recurses := true, apart := false, narrowed := true }
def TraceWideUptoSaid : Prop := traceWideUptoRow.holds Try.pinned (OpenSpec.upto traceWideSpec)

/-- 'outriggerlaw16.TraceMore', WHERE WHAT IT READS IS OF BULK AT MOST 1048576: true; the input reads as it did. -/
def traceMoreUptoRow : OpenClaim := { program := "ytidnooaccbahpaa", sum := "4ae8135d4ee089a40e854f87162efbbf3d8039f33e8abe68eeeb44058e4c8f40", func := "outrigger/outriggerlaw16.TraceMore", spec := "traceMore", unfollowed := true, recurses := true, apart := false, narrowed := true }
def TraceMoreUptoSaid : Prop := traceMoreUptoRow.holds Try.pinned (OpenSpec.upto traceMoreSpec)

end Rows
end Go.Proofs.Ytidnooaccbahpaa
