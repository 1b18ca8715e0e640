/-
  No cell of these rows narrows 'for every input' (looked for: loops, veiled, ifaces, maps, wideKeys, modest, calm, conditions, laid).
  DERIVED. THE GIVEN ROWS OF THIS SEAT. 11 by the template 'for every input the law returns true; each argument reads behind the call as it read before'; 0 by the template 'total and deterministic' (their statements: YtoagcpfklkmolaaTotals.lean).
  GIVEN WITH THE SEED: the statements are not yours to turn. If you find one false, say at which input.
  Laid BY PROGRAM, IN A SANDBOX (cutbox-rows.mjs): the forced cells as the released guide's own fill.sh prints them over the translation 8faead9076f343c5… (all of the seat's roots in one cut). By AI agents, Wed Nov 11 2026. No macro, syntax, notation, axiom, sorry.
-/
import Derived.Test.YtoagcpfklkmolaaChecked
import GoSem.Claim
import GoSem.ClaimJoined
import GoSem.ClaimMapViews
import Derived.JoinedTies
import Derived.KernelRfl
namespace Go.Proofs.Ytoagcpfklkmolaa
/- THE CELL 'sum', in the pinned program and in every row, IS THE sha256 OF THE DUMP (.gsa) THAT YtoagcpfklkmolaaProg.lean LOADS. Nothing in Lean hashes anything: it is a label: what it is worth is what the hold of that sum in a sandbox is worth. -/
noncomputable def Try.pinned : Pinned := { name := "ytoagcpfklkmolaa", sum := "8faead9076f343c591858338975a6bc3be72bc42327d0eb6c25555e0d572c2d6", checked := Try.checked }
namespace Rows
def none {H : Type} : Left H := { results := [], args := [] }

/-- 'outriggerlaw09.QuatIs': WHATEVER THE INPUT: true; the input reads as it did. -/
def quatIsSpec : ChangeSpec := { name := "quatIs", fn := fun _ => fun
  | [d1, d2, d3] => { results := [.lit (.bool true)], args := [d1, d2, d3] }
  | _ => none }
def quatIsRow : OpenClaim := { program := "ytoagcpfklkmolaa", sum := "8faead9076f343c591858338975a6bc3be72bc42327d0eb6c25555e0d572c2d6", func := "outrigger/outriggerlaw09.QuatIs", spec := "quatIs", unfollowed := true, recurses := true, named := ["math/bits.divideError", "math/bits.overflowError"], apart := false }
def QuatIsSaid : Prop := quatIsRow.holds Try.pinned (OpenSpec.ofChange quatIsSpec)

/-- ITS FALSE NEIGHBOUR: 'it returns false'. Refute it at one input. -/
def quatIsWrong : ChangeSpec := { name := "quatIs", fn := fun _ => fun
  | [d1, d2, d3] => { results := [.lit (.bool false)], args := [d1, d2, d3] }
  | _ => none }
def QuatIsWrongFalsely : Prop := quatIsRow.holds Try.pinned (OpenSpec.ofChange quatIsWrong)

/-- 'outriggerlaw09.QuatOne': WHATEVER THE INPUT: true; the input reads as it did. -/
def quatOneSpec : ChangeSpec := { name := "quatOne", fn := fun _ => fun
  | [d1, d2] => { results := [.lit (.bool true)], args := [d1, d2] }
  | _ => none }
def quatOneRow : OpenClaim := { program := "ytoagcpfklkmolaa", sum := "8faead9076f343c591858338975a6bc3be72bc42327d0eb6c25555e0d572c2d6", func := "outrigger/outriggerlaw09.QuatOne", spec := "quatOne", unfollowed := true, recurses := true, named := ["math/bits.divideError", "math/bits.overflowError"], apart := false }
def QuatOneSaid : Prop := quatOneRow.holds Try.pinned (OpenSpec.ofChange quatOneSpec)

/-- ITS FALSE NEIGHBOUR: 'it returns false'. Refute it at one input. -/
def quatOneWrong : ChangeSpec := { name := "quatOne", fn := fun _ => fun
  | [d1, d2] => { results := [.lit (.bool false)], args := [d1, d2] }
  | _ => none }
def QuatOneWrongFalsely : Prop := quatOneRow.holds Try.pinned (OpenSpec.ofChange quatOneWrong)

/-- 'outriggerlaw09.QuatUnit': WHATEVER THE INPUT: true; the input reads as it did. -/
def quatUnitSpec : ChangeSpec := { name := "quatUnit", fn := fun _ => fun
  | [d] => { results := [.lit (.bool true)], args := [d] }
  | _ => none }
def quatUnitRow : OpenClaim := { program := "ytoagcpfklkmolaa", sum := "8faead9076f343c591858338975a6bc3be72bc42327d0eb6c25555e0d572c2d6", func := "outrigger/outriggerlaw09.QuatUnit", spec := "quatUnit", unfollowed := true, recurses := true, named := ["math/bits.divideError", "math/bits.overflowError"], apart := false }
def QuatUnitSaid : Prop := quatUnitRow.holds Try.pinned (OpenSpec.ofChange quatUnitSpec)

/-- ITS FALSE NEIGHBOUR: 'it returns false'. Refute it at one input. -/
def quatUnitWrong : ChangeSpec := { name := "quatUnit", fn := fun _ => fun
  | [d] => { results := [.lit (.bool false)], args := [d] }
  | _ => none }
def QuatUnitWrongFalsely : Prop := quatUnitRow.holds Try.pinned (OpenSpec.ofChange quatUnitWrong)

/-- 'outriggerlaw09.QuatBack': WHATEVER THE INPUT: true; the input reads as it did. -/
def quatBackSpec : ChangeSpec := { name := "quatBack", fn := fun _ => fun
  | [d1, d2] => { results := [.lit (.bool true)], args := [d1, d2] }
  | _ => none }
def quatBackRow : OpenClaim := { program := "ytoagcpfklkmolaa", sum := "8faead9076f343c591858338975a6bc3be72bc42327d0eb6c25555e0d572c2d6", func := "outrigger/outriggerlaw09.QuatBack", spec := "quatBack", unfollowed := true, recurses := true, named := ["math/bits.divideError", "math/bits.overflowError"], apart := false }
def QuatBackSaid : Prop := quatBackRow.holds Try.pinned (OpenSpec.ofChange quatBackSpec)

/-- ITS FALSE NEIGHBOUR: 'it returns false'. Refute it at one input. -/
def quatBackWrong : ChangeSpec := { name := "quatBack", fn := fun _ => fun
  | [d1, d2] => { results := [.lit (.bool false)], args := [d1, d2] }
  | _ => none }
def QuatBackWrongFalsely : Prop := quatBackRow.holds Try.pinned (OpenSpec.ofChange quatBackWrong)

/-- 'outriggerlaw09.QuatSmall': WHATEVER THE INPUT: true; the input reads as it did. -/
def quatSmallSpec : ChangeSpec := { name := "quatSmall", fn := fun _ => fun
  | [d] => { results := [.lit (.bool true)], args := [d] }
  | _ => none }
def quatSmallRow : OpenClaim := { program := "ytoagcpfklkmolaa", sum := "8faead9076f343c591858338975a6bc3be72bc42327d0eb6c25555e0d572c2d6", func := "outrigger/outriggerlaw09.QuatSmall", spec := "quatSmall", unfollowed := true, recurses := true, named := ["math/bits.divideError", "math/bits.overflowError"], apart := false }
def QuatSmallSaid : Prop := quatSmallRow.holds Try.pinned (OpenSpec.ofChange quatSmallSpec)

/-- ITS FALSE NEIGHBOUR: 'it returns false'. Refute it at one input. -/
def quatSmallWrong : ChangeSpec := { name := "quatSmall", fn := fun _ => fun
  | [d] => { results := [.lit (.bool false)], args := [d] }
  | _ => none }
def QuatSmallWrongFalsely : Prop := quatSmallRow.holds Try.pinned (OpenSpec.ofChange quatSmallWrong)

/-- 'outriggerlaw09.QuatPure': WHATEVER THE INPUT: true; the input reads as it did. -/
def quatPureSpec : ChangeSpec := { name := "quatPure", fn := fun _ => fun
  | [d] => { results := [.lit (.bool true)], args := [d] }
  | _ => none }
def quatPureRow : OpenClaim := { program := "ytoagcpfklkmolaa", sum := "8faead9076f343c591858338975a6bc3be72bc42327d0eb6c25555e0d572c2d6", func := "outrigger/outriggerlaw09.QuatPure", spec := "quatPure", unfollowed := true, recurses := true, named := ["math/bits.divideError", "math/bits.overflowError"], apart := false }
def QuatPureSaid : Prop := quatPureRow.holds Try.pinned (OpenSpec.ofChange quatPureSpec)

/-- ITS FALSE NEIGHBOUR: 'it returns false'. Refute it at one input. -/
def quatPureWrong : ChangeSpec := { name := "quatPure", fn := fun _ => fun
  | [d] => { results := [.lit (.bool false)], args := [d] }
  | _ => none }
def QuatPureWrongFalsely : Prop := quatPureRow.holds Try.pinned (OpenSpec.ofChange quatPureWrong)

/-- 'outriggerlaw09.QuatAdds': WHATEVER THE INPUT: true; the input reads as it did. -/
def quatAddsSpec : ChangeSpec := { name := "quatAdds", fn := fun _ => fun
  | [d1, d2, d3] => { results := [.lit (.bool true)], args := [d1, d2, d3] }
  | _ => none }
def quatAddsRow : OpenClaim := { program := "ytoagcpfklkmolaa", sum := "8faead9076f343c591858338975a6bc3be72bc42327d0eb6c25555e0d572c2d6", func := "outrigger/outriggerlaw09.QuatAdds", spec := "quatAdds", unfollowed := true, recurses := true, named := ["math/bits.divideError", "math/bits.overflowError"], apart := false }
def QuatAddsSaid : Prop := quatAddsRow.holds Try.pinned (OpenSpec.ofChange quatAddsSpec)

/-- ITS FALSE NEIGHBOUR: 'it returns false'. Refute it at one input. -/
def quatAddsWrong : ChangeSpec := { name := "quatAdds", fn := fun _ => fun
  | [d1, d2, d3] => { results := [.lit (.bool false)], args := [d1, d2, d3] }
  | _ => none }
def QuatAddsWrongFalsely : Prop := quatAddsRow.holds Try.pinned (OpenSpec.ofChange quatAddsWrong)

/-- 'outriggerlaw20.TurnUnit': WHATEVER THE INPUT: true; the input reads as it did. -/
def turnUnitSpec : ChangeSpec := { name := "turnUnit", fn := fun _ => fun
  | [d1, d2, d3, d4, d5] => { results := [.lit (.bool true)], args := [d1, d2, d3, d4, d5] }
  | _ => none }
def turnUnitRow : OpenClaim := { program := "ytoagcpfklkmolaa", sum := "8faead9076f343c591858338975a6bc3be72bc42327d0eb6c25555e0d572c2d6", func := "outrigger/outriggerlaw20.TurnUnit", spec := "turnUnit", unfollowed := true, recurses := true, named := ["math/bits.divideError", "math/bits.overflowError"], apart := false }
def TurnUnitSaid : Prop := turnUnitRow.holds Try.pinned (OpenSpec.ofChange turnUnitSpec)

/-- ITS FALSE NEIGHBOUR: 'it returns false'. Refute it at one input. -/
def turnUnitWrong : ChangeSpec := { name := "turnUnit", fn := fun _ => fun
  | [d1, d2, d3, d4, d5] => { results := [.lit (.bool false)], args := [d1, d2, d3, d4, d5] }
  | _ => none }
def TurnUnitWrongFalsely : Prop := turnUnitRow.holds Try.pinned (OpenSpec.ofChange turnUnitWrong)

/-- 'outriggerlaw20.TurnBack': WHATEVER THE INPUT: true; the input reads as it did. -/
def turnBackSpec : ChangeSpec := { name := "turnBack", fn := fun _ => fun
  | [d1, d2] => { results := [.lit (.bool true)], args := [d1, d2] }
  | _ => none }
def turnBackRow : OpenClaim := { program := "ytoagcpfklkmolaa", sum := "8faead9076f343c591858338975a6bc3be72bc42327d0eb6c25555e0d572c2d6", func := "outrigger/outriggerlaw20.TurnBack", spec := "turnBack", unfollowed := true, recurses := true, named := ["math/bits.divideError", "math/bits.overflowError"], apart := false }
def TurnBackSaid : Prop := turnBackRow.holds Try.pinned (OpenSpec.ofChange turnBackSpec)

/-- ITS FALSE NEIGHBOUR: 'it returns false'. Refute it at one input. -/
def turnBackWrong : ChangeSpec := { name := "turnBack", fn := fun _ => fun
  | [d1, d2] => { results := [.lit (.bool false)], args := [d1, d2] }
  | _ => none }
def TurnBackWrongFalsely : Prop := turnBackRow.holds Try.pinned (OpenSpec.ofChange turnBackWrong)

/-- 'outriggerlaw20.TurnUp': WHATEVER THE INPUT: true; the input reads as it did. -/
def turnUpSpec : ChangeSpec := { name := "turnUp", fn := fun _ => fun
  | [d] => { results := [.lit (.bool true)], args := [d] }
  | _ => none }
def turnUpRow : OpenClaim := { program := "ytoagcpfklkmolaa", sum := "8faead9076f343c591858338975a6bc3be72bc42327d0eb6c25555e0d572c2d6", func := "outrigger/outriggerlaw20.TurnUp", spec := "turnUp", unfollowed := true, recurses := true, named := ["math/bits.divideError", "math/bits.overflowError"], apart := false }
def TurnUpSaid : Prop := turnUpRow.holds Try.pinned (OpenSpec.ofChange turnUpSpec)

/-- ITS FALSE NEIGHBOUR: 'it returns false'. Refute it at one input. -/
def turnUpWrong : ChangeSpec := { name := "turnUp", fn := fun _ => fun
  | [d] => { results := [.lit (.bool false)], args := [d] }
  | _ => none }
def TurnUpWrongFalsely : Prop := turnUpRow.holds Try.pinned (OpenSpec.ofChange turnUpWrong)

/-- 'outriggerlaw20.TurnLevel': WHATEVER THE INPUT: true; the input reads as it did. -/
def turnLevelSpec : ChangeSpec := { name := "turnLevel", fn := fun _ => fun
  | [d1, d2] => { results := [.lit (.bool true)], args := [d1, d2] }
  | _ => none }
def turnLevelRow : OpenClaim := { program := "ytoagcpfklkmolaa", sum := "8faead9076f343c591858338975a6bc3be72bc42327d0eb6c25555e0d572c2d6", func := "outrigger/outriggerlaw20.TurnLevel", spec := "turnLevel", unfollowed := true, recurses := true, named := ["math/bits.divideError", "math/bits.overflowError"], apart := false }
def TurnLevelSaid : Prop := turnLevelRow.holds Try.pinned (OpenSpec.ofChange turnLevelSpec)

/-- ITS FALSE NEIGHBOUR: 'it returns false'. Refute it at one input. -/
def turnLevelWrong : ChangeSpec := { name := "turnLevel", fn := fun _ => fun
  | [d1, d2] => { results := [.lit (.bool false)], args := [d1, d2] }
  | _ => none }
def TurnLevelWrongFalsely : Prop := turnLevelRow.holds Try.pinned (OpenSpec.ofChange turnLevelWrong)

/- THE SECOND FORM. 'bulk': how many values and letters a reading holds, each counted each time it is reached (what is shared counts as often as it is met; a slice's spare places count too). A statement '..UptoSaid' is the law's where the arguments, and the package variables that the reading takes, are together of bulk at most 1048576: NARROWER than '..Said'. Prove '..Said' where nothing that the law and all that it calls make is longer than what came in: it says more and counts as full. Else prove '..UptoSaid'. A law counts once. -/
mutual
def uptoBulk {H : Type} : DataW H → Nat
  | .lit (.string bytes) => bytes.length + 1
  | .lit _ => 1
  | .nil => 1
  | .ptr d => uptoBulk d + 1
  | .slice elems spare => uptoBulkAll elems + uptoBulkAll spare + 1
  | .agg parts => uptoBulkAll parts + 1
  | .iface _ d => uptoBulk d + 1
  | .map entries => uptoBulkEntries entries + 1
  | .held _ => 1
def uptoBulkAll {H : Type} : List (DataW H) → Nat
  | [] => 0
  | d :: r => uptoBulk d + uptoBulkAll r
def uptoBulkEntries {H : Type} : List (Lit × DataW H) → Nat
  | [] => 0
  | x :: r => uptoBulkEntry x + uptoBulkEntries r
def uptoBulkEntry {H : Type} : Lit × DataW H → Nat
  | (.string bytes, d) => bytes.length + uptoBulk d + 1
  | (_, d) => uptoBulk d + 1
 end
def uptoSmall : (H : Type) → List (DataW H) → Bool := fun _ ds => decide (uptoBulkAll ds ≤ 1048576)
def OpenSpec.upto (s : _root_.Go.ChangeSpec) : _root_.Go.OpenSpec := { _root_.Go.OpenSpec.ofChange s with cond := some uptoSmall }

/-- 'outriggerlaw09.QuatIs', WHERE WHAT IT READS IS OF BULK AT MOST 1048576: true; the input reads as it did. -/
def quatIsUptoRow : OpenClaim := { program := "ytoagcpfklkmolaa", sum := "8faead9076f343c591858338975a6bc3be72bc42327d0eb6c25555e0d572c2d6", func := "outrigger/outriggerlaw09.QuatIs", spec := "quatIs", unfollowed := true, recurses := true, named := ["math/bits.divideError", "math/bits.overflowError"], apart := false, narrowed := true }
def QuatIsUptoSaid : Prop := quatIsUptoRow.holds Try.pinned (OpenSpec.upto quatIsSpec)

/-- 'outriggerlaw09.QuatOne', WHERE WHAT IT READS IS OF BULK AT MOST 1048576: true; the input reads as it did. -/
def quatOneUptoRow : OpenClaim := { program := "ytoagcpfklkmolaa", sum := "8faead9076f343c591858338975a6bc3be72bc42327d0eb6c25555e0d572c2d6", func := "outrigger/outriggerlaw09.QuatOne", spec := "quatOne", unfollowed := true, recurses := true, named := ["math/bits.divideError", "math/bits.overflowError"], apart := false, narrowed := true }
def QuatOneUptoSaid : Prop := quatOneUptoRow.holds Try.pinned (OpenSpec.upto quatOneSpec)

/-- 'outriggerlaw09.QuatUnit', WHERE WHAT IT READS IS OF BULK AT MOST 1048576: true; the input reads as it did. -/
def quatUnitUptoRow : OpenClaim := { program := "ytoagcpfklkmolaa", sum := "8faead9076f343c591858338975a6bc3be72bc42327d0eb6c25555e0d572c2d6", func := "outrigger/outriggerlaw09.QuatUnit", spec := "quatUnit", unfollowed := true, recurses := true, named := ["math/bits.divideError", "math/bits.overflowError"], apart := false, narrowed := true }
def QuatUnitUptoSaid : Prop := quatUnitUptoRow.holds Try.pinned (OpenSpec.upto quatUnitSpec)

/-- 'outriggerlaw09.QuatBack', WHERE WHAT IT READS IS OF BULK AT MOST 1048576: true; the input reads as it did. -/
def quatBackUptoRow : OpenClaim := { program := "ytoagcpfklkmolaa", sum := "8faead9076f343c591858338975a6bc3be72bc42327d0eb6c25555e0d572c2d6", func := "outrigger/outriggerlaw09.QuatBack", spec := "quatBack", unfollowed := true, recurses := true, named := ["math/bits.divideError", "math/bits.overflowError"], apart := false, narrowed := true }
def QuatBackUptoSaid : Prop := quatBackUptoRow.holds Try.pinned (OpenSpec.upto quatBackSpec)

/-- 'outriggerlaw09.QuatSmall', WHERE WHAT IT READS IS OF BULK AT MOST 1048576: true; the input reads as it did. -/
def quatSmallUptoRow : OpenClaim := { program := "ytoagcpfklkmolaa", sum := "8faead9076f343c591858338975a6bc3be72bc42327d0eb6c25555e0d572c2d6", func := "outrigger/outriggerlaw09.QuatSmall", spec := "quatSmall", unfollowed := true, recurses := true, named := ["math/bits.divideError", "math/bits.overflowError"], apart := false, narrowed := true }
def QuatSmallUptoSaid : Prop := quatSmallUptoRow.holds Try.pinned (OpenSpec.upto quatSmallSpec)

/-- 'outriggerlaw09.QuatPure', WHERE WHAT IT READS IS OF BULK AT MOST 1048576: true; the input reads as it did. -/
def quatPureUptoRow : OpenClaim := { program := "ytoagcpfklkmolaa", sum := "8faead9076f343c591858338975a6bc3be72bc42327d0eb6c25555e0d572c2d6", func := "outrigger/outriggerlaw09.QuatPure", spec := "quatPure", unfollowed := true, recurses := true, named := ["math/bits.divideError", "math/bits.overflowError"], apart := false, narrowed := true }
def QuatPureUptoSaid : Prop := quatPureUptoRow.holds Try.pinned (OpenSpec.upto quatPureSpec)

/-- 'outriggerlaw09.QuatAdds', WHERE WHAT IT READS IS OF BULK AT MOST 1048576: true; the input reads as it did. -/
def quatAddsUptoRow : OpenClaim := { program := "ytoagcpfklkmolaa", sum := "8faead9076f343c591858338975a6bc3be72bc42327d0eb6c25555e0d572c2d6", func := "outrigger/outriggerlaw09.QuatAdds", spec := "quatAdds", unfollowed := true, recurses := true, named := ["math/bits.divideError", "math/bits.overflowError"], apart := false, narrowed := true }
def QuatAddsUptoSaid : Prop := quatAddsUptoRow.holds Try.pinned (OpenSpec.upto quatAddsSpec)

/-- 'outriggerlaw20.TurnUnit', WHERE WHAT IT READS IS OF BULK AT MOST 1048576: true; the input reads as it did. -/
def turnUnitUptoRow : OpenClaim := { program := "ytoagcpfklkmolaa", sum := "8faead9076f343c591858338975a6bc3be72bc42327d0eb6c25555e0d572c2d6", func := "outrigger/outriggerlaw20.TurnUnit", spec := "turnUnit", unfollowed := true, recurses := true, named := ["math/bits.divideError", "math/bits.overflowError"], apart := false, narrowed := true }
def TurnUnitUptoSaid : Prop := turnUnitUptoRow.holds Try.pinned (OpenSpec.upto turnUnitSpec)

/-- 'outriggerlaw20.TurnBack', WHERE WHAT IT READS IS OF BULK AT MOST 1048576: true; the input reads as it did. -/
def turnBackUptoRow : OpenClaim := { program := "ytoagcpfklkmolaa", sum := "8faead9076f343c591858338975a6bc3be72bc42327d0eb6c25555e0d572c2d6", func := "outrigger/outriggerlaw20.TurnBack", spec := "turnBack", unfollowed := true, recurses := true, named := ["math/bits.divideError", "math/bits.overflowError"], apart := false, narrowed := true }
def TurnBackUptoSaid : Prop := turnBackUptoRow.holds Try.pinned (OpenSpec.upto turnBackSpec)

/-- 'outriggerlaw20.TurnUp', WHERE WHAT IT READS IS OF BULK AT MOST 1048576: true; the input reads as it did. -/
def turnUpUptoRow : OpenClaim := { program := "ytoagcpfklkmolaa", sum := "8faead9076f343c591858338975a6bc3be72bc42327d0eb6c25555e0d572c2d6", func := "outrigger/outriggerlaw20.TurnUp", spec := "turnUp", unfollowed := true, recurses := true, named := ["math/bits.divideError", "math/bits.overflowError"], apart := false, narrowed := true }
def TurnUpUptoSaid : Prop := turnUpUptoRow.holds Try.pinned (OpenSpec.upto turnUpSpec)

/-- 'outriggerlaw20.TurnLevel', WHERE WHAT IT READS IS OF BULK AT MOST 1048576: true; the input reads as it did. -/
def turnLevelUptoRow : OpenClaim := { program := "ytoagcpfklkmolaa", sum := "8faead9076f343c591858338975a6bc3be72bc42327d0eb6c25555e0d572c2d6", func := "outrigger/outriggerlaw20.TurnLevel", spec := "turnLevel", unfollowed := true, recurses := true, named := ["math/bits.divideError", "math/bits.overflowError"], apart := false, narrowed := true }
def TurnLevelUptoSaid : Prop := turnLevelUptoRow.holds Try.pinned (OpenSpec.upto turnLevelSpec)

end Rows
end Go.Proofs.Ytoagcpfklkmolaa
