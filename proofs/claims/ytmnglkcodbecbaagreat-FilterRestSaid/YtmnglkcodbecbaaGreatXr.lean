/- Lists that came in, opened: what the executor at a law's level wants of them. -/
import Derived.Deep.Slices
import Derived.Test.YtmnglkcodbecbaaGreatX
import Derived.Test.YtmnglkcodbecbaaGreatFl
namespace Go.Sx
open Go.RowKit Go.Proofs Go.ChangeShapes Go.WideShapes Go.Deep
set_option linter.unusedVariables false
set_option linter.unusedSimpArgs false
def LK.toCK : LK → CK
  | .int k => .int k
  | .bool => .bool
theorem cells_ok {w : World} {a : Addr} : ∀ {L : List LK} {cs : List Value} {j : Nat}, cellsLK L cs → (∀ i v, cs[i]? = some v → w.cell? (a.add (j + i)) = some v) → cellsOk w a j (L.map LK.toCK)
  | [], _, _, _, _ => trivial
  | .int k :: L, cs, j, h, hc => by
    obtain ⟨n, vs', hr, h, rfl⟩ := h
    refine ⟨⟨n, hc 0 _ rfl, hr⟩, cells_ok h fun i v hi => ?_⟩
    have := hc (i + 1) v (by simpa using hi)
    rwa [show j + (i + 1) = j + 1 + i by omega] at this
  | .bool :: L, cs, j, h, hc => by
    obtain ⟨b, vs', h, rfl⟩ := h
    refine ⟨⟨b, hc 0 _ rfl⟩, cells_ok h fun i v hi => ?_⟩
    have := hc (i + 1) v (by simpa using hi)
    rwa [show j + (i + 1) = j + 1 + i by omega] at this
/-- a list of structs of numbers and flags that came in -/
theorem open_elems {H : Type} {enc : TypeId × Value → H} {P : Program} {W : World} {t e : TypeId} {a0 : Option Addr} {len cap : Nat} {d : DataW H} {ps : List MemPlace} {D : Nat} {L : List LK} (hu : P.underlying t = some (.slice e)) (hL : leavesT P D e = some L)
    (h : DataW.Trod enc P W 0 (fun _ => true) true t (.slice a0 len cap) d ps) :
    (a0 = none ∧ len = 0 ∧ cap = 0) ∨ ∃ a, a0 = some a ∧ len ≤ cap ∧ cap ≤ maxLen ∧ ∀ i, i < len → cellsOk W (a.add (i * P.cellsOf e)) 0 (L.map LK.toCK) := by
  obtain ⟨fuel, hf⟩ := h
  rcases open_slice hu hf with ⟨h1, -⟩ | ⟨a, len', cap', m, n, Dn, Pl, h1, -, hl, hm, hmm, -, hx⟩
  · simp only [Value.cells, List.cons.injEq, and_true, Value.slice.injEq] at h1
    exact .inl h1
  · simp only [Value.cells, List.cons.injEq, and_true, Value.slice.injEq] at h1
    obtain ⟨rfl, rfl, rfl⟩ := h1
    refine .inr ⟨a, rfl, hl, hm, fun i hi => ?_⟩
    obtain ⟨cs', c1, c2⟩ := hx i (by simp only [if_true] at hmm; omega)
    obtain ⟨k1, -, -⟩ := trod_leaves D n e L cs' _ hL c2
    obtain ⟨-, hlen, hcell⟩ := World.cells?_some c1
    refine cells_ok k1 fun j v hj => ?_
    rw [Nat.zero_add, hcell j (by rw [← hlen]; exact (List.getElem?_eq_some_iff.1 hj).1)]
    exact hj
theorem slice_block {P : Program} {W : World} {r : Reach} {base : Nat} {t e : TypeId} {a : Addr} {len cap : Nat} (hu : P.underlying t = some (.slice e)) (h : Value.okWide P W r base t (.slice (some a) len cap)) : W.has P r base a e cap := by
  simp only [Value.okWide, hu, Cell.okWide, Cell.ok] at h
  exact h.2.2
end Go.Sx
