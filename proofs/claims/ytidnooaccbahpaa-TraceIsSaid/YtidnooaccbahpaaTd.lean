/- trace.Order's search: its state in memory; the search as plain data. -/
import Derived.Test.YtidnooaccbahpaaTc
set_option linter.unusedVariables false
set_option linter.unusedSimpArgs false
namespace Go.Proofs.Ytidnooaccbahpaa
open Go.RowKit Go.Proofs Go.Sx
def dn (o : List Nat) (i : Nat) : Bool := decide (i ∈ o)
def skipB (zs : List A) (o : List Nat) (now : Int) (i : Nat) : Bool :=
  dn o i || (!(zs[i]!).w && decide ((zs[i]!).v ≠ now)) || (leftL zs (dn o) zs.length).any fun y => decide (y.to < (zs[i]!).fr)
def thenV (zs : List A) (now : Int) (i : Nat) : Int := if (zs[i]!).w then (zs[i]!).v else now
def dfs (zs : List A) : Nat → List Nat → Int → Option (List Nat)
  | 0, o, _ => some o
  | m + 1, o, now => (List.range zs.length).findSome? fun i => if skipB zs o now i then none else dfs zs m (o ++ [i]) (thenV zs now i)
def ints (o : List Nat) : List Value := o.map fun (i : Nat) => Value.int .i64 (i : Int)
def flags (n : Nat) (o : List Nat) : Array Value := ((List.range n).map fun i => Value.bool (dn o i)).toArray
def clo (t bh : Nat) : Value := .func (.func 16) #[] #[.pointer (some ⟨t, 0, none⟩), .pointer (some ⟨bh, 0, none⟩), .pointer (some ⟨t + 2, 0, none⟩), .pointer (some ⟨t + 3, 0, none⟩)]
/-- where the search stands: the boxes, the marks, the order so far -/
structure St (t bh b off c n : Nat) (zs : List A) (o : List Nat) (w : World) : Prop where
  sz : t + 4 ≤ w.heap.size
  ord : ∃ v, w.heap[t]? = some (.cells #[v] 23 (0, 0)) ∧ w.ownsRow (t + 4) 3 1 v o.length (ints o)
  fl : w.heap[t + 1]? = some (.cells (flags n o) 4 (0, 0))
  dbox : w.heap[t + 2]? = some (.cells #[.slice (some ⟨t + 1, 0, none⟩) n n] 30 (0, 0))
  sbox : w.heap[t + 3]? = some (.cells #[clo t bh] 36 (0, 0))
  hbox : w.heap[bh]? = some (.cells #[.slice (some ⟨b, off, none⟩) n c] 22 (0, 0))
  bht : bh < t
  bt : b < t
  hat : At w b off zs
theorem ownsRow_below {w w' : World} {base : Nat} {e : TypeId} {size : Nat} {v : Value} {n : Nat} {xs : List Value} (h : w.ownsRow base e size v n xs) (hb : Below w.heap.size w w') : w'.ownsRow base e size v n xs :=
  h.kept (row := none) ⟨hb.os, hb.tape, hb.output, hb.size, fun k hk _ => hb.block k hk⟩ (by cases hv : v.ownBlock <;> simp)
section
variable {t bh b off c n : Nat} {zs : List A} {o : List Nat}
theorem St.below {w w' : World} (h : St t bh b off c n zs o w) (hb : Below w.heap.size w w') : St t bh b off c n zs o w' := by
  have hs := h.sz
  refine ⟨Nat.le_trans hs hb.size, ?_, ?_, ?_, ?_, ?_, h.bht, h.bt, h.hat.below hb⟩
  · obtain ⟨v, h1, h2⟩ := h.ord
    exact ⟨v, (hb.block _ (by omega)).trans h1, ownsRow_below h2 hb⟩
  · exact (hb.block _ (by omega)).trans h.fl
  · exact (hb.block _ (by omega)).trans h.dbox
  · exact (hb.block _ (by omega)).trans h.sbox
  · exact (hb.block _ (by have := h.bht; omega)).trans h.hbox
theorem flags_size (n : Nat) (o : List Nat) : (flags n o).size = n := by simp [flags]
theorem flags_at {n : Nat} {o : List Nat} {k : Nat} (hk : k < n) : (flags n o)[k]? = some (.bool (dn o k)) := by
  simp [flags, hk]
theorem St.flag {w : World} (h : St t bh b off c n zs o w) {k : Nat} (hk : k < n) : w.cell? ⟨t + 1, k, none⟩ = some (.bool (dn o k)) := by
  simp only [World.cell?, h.fl]; simpa using flags_at hk
theorem St.flagF {w : World} (h : St t bh b off c n zs o w) (k : Nat) : w.frozen? ⟨t + 1, k, none⟩ = false := by
  simp [World.frozen?, h.fl]
theorem flags_push {n : Nat} {o : List Nat} {k : Nat} : (flags n o).setIfInBounds k (.bool true) = flags n (o ++ [k]) := by
  apply Array.ext'
  apply List.ext_getElem?
  intro i
  simp only [flags, Array.toList_setIfInBounds, List.getElem?_set, List.length_map, List.length_range, List.getElem?_map, dn]
  by_cases h : k = i
  · subst h
    by_cases hk : k < n
    · simp [hk]
    · simp [hk]
  · simp only [h, if_false]
    by_cases hi : i < n
    · simp [hi, List.mem_append]; omega
    · simp [hi]
theorem flags_pop {n : Nat} {o : List Nat} {k : Nat} (hk : k ∉ o) : (flags n (o ++ [k])).setIfInBounds k (.bool false) = flags n o := by
  apply Array.ext'
  apply List.ext_getElem?
  intro i
  simp only [flags, Array.toList_setIfInBounds, List.getElem?_set, List.length_map, List.length_range, List.getElem?_map, dn]
  by_cases h : k = i
  · subst h
    by_cases hk' : k < n
    · simp [hk', hk]
    · simp [hk']
  · simp only [h, if_false]
    by_cases hi : i < n
    · simp [hi, List.mem_append]; omega
    · simp [hi]
end
end Go.Proofs.Ytidnooaccbahpaa
