/- trace.Order's search: a step ahead and a step back, in memory. -/
import Derived.Test.YtidnooaccbahpaaTd
set_option linter.unusedVariables false
set_option linter.unusedSimpArgs false
namespace Go.Proofs.Ytidnooaccbahpaa
open Go.RowKit Go.Proofs Go.Sx
section
variable {t bh b off c n : Nat} {zs : List A} {o : List Nat}
theorem ints_append (o : List Nat) (k : Nat) : ints (o ++ [k]) = ints o ++ [Value.int .i64 (k : Int)] := by simp [ints]
theorem heap_setCell_ne (w : World) (a : Addr) (u : Value) (k : Nat) (h : k ≠ a.block) : (w.setCell a u).heap[k]? = w.heap[k]? := Below.heap_setCell w a u k h
/-- a step ahead -/
theorem push_St {w3 w6 : World} (S : St t bh b off c n zs o w3) {v v' : Value} (hv : w3.heap[t]? = some (.cells #[v] 23 (0, 0))) (hown : w3.ownsRow (t + 4) 3 1 v o.length (ints o)) {k : Nat}
    {ob : Obj} (ho' : w6.ownsRow (t + 4) 3 1 v' (o.length + 1) (ints o ++ [Value.int .i64 (k : Int)])) (hg : ((w3.setCell ⟨t + 1, k, none⟩ (.bool true)).alloc ob).grownBy w6 v.ownBlock) :
    St t bh b off c n zs (o ++ [k]) (w6.setCell ⟨t, 0, none⟩ v') ∧ Below t w3 (w6.setCell ⟨t, 0, none⟩ v') ∧ w6.heap[t]? = some (.cells #[v] 23 (0, 0)) ∧ w6.heap[t + 3]? = some (.cells #[clo t bh] 36 (0, 0)) := by
  have hs := S.sz
  have hsz6 : w3.heap.size ≤ w6.heap.size := by have := hg.size; simp at this; omega
  have hrow : ∀ r, v.ownBlock = some r → t + 4 ≤ r := fun r hr => (hown.lt r hr).1
  have hb : ∀ j, j < t + 4 → j ≠ t + 1 → w6.heap[j]? = w3.heap[j]? := fun j hj hj1 => by
    rw [hg.block j (by simp; omega) (fun e => by have := hrow j e.symm; omega), Below.heap_alloc _ _ _ (by simp; omega), heap_setCell_ne _ _ _ _ hj1]
  have hb1 : w6.heap[t + 1]? = some (.cells (flags n (o ++ [k])) 4 (0, 0)) := by
    rw [hg.block (t + 1) (by simp; omega) (fun e => by have := hrow (t + 1) e.symm; omega), Below.heap_alloc _ _ _ (by simp; omega), heap_setCell_same w3 (t + 1) k _ 4 _ S.fl, flags_push]
  have hB : Below t w3 w6 := ((((Below.refl t w3).setCell (by simp) _).alloc (by simp; omega) ob).grown hg (by simp; omega) (fun r hr => by have := hrow r hr; omega))
  refine ⟨⟨by simp; omega, ⟨v', ?_, ?_⟩, ?_, ?_, ?_, ?_, S.bht, S.bt, ?_⟩, hB.setCell (by simp) _, (hb t (by omega) (by omega)).trans hv, (hb _ (by omega) (by omega)).trans S.sbox⟩
  · exact one_setCell ((hb t (by omega) (by omega)).trans hv)
  · rw [ints_append, List.length_append]; exact ownsRow_setCell_below ho' (by simp) _
  · rw [heap_setCell_ne _ _ _ _ (by simp)]; exact hb1
  · rw [heap_setCell_ne _ _ _ _ (by simp)]; exact (hb _ (by omega) (by omega)).trans S.dbox
  · rw [heap_setCell_ne _ _ _ _ (by simp)]; exact (hb _ (by omega) (by omega)).trans S.sbox
  · have := S.bht
    rw [heap_setCell_ne _ _ _ _ (by simp; omega)]; exact (hb _ (by omega) (by omega)).trans S.hbox
  · have hb' := S.bt
    refine ⟨by simp; omega, fun j hj i u hu => ?_⟩
    have := (hB.setCell (p := ⟨t, 0, none⟩) (by simp) v').cell (p := ⟨b, off + j * 4 + i, none⟩) hb'
    exact this.trans (S.hat.2 j hj i u hu)
theorem ord_shape {w8 : World} {k : Nat} (S : St t bh b off c n zs (o ++ [k]) w8) : ∃ g cap, o.length + 1 ≤ cap ∧ w8.heap[t]? = some (.cells #[.slice (some ⟨g, 0, none⟩) (o.length + 1) cap] 23 (0, 0)) ∧
    w8.ownsRow (t + 4) 3 1 (.slice (some ⟨g, 0, none⟩) (o.length + 1) cap) (o ++ [k]).length (ints (o ++ [k])) := by
  obtain ⟨v, h1, h2⟩ := S.ord
  have h2' := h2
  rcases h2.2 with ⟨_, h0⟩ | ⟨g, cap, cur, rfl, h3, h4, h5, _⟩
  · simp at h0
  · simp only [List.length_append, List.length_cons, List.length_nil, Nat.zero_add] at h5 h1 h2' ⊢
    exact ⟨g, cap, h5, h1, h2'⟩
/-- a step back -/
theorem pop_St {w8 : World} {k g cap : Nat} (S : St t bh b off c n zs (o ++ [k]) w8) (hk : k ∉ o) (hv : w8.heap[t]? = some (.cells #[.slice (some ⟨g, 0, none⟩) (o.length + 1) cap] 23 (0, 0)))
    (hown : w8.ownsRow (t + 4) 3 1 (.slice (some ⟨g, 0, none⟩) (o.length + 1) cap) (o ++ [k]).length (ints (o ++ [k]))) :
    St t bh b off c n zs o ((w8.setCell ⟨t + 1, k, none⟩ (.bool false)).setCell ⟨t, 0, none⟩ (.slice (some ⟨g, 0, none⟩) o.length cap)) ∧
      Below t w8 ((w8.setCell ⟨t + 1, k, none⟩ (.bool false)).setCell ⟨t, 0, none⟩ (.slice (some ⟨g, 0, none⟩) o.length cap)) := by
  have hs := S.sz
  have hbht := S.bht
  have hbt := S.bt
  have hB : Below t w8 ((w8.setCell ⟨t + 1, k, none⟩ (.bool false)).setCell ⟨t, 0, none⟩ (.slice (some ⟨g, 0, none⟩) o.length cap)) := ((Below.refl t w8).setCell (by simp) _).setCell (by simp) _
  refine ⟨⟨by simp; omega, ⟨.slice (some ⟨g, 0, none⟩) o.length cap, ?_, ?_⟩, ?_, ?_, ?_, ?_, S.bht, S.bt, ?_⟩, hB⟩
  · exact one_setCell ((heap_setCell_ne _ _ _ _ (by simp)).trans hv)
  · refine ownsRow_setCell_below (ownsRow_setCell_below ?_ (by simp) _) (by simp) _
    rcases hown.2 with ⟨h', _⟩ | ⟨g', cap', cur, h', h1, h2, h3, h4, h5, h6⟩
    · cases h'
    · simp only [Value.slice.injEq, Option.some.injEq, Addr.mk.injEq, and_true, true_and] at h'
      obtain ⟨rfl, _, rfl⟩ := h'
      refine ⟨by simp [ints], .inr ⟨g, cap, cur, rfl, h1, h2, by simp at h3; omega, h4, h5, ?_⟩⟩
      have := congrArg (List.take o.length) h6
      rw [List.take_take, ints_append, List.take_append_of_le_length (by simp [ints]), List.take_of_length_le (by simp [ints] : (ints o).length ≤ o.length)] at this
      rw [← this]; congr 1; simp
  · rw [heap_setCell_ne _ _ _ _ (by simp), heap_setCell_same w8 (t + 1) k _ 4 _ S.fl, flags_pop hk]
  · rw [heap_setCell_ne _ _ _ _ (by simp), heap_setCell_ne _ _ _ _ (by simp)]; exact S.dbox
  · rw [heap_setCell_ne _ _ _ _ (by simp), heap_setCell_ne _ _ _ _ (by simp)]; exact S.sbox
  · rw [heap_setCell_ne _ _ _ _ (by simp; omega), heap_setCell_ne _ _ _ _ (by simp; omega)]; exact S.hbox
  · refine ⟨by simp; omega, fun j hj i u hu => ?_⟩
    exact (hB.cell (p := ⟨b, off + j * 4 + i, none⟩) hbt).trans (S.hat.2 j hj i u hu)
end
end Go.Proofs.Ytidnooaccbahpaa
