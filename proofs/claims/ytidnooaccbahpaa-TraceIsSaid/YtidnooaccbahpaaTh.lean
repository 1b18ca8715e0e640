/- slices.AppendSeq, slices.Collect and slices.Sorted over the iterator of slices.Values, as calls. -/
import Derived.Test.YtidnooaccbahpaaTg
set_option linter.unusedVariables false
set_option linter.unusedSimpArgs false
namespace Go.Proofs.Ytidnooaccbahpaa
open Go.RowKit Go.Proofs Go.Sx Go.Sort
attribute [local go_sem] Oper.semAt_some
theorem own_heap {β : Type} (B k : Nat) (f : β → Obj) (hf : ∀ s, (f s).isCells = true) : OwnFrom B (fun (s : β) W => W.heap[k]? = some (f s)) := fun s X Y row hs hg hr => by
  have hs' : X.heap[k]? = some (f s) := hs
  refine (hg.block k (Array.getElem?_eq_some_iff.1 hs').1 (fun e => ?_)).trans hs'
  obtain ⟨_, o, ho, hc⟩ := hr k e.symm
  rw [hs'] at ho; cases ho; rw [hf] at hc; cases hc
theorem keepsFrom_alloc (B : Nat) (W : World) (o : Obj) : KeepsFrom B W (W.alloc o) := KeepsFrom.of_grownBy (World.grownBy_alloc W o none) (fun j e => by cases e)
theorem keepsFrom_below {B : Nat} {W W' : World} (h : Below W.heap.size W W') : KeepsFrom B W W' := KeepsFrom.of_grownBy (below_asGrown h) (fun j e => by cases e)
theorem keepsFrom_setCell (B : Nat) (W : World) (p : Addr) (v : Value) : KeepsFrom B W (W.setCell p v) := (KeepsOthers.setCell W p v).from B
/-- what has been gathered -/
def Gath (B : Nat) (pre : List Int) (W : World) : Prop := ∃ v, W.heap[B]? = some (.cells #[v] 23 (0, 0)) ∧ W.ownsRow B 3 1 v pre.length (pre.map encI)
theorem ownsRow_ne {w : World} {base e sz m : Nat} {v : Value} {xs : List Value} (h : w.ownsRow base e sz v m xs) {j : Nat} {o : Obj} (hj : w.heap[j]? = some o) (hno : ∀ cur, o ≠ .cells cur e (0, 0)) : v.ownBlock = none ∨ v.ownBlock ≠ some j := by
  rcases h.2 with ⟨rfl, _⟩ | ⟨g, cap, cur, rfl, h3, h4, h5, _⟩
  · exact .inl rfl
  · refine .inr fun e => ?_
    simp only [Value.ownBlock, Option.some.injEq] at e
    subst e; rw [h4] at hj; cases hj; exact hno cur rfl
theorem own_gath (B0 B : Nat) : OwnFrom B0 (Gath B) := fun s X Y row hs hg hr => by
  obtain ⟨v, h1, h2⟩ := hs
  have hr' : ∀ k, row = some k → ∃ o, X.heap[k]? = some o ∧ o.isCells = false := fun k e => (hr k e).2
  refine ⟨v, (hg.block B (lt_of_block h1) (fun e => ?_)).trans h1, h2.kept hg ?_⟩
  · obtain ⟨o, ho, hc⟩ := hr' B e.symm
    rw [h1] at ho; cases ho; cases hc
  · cases row with
    | none => cases v.ownBlock <;> simp
    | some k =>
      obtain ⟨o, ho, hc⟩ := hr' k rfl
      exact ownsRow_ne h2 ho (fun cur e => by subst e; cases hc)
theorem box_lt {B0 : Nat} {w : World} {v : Value} {pre : List Int} (h1 : w.heap[B0]? = some (.cells #[v] 23 (0, 0))) (h2 : w.ownsRow B0 3 1 v pre.length (pre.map encI)) : v.ownBlock ≠ some B0 := by
  rcases ownsRow_ne h2 h1 (fun cur e => by simp at e) with h | h
  · rw [h]; simp
  · exact h
theorem grownBy_setCell0 (w : World) (a : Addr) (u : Value) : w.grownBy (w.setCell a u) (some a.block) :=
  ⟨rfl, rfl, rfl, by simp, fun k _ hk => Below.heap_setCell w a u k (fun e => hk (by rw [e]))⟩
set_option maxRecDepth 100000 in
set_option maxHeartbeats 4000000 in
/-- slices.AppendSeq onto nil -/
theorem appendSeq_in (bx c : Nat) (p : Option Addr) (xs : List Int) (w : World) (hlen : xs.length ≤ 1000000000000) (hbx : bx < w.heap.size) (hF : IntsAt w w.heap.size p xs)
    (c0 : w.cell? ⟨bx, 0, none⟩ = some (.slice p xs.length c)) :
    CallsIn Fence.wide 5 Try.prog 29 #[.slice none 0 0, .func (.func 28) #[] #[.pointer (some ⟨bx, 0, none⟩)]] w fun e w' => (∃ v, e = .returned v ∧ w'.ownsRow w.heap.size 3 1 v xs.length (xs.map encI)) ∧ Below w.heap.size w w' := by
  refine callsIn_of_wp_marks Try.func29 rfl trivial ?_ rfl
  simp only [Try.ntmps29, List.size_toArray, List.length_cons, List.length_nil, Nat.reduceAdd, Nat.reduceSub, Array.replicate_succ, Array.replicate_zero, List.push_toArray, List.append_toArray, List.nil_append, List.cons_append]
  gi_wp2
  obtain ⟨n0, hn0⟩ : ∃ n0, n0 = w.heap.size := ⟨_, rfl⟩
  obtain ⟨W2, hW2⟩ : ∃ W2, W2 = w.alloc (.cells #[.slice none 0 0] 23) := ⟨_, rfl⟩
  have hb2 : Below n0 w W2 := by rw [hn0, hW2]; exact ((Below.refl _ w).alloc (Nat.le_refl _) _)
  have hs2 : W2.heap.size = n0 + 1 := by rw [hW2, hn0]; simp
  have hr2 : Gath n0 [] W2 := ⟨.slice none 0 0, by rw [hW2, hn0]; exact World.alloc_heap_new w _, World.ownsRow_nil _ _ _ _⟩
  try simp only [World.size_alloc]
  simp only [← hW2]
  clear hW2
  subst hn0
  obtain ⟨i0, hi, hz0, hz1, hz2⟩ := info_parts info3
  refine wpIn_rangeFunc_ownH rfl (by omega) (gf := 28) (lb := #[.pointer (some ⟨bx, 0, none⟩)]) rfl trivial (enters_of Try.func28 (by kernel_rfl) rfl)
    (α := Int) (encs := fun x => #[encI x]) (Kp := Below w.heap.size) (S := fun ys => ys = xs) (Sp := fun pre => pre <+: xs) (N := xs.length) (w0 := W2)
    (fun l J Jx W hW hJ hJx hY h0 => ?seq) belowK_t (belowK_b (by omega)) (Below.refl _ _) (fun _ => rfl)
    (fun pre W => Gath w.heap.size pre W ∧ Below w.heap.size w W)
    (fun _ _ _ => False)
    (OwnFrom.and (own_gath _ _) (ownFrom_below (by omega) (by omega)))
    (fun _ => ownFrom_pure _ _)
    ⟨hr2, hb2⟩
    (fun x a' W => a' = { tmps := #[.slice none 0 0, .func (.func 28) #[] #[.pointer (some ⟨bx, 0, none⟩)], .pointer (some ⟨w.heap.size, 0, none⟩), undef, .slice none 0 0, encI x, .func (.func 28) #[] #[.pointer (some ⟨bx, 0, none⟩)], encI x, undef, undef, undef, undef, undef], defers := [] })
    (fun x a' => ownFrom_pure _ _) ?assign ?body ?done ?stop
  case seq =>
    refine values_in 4 (by omega) l w.heap.size bx c p xs W (by omega) hbx (by have := hW.size; omega) (hF.below (hb2.trans (hW.mono (by omega)))) J Jx hY ?_ h0
    rw [(hW.mono (by omega : w.heap.size ≤ W2.heap.size)).cell (p := ⟨bx, 0, none⟩) hbx, hb2.cell (p := ⟨bx, 0, none⟩) hbx]; exact c0
  case assign =>
    intro l pre x W K hI hK
    simp only [encI]
    gi_wp2
    exact hK _ _ (keepsFrom_below (Below.refl _ _)) (Below.refl _ _) hI rfl
  case body =>
    rintro l pre x a' W hl hrec ⟨⟨v, i1, i2⟩, i4⟩ rfl hlen'
    have hws := i4.size
    have c1 := cell_of_one i1
    have hne := box_lt i1 i2
    have hB0 := lt_of_block i1
    simp only [encI]
    gi_wp2_with (gi_at_builtin; refine wpListIn_append_own _ rfl _ _ 23 rfl w.heap.size 3 i0 (.int .i64 0) 1 8 Try.underlying23 hi hz0 hz1 hz2 rfl (by decide) _ _ _ rfl (i2.alloc _) ⟨W.heap.size, 0, none⟩ 1 1 [.int .i64 x] rfl rfl (own_c1 _ _ _ _ (by simp)) (own_c2 _) (by unfold maxLen; omega) (by omega) (by simp; omega) ?_; intro v' w6 ho6 hg6 _; obtain ⟨g6, cap6, rfl, hcap6⟩ := own_shape ho6; have h6 : w6.heap[w.heap.size]? = some (.cells #[v] 23 (0, 0)) := (hg6.block _ (by simp; omega) (fun e => hne e.symm)).trans ((Below.heap_alloc _ _ _ hB0).trans i1); have k0 := cell_of_one h6; have k1 := free_of_one h6)
    have hb6 : Below w.heap.size W w6 := ((Below.refl w.heap.size W).alloc hws _).grown hg6 (by simp; omega) (fun r hr => (i2.lt r hr).1)
    have hb7 := hb6.setCell (p := ⟨w.heap.size, 0, none⟩) (Nat.le_refl _) (.slice (some ⟨g6, 0, none⟩) (pre.length + 1) cap6)
    have hkg : KeepsFrom W2.heap.size (W.alloc (.cells #[.int .i64 x] 3)) w6 := ⟨hg6.size, fun k o hB hk hnc => by
      refine (hg6.block k (lt_of_block hk) (fun e => ?_)).trans hk
      rcases (i2.alloc (.cells #[.int .i64 x] 3)).2 with ⟨hv, _⟩ | ⟨g, cap, cur, hv, h3, h4, h5, _⟩
      · have e' : some k = v.ownBlock := e
        rw [hv] at e'; cases e'
      · have e' : some k = v.ownBlock := e
        rw [hv] at e'; cases e'
        rw [h4] at hk; cases hk; cases hnc⟩
    refine ⟨((keepsFrom_alloc _ _ _).trans hkg).trans (keepsFrom_setCell _ _ _ _), hb7, ⟨_, one_setCell h6, ?_⟩, i4.trans hb7⟩
    have ho7 := ho6.kept (row := some w.heap.size) (grownBy_setCell0 w6 ⟨w.heap.size, 0, none⟩ (.slice (some ⟨g6, 0, none⟩) (pre.length + 1) cap6)) (ownsRow_ne ho6 h6 (fun cur e => by simp at e))
    simpa [encI] using ho7
  case done =>
    rintro D ys W hD rfl ⟨⟨v, i1, i2⟩, i4⟩ hDK
    have c1 := cell_of_one i1
    gi_wp2
    refine ⟨by simp, .inl ⟨_, _, rfl, run_takeDeferred hDK, ?_⟩⟩
    exact ⟨_, results_tmp rfl _ _ _, ⟨v, rfl, i2.kept (grownBy_putObj' W D (.deferred none)) (ownsRow_ne i2 hDK (fun cur e => by cases e))⟩, i4.grown (grownBy_putObj' W D (.deferred none)) i4.size (fun k e => by cases e; omega)⟩
  case stop =>
    rintro D c pre W _ _ h _
    exact h.elim
set_option maxHeartbeats 1000000 in
/-- slices.Collect -/
theorem collect_in (bx c : Nat) (p : Option Addr) (xs : List Int) (w : World) (hlen : xs.length ≤ 1000000000000) (hbx : bx < w.heap.size) (hF : IntsAt w w.heap.size p xs)
    (c0 : w.cell? ⟨bx, 0, none⟩ = some (.slice p xs.length c)) :
    CallsIn Fence.wide 6 Try.prog 26 #[.func (.func 28) #[] #[.pointer (some ⟨bx, 0, none⟩)]] w fun e w' => (∃ v, e = .returned v ∧ w'.ownsRow w.heap.size 3 1 v xs.length (xs.map encI)) ∧ Below w.heap.size w w' := by
  have hA := appendSeq_in bx c p xs w hlen hbx hF c0
  clear hF
  have h29 : Fence.wide.fn 29 := trivial
  refine callsIn_of_wp Try.func26 rfl trivial ?_ rfl
  simp only [Try.ntmps26, List.size_toArray, List.length_cons, List.length_nil, Nat.reduceAdd, Nat.reduceSub, Array.replicate_succ, Array.replicate_zero, List.push_toArray, List.append_toArray, List.nil_append, List.cons_append]
  gi_wp2_with (gi_at_call 29; refine hA.mono ?_; rintro e w' ⟨⟨v, rfl, hrow⟩, hb⟩)
  go_ret
  exact ⟨⟨v, rfl, hrow⟩, hb⟩
theorem sorts_wide (m : Nat) : AnyZI.SortsIn Try.prog Try.sortedA_ren Fence.wide m :=
  ⟨fun blk off cap ss W hH hblk hsz => callsIn_wide.2 (AnyM.slices_Sort_int Try.sortA blk off cap ss W hH hblk hsz),
   fun p cap W => callsIn_wide.2 (AnyM.slices_Sort_int_none Try.sortA p cap W)⟩
def sortL (xs : List Int) : List Int := xs.mergeSort fun x y => decide (x ≤ y)
theorem sortL_length (xs : List Int) : (sortL xs).length = xs.length := List.length_mergeSort xs
set_option maxRecDepth 100000 in
set_option maxHeartbeats 2000000 in
/-- slices.Sorted -/
theorem sorted_in (bx c : Nat) (p : Option Addr) (xs : List Int) (w : World) (hlen : xs.length ≤ 1000000000000) (hbx : bx < w.heap.size) (hF : IntsAt w w.heap.size p xs)
    (c0 : w.cell? ⟨bx, 0, none⟩ = some (.slice p xs.length c)) :
    CallsIn Fence.wide 7 Try.prog 22 #[.func (.func 28) #[] #[.pointer (some ⟨bx, 0, none⟩)]] w fun e w' => (∃ v, e = .returned v ∧ w'.ownsRow w.heap.size 3 1 v xs.length ((sortL xs).map encI)) ∧ Below w.heap.size w w' := by
  have hA := collect_in bx c p xs w hlen hbx hF c0
  have hsort := sorts_wide 6
  clear hF
  have h26 : Fence.wide.fn 26 := trivial
  have h27 : Fence.wide.fn 27 := trivial
  refine callsIn_of_wp Try.func22 rfl trivial ?_ rfl
  simp only [Try.ntmps22, List.size_toArray, List.length_cons, List.length_nil, Nat.reduceAdd, Nat.reduceSub, Array.replicate_succ, Array.replicate_zero, List.push_toArray, List.append_toArray, List.nil_append, List.cons_append]
  gi_wp2_with (gi_at_call 26; refine hA.mono ?_; rintro e W ⟨⟨v, rfl, hrow⟩, hb⟩)
  rcases hrow.2 with ⟨rfl, hz⟩ | ⟨gb, cap, cur, rfl, hbase, hgb, r1, r2, r3, r4⟩
  · have hss : xs = [] := List.eq_nil_of_length_eq_zero hz
    subst hss
    have cS := hsort.2 none 0 W
    change CallsIn _ _ Try.prog 27 _ _ _ at cS
    gi_wp2_with (gi_at_call 27; refine cS.mono ?_; rintro e w' ⟨rfl, rfl⟩)
    go_ret
    exact ⟨⟨_, rfl, by simpa [sortL] using World.ownsRow_nil _ _ _ _⟩, hb⟩
  · have hH : Holds encI W gb 0 xs.toArray := holds_of_blockI hgb (by rw [Nat.mul_one] at r4; exact r4)
    have cS := hsort.1 gb 0 cap xs W hH (lt_of_block hgb) (by omega)
    change CallsIn _ _ Try.prog 27 _ _ _ at cS
    gi_wp2_with (gi_at_call 27; refine cS.mono ?_; rintro e w' ⟨rfl, nn, os, rfl⟩)
    go_ret
    refine ⟨⟨_, rfl, ?_⟩, hb.grown (grownBy_sortedI _) hb.size (fun j hj => by cases hj; exact hbase)⟩
    exact ownsRow_sortedI (sortL_length xs) hbase hgb r1 r2 r3
end Go.Proofs.Ytidnooaccbahpaa
