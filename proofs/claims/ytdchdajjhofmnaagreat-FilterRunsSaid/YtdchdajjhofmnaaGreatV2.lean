import Derived.Test.YtdchdajjhofmnaaGreatV1
import Derived.Test.YtdchdajjhofmnaaGreatGb
import Derived.RangeFuncNested
import Derived.RangeFuncCalls
namespace Go.Proofs.YtdchdajjhofmnaaGreat
open Go.RowKit Go.Proofs Go.Sx
attribute [local go_sem] Oper.semAt_some
def encW (p : Int × Int) : Value := .agg #[.int .i64 p.1, .int .i64 p.2]
def RgW (p : Int × Int) : Prop := Rg .i64 p.1 ∧ Rg .i64 p.2
def addF (s v : Int × Int) : Int × Int := ((f284 s.1 s.2 v.1 v.2).1, (f284 s.1 s.2 v.1 v.2).2.1)
/-- wide.Add, as a plain contract -/
theorem add_calls (s v : Int × Int) (hs : RgW s) (hv : RgW v) (w : World) :
  Calls Tryz.prog 284 #[encW s, encW v] w fun e w' => (e = .returned (.tuple #[encW (addF s v), .bool (f284 s.1 s.2 v.1 v.2).2.2]) ∧ RgW (addF s v)) ∧ Below w.heap.size w w' := by
 obtain ⟨s1, s2⟩ := s
 obtain ⟨v1, v2⟩ := v
 obtain ⟨hs1, hs2⟩ := hs
 obtain ⟨hv1, hv2⟩ := hv
 have h := S284_ok [.v (.agg [.int .i64 (.sym s1), .int .i64 (.sym s2)]), .v (.agg [.int .i64 (.sym v1), .int .i64 (.sym v2)])] _ rfl w [encW (s1, s2), encW (v1, v2)]
  ⟨_, _, ⟨_, ⟨_, _, ⟨rfl, hs1⟩, ⟨_, _, ⟨rfl, hs2⟩, rfl, rfl⟩, rfl⟩, rfl⟩, ⟨_, _, ⟨_, ⟨_, _, ⟨rfl, hv1⟩, ⟨_, _, ⟨rfl, hv2⟩, rfl, rfl⟩, rfl⟩, rfl⟩, rfl, rfl⟩, rfl⟩
 refine h.mono ?_
 rintro e w' ⟨⟨x, rfl, hx⟩, hb⟩
 simp only [g284, SV.rel] at hx
 obtain ⟨xs, hx, rfl⟩ := hx
 simp only [relL, SV.rel] at hx
 obtain ⟨_, _, ⟨_, ⟨_, _, ⟨rfl, r1⟩, ⟨_, _, ⟨rfl, r2⟩, rfl, rfl⟩, rfl⟩, rfl⟩, ⟨_, _, rfl, rfl, rfl⟩, rfl⟩ := hx
 exact ⟨⟨rfl, r1, r2⟩, hb⟩
theorem cells2 {W : World} {B : Nat} {u v : Value} {t : TypeId} (h : W.heap[B]? = some (.cells #[u, v] t (0, 0))) :
  W.cell? ⟨B, 0, none⟩ = some u ∧ W.cell? ⟨B, 1, none⟩ = some v ∧ W.frozen? ⟨B, 0, none⟩ = false ∧ W.frozen? ⟨B, 1, none⟩ = false := by
 refine ⟨?_, ?_, ?_, ?_⟩ <;> simp [World.cell?, World.frozen?, h]
theorem set2 {W : World} {B : Nat} {u v : Value} {t : TypeId} (h : W.heap[B]? = some (.cells #[u, v] t (0, 0))) (u' v' : Value) :
  ((W.setCell ⟨B, 0, none⟩ u').setCell ⟨B, 1, none⟩ v').heap[B]? = some (.cells #[u', v'] t (0, 0)) := by
 simp only [World.setCell, Array.getElem?_modify, if_true, h, Option.map_some]
 simp
abbrev RW := { p : Int × Int // RgW p }
def addR (l : List RW) : Int × Int := l.foldl (fun s v => addF s v.1) (0, 0)
theorem addR_snoc (l : List RW) (x : RW) : addR (l ++ [x]) = addF (addR l) x.1 := by simp [addR]
theorem own_heap {β : Type} (B k : Nat) (f : β → Obj) (hf : ∀ s, (f s).isCells = true) : OwnFrom B (fun (s : β) W => W.heap[k]? = some (f s)) := fun s X Y row hs hg hr => by
 have hs' : X.heap[k]? = some (f s) := hs
 refine (hg.block k (Array.getElem?_eq_some_iff.1 hs').1 (fun e => ?_)).trans hs'
 obtain ⟨_, o, ho, hc⟩ := hr k e.symm
 rw [hs'] at ho; cases ho; rw [hf] at hc; cases hc
theorem keepsFrom_alloc (B : Nat) (W : World) (o : Obj) : KeepsFrom B W (W.alloc o) := KeepsFrom.of_grownBy (World.grownBy_alloc W o none) (fun j e => by cases e)
theorem keepsFrom_below {B : Nat} {W W' : World} (h : Below W.heap.size W W') : KeepsFrom B W W' := KeepsFrom.of_grownBy (below_asGrown h) (fun j e => by cases e)
theorem keepsFrom_setCell (B : Nat) (W : World) (p : Addr) (v : Value) : KeepsFrom B W (W.setCell p v) := (KeepsOthers.setCell W p v).from B
set_option maxRecDepth 100000 in
set_option maxHeartbeats 4000000 in
theorem addW_in (nb fb : Nat) (caps : Array Value) (xs : List RW) (w : World) (hlen : xs.length ≤ 1000) (hnb : nb < w.heap.size) (hfb : fb < w.heap.size)
  (hF : ∀ (i : Nat) v, xs[i]? = some v → ∀ W, Below w.heap.size w W → Calls Tryz.prog 287 (#[.int .i64 i] ++ caps) W fun e W' => e = .returned (encW v.1) ∧ Below W.heap.size W W')
  (c0 : w.cell? ⟨nb, 0, none⟩ = some (.int .i64 xs.length)) (c1 : w.cell? ⟨fb, 0, none⟩ = some (.func (.func 287) #[] caps)) :
  CallsIn Fence.wide 5 Tryz.prog 232 #[.func (.func 318) #[] #[.pointer (some ⟨nb, 0, none⟩), .pointer (some ⟨fb, 0, none⟩)]] w fun e w' => (e = .returned (encW (addR xs)) ∧ RgW (addR xs)) ∧ Below w.heap.size w w' := by
 refine callsIn_of_wp_marks Tryz.func232 rfl trivial ?_ rfl
 simp only [Tryz.ntmps232, List.size_toArray, List.length_cons, List.length_nil, Nat.reduceAdd, Nat.reduceSub, Array.replicate_succ, Array.replicate_zero, List.push_toArray, List.append_toArray, List.nil_append, List.cons_append]
 gi_wp2
 obtain ⟨n0, hn0⟩ : ∃ n0, n0 = w.heap.size := ⟨_, rfl⟩
 obtain ⟨W2, hW2⟩ : ∃ W2, W2 = (w.alloc (.cells #[.int .i64 0, .int .i64 0] 237)).alloc (.cells #[.int .i64 0, .int .i64 0] 237) := ⟨_, rfl⟩
 have hb2 : Below n0 w W2 := by rw [hn0, hW2]; exact (((Below.refl _ w).alloc (Nat.le_refl _) _).alloc (by simp) _)
 have hs2 : W2.heap.size = n0 + 2 := by rw [hW2, hn0]; simp
 have hr2 : W2.heap[n0]? = some (.cells #[.int .i64 0, .int .i64 0] 237 (0, 0)) := by
  rw [hW2, hn0, Below.heap_alloc _ _ _ (by simp)]; exact World.alloc_heap_new w _
 have hc2 : W2.heap[n0 + 1]? = some (.cells #[.int .i64 0, .int .i64 0] 237 (0, 0)) := by
  have := World.alloc_heap_new (w.alloc (.cells #[.int .i64 0, .int .i64 0] 237)) (.cells #[.int .i64 0, .int .i64 0] 237)
  rw [World.size_alloc] at this
  rw [hW2, hn0]; exact this
 try simp only [World.size_alloc]
 simp only [← hW2]
 clear hW2
 subst hn0
 refine wpIn_rangeFunc_ownH rfl (by omega) (gf := 318) (lb := #[.pointer (some ⟨nb, 0, none⟩), .pointer (some ⟨fb, 0, none⟩)]) rfl trivial (enters_of Tryz.func318 (by kernel_rfl) rfl)
  (α := RW) (encs := fun x => #[encW x.1]) (Kp := Below w.heap.size) (S := fun ys => ys = xs) (Sp := fun pre => pre <+: xs) (N := xs.length) (w0 := W2)
  (fun l J Jx W hW hJ hJx hY h0 => ?seq) belowK_t (belowK_b (by omega)) (Below.refl _ _) (fun _ => rfl)
  (fun pre W => W.heap[w.heap.size]? = some (.cells #[.int .i64 0, .int .i64 0] 237 (0, 0)) ∧ (W.heap[w.heap.size + 1]? = some (.cells #[.int .i64 (addR pre).1, .int .i64 (addR pre).2] 237 (0, 0)) ∧ (RgW (addR pre) ∧ Below w.heap.size w W)))
  (fun _ _ _ => False)
  (OwnFrom.and (own_heap _ _ _ (fun _ => rfl)) (OwnFrom.and (own_heap _ _ _ (fun _ => rfl)) (OwnFrom.and (ownFrom_pure _ _) (ownFrom_below (by omega) (by omega)))))
  (fun _ => ownFrom_pure _ _)
  ⟨hr2, hc2, ⟨rfl, rfl⟩, hb2⟩
  (fun x a' W => ∃ A, (w.heap.size + 2 ≤ A ∧ W.heap[A]? = some (.cells #[.int .i64 x.1.1, .int .i64 x.1.2] 237 (0, 0))) ∧
   a' = { tmps := #[.func (.func 318) #[] #[.pointer (some ⟨nb, 0, none⟩), .pointer (some ⟨fb, 0, none⟩)], undef, .pointer (some ⟨w.heap.size, 0, none⟩), .pointer (some ⟨w.heap.size + 1, 0, none⟩), .pointer (some ⟨A, 0, none⟩), .func (.func 318) #[] #[.pointer (some ⟨nb, 0, none⟩), .pointer (some ⟨fb, 0, none⟩)], encW x.1, undef, undef, undef, undef, undef, undef, undef], defers := [] })
  (fun x a' => fun s X Y row hs hg hr => ?ax) ?assign ?body ?done ?stop
 case seq =>
  refine eachW_in (fun x : RW => encW x.1) 4 (by omega) l w.heap.size nb fb caps xs W hlen (by omega) (by omega) (by have := hW.size; omega) (fun i v hv W' hW' => hF i v hv W' (hb2.trans ((hW.mono (by omega)).trans hW'))) J Jx hJ hY ?_ ?_ h0
  ·rw [(hW.mono (by omega : w.heap.size ≤ W2.heap.size)).cell (p := ⟨nb, 0, none⟩) (by simpa using hnb), hb2.cell (p := ⟨nb, 0, none⟩) hnb]; exact c0
  ·rw [(hW.mono (by omega : w.heap.size ≤ W2.heap.size)).cell (p := ⟨fb, 0, none⟩) (by simpa using hfb), hb2.cell (p := ⟨fb, 0, none⟩) hfb]; exact c1
 case ax =>
  obtain ⟨A, ⟨h1, h2⟩, h3⟩ := hs
  exact ⟨A, ⟨h1, own_heap W2.heap.size A (fun (_ : Unit) => .cells #[.int .i64 x.1.1, .int .i64 x.1.2] 237 (0, 0)) (fun _ => rfl) s X Y row h2 hg hr⟩, h3⟩
 case assign =>
  intro l pre x W K hI hK
  obtain ⟨i1, i2, i3, i4⟩ := hI
  simp only [encW]
  gi_wp2
  have hws := i4.size
  have hB := (Below.refl W.heap.size W).alloc (Nat.le_refl _) (.cells #[.int .i64 x.1.1, .int .i64 x.1.2] 237)
  refine hK _ _ (keepsFrom_alloc _ _ _) (hB.mono hws) ⟨?_, ?_, i3, i4.trans (hB.mono hws)⟩ ⟨W.heap.size, ⟨?_, World.alloc_heap_new W _⟩, rfl⟩
  ·rw [hB.block _ (Array.getElem?_eq_some_iff.1 i1).1]; exact i1
  ·rw [hB.block _ (Array.getElem?_eq_some_iff.1 i2).1]; exact i2
  ·have := (Array.getElem?_eq_some_iff.1 i2).1; omega
 case body =>
  rintro l pre x a' W hl hrec ⟨i1, i2, i3, i4⟩ ⟨A, ⟨hA, hA2⟩, rfl⟩ hlen'
  obtain ⟨p1, p2, p3, p4⟩ := cells2 i2
  obtain ⟨q1, q2, q3, q4⟩ := cells2 hA2
  gi_wp2
  refine ⟨trivial, (CallsIn.inRound l (callsIn_wide.2 (add_calls (addR pre) x.1 i3 x.2 W))).mono ?_⟩
  rintro e W1 ⟨⟨rfl, hr1⟩, hb1⟩
  have j1 := (hb1.block _ (Array.getElem?_eq_some_iff.1 i1).1).trans i1
  have j2 := (hb1.block _ (Array.getElem?_eq_some_iff.1 i2).1).trans i2
  obtain ⟨r1, r2, r3, r4⟩ := cells2 j2
  have hws := i4.size
  have hk1 : KeepsFrom W2.heap.size W W1 := keepsFrom_below hb1
  simp only [encW]
  gi_wp2
  have hA1 := hb1.size
  have h1 : Below w.heap.size W1 ((W1.setCell ⟨w.heap.size + 1, 0, none⟩ (.int .i64 (addF (addR pre) x.1).1)).setCell ⟨w.heap.size + 1, 1, none⟩ (.int .i64 (addF (addR pre) x.1).2)) :=
   ((Below.refl _ W1).setCell (p := ⟨w.heap.size + 1, 0, none⟩) (by simp) _).setCell (p := ⟨w.heap.size + 1, 1, none⟩) (by simp) _
  refine ⟨(hk1.trans (keepsFrom_setCell _ _ _ _)).trans (keepsFrom_setCell _ _ _ _), (hb1.mono hws).trans h1, ?_, ?_, ?_, i4.trans ((hb1.mono hws).trans h1)⟩
  ·rw [Below.heap_setCell _ _ _ _ (by simp), Below.heap_setCell _ _ _ _ (by simp)]; exact j1
  ·rw [addR_snoc]; exact set2 j2 _ _
  ·rw [addR_snoc]; exact hr1
 case done =>
  rintro D ys W hD rfl ⟨i1, i2, i3, i4⟩ hDK
  obtain ⟨p1, p2, p3, p4⟩ := cells2 i1
  obtain ⟨q1, q2, q3, q4⟩ := cells2 i2
  gi_wp2
  have hDD : ((W.setCell ⟨w.heap.size, 0, none⟩ (.int .i64 (addR ys).1)).setCell ⟨w.heap.size, 1, none⟩ (.int .i64 (addR ys).2)).heap[D]? = some (.deferred (some [])) :=
   (KeepsOthers.setCell _ _ _).same D _ ((KeepsOthers.setCell _ _ _).same D _ hDK rfl) rfl
  have hfin := set2 i1 (.int .i64 (addR ys).1) (.int .i64 (addR ys).2)
  refine ⟨by simp, .inl ⟨_, _, rfl, run_takeDeferred hDD, ?_⟩⟩
  have hne : w.heap.size ≠ D := by omega
  have hfin2 : (World.putObj ((W.setCell ⟨w.heap.size, 0, none⟩ (.int .i64 (addR ys).1)).setCell ⟨w.heap.size, 1, none⟩ (.int .i64 (addR ys).2)) D (.deferred none)).heap[w.heap.size]? = some (.cells #[.int .i64 (addR ys).1, .int .i64 (addR ys).2] 237 (0, 0)) :=
   (World.putObj_heap_other hne).trans hfin
  obtain ⟨k1, k2, k3, k4⟩ := cells2 hfin2
  refine ⟨encW (addR ys), ?_, ⟨rfl, i3⟩, ?_⟩
  ·simp [results, Tryz.f232, go_sem, k1, k2, encW]
  ·have h1 : Below w.heap.size W ((W.setCell ⟨w.heap.size, 0, none⟩ (.int .i64 (addR ys).1)).setCell ⟨w.heap.size, 1, none⟩ (.int .i64 (addR ys).2)) :=
    ((Below.refl _ W).setCell (p := ⟨w.heap.size, 0, none⟩) (Nat.le_refl _) _).setCell (p := ⟨w.heap.size, 1, none⟩) (Nat.le_refl _) _
   exact (i4.trans h1).grown (grownBy_putObj' _ D (.deferred none)) (by have := i4.size; have := h1.size; omega) (fun r e => by cases e; omega)
 case stop =>
  rintro D c pre W _ _ h _
  exact h.elim
set_option maxHeartbeats 1000000 in
theorem eachB_mk (n : Nat) (N : Nat) (caps : Array Value) (w : World) :
  CallsIn Fence.wide n Tryz.prog 288 #[.int .i64 N, .func (.func 289) #[] caps] w fun e w' => e = .returned (.func (.func 319) #[] #[.pointer (some ⟨w.heap.size, 0, none⟩), .pointer (some ⟨w.heap.size + 1, 0, none⟩)]) ∧ w' = (w.alloc (.cells #[.int .i64 N] 3)).alloc (.cells #[.func (.func 289) #[] caps] 118) := by
 refine callsIn_of_wp Tryz.func288 rfl trivial ?_ rfl
 simp only [Tryz.ntmps288, List.size_toArray, List.length_cons, List.length_nil, Nat.reduceAdd, Nat.reduceSub, Array.replicate_succ, Array.replicate_zero, List.push_toArray, List.append_toArray, List.nil_append, List.cons_append]
 gi_wp2
 go_ret
 exact ⟨rfl, rfl⟩
set_option maxRecDepth 100000 in
set_option maxHeartbeats 4000000 in
theorem changedB_in (b off cap : Nat) (N : Nat) (xs : List Bool) (w : World) (hN : xs.length = N) (hlen : N ≤ 1000)
  (hF : ∀ (i : Nat) v, xs[i]? = some v → ∀ W, Below w.heap.size w W → W.heap[w.heap.size]? = some (.cells #[.slice (some ⟨b, off, none⟩) N cap] 93 (0, 0)) → Calls Tryz.prog 289 #[.int .i64 i, .pointer (some ⟨w.heap.size, 0, none⟩)] W fun e W' => e = .returned (.bool v) ∧ Below W.heap.size W W') :
  CallsIn Fence.wide 5 Tryz.prog 234 #[.slice (some ⟨b, off, none⟩) N cap] w fun e w' => e = .returned (.bool (xs.any id)) ∧ Below w.heap.size w w' := by
 refine callsIn_of_wp_marks Tryz.func234 rfl trivial ?_ rfl
 simp only [Tryz.ntmps234, List.size_toArray, List.length_cons, List.length_nil, Nat.reduceAdd, Nat.reduceSub, Array.replicate_succ, Array.replicate_zero, List.push_toArray, List.append_toArray, List.nil_append, List.cons_append]
 gi_wp2
 obtain ⟨W2, hW2⟩ : ∃ W2, W2 = (w.alloc (.cells #[.slice (some ⟨b, off, none⟩) N cap] 93)).alloc (.cells #[.bool false] 4) := ⟨_, rfl⟩
 have hb2 : Below w.heap.size w W2 := by rw [hW2]; exact (((Below.refl _ w).alloc (Nat.le_refl _) _).alloc (by simp) _)
 have hs2 : W2.heap.size = w.heap.size + 2 := by rw [hW2]; simp
 have hl2 : W2.heap[w.heap.size]? = some (.cells #[.slice (some ⟨b, off, none⟩) N cap] 93 (0, 0)) := by
  rw [hW2, Below.heap_alloc _ _ _ (by simp)]; exact World.alloc_heap_new w _
 have hr2 : W2.heap[w.heap.size + 1]? = some (.cells #[.bool false] 4 (0, 0)) := by
  have := World.alloc_heap_new (w.alloc (.cells #[.slice (some ⟨b, off, none⟩) N cap] 93)) (.cells #[.bool false] 4)
  rw [World.size_alloc] at this
  rw [hW2]; exact this
 simp only [← hW2]
 clear hW2
 refine ⟨trivial, (eachB_mk 4 N _ W2).mono ?_⟩
 rintro e W3' ⟨rfl, hW3⟩
 have hb3 : Below W2.heap.size W2 W3' := by rw [hW3]; exact (((Below.refl _ W2).alloc (Nat.le_refl _) _).alloc (by simp) _)
 have hs3 : W3'.heap.size = W2.heap.size + 2 := by rw [hW3]; simp
 have hn3 : W3'.cell? ⟨W2.heap.size, 0, none⟩ = some (.int .i64 N) := by
  rw [hW3]; exact cell_alloc_o _ (cell_new_o W2 #[.int .i64 N] 3 0 _ rfl)
 have hf3 : W3'.cell? ⟨W2.heap.size + 1, 0, none⟩ = some (.func (.func 289) #[] #[.pointer (some ⟨w.heap.size, 0, none⟩)]) := by
  have := cell_new_o (W2.alloc (.cells #[.int .i64 N] 3)) #[.func (.func 289) #[] #[.pointer (some ⟨w.heap.size, 0, none⟩)]] 118 0 _ rfl
  rw [World.size_alloc] at this
  rw [hW3]; exact this
 clear hW3
 have hl3 := (hb3.block _ (by omega)).trans hl2
 have hr3 := (hb3.block _ (by omega)).trans hr2
 gi_wp2
 have hw3 : Below w.heap.size w W3' := hb2.trans (hb3.mono (by omega))
 refine wpIn_rangeFunc_ownF rfl (by omega) (gf := 319) (lb := #[.pointer (some ⟨w.heap.size + 2, 0, none⟩), .pointer (some ⟨w.heap.size + 2 + 1, 0, none⟩)]) rfl trivial (enters_of Tryz.func319 (by kernel_rfl) rfl)
  (α := Bool) (encs := fun x => #[.bool x]) (Kp := Below W3'.heap.size) (S := fun ys => ys = xs) (Sp := fun pre => pre <+: xs) (N := xs.length) (w0 := W3')
  (fun l J Jx W hW hJ hJx hY h0 => ?seq) belowK_t (belowK_b (by omega)) (Below.refl _ _) (fun _ => rfl)
  (fun pre W => pre.any id = false ∧ (W.heap[w.heap.size + 1]? = some (.cells #[.bool false] 4 (0, 0)) ∧ Below w.heap.size w W))
  (fun c pre W => (c = .ret ∧ pre.any id = true) ∧ (W.heap[w.heap.size + 1]? = some (.cells #[.bool true] 4 (0, 0)) ∧ Below w.heap.size w W))
  (OwnFrom.and (ownFrom_pure _ _) (OwnFrom.and (own_heap _ _ _ (fun _ => rfl)) (ownFrom_below (by omega) (by omega))))
  (fun c => OwnFrom.and (ownFrom_pure _ _) (OwnFrom.and (own_heap _ _ _ (fun _ => rfl)) (ownFrom_below (by omega) (by omega))))
  ⟨rfl, hr3, hw3⟩
  (fun x => { tmps := #[.slice (some ⟨b, off, none⟩) N cap, .pointer (some ⟨w.heap.size, 0, none⟩), .pointer (some ⟨w.heap.size + 1, 0, none⟩), .bool x, .slice (some ⟨b, off, none⟩) N cap, .int .i64 N, .func (.func 289) #[] #[.pointer (some ⟨w.heap.size, 0, none⟩)],
    .func (.func 319) #[] #[.pointer (some ⟨w.heap.size + 2, 0, none⟩), .pointer (some ⟨w.heap.size + 2 + 1, 0, none⟩)], .bool x, undef], defers := [] }) ?assign ?body ?done ?stop
 case seq =>
  refine eachB_in (fun x : Bool => .bool x) 4 (by omega) l W3'.heap.size (w.heap.size + 2) (w.heap.size + 2 + 1) #[.pointer (some ⟨w.heap.size, 0, none⟩)] xs W (by omega) (by omega) (by omega) hW.size (fun i v hv W' hW' => ?_) J Jx hJ hY ?_ ?_ h0
  ·have h1 : Below W3'.heap.size W3' W' := hW.trans hW'
   exact hF i v hv W' (hw3.trans (h1.mono (by omega))) ((h1.block _ (by omega)).trans hl3)
  ·rw [hW.cell (p := ⟨w.heap.size + 2, 0, none⟩) (by simp; omega), hN, ← hs2]; exact hn3
  ·rw [hW.cell (p := ⟨w.heap.size + 2 + 1, 0, none⟩) (by simp; omega), ← hs2]; exact hf3
 case assign =>
  intro l x W K hK
  gi_wp2
  exact hK
 case body =>
  rintro l pre x W ⟨i1, i2, i3⟩ _
  have c1 : W.cell? ⟨w.heap.size + 1, 0, none⟩ = some (.bool false) := by simp [World.cell?, i2]
  have c2 : W.frozen? ⟨w.heap.size + 1, 0, none⟩ = false := by simp [World.frozen?, i2]
  gi_wp2
  ·have hx : x = true := by assumption
   have hlt := (Array.getElem?_eq_some_iff.1 i2).1
   refine ⟨KeepsOthers.setCell _ _ _, ⟨rfl, by rw [List.any_append, i1, hx]; rfl⟩, ?_, i3.setCell (p := ⟨w.heap.size + 1, 0, none⟩) (by simp) _⟩
   simp only [World.setCell, Array.getElem?_modify, if_true, i2, Option.map_some]; simp
  ·have hx : x = false := by assumption
   exact ⟨KeepsOthers.refl _, Below.refl _ _, by rw [List.any_append, i1, hx]; rfl, i2, i3⟩
 case done =>
  rintro D ys W hD rfl ⟨i1, i2, i3⟩ hDK
  have c1 : W.cell? ⟨w.heap.size + 1, 0, none⟩ = some (.bool false) := by simp [World.cell?, i2]
  have c2 : W.frozen? ⟨w.heap.size + 1, 0, none⟩ = false := by simp [World.frozen?, i2]
  gi_wp2
  have hK' := (KeepsOthers.setCell W ⟨w.heap.size + 1, 0, none⟩ (.bool false)).same D _ hDK rfl
  refine ⟨by simp, .inl ⟨_, _, rfl, run_takeDeferred hK', ?_⟩⟩
  have hc5 := cell_kept (World.cell?_setCell_same' W ⟨w.heap.size + 1, 0, none⟩ (.bool false) (by rw [c1]; rfl)) (grownBy_putObj' _ D (.deferred none)) (fun r e => by cases e; exact ⟨_, hK', rfl⟩)
  refine ⟨.bool false, ?_, by rw [i1], ?_⟩
  ·simp [results, Tryz.f234, go_sem, hc5]
  ·have h1 : Below w.heap.size W (W.setCell ⟨w.heap.size + 1, 0, none⟩ (.bool false)) := (Below.refl _ W).setCell (p := ⟨w.heap.size + 1, 0, none⟩) (by simp) _
   exact (i3.trans h1).grown (grownBy_putObj' _ D (.deferred none)) (by have := i3.size; have := h1.size; omega) (fun r e => by cases e; omega)
 case stop =>
  rintro D c pre W hD hpre ⟨⟨rfl, hin⟩, i2, i3⟩ hDK
  have c1 : W.cell? ⟨w.heap.size + 1, 0, none⟩ = some (.bool true) := by simp [World.cell?, i2]
  gi_wp2
  refine ⟨by simp, .inl ⟨_, _, rfl, run_takeDeferred hDK, ?_⟩⟩
  have hc5 := cell_kept c1 (grownBy_putObj' _ D (.deferred none)) (fun r e => by cases e; exact ⟨_, hDK, rfl⟩)
  refine ⟨.bool true, ?_, ?_, ?_⟩
  ·simp [results, Tryz.f234, go_sem, hc5]
  ·obtain ⟨t, rfl⟩ := hpre
   rw [List.any_append, hin]; rfl
  ·exact i3.grown (grownBy_putObj' _ D (.deferred none)) (by have := i3.size; omega) (fun r e => by cases e; omega)
end Go.Proofs.YtdchdajjhofmnaaGreat
