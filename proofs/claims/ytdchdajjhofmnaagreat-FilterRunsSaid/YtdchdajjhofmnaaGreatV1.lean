import Derived.Test.YtdchdajjhofmnaaGreatProg
import Derived.Test.YtdchdajjhofmnaaGreatEnv
import Derived.WalkKit
import Derived.WalkSpells
import Derived.WalkLawsBesides
import Derived.RangeFuncFrom
import Derived.RangeFuncLeaves
import Derived.OwnWalkIn
import Derived.TacticsInMore
import Derived.LoopNIn
import Derived.LoopIn
namespace Go.Proofs.YtdchdajjhofmnaaGreat
open Go.RowKit Go.Proofs Go.Sx
theorem cell_alloc_o {W : World} {a : Addr} {v : Value} (o : Obj) (h : W.cell? a = some v) : (W.alloc o).cell? a = some v := cell_kept h (World.grownBy_alloc W o none) (fun r e => by cases e)
theorem cell_new_o (W : World) (cs : Array Value) (t : TypeId) (i : Nat) (v : Value) (h : cs[i]? = some v) : (W.alloc (.cells cs t)).cell? ⟨W.heap.size, i, none⟩ = some v := by
 have := World.alloc_heap_new W (.cells cs t)
 unfold World.cell?; rw [this]; exact h
theorem frozen_new_o (W : World) (cs : Array Value) (t : TypeId) (i : Nat) : (W.alloc (.cells cs t)).frozen? ⟨W.heap.size, i, none⟩ = false := by
 have := World.alloc_heap_new W (.cells cs t)
 unfold World.frozen?; rw [this]; simp
theorem below_asGrown {w w' : World} (h : Below w.heap.size w w') : w.grownBy w' none := ⟨h.os, h.tape, h.output, h.size, fun k hk _ => h.block k hk⟩
set_option maxRecDepth 100000 in
set_option maxHeartbeats 1000000 in
/-- the iterator of sum.each over wide numbers -/
theorem eachW_in {α : Type} (enc : α → Value) (n : Nat) (hn : 1 ≤ n) (l n0 nb fb : Nat) (caps : Array Value) (xs : List α) (w : World) (hlen : xs.length ≤ 1000) (_hnb : nb < n0) (hfb : fb < n0) (hn0 : n0 ≤ w.heap.size)
  (hF : ∀ (i : Nat) v, xs[i]? = some v → ∀ W, Below n0 w W → Calls Tryz.prog 287 (#[.int .i64 i] ++ caps) W fun e W' => e = .returned (enc v) ∧ Below W.heap.size W W')
  (J Jx : List α → World → Prop) (hJ : AbidesFrom w.heap.size J)
  (hY : ∀ pre x W, J pre W → pre.length < xs.length → YieldAt Fence.wide (n - 1) Tryz.prog l #[enc x] W fun e W' =>
   (e = .returned (.bool true) ∧ J (pre ++ [x]) W' ∧ Below n0 W W') ∨ (e = .returned (.bool false) ∧ Jx (pre ++ [x]) W'))
  (c0 : w.cell? ⟨nb, 0, none⟩ = some (.int .i64 xs.length)) (c1 : w.cell? ⟨fb, 0, none⟩ = some (.func (.func 287) #[] caps)) (h0 : J [] w) :
  CallsIn Fence.wide n Tryz.prog 318 #[.func (.yield l) #[] #[], .pointer (some ⟨nb, 0, none⟩), .pointer (some ⟨fb, 0, none⟩)] w fun e W' => (∃ v, e = .returned v) ∧
   ((∃ ys, ys = xs ∧ J ys W') ∨ (∃ pre, pre <+: xs ∧ Jx pre W')) := by
 obtain ⟨N, hN⟩ : ∃ N, N = xs.length := ⟨_, rfl⟩
 rw [← hN] at hlen c0
 have HN : Hid (N = xs.length) := hN
 have HF : Hid (∀ (i : Nat) v, xs[i]? = some v → ∀ W, Below n0 w W → Calls Tryz.prog 287 (#[.int .i64 i] ++ caps) W fun e W' => e = .returned (enc v) ∧ Below W.heap.size W W') := hF
 have HY : Hid (∀ pre x W, J pre W → pre.length < xs.length → YieldAt Fence.wide (n - 1) Tryz.prog l #[enc x] W fun e W' =>
   (e = .returned (.bool true) ∧ J (pre ++ [x]) W' ∧ Below n0 W W') ∨ (e = .returned (.bool false) ∧ Jx (pre ++ [x]) W')) := hY
 clear hN hF hY
 refine callsIn_of_wp Tryz.func318 rfl trivial ?_ rfl
 simp only [Tryz.ntmps318, List.size_toArray, List.length_cons, List.length_nil, Nat.reduceAdd, Nat.reduceSub, Array.replicate_succ, Array.replicate_zero, List.push_toArray, List.append_toArray, List.nil_append, List.cons_append]
 gi_wp2
 gi_loopw [6] (fun i wr => ∃ k : Nat, k ≤ N ∧ i = .int .i64 k ∧ J (xs.take k) wr ∧ Below n0 w wr ∧ w.heap.size ≤ wr.heap.size) (fun i _ => N - (intOf i).toNat)
 case atStart => exact ⟨0, by omega, rfl, by simpa using h0, Below.refl _ _, Nat.le_refl _⟩
 case round =>
  obtain ⟨k, hk, rfl, hJk, hbw, hsz⟩ := hrel
  have d1 : wr.cell? ⟨fb, 0, none⟩ = some (.func (.func 287) #[] caps) := (hbw.cell (p := ⟨fb, 0, none⟩) hfb).trans c1
  by_cases hlt : k < N
  ·obtain ⟨x, hx⟩ : ∃ x, xs[k]? = some x := ⟨xs[k]'(by rw [← HN.out]; exact hlt), List.getElem?_eq_getElem _⟩
   have ht : xs.take (k + 1) = xs.take k ++ [x] := by rw [List.take_add_one, hx]; rfl
   have hlk : (xs.take k).length < xs.length := by rw [List.length_take, ← HN.out]; omega
   have HX : Hid (xs[k]? = some x) := hx
   have HT : Hid (xs.take (k + 1) = xs.take k ++ [x]) := ht
   have HLK : Hid ((xs.take k).length < xs.length) := hlk
   clear hx ht hlk
   gi_wp2
   refine ⟨trivial, (callsIn_wide.2 (HF.out k x HX.out wr hbw)).mono ?_⟩
   rintro e W1 ⟨rfl, hb1⟩
   have hJ1 : J (xs.take k) W1 := hJ _ _ _ none hJk (below_asGrown hb1) (fun r e => by cases e)
   have hbw1 : Below n0 w W1 := hbw.trans (hb1.mono (by omega))
   have hsz1 : wr.heap.size ≤ W1.heap.size := hb1.size
   obtain ⟨fn, tmps, assign, body, hy, hR⟩ := HY.out (xs.take k) x W1 hJ1 HLK.out
   gi_wp2
   refine hR.mono ?_
   rintro e W3 (⟨rfl, hJ3, hk3⟩ | ⟨rfl, hJx3⟩)
   ·gi_wp2
    go_roundw
    case rel => exact ⟨k + 1, by omega, by go_num, by rw [HT.out]; exact hJ3, hbw1.trans hk3, by have := hk3.size; omega⟩
    case measure => simp [intOf]; omega
   ·gi_wp2
    refine bodyPost_ret (results_none rfl _ _ _) rfl ?_
    exact ⟨⟨_, rfl⟩, .inr ⟨xs.take k ++ [x], by rw [← HT.out]; exact List.take_prefix _ _, hJx3⟩⟩
  ·have hkN : k = N := by omega
   subst hkN
   have hte : xs.take k = xs := by rw [HN.out]; exact List.take_length
   rw [hte] at hJk
   gi_wp2
   go_end0
   exact ⟨⟨_, rfl⟩, .inl ⟨xs, rfl, hJk⟩⟩
set_option maxRecDepth 100000 in
set_option maxHeartbeats 1000000 in
theorem eachB_in {α : Type} (enc : α → Value) (n : Nat) (hn : 1 ≤ n) (l n0 nb fb : Nat) (caps : Array Value) (xs : List α) (w : World) (hlen : xs.length ≤ 1000) (_hnb : nb < n0) (hfb : fb < n0) (hn0 : n0 ≤ w.heap.size)
  (hF : ∀ (i : Nat) v, xs[i]? = some v → ∀ W, Below n0 w W → Calls Tryz.prog 289 (#[.int .i64 i] ++ caps) W fun e W' => e = .returned (enc v) ∧ Below W.heap.size W W')
  (J Jx : List α → World → Prop) (hJ : AbidesFrom w.heap.size J)
  (hY : ∀ pre x W, J pre W → pre.length < xs.length → YieldAt Fence.wide (n - 1) Tryz.prog l #[enc x] W fun e W' =>
   (e = .returned (.bool true) ∧ J (pre ++ [x]) W' ∧ Below n0 W W') ∨ (e = .returned (.bool false) ∧ Jx (pre ++ [x]) W'))
  (c0 : w.cell? ⟨nb, 0, none⟩ = some (.int .i64 xs.length)) (c1 : w.cell? ⟨fb, 0, none⟩ = some (.func (.func 289) #[] caps)) (h0 : J [] w) :
  CallsIn Fence.wide n Tryz.prog 319 #[.func (.yield l) #[] #[], .pointer (some ⟨nb, 0, none⟩), .pointer (some ⟨fb, 0, none⟩)] w fun e W' => (∃ v, e = .returned v) ∧
   ((∃ ys, ys = xs ∧ J ys W') ∨ (∃ pre, pre <+: xs ∧ Jx pre W')) := by
 obtain ⟨N, hN⟩ : ∃ N, N = xs.length := ⟨_, rfl⟩
 rw [← hN] at hlen c0
 have HN : Hid (N = xs.length) := hN
 have HF : Hid (∀ (i : Nat) v, xs[i]? = some v → ∀ W, Below n0 w W → Calls Tryz.prog 289 (#[.int .i64 i] ++ caps) W fun e W' => e = .returned (enc v) ∧ Below W.heap.size W W') := hF
 have HY : Hid (∀ pre x W, J pre W → pre.length < xs.length → YieldAt Fence.wide (n - 1) Tryz.prog l #[enc x] W fun e W' =>
   (e = .returned (.bool true) ∧ J (pre ++ [x]) W' ∧ Below n0 W W') ∨ (e = .returned (.bool false) ∧ Jx (pre ++ [x]) W')) := hY
 clear hN hF hY
 refine callsIn_of_wp Tryz.func319 rfl trivial ?_ rfl
 simp only [Tryz.ntmps319, List.size_toArray, List.length_cons, List.length_nil, Nat.reduceAdd, Nat.reduceSub, Array.replicate_succ, Array.replicate_zero, List.push_toArray, List.append_toArray, List.nil_append, List.cons_append]
 gi_wp2
 gi_loopw [6] (fun i wr => ∃ k : Nat, k ≤ N ∧ i = .int .i64 k ∧ J (xs.take k) wr ∧ Below n0 w wr ∧ w.heap.size ≤ wr.heap.size) (fun i _ => N - (intOf i).toNat)
 case atStart => exact ⟨0, by omega, rfl, by simpa using h0, Below.refl _ _, Nat.le_refl _⟩
 case round =>
  obtain ⟨k, hk, rfl, hJk, hbw, hsz⟩ := hrel
  have d1 : wr.cell? ⟨fb, 0, none⟩ = some (.func (.func 289) #[] caps) := (hbw.cell (p := ⟨fb, 0, none⟩) hfb).trans c1
  by_cases hlt : k < N
  ·obtain ⟨x, hx⟩ : ∃ x, xs[k]? = some x := ⟨xs[k]'(by rw [← HN.out]; exact hlt), List.getElem?_eq_getElem _⟩
   have ht : xs.take (k + 1) = xs.take k ++ [x] := by rw [List.take_add_one, hx]; rfl
   have hlk : (xs.take k).length < xs.length := by rw [List.length_take, ← HN.out]; omega
   have HX : Hid (xs[k]? = some x) := hx
   have HT : Hid (xs.take (k + 1) = xs.take k ++ [x]) := ht
   have HLK : Hid ((xs.take k).length < xs.length) := hlk
   clear hx ht hlk
   gi_wp2
   refine ⟨trivial, (callsIn_wide.2 (HF.out k x HX.out wr hbw)).mono ?_⟩
   rintro e W1 ⟨rfl, hb1⟩
   have hJ1 : J (xs.take k) W1 := hJ _ _ _ none hJk (below_asGrown hb1) (fun r e => by cases e)
   have hbw1 : Below n0 w W1 := hbw.trans (hb1.mono (by omega))
   have hsz1 : wr.heap.size ≤ W1.heap.size := hb1.size
   obtain ⟨fn, tmps, assign, body, hy, hR⟩ := HY.out (xs.take k) x W1 hJ1 HLK.out
   gi_wp2
   refine hR.mono ?_
   rintro e W3 (⟨rfl, hJ3, hk3⟩ | ⟨rfl, hJx3⟩)
   ·gi_wp2
    go_roundw
    case rel => exact ⟨k + 1, by omega, by go_num, by rw [HT.out]; exact hJ3, hbw1.trans hk3, by have := hk3.size; omega⟩
    case measure => simp [intOf]; omega
   ·gi_wp2
    refine bodyPost_ret (results_none rfl _ _ _) rfl ?_
    exact ⟨⟨_, rfl⟩, .inr ⟨xs.take k ++ [x], by rw [← HT.out]; exact List.take_prefix _ _, hJx3⟩⟩
  ·have hkN : k = N := by omega
   subst hkN
   have hte : xs.take k = xs := by rw [HN.out]; exact List.take_length
   rw [hte] at hJk
   gi_wp2
   go_end0
   exact ⟨⟨_, rfl⟩, .inl ⟨xs, rfl, hJk⟩⟩
end Go.Proofs.YtdchdajjhofmnaaGreat
