/- slices.Values' iterator, slices.AppendSeq, slices.Collect and slices.Sorted over it, as calls. -/
import Derived.Test.YtidnooaccbahpaaTf
import Derived.Test.YtidnooaccbahpaaSh
import Derived.WalkKit
import Derived.WalkSpells
import Derived.WalkLawsBesides
import Derived.RangeFuncFrom
import Derived.RangeFuncLeaves
import Derived.RangeFuncNested
import Derived.RangeFuncCalls
import Derived.OwnWalkIn
import Derived.TacticsInMore
import Derived.LoopNIn
import Derived.LoopIn
import Derived.Sort.OwnSortedInts
set_option linter.unusedVariables false
set_option linter.unusedSimpArgs false
namespace Go.Proofs.Ytidnooaccbahpaa
open Go.RowKit Go.Proofs Go.Sx
def encI (x : Int) : Value := .int .i64 x
theorem below_asGrown {w w' : World} (h : Below w.heap.size w w') : w.grownBy w' none := ⟨h.os, h.tape, h.output, h.size, fun k hk _ => h.block k hk⟩
/-- a slice of numbers that lie below a block number -/
def IntsAt (w : World) (n0 : Nat) (p : Option Addr) (xs : List Int) : Prop := xs = [] ∨ ∃ b off, p = some ⟨b, off, none⟩ ∧ b < n0 ∧ ∀ (i : Nat) v, xs[i]? = some v → w.cell? ⟨b, off + i, none⟩ = some (.int .i64 v)
theorem IntsAt.below {w w' : World} {n0 : Nat} {p : Option Addr} {xs : List Int} (h : IntsAt w n0 p xs) (hb : Below n0 w w') : IntsAt w' n0 p xs := by
  rcases h with h | ⟨b, off, rfl, hb0, hc⟩
  · exact .inl h
  · exact .inr ⟨b, off, rfl, hb0, fun i v hv => (hb.cell (p := ⟨b, off + i, none⟩) hb0).trans (hc i v hv)⟩
set_option maxRecDepth 100000 in
set_option maxHeartbeats 1000000 in
/-- the iterator of slices.Values -/
theorem values_in (n : Nat) (hn : 1 ≤ n) (l n0 bx c : Nat) (p : Option Addr) (xs : List Int) (w : World) (hlen : xs.length ≤ 4611686018427387904) (_hbx : bx < n0) (_hn0 : n0 ≤ w.heap.size)
    (hF : IntsAt w n0 p xs)
    (J Jx : List Int → World → Prop)
    (hY : ∀ pre x W, J pre W → pre.length < xs.length → YieldAt Fence.wide (n - 1) Try.prog l #[encI x] W fun e W' =>
      (e = .returned (.bool true) ∧ J (pre ++ [x]) W' ∧ Below n0 W W') ∨ (e = .returned (.bool false) ∧ Jx (pre ++ [x]) W'))
    (c0 : w.cell? ⟨bx, 0, none⟩ = some (.slice p xs.length c)) (h0 : J [] w) :
    CallsIn Fence.wide n Try.prog 28 #[.func (.yield l) #[] #[], .pointer (some ⟨bx, 0, none⟩)] w fun e W' => (∃ v, e = .returned v) ∧
      ((∃ ys, ys = xs ∧ J ys W') ∨ (∃ pre, pre <+: xs ∧ Jx pre W')) := by
  obtain ⟨N, hN⟩ : ∃ N, N = xs.length := ⟨_, rfl⟩
  rw [← hN] at hlen c0
  have HN : Hid (N = xs.length) := hN
  have HF : Hid (IntsAt w n0 p xs) := hF
  have HY : Hid (∀ pre x W, J pre W → pre.length < xs.length → YieldAt Fence.wide (n - 1) Try.prog l #[encI x] W fun e W' =>
      (e = .returned (.bool true) ∧ J (pre ++ [x]) W' ∧ Below n0 W W') ∨ (e = .returned (.bool false) ∧ Jx (pre ++ [x]) W')) := hY
  clear hN hF hY
  refine callsIn_of_wp Try.func28 rfl trivial ?_ rfl
  simp only [Try.ntmps28, List.size_toArray, List.length_cons, List.length_nil, Nat.reduceAdd, Nat.reduceSub, Array.replicate_succ, Array.replicate_zero, List.push_toArray, List.append_toArray, List.nil_append, List.cons_append]
  gi_wp2
  gi_loopw [7] (fun i wr => ∃ k : Nat, k ≤ N ∧ i = .int .i64 k ∧ J (xs.take k) wr ∧ Hid (Below n0 w wr)) (fun i _ => N - (intOf i).toNat)
  case atStart => exact ⟨0, by omega, rfl, by simpa using h0, Below.refl _ _⟩
  case round =>
    clear c0
    obtain ⟨k, hk, rfl, hJk, hbw⟩ := hrel
    by_cases hlt : k < N
    · obtain ⟨x, hx⟩ : ∃ x, xs[k]? = some x := ⟨xs[k]'(by rw [← HN.out]; exact hlt), List.getElem?_eq_getElem _⟩
      have ht : xs.take (k + 1) = xs.take k ++ [x] := by rw [List.take_add_one, hx]; rfl
      have hlk : (xs.take k).length < xs.length := by rw [List.length_take, ← HN.out]; omega
      have hd : ∃ b off, p = some ⟨b, off, none⟩ ∧ wr.cell? ⟨b, off + k, none⟩ = some (.int .i64 x) := by
        rcases HF.out.below hbw.out with h | ⟨b, off, rfl, _, hc⟩
        · rw [h] at hx; simp at hx
        · exact ⟨b, off, rfl, hc k x hx⟩
      obtain ⟨b, off, rfl, d1⟩ := hd
      obtain ⟨fn, tmps, assign, body, hy, hR⟩ := HY.out (xs.take k) x wr hJk hlk
      unfold encI at hy
      have HT : Hid (xs.take (k + 1) = xs.take k ++ [x]) := ht
      clear hx ht hlk
      gi_wp2
      refine hR.mono ?_
      rintro e W3 (⟨rfl, hJ3, hk3⟩ | ⟨rfl, hJx3⟩)
      · gi_wp2
        go_roundw
        case rel => exact ⟨k + 1, by omega, by go_num, by rw [HT.out]; exact hJ3, hbw.out.trans hk3⟩
        case measure => simp [intOf]; omega
      · gi_wp2
        refine bodyPost_ret (results_none rfl _ _ _) rfl ?_
        exact ⟨⟨_, rfl⟩, .inr ⟨xs.take k ++ [x], by rw [← HT.out]; exact List.take_prefix _ _, hJx3⟩⟩
    · have hkN : k = N := by omega
      subst hkN
      have hte : xs.take k = xs := by rw [HN.out]; exact List.take_length
      rw [hte] at hJk
      gi_wp2
      go_end0
      exact ⟨⟨_, rfl⟩, .inl ⟨xs, rfl, hJk⟩⟩
end Go.Proofs.Ytidnooaccbahpaa
