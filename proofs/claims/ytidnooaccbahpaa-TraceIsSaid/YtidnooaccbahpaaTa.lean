/- The acts of a history: what one looks like in memory; the tests of one act, as calls. -/
import Derived.Test.YtidnooaccbahpaaProg
import Derived.Test.YtidnooaccbahpaaEnv
import Derived.WalkKit
import Derived.WalkSpells
import Derived.WalkLawsBesides
import Derived.OneCell
import Derived.OwnWalk
import Derived.Lib.SliceRun
import Derived.Deep.LoopGhost
set_option linter.unusedVariables false
set_option linter.unusedSimpArgs false
namespace Go.Proofs.Ytidnooaccbahpaa
open Go.RowKit Go.Proofs Go.Sx
/-- one act -/
structure A where
  w : Bool
  v : Int
  fr : Int
  to : Int
deriving DecidableEq
instance : Inhabited A := ⟨⟨false, 0, 0, 0⟩⟩
def enc (x : A) : List Value := [.bool x.w, .int .i64 x.v, .int .i64 x.fr, .int .i64 x.to]
def badB (x : A) : Bool := decide (x.fr < 0) || decide (x.fr ≥ x.to) || decide (x.to > 1099511627776)
set_option maxHeartbeats 1000000 in
theorem bad_calls (x : A) (W : World) : Calls Try.prog 21 #[.agg (enc x).toArray] W fun e w' => e = .returned (.bool (badB x)) ∧ Below W.heap.size W w' := by
  obtain ⟨xw, xv, xf, xt⟩ := x
  unfold enc badB
  simp only []
  go_enter Try.func21, Try.ntmps21
  go_wp2
  all_goals go_ret
  · refine ⟨?_, (Below.refl _ _).alloc (Nat.le_refl _) _⟩
    rename_i h1 h2
    simp [show ¬ xf < 0 by omega, show ¬ xt ≤ xf by omega]
  · exact ⟨by simp_all, (Below.refl _ _).alloc (Nat.le_refl _) _⟩
  · exact ⟨by simp_all, (Below.refl _ _).alloc (Nat.le_refl _) _⟩
/-- waits: an act that was over ahead of x -/
theorem waits_calls (bx : Nat) (x y : A) (W : World) (hx : ∀ j u, (enc x)[j]? = some u → W.cell? ⟨bx, j, none⟩ = some u) : Calls Try.prog 17 #[.agg (enc y).toArray, .pointer (some ⟨bx, 0, none⟩)] W fun e w' => e = .returned (.bool (decide (y.to < x.fr))) ∧ Below W.heap.size W w' := by
  obtain ⟨xw, xv, xf, xt⟩ := x
  obtain ⟨yw, yv, yf, yt⟩ := y
  have c2 : W.cell? ⟨bx, 2, none⟩ = some (.int .i64 xf) := hx 2 _ rfl
  have c2' : (W.alloc (.cells (enc ⟨yw, yv, yf, yt⟩).toArray 32)).cell? ⟨bx, 2, none⟩ = some (.int .i64 xf) := (World.grownBy_alloc W _ none).cell c2 (by simp)
  clear hx
  unfold enc at c2' ⊢
  simp only [] at c2' ⊢
  go_enter Try.func17, Try.ntmps17
  go_wp2
  all_goals go_ret
  all_goals exact ⟨rfl, (Below.refl _ _).alloc (Nat.le_refl _) _⟩
/-- acts that lie at a place -/
def At (w : World) (b off : Nat) (zs : List A) : Prop := b < w.heap.size ∧ ∀ j, j < zs.length → ∀ i u, (enc zs[j]!)[i]? = some u → w.cell? ⟨b, off + j * 4 + i, none⟩ = some u
theorem At.below {w w' : World} {b off : Nat} {zs : List A} (h : At w b off zs) (hb : Below w.heap.size w w') : At w' b off zs :=
  ⟨Nat.lt_of_lt_of_le h.1 hb.size, fun j hj i u hu => (hb.cell (p := ⟨b, off + j * 4 + i, none⟩) h.1).trans (h.2 j hj i u hu)⟩
theorem At.four {w : World} {b off : Nat} {zs : List A} (h : At w b off zs) {j : Nat} (hj : j < zs.length) {y : A} (hy : zs[j]! = y) :
    w.cell? ⟨b, off + j * 4, none⟩ = some (.bool y.w) ∧ w.cell? ⟨b, off + j * 4 + 1, none⟩ = some (.int .i64 y.v) ∧ w.cell? ⟨b, off + j * 4 + 2, none⟩ = some (.int .i64 y.fr) ∧ w.cell? ⟨b, off + j * 4 + 3, none⟩ = some (.int .i64 y.to) := by
  subst hy
  exact ⟨h.2 j hj 0 _ rfl, h.2 j hj 1 _ rfl, h.2 j hj 2 _ rfl, h.2 j hj 3 _ rfl⟩
/-- what is asked of a test that lays blocks of its own -/
def TestB (g : Nat) (lb : Array Value) (p : A → Bool) (w : World) : Prop :=
  ∀ (W : World) (x : A), Below w.heap.size w W → Calls Try.prog g (#[.agg (enc x).toArray] ++ lb) W fun e w' => e = .returned (.bool (p x)) ∧ Below w.heap.size w w'
def anyTo (p : A → Bool) (zs : List A) (n : Nat) : Bool := (zs.take n).any p
theorem index_calls (p : A → Bool) (g : Nat) (lb : Array Value) (eg : ∀ args w, (callFunc g args).run Try.prog w = .ok (.enter g args) w) (b off c : Nat) (zs : List A) (w : World)
    (hp : TestB g lb p w) (hbig : zs.length ≤ 9223372036854775807) (hat : At w b off zs) :
    Calls Try.prog 25 #[.slice (some ⟨b, off, none⟩) zs.length c, .func (.func g) #[] lb] w fun e w' => (∃ k : Int, e = .returned (.int .i64 k) ∧ decide (k ≥ 0) = zs.any p) ∧ Below w.heap.size w w' := by
  obtain ⟨n, hn⟩ : ∃ n, n = zs.length := ⟨_, rfl⟩
  rw [← hn] at hbig ⊢
  have HN : Hid (n = zs.length) := hn
  clear hn
  have HA : Hid (At w b off zs) := hat
  clear hat
  go_enter Try.func25, Try.ntmps25
  go_wp2
  go_loopw [5, 8] (fun _ s8 wr => ∃ kk : Nat, kk ≤ n ∧ s8 = .int .i64 kk ∧ Hid (Below w.heap.size w wr) ∧ Hid (∀ j, j < kk → p zs[j]! = false)) (fun _ i _ => n - (intOf i).toNat)
  case atStart => exact ⟨0, Nat.zero_le _, rfl, Below.refl _ w, fun j hj => absurd hj (Nat.not_lt_zero _)⟩
  case round =>
    obtain ⟨kk, hkk, rfl, BW, AA⟩ := hrel
    by_cases hlt : kk < n
    · have hcall := hp wr zs[kk]! BW.out
      obtain ⟨y, hy⟩ : ∃ y, zs[kk]! = y := ⟨_, rfl⟩
      obtain ⟨l0, l1, l2, l3⟩ := (HA.out.below BW.out).four (by rw [← HN.out]; exact hlt) hy
      rw [hy] at hcall
      have BB : Hid (zs[kk]! = y) := hy
      clear hy hp
      unfold enc at hcall
      cases hq : p y with
      | true =>
        rw [hq] at hcall
        go_wp2_with (go_at_fn g; refine hcall.mono ?_; rintro e w' ⟨rfl, hb'⟩)
        go_ret
        refine ⟨⟨_, rfl, ?_⟩, hb'⟩
        rw [show zs.any p = true from List.any_eq_true.2 ⟨y, by rw [← BB.out, getElem!_pos zs kk (by rw [← HN.out]; exact hlt)]; exact List.getElem_mem _, hq⟩]
        simp
      | false =>
        rw [hq] at hcall
        go_wp2_with (go_at_fn g; refine hcall.mono ?_; rintro e w' ⟨rfl, hb'⟩)
        go_roundw
        case measure => simp [intOf]; omega
        case rel =>
          refine ⟨kk + 1, by omega, by go_num, hb', (show Hid _ from fun j hj => ?_)⟩
          by_cases e : j = kk
          · subst e
            rw [BB.out]; exact hq
          · exact AA.out j (by omega)
    · have : kk = n := by omega
      subst this
      go_wp2
      go_ret
      refine ⟨⟨_, rfl, ?_⟩, BW.out⟩
      rw [show zs.any p = false from List.any_eq_false.2 fun x hx => by
        obtain ⟨j, hj, rfl⟩ := List.getElem_of_mem hx
        have := AA.out j (by rw [HN.out]; exact hj)
        rw [getElem!_pos zs j hj] at this
        simpa using this]
      rfl
theorem index_none (p : Option Addr) (c g : Nat) (lb : Array Value) (w : World) : Calls Try.prog 25 #[.slice p 0 c, .func (.func g) #[] lb] w fun e w' => e = .returned (.int .i64 (-1)) ∧ Below w.heap.size w w' := by
  go_enter Try.func25, Try.ntmps25
  go_wp2
  refine wp_loop_rounds 1 ?_; rw [rounds_succ]; go_wp2
  go_ret
  exact ⟨rfl, Below.refl _ _⟩
end Go.Proofs.Ytidnooaccbahpaa
