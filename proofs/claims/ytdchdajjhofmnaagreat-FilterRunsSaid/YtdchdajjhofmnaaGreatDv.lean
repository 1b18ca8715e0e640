/- The division of the reference, round by round. -/
import Derived.Test.YtdchdajjhofmnaaGreatProg
import Derived.WalkKit
import Derived.WalkSpells
import Derived.WalkLawsBesides
import Derived.Test.YtdchdajjhofmnaaGreatP0
namespace Go.Proofs.YtdchdajjhofmnaaGreat
open Go.RowKit Go.Proofs Go.Sx
def dbit (x : Int) (i : Nat) : Int := if 32 ≤ i then x / 2 ^ min (i - 32) 64 % 2 else 0
theorem dbit_hi (x : Int) (k : Nat) (h : k ≤ 58) : dbit x (90 - k) = bits BinOp.and IntKind.i64 (x / 2 ^ (90 - k - 32)) 1 := by
 unfold dbit
 rw [if_pos (by omega), show min (90 - k - 32) 64 = 90 - k - 32 by omega]
 exact (and_mask (k := .i64) (.inl rfl) (x / 2 ^ (90 - k - 32)) 1 (by omega) 1 rfl).symm
theorem ww (n : Int) : wrap64 n = IntKind.i64.wrap n := by unfold wrap64; exact (w64 n).symm
def dstep (y bit : Int) (s : Int × Int) : Int × Int :=
 let r := IntKind.i64.wrap (IntKind.i64.wrap (2 * s.2) + bit)
 let q := mnI (IntKind.i64.wrap (2 * s.1)) 576460752303423488
 if y ≤ r then (IntKind.i64.wrap (q + 1), IntKind.i64.wrap (r - y)) else (q, r)
theorem dstep_ge {y b q r : Int} (h : y ≤ wrap64 (wrap64 (2 * r) + b)) : dstep y b (q, r) = (wrap64 ((if 576460752303423488 < wrap64 (2 * q) then 576460752303423488 else wrap64 (2 * q)) + 1), wrap64 (wrap64 (wrap64 (2 * r) + b) - y)) := by
 unfold dstep
 simp only [ww] at h ⊢
 rw [if_pos h]; rfl
theorem dstep_lt {y b q r : Int} (h : wrap64 (wrap64 (2 * r) + b) < y) : dstep y b (q, r) = ((if 576460752303423488 < wrap64 (2 * q) then 576460752303423488 else wrap64 (2 * q)), wrap64 (wrap64 (2 * r) + b)) := by
 unfold dstep
 simp only [ww] at h ⊢
 rw [if_neg (Int.not_le.2 h)]; rfl
def drun (x y : Int) : Nat → Int × Int
 | 0 => (0, 0)
 | k + 1 => dstep y (dbit x (90 - k)) (drun x y k)
theorem drun_next {x y q r : Int} {k : Nat} (hq : q = (drun x y k).1) (hr : r = (drun x y k).2) : drun x y (k + 1) = dstep y (dbit x (90 - k)) (q, r) := by rw [hq, hr]; rfl
set_option maxHeartbeats 1000000 in
theorem divide_any (x y : Int) (w : World) :
  Calls Tryz.prog 272 #[.int .i64 x, .int .i64 y] w fun e w' => e = .returned (.tuple #[.int .i64 (drun x y 91).1, .int .i64 (drun x y 91).2]) ∧ w' = w := by
 go_enter Tryz.func272, Tryz.ntmps272
 go_wp2
 go_loop [6, 7, 8, 9] (fun q r i b => ∃ k : Nat, k ≤ 91 ∧ i = .int .i64 (90 - k) ∧ q = .int .i64 (drun x y k).1 ∧ r = .int .i64 (drun x y k).2) (fun _ _ i _ => (intOf i + 1).toNat)
 case atStart => exact ⟨0, by omega, rfl, rfl, rfl⟩
 case round =>
  obtain ⟨k, hk, rfl, rfl, rfl⟩ := hrel
  obtain ⟨q, hq⟩ : ∃ q, q = (drun x y k).1 := ⟨_, rfl⟩
  obtain ⟨r, hr⟩ : ∃ q, q = (drun x y k).2 := ⟨_, rfl⟩
  rw [← hq, ← hr]
  have HQ : Hid (q = (drun x y k).1) := hq
  have HR : Hid (r = (drun x y k).2) := hr
  clear hq hr
  go_wp2
  go_wp2
  ·have h1 : (k : Int) ≤ 90 := by assumption
   have h2 : 32 ≤ 90 - (k : Int) := by assumption
   have hb : dbit x (90 - k) = bits BinOp.and IntKind.i64 (x / 2 ^ (90 - k - 32)) 1 := dbit_hi x k (by omega)
   have h3 : y ≤ wrap64 (wrap64 (2 * r) + bits BinOp.and IntKind.i64 (x / 2 ^ (90 - k - 32)) 1) := by assumption
   have e := drun_next HQ.out HR.out
   rw [hb, dstep_ge h3] at e
   go_round
   case rel => exact ⟨k + 1, by omega, by go_num, by rw [e], by rw [e]⟩
   case measure => simp [intOf]; omega
  ·have h1 : (k : Int) ≤ 90 := by assumption
   have h2 : 32 ≤ 90 - (k : Int) := by assumption
   have hb : dbit x (90 - k) = bits BinOp.and IntKind.i64 (x / 2 ^ (90 - k - 32)) 1 := dbit_hi x k (by omega)
   have h3 : wrap64 (wrap64 (2 * r) + bits BinOp.and IntKind.i64 (x / 2 ^ (90 - k - 32)) 1) < y := by assumption
   have e := drun_next HQ.out HR.out
   rw [hb, dstep_lt h3] at e
   go_round
   case rel => exact ⟨k + 1, by omega, by go_num, by rw [e], by rw [e]⟩
   case measure => simp [intOf]; omega
  ·have h1 : (k : Int) ≤ 90 := by assumption
   have h2 : 90 - (k : Int) < 32 := by assumption
   have hb : dbit x (90 - k) = 0 := by unfold dbit; rw [if_neg (by omega)]
   have h3 : y ≤ wrap64 (wrap64 (2 * r)) := by assumption
   have e := drun_next HQ.out HR.out
   rw [hb, dstep_ge (by rw [Int.add_zero]; exact h3), Int.add_zero] at e
   go_round
   case rel => exact ⟨k + 1, by omega, by go_num, by rw [e], by rw [e]⟩
   case measure => simp [intOf]; omega
  ·have h1 : (k : Int) ≤ 90 := by assumption
   have h2 : 90 - (k : Int) < 32 := by assumption
   have hb : dbit x (90 - k) = 0 := by unfold dbit; rw [if_neg (by omega)]
   have h3 : wrap64 (wrap64 (2 * r)) < y := by assumption
   have e := drun_next HQ.out HR.out
   rw [hb, dstep_lt (by rw [Int.add_zero]; exact h3), Int.add_zero] at e
   go_round
   case rel => exact ⟨k + 1, by omega, by go_num, by rw [e], by rw [e]⟩
   case measure => simp [intOf]; omega
  ·have h1 : 90 < (k : Int) := by assumption
   have hk91 : k = 91 := by omega
   subst hk91
   rw [HQ.out, HR.out]
   go_ret2
   exact ⟨rfl, rfl⟩
end Go.Proofs.YtdchdajjhofmnaaGreat
