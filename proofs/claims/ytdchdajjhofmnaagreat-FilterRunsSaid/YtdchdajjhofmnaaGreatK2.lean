/-  -/
import Derived.WalkKit
import Derived.Lib.BitFns
import Derived.Lib.ItoaNum
import Derived.Laws.MathBits
import Derived.Laws.BitsAllLaws
namespace Go.Proofs.YtdchdajjhofmnaaGreat
open Go
/-- what a digit's estimate owes: over the quotient while it is not the quotient -/
structure Knuth (Y A B X u Q : Int) : Prop where
 hY : Y = A * 4294967296 + B
 hB : 0 ≤ B
 hB1 : B < 4294967296
 hA : 2147483648 ≤ A
 hA1 : A < 4294967296
 hX : 0 ≤ X
 hXY : X < Y
 hu : 0 ≤ u
 hu1 : u < 4294967296
 hQ : Q * Y ≤ X * 4294967296 + u
 hQ1 : X * 4294967296 + u < (Q + 1) * Y
namespace Knuth
variable {Y A B X u Q q r : Int}
theorem mulY (k : Knuth Y A B X u Q) (q : Int) : q * Y = q * A * 4294967296 + q * B := by
 rw [k.hY, Int.mul_add, Int.mul_assoc]
theorem pos (k : Knuth Y A B X u Q) : 0 < Y := by have := k.hY; have := k.hA; have := k.hB; omega
theorem small (k : Knuth Y A B X u Q) : Q < 4294967296 := by
 have h1 := k.hQ; have h2 := k.hXY; have h3 := k.hu1
 have : Q * Y < 4294967296 * Y := by omega
 exact Int.lt_of_mul_lt_mul_right this (by have := k.pos; omega)
theorem nonneg (k : Knuth Y A B X u Q) : 0 ≤ Q := by
 have h1 := k.hQ1; have h2 := k.hX; have h3 := k.hu
 have h4 : 0 * Y < (Q + 1) * Y := by omega
 have := Int.lt_of_mul_lt_mul_right h4 (by have := k.pos; omega)
 omega
theorem over (k : Knuth Y A B X u Q) (he : q * A + r = X) (h : 4294967296 * r + u < q * B) : Q < q := by
 have h1 := k.mulY q; have h2 := k.hQ
 have : Q * Y < q * Y := by omega
 exact Int.lt_of_mul_lt_mul_right this (by have := k.pos; omega)
theorem is (k : Knuth Y A B X u Q) (he : q * A + r = X) (h : q * B ≤ 4294967296 * r + u) (hq : Q ≤ q) : q = Q := by
 have h1 := k.mulY q; have h2 := k.hQ1
 have : q * Y < (Q + 1) * Y := by omega
 have := Int.lt_of_mul_lt_mul_right this (by have := k.pos; omega)
 omega
theorem mulB (k : Knuth Y A B X u Q) (h0 : 0 ≤ q) (h : q ≤ 4294967296) : 0 ≤ q * B ∧ q * B ≤ 4294967296 * 4294967295 := by
 refine ⟨Int.mul_nonneg h0 k.hB, ?_⟩
 refine Int.le_trans (Int.mul_le_mul_of_nonneg_right h k.hB) ?_
 have := k.hB1; omega
theorem mulB' (k : Knuth Y A B X u Q) (h0 : 0 ≤ q) (h : q < 4294967296) : 0 ≤ q * B ∧ q * B < 18446744073709551616 := by
 have := k.mulB h0 (by omega); omega
theorem start (k : Knuth Y A B X u Q) : X / A * A + X % A = X ∧ 0 ≤ X % A ∧ X % A < 4294967296 ∧ Q ≤ X / A ∧ X / A ≤ 4294967297 ∧ 0 ≤ X / A * A ∧ X / A * A < 18446744073709551616 := by
 have hA := k.hA; have hA1 := k.hA1; have hB := k.hB; have hB1 := k.hB1
 have e : X / A * A + X % A = X := by have := Int.mul_ediv_add_emod X A; rw [Int.mul_comm]; exact this
 have r0 := Int.emod_nonneg X (b := A) (by omega)
 have r1 := Int.emod_lt_of_pos X (b := A) (by omega)
 have hX := k.hX; have hXY := k.hXY; have hY := k.hY
 have q0 : 0 ≤ X / A := Int.ediv_nonneg hX (by omega)
 refine ⟨e, r0, by omega, ?_, ?_, Int.mul_nonneg q0 (by omega), by omega⟩
 ·have h1 := k.mulY (X / A); have h2 := k.hQ; have h3 := k.hu1
  have hp : 0 ≤ X / A * B := Int.mul_nonneg q0 hB
  have h5 : (X / A + 1) * Y = X / A * Y + Y := by rw [Int.add_mul, Int.one_mul]
  have : Q * Y < (X / A + 1) * Y := by omega
  have := Int.lt_of_mul_lt_mul_right this (by have := k.pos; omega)
  omega
 ·have h6 : X / A < 4294967298 := by
   refine Int.lt_of_mul_lt_mul_right (a := A) ?_ (by omega)
   omega
  omega
theorem rest (k : Knuth Y A B X u Q) : 0 ≤ X * 4294967296 + u - Q * Y ∧ X * 4294967296 + u - Q * Y < Y := by
 have h1 := k.hQ; have h2 := k.hQ1
 rw [Int.add_mul, Int.one_mul] at h2
 omega
end Knuth
theorem wrapU {n : Int} (h0 : 0 ≤ n) (h1 : n < 18446744073709551616) : IntKind.u64.wrap n = n := by
 simp only [IntKind.wrap, IntKind.signed, IntKind.bits, Bool.false_and, Bool.false_eq_true, if_false]; omega
theorem wrapU_add (n m : Int) : IntKind.u64.wrap (IntKind.u64.wrap n + m) = IntKind.u64.wrap (n + m) := by
 simp only [IntKind.wrap, IntKind.signed, IntKind.bits, Bool.false_and, Bool.false_eq_true, if_false]; omega
theorem wrapU_mod (n : Int) : IntKind.u64.wrap n = n % 18446744073709551616 := by
 simp only [IntKind.wrap, IntKind.signed, IntKind.bits, Bool.false_and, Bool.false_eq_true, if_false]; omega
theorem lead (y : Int) (h0 : 0 < y) (h1 : y < 18446744073709551616) : ∃ s : Nat, s < 64 ∧ (64 - (Lib.bitLen y.toNat : Int)) = s ∧ 9223372036854775808 ≤ y * 2 ^ s ∧ y * 2 ^ s < 18446744073709551616 := by
 obtain ⟨n, rfl⟩ := Int.eq_ofNat_of_zero_le (by omega : 0 ≤ y)
 have hn : n < 2 ^ 64 := by omega
 have hz : n ≠ 0 := by omega
 have hb := Lib.bitLenAux_bounds 64 n hn hz
 have e : Lib.bitLen n = Lib.bitLenAux 64 n := by
  first | rfl | (unfold Lib.bitLen; exact (Lib.bitLenAux_fuel 64 n hn _ (by omega)))
 rw [← e] at hb
 have hle : Lib.bitLen n ≤ 64 := Lib.bitLen_le n 64 (by omega) hn
 refine ⟨64 - Lib.bitLen n, by omega, by simp only [Int.toNat_natCast]; omega, ?_, ?_⟩
 ·have : 2 ^ (Lib.bitLen n - 1) * 2 ^ (64 - Lib.bitLen n) ≤ n * 2 ^ (64 - Lib.bitLen n) := Nat.mul_le_mul_right _ hb.2.1
  rw [← Nat.pow_add, show Lib.bitLen n - 1 + (64 - Lib.bitLen n) = 63 by omega, show (2:Nat)^63 = 9223372036854775808 from rfl] at this
  have h2 := Int.ofNat_le.2 this
  rw [Int.natCast_mul, Int.natCast_pow] at h2; exact h2
 ·have : n * 2 ^ (64 - Lib.bitLen n) < 2 ^ Lib.bitLen n * 2 ^ (64 - Lib.bitLen n) := Nat.mul_lt_mul_of_pos_right hb.2.2 (Nat.pow_pos (by omega))
  rw [← Nat.pow_add, show Lib.bitLen n + (64 - Lib.bitLen n) = 64 by omega, show (2:Nat)^64 = 18446744073709551616 from rfl] at this
  have h2 := Int.ofNat_lt.2 this
  rw [Int.natCast_mul, Int.natCast_pow] at h2; exact h2
end Go.Proofs.YtdchdajjhofmnaaGreat
namespace Go.Proofs.YtdchdajjhofmnaaGreat
open Go
theorem Knuth.of (Y X u : Int) (hY : 9223372036854775808 ≤ Y) (hY1 : Y < 18446744073709551616) (hX : 0 ≤ X) (hXY : X < Y) (hu : 0 ≤ u) (hu1 : u < 4294967296) :
  Knuth Y (Y / 4294967296) (Y % 4294967296) X u ((X * 4294967296 + u) / Y) := by
 have e := Int.mul_ediv_add_emod (X * 4294967296 + u) Y
 have r0 := Int.emod_nonneg (X * 4294967296 + u) (b := Y) (by omega)
 have r1 := Int.emod_lt_of_pos (X * 4294967296 + u) (b := Y) (by omega)
 rw [Int.mul_comm] at e
 exact ⟨by omega, by omega, by omega, by omega, by omega, hX, hXY, hu, hu1, by omega, by rw [Int.add_mul, Int.one_mul]; omega⟩
theorem Knuth.wrapQ {Y A B X u Q : Int} (k : Knuth Y A B X u Q) : IntKind.u64.wrap (X.tdiv A) = X / A := by
 have h := k.start; have := k.hX; have := k.hA; have := k.hA1; have := k.hXY; have := k.hY; have := k.hB1
 rw [Int.tdiv_eq_ediv_of_nonneg (by omega)]
 exact wrapU (Int.ediv_nonneg (by omega) (by omega)) (by omega)
theorem Knuth.wrapR {Y A B X u Q : Int} (k : Knuth Y A B X u Q) : IntKind.u64.wrap (X - IntKind.u64.wrap (X / A * A)) = X % A := by
 have h := k.start
 rw [wrapU (n := X / A * A) (by omega) (by omega), show X - X / A * A = X % A by omega]
 exact wrapU (by omega) (by omega)
theorem Knuth.wrapX {Y A B X u Q : Int} (k : Knuth Y A B X u Q) : IntKind.u64.wrap (IntKind.u64.wrap (IntKind.u64.wrap (X * 4294967296) + u) - IntKind.u64.wrap (Q * Y)) = X * 4294967296 + u - Q * Y := by
 have h := k.rest
 have := k.hY; have := k.hA1; have := k.hB1
 have h2 : X * 4294967296 + u - Q * Y = IntKind.u64.wrap (X * 4294967296 + u - Q * Y) := (wrapU (by omega) (by omega)).symm
 rw [h2]
 simp only [wrapU_mod]
 generalize Q * Y = z at *
 omega
theorem or_top (x lo : Int) (s : Nat) (hx : 0 ≤ x) (hs : s < 64) (h : x * 2 ^ s < 18446744073709551616) (hlo : 0 ≤ lo) (hlo1 : lo < 18446744073709551616) :
  bits BinOp.or .u64 (IntKind.u64.wrap (x * 2 ^ s)) (lo / 2 ^ (64 - s)) = x * 2 ^ s + lo / 2 ^ (64 - s) ∧ lo / 2 ^ (64 - s) < 2 ^ s ∧ 0 ≤ lo / 2 ^ (64 - s) := by
 obtain ⟨a, rfl⟩ := Int.eq_ofNat_of_zero_le hx
 obtain ⟨b, rfl⟩ := Int.eq_ofNat_of_zero_le hlo
 have hb : b < 2 ^ 64 := by omega
 have e1 : (b : Int) / 2 ^ (64 - s) = ((b / 2 ^ (64 - s) : Nat) : Int) := by rw [Int.natCast_ediv, Int.natCast_pow]; rfl
 have e2 : (a : Int) * 2 ^ s = ((a * 2 ^ s : Nat) : Int) := by rw [Int.natCast_mul, Int.natCast_pow]; rfl
 have hlt : b / 2 ^ (64 - s) < 2 ^ s := by
  refine Nat.div_lt_of_lt_mul ?_
  rw [← Nat.pow_add, show 64 - s + s = 64 by omega]; exact hb
 have hle : 2 ^ s ≤ 2 ^ 63 := Nat.pow_le_pow_right (by omega) (by omega)
 have h63 : (2:Nat) ^ 63 = 9223372036854775808 := rfl
 have hor : (a * 2 ^ s ||| b / 2 ^ (64 - s)) = a * 2 ^ s + b / 2 ^ (64 - s) := by
  rw [Nat.mul_comm a]; exact (Nat.two_pow_add_eq_or_of_lt hlt a).symm
 have h3 := Int.ofNat_lt.2 hlt
 rw [Int.natCast_pow] at h3
 rw [e2] at h
 rw [e1, e2]
 clear e1 e2
 generalize b / 2 ^ (64 - s) = c at *
 generalize a * 2 ^ s = p at *
 have hc : c < 18446744073709551616 := by omega
 have hp : p < 18446744073709551616 := by omega
 have hw : IntKind.u64.wrap (p : Int) = (p : Int) := wrapU (by omega) h
 rw [hw]
 refine ⟨?_, h3, by omega⟩
 rw [u64_or_nat _ _ hp hc, hor]
 omega
theorem top_split (x lo : Int) (s : Nat) (hs : s < 64) :
  (x * 18446744073709551616 + lo) * 2 ^ s = (x * 2 ^ s + lo / 2 ^ (64 - s)) * 18446744073709551616 + IntKind.u64.wrap (lo * 2 ^ s) := by
 rw [wrapU_mod]
 have h64 : (2:Int) ^ (64 - s) * 2 ^ s = 18446744073709551616 := by rw [← Int.pow_add, show 64 - s + s = 64 by omega]; rfl
 have e : lo * 2 ^ s / 18446744073709551616 = lo / 2 ^ (64 - s) := by
  rw [← h64]; exact Int.mul_ediv_mul_of_pos_left _ _ (Int.pow_pos (by omega))
 have := Int.mul_ediv_add_emod (lo * 2 ^ s) 18446744073709551616
 rw [e] at this
 rw [Int.add_mul, Int.add_mul, Int.mul_assoc, Int.mul_comm 18446744073709551616, ← Int.mul_assoc]
 omega
theorem div_fin {N X L u1 u0 X2 R Q1 Q2 Y y : Int} (s : Nat) (hy : 0 < y) (hN : N * 2 ^ s = X * 18446744073709551616 + L) (hL : L = u1 * 4294967296 + u0) (h2 : X2 = X * 4294967296 + u1 - Q1 * Y)
  (hR : R = X2 * 4294967296 + u0 - Q2 * Y) (h0 : 0 ≤ R) (h1 : R < Y) (hY : Y = y * 2 ^ s) : Q1 * 4294967296 + Q2 = N / y ∧ R / 2 ^ s = N % y := by
 have hp : (0:Int) < 2 ^ s := Int.pow_pos (by omega)
 have e : R = (N - (Q1 * 4294967296 + Q2) * y) * 2 ^ s := by
  rw [Int.sub_mul, hN, Int.mul_assoc, ← hY, Int.add_mul, Int.mul_assoc, Int.mul_comm 4294967296, ← Int.mul_assoc]
  omega
 have hge : 0 ≤ N - (Q1 * 4294967296 + Q2) * y := by
  have : 0 * 2 ^ s ≤ (N - (Q1 * 4294967296 + Q2) * y) * 2 ^ s := by omega
  exact Int.le_of_mul_le_mul_right this hp
 have hlt : N - (Q1 * 4294967296 + Q2) * y < y := Int.lt_of_mul_lt_mul_right (by omega : (N - (Q1 * 4294967296 + Q2) * y) * 2 ^ s < y * 2 ^ s) (by omega)
 have hu := (Int.ediv_emod_unique (a := N) (b := y) (r := N - (Q1 * 4294967296 + Q2) * y) (q := Q1 * 4294967296 + Q2) hy).2 ⟨by rw [Int.mul_comm y]; omega, hge, hlt⟩
 refine ⟨hu.1.symm, ?_⟩
 rw [hu.2, e]
 exact Int.mul_ediv_cancel _ (by omega)
end Go.Proofs.YtdchdajjhofmnaaGreat
