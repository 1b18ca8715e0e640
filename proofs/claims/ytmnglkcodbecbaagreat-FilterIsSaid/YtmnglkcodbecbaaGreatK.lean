import Derived.WalkKit
import Derived.Lib.BitFns
import Derived.Lib.ItoaNum
namespace Go.Proofs.YtmnglkcodbecbaaGreat
open Go
/-- what a digit's estimate owes: over the quotient while it is not the quotient -/
structure Knuth (Y A B X u Q : Int) : Prop where
  hY : Y = A * 4294967296 + B
  hB : 0 ≤ B
  hB1 : B < 4294967296
  hA : 2147483648 ≤ A
  hA1 : A < 4294967296
  hX : 0 ≤ X
  hXY : X < Y
  hu : 0 ≤ u
  hu1 : u < 4294967296
  hQ : Q * Y ≤ X * 4294967296 + u
  hQ1 : X * 4294967296 + u < (Q + 1) * Y
namespace Knuth
variable {Y A B X u Q q r : Int}
theorem mulY (k : Knuth Y A B X u Q) (q : Int) : q * Y = q * A * 4294967296 + q * B := by
  rw [k.hY, Int.mul_add, Int.mul_assoc]
theorem pos (k : Knuth Y A B X u Q) : 0 < Y := by have := k.hY; have := k.hA; have := k.hB; omega
theorem small (k : Knuth Y A B X u Q) : Q < 4294967296 := by
  have h1 := k.hQ; have h2 := k.hXY; have h3 := k.hu1
  have : Q * Y < 4294967296 * Y := by omega
  exact Int.lt_of_mul_lt_mul_right this (by have := k.pos; omega)
theorem nonneg (k : Knuth Y A B X u Q) : 0 ≤ Q := by
  have h1 := k.hQ1; have h2 := k.hX; have h3 := k.hu
  have h4 : 0 * Y < (Q + 1) * Y := by omega
  have := Int.lt_of_mul_lt_mul_right h4 (by have := k.pos; omega)
  omega
theorem over (k : Knuth Y A B X u Q) (he : q * A + r = X) (h : 4294967296 * r + u < q * B) : Q < q := by
  have h1 := k.mulY q; have h2 := k.hQ
  have : Q * Y < q * Y := by omega
  exact Int.lt_of_mul_lt_mul_right this (by have := k.pos; omega)
theorem is (k : Knuth Y A B X u Q) (he : q * A + r = X) (h : q * B ≤ 4294967296 * r + u) (hq : Q ≤ q) : q = Q := by
  have h1 := k.mulY q; have h2 := k.hQ1
  have : q * Y < (Q + 1) * Y := by omega
  have := Int.lt_of_mul_lt_mul_right this (by have := k.pos; omega)
  omega
theorem mulB (k : Knuth Y A B X u Q) (h0 : 0 ≤ q) (h : q ≤ 4294967296) : 0 ≤ q * B ∧ q * B ≤ 4294967296 * 4294967295 := by
  refine ⟨Int.mul_nonneg h0 k.hB, ?_⟩
  refine Int.le_trans (Int.mul_le_mul_of_nonneg_right h k.hB) ?_
  have := k.hB1; omega
theorem mulB' (k : Knuth Y A B X u Q) (h0 : 0 ≤ q) (h : q < 4294967296) : 0 ≤ q * B ∧ q * B < 18446744073709551616 := by
  have := k.mulB h0 (by omega); omega
/-- the first estimate -/
theorem start (k : Knuth Y A B X u Q) : X / A * A + X % A = X ∧ 0 ≤ X % A ∧ X % A < 4294967296 ∧ Q ≤ X / A ∧ X / A ≤ 4294967297 ∧ 0 ≤ X / A * A ∧ X / A * A < 18446744073709551616 := by
  have hA := k.hA; have hA1 := k.hA1; have hB := k.hB; have hB1 := k.hB1
  have e : X / A * A + X % A = X := by have := Int.mul_ediv_add_emod X A; rw [Int.mul_comm]; exact this
  have r0 := Int.emod_nonneg X (b := A) (by omega)
  have r1 := Int.emod_lt_of_pos X (b := A) (by omega)
  have hX := k.hX; have hXY := k.hXY; have hY := k.hY
  have q0 : 0 ≤ X / A := Int.ediv_nonneg hX (by omega)
  refine ⟨e, r0, by omega, ?_, ?_, Int.mul_nonneg q0 (by omega), by omega⟩
  · have h1 := k.mulY (X / A); have h2 := k.hQ; have h3 := k.hu1
    have hp : 0 ≤ X / A * B := Int.mul_nonneg q0 hB
    -- (q+1)*Y > X*2^32+u
    have h5 : (X / A + 1) * Y = X / A * Y + Y := by rw [Int.add_mul, Int.one_mul]
    have : Q * Y < (X / A + 1) * Y := by omega
    have := Int.lt_of_mul_lt_mul_right this (by have := k.pos; omega)
    omega
  · have h6 : X / A < 4294967298 := by
      refine Int.lt_of_mul_lt_mul_right (a := A) ?_ (by omega)
      omega
    omega
theorem rest (k : Knuth Y A B X u Q) : 0 ≤ X * 4294967296 + u - Q * Y ∧ X * 4294967296 + u - Q * Y < Y := by
  have h1 := k.hQ; have h2 := k.hQ1
  rw [Int.add_mul, Int.one_mul] at h2
  omega
end Knuth
theorem wrapU {n : Int} (h0 : 0 ≤ n) (h1 : n < 18446744073709551616) : IntKind.u64.wrap n = n := by
  simp only [IntKind.wrap, IntKind.signed, IntKind.bits, Bool.false_and, Bool.false_eq_true, if_false]; omega
theorem wrapU_add (n m : Int) : IntKind.u64.wrap (IntKind.u64.wrap n + m) = IntKind.u64.wrap (n + m) := by
  simp only [IntKind.wrap, IntKind.signed, IntKind.bits, Bool.false_and, Bool.false_eq_true, if_false]; omega
theorem wrapU_mod (n : Int) : IntKind.u64.wrap n = n % 18446744073709551616 := by
  simp only [IntKind.wrap, IntKind.signed, IntKind.bits, Bool.false_and, Bool.false_eq_true, if_false]; omega

/-- the count of leading zeros shifts to the top -/
theorem lead (y : Int) (h0 : 0 < y) (h1 : y < 18446744073709551616) : ∃ s : Nat, s < 64 ∧ (64 - (Lib.bitLen y.toNat : Int)) = s ∧ 9223372036854775808 ≤ y * 2 ^ s ∧ y * 2 ^ s < 18446744073709551616 := by
  obtain ⟨n, rfl⟩ := Int.eq_ofNat_of_zero_le (by omega : 0 ≤ y)
  have hn : n < 2 ^ 64 := by omega
  have hz : n ≠ 0 := by omega
  have hb := Lib.bitLenAux_bounds 64 n hn hz
  have e : Lib.bitLen n = Lib.bitLenAux 64 n := by
    first | rfl | (unfold Lib.bitLen; exact (Lib.bitLenAux_fuel 64 n hn _ (by omega)))
  rw [← e] at hb
  have hle : Lib.bitLen n ≤ 64 := Lib.bitLen_le n 64 (by omega) hn
  refine ⟨64 - Lib.bitLen n, by omega, by simp only [Int.toNat_natCast]; omega, ?_, ?_⟩
  · have : 2 ^ (Lib.bitLen n - 1) * 2 ^ (64 - Lib.bitLen n) ≤ n * 2 ^ (64 - Lib.bitLen n) := Nat.mul_le_mul_right _ hb.2.1
    rw [← Nat.pow_add, show Lib.bitLen n - 1 + (64 - Lib.bitLen n) = 63 by omega, show (2:Nat)^63 = 9223372036854775808 from rfl] at this
    have h2 := Int.ofNat_le.2 this
    rw [Int.natCast_mul, Int.natCast_pow] at h2; exact h2
  · have : n * 2 ^ (64 - Lib.bitLen n) < 2 ^ Lib.bitLen n * 2 ^ (64 - Lib.bitLen n) := Nat.mul_lt_mul_of_pos_right hb.2.2 (Nat.pow_pos (by omega))
    rw [← Nat.pow_add, show Lib.bitLen n + (64 - Lib.bitLen n) = 64 by omega, show (2:Nat)^64 = 18446744073709551616 from rfl] at this
    have h2 := Int.ofNat_lt.2 this
    rw [Int.natCast_mul, Int.natCast_pow] at h2; exact h2
end Go.Proofs.YtmnglkcodbecbaaGreat
