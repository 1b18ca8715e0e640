/- Words as numbers: what the executor's word operations are, in plain arithmetic. -/
import Derived.Test.YtdchdajjhofmnaaGreatK2
import Derived.Test.YtdchdajjhofmnaaGreatSx
import Derived.Laws.MathBits
namespace Go.Proofs.YtdchdajjhofmnaaGreat
open Go Go.Sx
theorem w64 (n : Int) : IntKind.i64.wrap n = (n + 9223372036854775808) % 18446744073709551616 - 9223372036854775808 := by
 show (if (true && decide (n % 18446744073709551616 ≥ 9223372036854775808)) = true then n % 18446744073709551616 - 18446744073709551616 else n % 18446744073709551616) = _
 simp only [Bool.true_and, decide_eq_true_eq]
 split <;> omega
theorem wS {n : Int} (h0 : -9223372036854775808 ≤ n) (h1 : n < 9223372036854775808) : IntKind.i64.wrap n = n := by rw [w64]; omega
theorem wrap_id {k : IntKind} (hk : k = .i64 ∨ k = .u64) {n : Int} (h0 : 0 ≤ n) (h1 : n < 9223372036854775808) : k.wrap n = n := by
 rcases hk with rfl | rfl
 ·exact wS (by omega) h1
 ·exact wrapU h0 (by omega)
theorem ofInt64 (x : Int) : (BitVec.ofInt 64 x).toNat = (x % 18446744073709551616).toNat := by
 rw [BitVec.toNat_ofInt]; rfl
theorem bits64 {k : IntKind} (hk : k = .i64 ∨ k = .u64) : k.bits = 64 := by rcases hk with rfl | rfl <;> rfl
theorem and_mask {k : IntKind} (hk : k = .i64 ∨ k = .u64) (x : Int) (n : Nat) (hn : n ≤ 62) (m : Int) (hm : m = 2 ^ n - 1) : bitsv .and k x m = x % 2 ^ n := by
 have hp : (2:Nat) ^ n ≤ 2 ^ 62 := Nat.pow_le_pow_right (by omega) hn
 have hp0 : (0:Nat) < 2 ^ n := Nat.pow_pos (by omega)
 have hpi : ((2 ^ n : Nat) : Int) = (2:Int) ^ n := by rw [Int.natCast_pow]; rfl
 have h62 : (2:Nat) ^ 62 = 4611686018427387904 := rfl
 have key : ((BitVec.ofInt 64 x &&& BitVec.ofInt 64 m).toNat : Int) = x % 2 ^ n := by
  rw [BitVec.toNat_and, ofInt64, ofInt64]
  have e2 : (m % 18446744073709551616).toNat = 2 ^ n - 1 := by
   rw [hm, ← hpi]
   generalize (2:Nat) ^ n = p at *
   omega
  rw [e2, Nat.and_two_pow_sub_one_eq_mod]
  have hd : ((2:Int) ^ n) ∣ 18446744073709551616 := by
   refine ⟨2 ^ (64 - n), ?_⟩
   rw [← Int.pow_add, show n + (64 - n) = 64 by omega]; rfl
  have h0 : 0 ≤ x % 18446744073709551616 := Int.emod_nonneg _ (by omega)
  rw [Int.natCast_emod, Int.toNat_of_nonneg h0, hpi, Int.emod_emod_of_dvd _ hd]
 unfold bitsv
 rw [bits64 hk]
 show k.wrap _ = _
 rw [key]
 have r0 := Int.emod_nonneg x (b := (2:Int) ^ n) (by rw [← hpi]; omega)
 have r1 := Int.emod_lt_of_pos x (b := (2:Int) ^ n) (by rw [← hpi]; omega)
 rw [← hpi] at r1 r0 ⊢
 exact wrap_id hk r0 (by omega)
theorem and62i (x : Int) : bitsv .and .i64 x 4611686018427387903 = x % 4611686018427387904 := and_mask (.inl rfl) x 62 (by omega) _ rfl
theorem and62u (x : Int) : bitsv .and .u64 x 4611686018427387903 = x % 4611686018427387904 := and_mask (.inr rfl) x 62 (by omega) _ rfl
theorem and32i (x : Int) : bitsv .and .i64 x 4294967295 = x % 4294967296 := and_mask (.inl rfl) x 32 (by omega) _ rfl
theorem and32u (x : Int) : bitsv .and .u64 x 4294967295 = x % 4294967296 := and_mask (.inr rfl) x 32 (by omega) _ rfl
theorem nat_or_add (a b i : Nat) (ha : a % 2 ^ i = 0) (hb : b < 2 ^ i) : a ||| b = a + b := by
 have e : a = 2 ^ i * (a / 2 ^ i) := by have := Nat.mod_add_div a (2 ^ i); omega
 rw [e]; exact (Nat.two_pow_add_eq_or_of_lt hb _).symm
theorem or_u (a b : Int) (h0 : 0 ≤ a) (h1 : a < 18446744073709551616) (h2 : a % 4 = 0) (h3 : 0 ≤ b) (h4 : b < 4) : bitsv .or .u64 a b = a + b := by
 have key : ((BitVec.ofInt 64 a ||| BitVec.ofInt 64 b).toNat : Int) = a + b := by
  rw [BitVec.toNat_or, ofInt64, ofInt64, nat_or_add _ _ 2 (by omega) (by omega)]; omega
 show IntKind.u64.wrap ((BitVec.ofInt 64 a ||| BitVec.ofInt 64 b).toNat : Int) = _
 rw [key]; exact wrapU (by omega) (by omega)
theorem or_i (a b : Int) (h0 : -9223372036854775808 ≤ a) (h1 : a < 9223372036854775808) (h2 : a % 1073741824 = 0) (h3 : 0 ≤ b) (h4 : b < 1073741824) : bitsv .or .i64 a b = a + b := by
 have key : ((BitVec.ofInt 64 a ||| BitVec.ofInt 64 b).toNat : Int) = (a % 18446744073709551616) + b := by
  rw [BitVec.toNat_or, ofInt64, ofInt64, nat_or_add _ _ 30 (by omega) (by omega)]; omega
 show IntKind.i64.wrap ((BitVec.ofInt 64 a ||| BitVec.ofInt 64 b).toNat : Int) = _
 rw [key, w64]; omega
theorem xor_i (x : Int) (h0 : -9223372036854775808 ≤ x) (h1 : x < 9223372036854775808) : bitsv .xor .i64 (-1) x = -1 - x := by
 have key : ((BitVec.ofInt 64 (-1) ^^^ BitVec.ofInt 64 x).toNat : Int) = 18446744073709551615 - (x % 18446744073709551616) := by
  have : BitVec.ofInt 64 (-1) = BitVec.allOnes 64 := by decide
  rw [this, BitVec.allOnes_xor, BitVec.toNat_not, ofInt64]
  omega
 show IntKind.i64.wrap ((BitVec.ofInt 64 (-1) ^^^ BitVec.ofInt 64 x).toNat : Int) = _
 rw [key, w64]; omega
theorem fdiv62 (x : Int) : x.fdiv (2 ^ 62) = x / 4611686018427387904 := Int.fdiv_eq_ediv_of_nonneg _ (by decide)
theorem fdiv32 (x : Int) : x.fdiv (2 ^ 32) = x / 4294967296 := Int.fdiv_eq_ediv_of_nonneg _ (by decide)
def cl (n : Int) : Int := mxI (-288230376151711744) (mnI n 288230376151711744)
theorem cl_def (n : Int) : (n ≤ -288230376151711744 ∧ cl n = -288230376151711744) ∨ (288230376151711744 ≤ n ∧ cl n = 288230376151711744) ∨ (-288230376151711744 < n ∧ n < 288230376151711744 ∧ cl n = n) := by
 unfold cl mxI mnI; split <;> split <;> omega
theorem cl_lo (n : Int) : -288230376151711744 ≤ cl n := by have := cl_def n; omega
theorem cl_hi (n : Int) : cl n ≤ 288230376151711744 := by have := cl_def n; omega
theorem cl_in {n : Int} (h0 : -288230376151711744 ≤ n) (h1 : n ≤ 288230376151711744) : cl n = n := by have := cl_def n; omega
theorem cl_cl (n : Int) : cl (cl n) = cl n := cl_in (cl_lo n) (cl_hi n)
theorem prod_in (a b : Int) (h0 : -288230376151711744 ≤ a) (h1 : a ≤ 288230376151711744) (h2 : -288230376151711744 ≤ b) (h3 : b ≤ 288230376151711744) :
  -83076749736557242056487941267521536 ≤ a * b ∧ a * b ≤ 83076749736557242056487941267521536 := by
 have key : (a * b).natAbs ≤ 83076749736557242056487941267521536 := by
  rw [Int.natAbs_mul]
  have : a.natAbs * b.natAbs ≤ 288230376151711744 * 288230376151711744 := Nat.mul_le_mul (by omega) (by omega)
  omega
 omega
end Go.Proofs.YtdchdajjhofmnaaGreat
