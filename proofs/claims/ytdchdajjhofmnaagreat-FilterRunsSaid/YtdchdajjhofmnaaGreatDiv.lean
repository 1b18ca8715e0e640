import Derived.Test.YtdchdajjhofmnaaGreatProg
import Derived.WalkKit
import Derived.WalkSpells
import Derived.WalkLawsBesides
import Derived.Deep.CutRange
import Derived.Test.YtdchdajjhofmnaaGreatEnv
import Derived.Test.YtdchdajjhofmnaaGreatShelf
import Derived.Test.YtdchdajjhofmnaaGreatK2
namespace Go.Proofs.YtdchdajjhofmnaaGreat
open Go.RowKit Go.Proofs
theorem clz_any (y : Int) (w : World) (h0 : 0 < y) (h1 : y < 18446744073709551616) (s : Nat) (e : 64 - (Lib.bitLen y.toNat : Int) = s) :
  Calls Tryz.prog 334 #[.int .u64 y] w fun e w' => e = .returned (.int .i64 s) ∧ w' = w := by
 refine (Tryz.bits_LeadingZeros64 y _ (by omega) (by omega)).mono ?_
 rintro e w' ⟨rfl, rfl⟩
 exact ⟨by rw [e], rfl⟩
set_option maxHeartbeats 4000000 in
theorem div64_big (x lo y : Int) (w : World) (hx : 0 ≤ x) (hlo : 0 ≤ lo) (hlo1 : lo < 18446744073709551616) (hxy : x < y) (hy1 : y < 18446744073709551616) (h0 : x ≠ 0) :
  Calls Tryz.prog 333 #[.int .u64 x, .int .u64 lo, .int .u64 y] w fun e w' => e = .returned (.tuple #[.int .u64 ((x * 18446744073709551616 + lo) / y), .int .u64 ((x * 18446744073709551616 + lo) % y)]) ∧ w' = w := by
 obtain ⟨s, hs, hse, hY, hY1⟩ := lead y (by omega) hy1
 have hxs : x * 2 ^ s < y * 2 ^ s := Int.mul_lt_mul_of_pos_right hxy (Int.pow_pos (by omega))
 obtain ⟨hor, hor1, hor2⟩ := or_top x lo s hx hs (by omega) hlo hlo1
 have hsp := top_split x lo s hs
 have hx1 : x * 2 ^ s + 2 ^ s ≤ y * 2 ^ s := by
  have : (x + 1) * 2 ^ s ≤ y * 2 ^ s := Int.mul_le_mul_of_nonneg_right (by omega) (Int.le_of_lt (Int.pow_pos (by omega)))
  rw [Int.add_mul, Int.one_mul] at this; exact this
 have hx0 : 0 ≤ x * 2 ^ s := Int.mul_nonneg hx (Int.le_of_lt (Int.pow_pos (by omega)))
 obtain ⟨X, hX⟩ : ∃ X, X = x * 2 ^ s + lo / 2 ^ (64 - s) := ⟨_, rfl⟩
 obtain ⟨Y, hYd⟩ : ∃ Y, Y = y * 2 ^ s := ⟨_, rfl⟩
 obtain ⟨L, hL⟩ : ∃ L, L = IntKind.u64.wrap (lo * 2 ^ s) := ⟨_, rfl⟩
 have hL0 : 0 ≤ L ∧ L < 18446744073709551616 := by rw [hL, wrapU_mod]; omega
 have hX0 : 0 ≤ X := by omega
 have hXY : X < Y := by omega
 rw [← hYd] at hY hY1
 rw [← hX, ← hL] at hsp
 rw [← hX] at hor
 clear hxs hx1 hx0 hor1 hor2 hX
 have k1 := Knuth.of Y X (L / 4294967296) hY hY1 hX0 hXY (by omega) (by omega)
 obtain ⟨Q1, hQ1⟩ : ∃ Q, Q = (X * 4294967296 + L / 4294967296) / Y := ⟨_, rfl⟩
 obtain ⟨u1, hu1⟩ : ∃ u, u = L / 4294967296 := ⟨_, rfl⟩
 obtain ⟨u0, hu0⟩ : ∃ u, u = L % 4294967296 := ⟨_, rfl⟩
 obtain ⟨A, hA⟩ : ∃ A, A = Y / 4294967296 := ⟨_, rfl⟩
 obtain ⟨B, hB⟩ : ∃ B, B = Y % 4294967296 := ⟨_, rfl⟩
 rw [← hQ1, ← hu1, ← hA, ← hB] at k1
 have hLu : L = u1 * 4294967296 + u0 := by omega
 have hu0' : 0 ≤ u0 ∧ u0 < 4294967296 := by omega
 obtain ⟨X2, hX2⟩ : ∃ X2, X2 = X * 4294967296 + u1 - Q1 * Y := ⟨_, rfl⟩
 have hrest := k1.rest
 rw [← hX2] at hrest
 have k2 := Knuth.of Y X2 u0 hY hY1 hrest.1 hrest.2 hu0'.1 hu0'.2
 obtain ⟨Q2, hQ2⟩ : ∃ Q, Q = (X2 * 4294967296 + u0) / Y := ⟨_, rfl⟩
 rw [← hQ2, ← hA, ← hB] at k2
 obtain ⟨R, hR⟩ : ∃ R, R = X2 * 4294967296 + u0 - Q2 * Y := ⟨_, rfl⟩
 have hrest2 := k2.rest
 rw [← hR] at hrest2
 have hfin := div_fin s (by omega : 0 < y) hsp hLu hX2 hR hrest2.1 hrest2.2 hYd
 rw [← hfin.1, ← hfin.2]
 have e1 := k1.wrapQ
 have e2 := k1.wrapR
 have e3 := k1.wrapX
 have e4 := k2.wrapQ
 have e5 := k2.wrapR
 have e6 := k2.wrapX
 have e7 : IntKind.u64.wrap (IntKind.u64.wrap (Q1 * 4294967296) + Q2) = Q1 * 4294967296 + Q2 := by
  have := k1.small; have := k1.nonneg; have := k2.small; have := k2.nonneg
  rw [wrapU_add]; exact wrapU (by omega) (by omega)
 rw [← hX2] at e3
 rw [← hR] at e6
 have hstart1 := k1.start
 have hstart2 := k2.start
 obtain ⟨q1, hq1⟩ : ∃ q, q = X / A := ⟨_, rfl⟩
 obtain ⟨r1, hr1⟩ : ∃ r, r = X % A := ⟨_, rfl⟩
 obtain ⟨q2, hq2⟩ : ∃ q, q = X2 / A := ⟨_, rfl⟩
 obtain ⟨r2, hr2⟩ : ∃ r, r = X2 % A := ⟨_, rfl⟩
 rw [← hq1] at e1
 rw [← hq1, ← hr1] at e2
 rw [← hq2] at e4
 rw [← hq2, ← hr2] at e5
 rw [← hq1, ← hr1] at hstart1
 rw [← hq2, ← hr2] at hstart2
 have hS0 : IntKind.u64.wrap (s : Int) = s := wrapU (by omega) (by omega)
 have hS : ((s : Int)).toNat = s := by simp
 have hS1 : min s 64 = s := by omega
 have hS2 : IntKind.u64.wrap (y * 2 ^ s) = Y := by rw [← hYd]; exact wrapU (by omega) (by omega)
 have hS3 : IntKind.u64.wrap (64 - (s : Int)) = ((64 - s : Nat) : Int) := by rw [wrapU (by omega) (by omega)]; omega
 have hS4 : min (64 - s) 64 = 64 - s := by omega
 have hBv : bits .and .u64 Y 4294967295 = B := by rw [and_low32 Y (by omega) hY1, hB]
 have hu0v : bits .and .u64 L 4294967295 = u0 := by rw [and_low32 L (by omega) (by omega), hu0]
 have hyn : ¬ A = 0 := by have := k1.hA; omega
 have hA' := hA.symm
 have hu1' := hu1.symm
 have hL' := hL.symm
 have hc := fun w => clz_any y w (by omega) hy1 s hse
 have hy0 : ¬ y = 0 := by omega
 have hyx : ¬ y ≤ x := by omega
 have K1 : Hid (Knuth Y A B X u1 Q1) := k1
 have K2 : Hid (Knuth Y A B X2 u0 Q2) := k2
 have S1 : Hid (q1 * A + r1 = X ∧ 0 ≤ r1 ∧ r1 < 4294967296 ∧ Q1 ≤ q1 ∧ q1 ≤ 4294967297) := ⟨hstart1.1, hstart1.2.1, hstart1.2.2.1, hstart1.2.2.2.1, hstart1.2.2.2.2.1⟩
 have S2 : Hid (q2 * A + r2 = X2 ∧ 0 ≤ r2 ∧ r2 < 4294967296 ∧ Q2 ≤ q2 ∧ q2 ≤ 4294967297) := ⟨hstart2.1, hstart2.2.1, hstart2.2.2.1, hstart2.2.2.2.1, hstart2.2.2.2.2.1⟩
 clear k1 k2 hstart1 hstart2 hq1 hr1 hq2 hr2 hfin hrest hrest2 hR hQ2 hX2 hu0' hLu hB hA hu0 hu1 hQ1 hX0 hXY hL0 hL hYd hsp hY hY1 hse hs
 go_enter Tryz.func333, Tryz.ntmps333
 go_upto_region 17 with (first | (go_at_call 334; refine (hc _).mono ?_; rintro e w' ⟨rfl, rfl⟩))
 go_loop [15, 16] (fun tq tr => ∃ q r : Int, tq = .int .u64 q ∧ tr = .int .u64 r ∧ q * A + r = X ∧ 0 ≤ r ∧ r < 4294967296 ∧ Q1 ≤ q ∧ q ≤ 4294967297) (fun q _ => (intOf q).toNat)
 case atStart => exact ⟨_, _, rfl, rfl, S1.out⟩
 case round =>
  obtain ⟨q, r, rfl, rfl, he, hr0, hr1, hq0, hq1⟩ := hrel
  have k : Knuth Y A B X u1 Q1 := K1.out
  have kA := k.hA
  have kA1 := k.hA1
  have ku := k.hu
  have ku1 := k.hu1
  have kQ := k.nonneg
  have kQ1 := k.small
  have w1 : IntKind.u64.wrap (IntKind.u64.wrap (4294967296 * r) + u1) = 4294967296 * r + u1 := by rw [wrapU_add]; exact wrapU (by omega) (by omega)
  have w2 : IntKind.u64.wrap (r + A) = r + A := wrapU (by omega) (by omega)
  by_cases hqq : Q1 = q
  ·have w3 : IntKind.u64.wrap (q * B) = q * B := by have := k.mulB' (by omega : 0 ≤ q) (by omega); exact wrapU this.1 this.2
   have c1 : q < 4294967296 := by omega
   have c2 : q * B ≤ 4294967296 * r + u1 := by
    refine Int.not_lt.1 fun h => ?_
    have := k.over he h
    omega
   subst hqq
   have c3 : Hid (Q1 * A + r = X) := he
   clear he k
   go_wp2
   clear w1 w2 kA kA1 ku ku1 kQ kQ1 hr0 hr1 hq0 hq1
   go_loop [16, 18] (fun tr tq => ∃ q r : Int, tq = .int .u64 q ∧ tr = .int .u64 r ∧ q * A + r = X2 ∧ 0 ≤ r ∧ r < 4294967296 ∧ Q2 ≤ q ∧ q ≤ 4294967297) (fun _ q => (intOf q).toNat)
   case atStart => exact ⟨_, _, rfl, rfl, S2.out⟩
   case round =>
    obtain ⟨q, r, rfl, rfl, he, hr0, hr1, hq0, hq1⟩ := hrel
    have k : Knuth Y A B X2 u0 Q2 := K2.out
    have kA := k.hA
    have kA1 := k.hA1
    have ku := k.hu
    have ku1 := k.hu1
    have kQ := k.nonneg
    have kQ1 := k.small
    have w1 : IntKind.u64.wrap (IntKind.u64.wrap (4294967296 * r) + u0) = 4294967296 * r + u0 := by rw [wrapU_add]; exact wrapU (by omega) (by omega)
    have w2 : IntKind.u64.wrap (r + A) = r + A := wrapU (by omega) (by omega)
    by_cases hqq : Q2 = q
    ·have w3 : IntKind.u64.wrap (q * B) = q * B := by have := k.mulB' (by omega : 0 ≤ q) (by omega); exact wrapU this.1 this.2
     have c1 : q < 4294967296 := by omega
     have c2 : q * B ≤ 4294967296 * r + u0 := by
      refine Int.not_lt.1 fun h => ?_
      have := k.over he h
      omega
     subst hqq
     have c3 : Hid (Q2 * A + r = X2) := he
     clear he k
     go_wp2
     go_ret2
     exact ⟨rfl, rfl⟩
    ·have hgt : Q2 < q := by omega
     have hw : IntKind.u64.wrap (q - 1) = q - 1 := wrapU (by omega) (by omega)
     have c2 : q < 4294967296 → 4294967296 * r + u0 < q * B := by
      intro c1
      refine Int.not_le.1 fun h => ?_
      have := k.is he h hq0
      omega
     have w3 : q < 4294967296 → IntKind.u64.wrap (q * B) = q * B := fun c1 => by have := k.mulB' (by omega : 0 ≤ q) (by omega); exact wrapU this.1 this.2
     have he' : (q - 1) * A + (r + A) = X2 := by rw [Int.sub_mul, Int.one_mul]; omega
     by_cases hb : r + A < 4294967296
     ·have c4 : Hid ((q - 1) * A + (r + A) = X2) := he'
      clear he he' k
      by_cases c1 : q < 4294967296
      ·have c3 := c2 c1
       have w4 := w3 c1
       clear c2 w3
       go_wp2
       go_round
       case rel => exact ⟨q - 1, r + A, by first | rfl | go_num, by first | rfl | go_num, c4.out, by omega, by omega, by omega, by omega⟩
       case measure => simp [intOf]; omega
      ·have c3 : 4294967296 ≤ q := by omega
       clear c2 w3
       go_wp2
       go_round
       case rel => exact ⟨q - 1, r + A, by first | rfl | go_num, by first | rfl | go_num, c4.out, by omega, by omega, by omega, by omega⟩
       case measure => simp [intOf]; omega
     ·have hb' : 4294967296 ≤ r + A := by omega
      have hfin : q - 1 = Q2 := by
       refine k.is he' ?_ (by omega)
       have := k.mulB (by omega : 0 ≤ q - 1) (by omega)
       omega
      replace hw := hw.trans hfin
      clear he he' k hfin
      by_cases c1 : q < 4294967296
      ·have c3 := c2 c1
       have w4 := w3 c1
       clear c2 w3
       go_wp2
       go_ret2
       exact ⟨rfl, rfl⟩
      ·have c3 : 4294967296 ≤ q := by omega
       clear c2 w3
       go_wp2
       go_ret2
       exact ⟨rfl, rfl⟩
  ·have hgt : Q1 < q := by omega
   have hw : IntKind.u64.wrap (q - 1) = q - 1 := wrapU (by omega) (by omega)
   have c2 : q < 4294967296 → 4294967296 * r + u1 < q * B := by
    intro c1
    refine Int.not_le.1 fun h => ?_
    have := k.is he h hq0
    omega
   have w3 : q < 4294967296 → IntKind.u64.wrap (q * B) = q * B := fun c1 => by have := k.mulB' (by omega : 0 ≤ q) (by omega); exact wrapU this.1 this.2
   have he' : (q - 1) * A + (r + A) = X := by rw [Int.sub_mul, Int.one_mul]; omega
   by_cases hb : r + A < 4294967296
   ·have c4 : Hid ((q - 1) * A + (r + A) = X) := he'
    clear he he' k
    by_cases c1 : q < 4294967296
    ·have c3 := c2 c1
     have w4 := w3 c1
     clear c2 w3
     go_wp2
     go_round
     case rel => exact ⟨q - 1, r + A, by first | rfl | go_num, by first | rfl | go_num, c4.out, by omega, by omega, by omega, by omega⟩
     case measure => simp [intOf]; omega
    ·have c3 : 4294967296 ≤ q := by omega
     clear c2 w3
     go_wp2
     go_round
     case rel => exact ⟨q - 1, r + A, by first | rfl | go_num, by first | rfl | go_num, c4.out, by omega, by omega, by omega, by omega⟩
     case measure => simp [intOf]; omega
   ·have hb' : 4294967296 ≤ r + A := by omega
    have hfin : q - 1 = Q1 := by
     refine k.is he' ?_ (by omega)
     have := k.mulB (by omega : 0 ≤ q - 1) (by omega)
     omega
    replace hw := hw.trans hfin
    clear he he' k hfin
    by_cases c1 : q < 4294967296
    ·have c3 := c2 c1
     have w4 := w3 c1
     clear c2 w3
     go_wp2
     clear w1 w2 kA kA1 ku ku1 kQ kQ1 hr0 hr1 hq0 hq1
     go_loop [16, 18] (fun tr tq => ∃ q r : Int, tq = .int .u64 q ∧ tr = .int .u64 r ∧ q * A + r = X2 ∧ 0 ≤ r ∧ r < 4294967296 ∧ Q2 ≤ q ∧ q ≤ 4294967297) (fun _ q => (intOf q).toNat)
     case atStart => exact ⟨_, _, rfl, rfl, S2.out⟩
     case round =>
      obtain ⟨q, r, rfl, rfl, he, hr0, hr1, hq0, hq1⟩ := hrel
      have k : Knuth Y A B X2 u0 Q2 := K2.out
      have kA := k.hA
      have kA1 := k.hA1
      have ku := k.hu
      have ku1 := k.hu1
      have kQ := k.nonneg
      have kQ1 := k.small
      have w1 : IntKind.u64.wrap (IntKind.u64.wrap (4294967296 * r) + u0) = 4294967296 * r + u0 := by rw [wrapU_add]; exact wrapU (by omega) (by omega)
      have w2 : IntKind.u64.wrap (r + A) = r + A := wrapU (by omega) (by omega)
      by_cases hqq : Q2 = q
      ·have w3 : IntKind.u64.wrap (q * B) = q * B := by have := k.mulB' (by omega : 0 ≤ q) (by omega); exact wrapU this.1 this.2
       have c1 : q < 4294967296 := by omega
       have c2 : q * B ≤ 4294967296 * r + u0 := by
        refine Int.not_lt.1 fun h => ?_
        have := k.over he h
        omega
       subst hqq
       have c3 : Hid (Q2 * A + r = X2) := he
       clear he k
       go_wp2
       go_ret2
       exact ⟨rfl, rfl⟩
      ·have hgt : Q2 < q := by omega
       have hw : IntKind.u64.wrap (q - 1) = q - 1 := wrapU (by omega) (by omega)
       have c2 : q < 4294967296 → 4294967296 * r + u0 < q * B := by
        intro c1
        refine Int.not_le.1 fun h => ?_
        have := k.is he h hq0
        omega
       have w3 : q < 4294967296 → IntKind.u64.wrap (q * B) = q * B := fun c1 => by have := k.mulB' (by omega : 0 ≤ q) (by omega); exact wrapU this.1 this.2
       have he' : (q - 1) * A + (r + A) = X2 := by rw [Int.sub_mul, Int.one_mul]; omega
       by_cases hb : r + A < 4294967296
       ·have c4 : Hid ((q - 1) * A + (r + A) = X2) := he'
        clear he he' k
        by_cases c1 : q < 4294967296
        ·have c3 := c2 c1
         have w4 := w3 c1
         clear c2 w3
         go_wp2
         go_round
         case rel => exact ⟨q - 1, r + A, by first | rfl | go_num, by first | rfl | go_num, c4.out, by omega, by omega, by omega, by omega⟩
         case measure => simp [intOf]; omega
        ·have c3 : 4294967296 ≤ q := by omega
         clear c2 w3
         go_wp2
         go_round
         case rel => exact ⟨q - 1, r + A, by first | rfl | go_num, by first | rfl | go_num, c4.out, by omega, by omega, by omega, by omega⟩
         case measure => simp [intOf]; omega
       ·have hb' : 4294967296 ≤ r + A := by omega
        have hfin : q - 1 = Q2 := by
         refine k.is he' ?_ (by omega)
         have := k.mulB (by omega : 0 ≤ q - 1) (by omega)
         omega
        replace hw := hw.trans hfin
        clear he he' k hfin
        by_cases c1 : q < 4294967296
        ·have c3 := c2 c1
         have w4 := w3 c1
         clear c2 w3
         go_wp2
         go_ret2
         exact ⟨rfl, rfl⟩
        ·have c3 : 4294967296 ≤ q := by omega
         clear c2 w3
         go_wp2
         go_ret2
         exact ⟨rfl, rfl⟩
    ·have c3 : 4294967296 ≤ q := by omega
     clear c2 w3
     go_wp2
     clear w1 w2 kA kA1 ku ku1 kQ kQ1 hr0 hr1 hq0 hq1
     go_loop [16, 18] (fun tr tq => ∃ q r : Int, tq = .int .u64 q ∧ tr = .int .u64 r ∧ q * A + r = X2 ∧ 0 ≤ r ∧ r < 4294967296 ∧ Q2 ≤ q ∧ q ≤ 4294967297) (fun _ q => (intOf q).toNat)
     case atStart => exact ⟨_, _, rfl, rfl, S2.out⟩
     case round =>
      obtain ⟨q, r, rfl, rfl, he, hr0, hr1, hq0, hq1⟩ := hrel
      have k : Knuth Y A B X2 u0 Q2 := K2.out
      have kA := k.hA
      have kA1 := k.hA1
      have ku := k.hu
      have ku1 := k.hu1
      have kQ := k.nonneg
      have kQ1 := k.small
      have w1 : IntKind.u64.wrap (IntKind.u64.wrap (4294967296 * r) + u0) = 4294967296 * r + u0 := by rw [wrapU_add]; exact wrapU (by omega) (by omega)
      have w2 : IntKind.u64.wrap (r + A) = r + A := wrapU (by omega) (by omega)
      by_cases hqq : Q2 = q
      ·have w3 : IntKind.u64.wrap (q * B) = q * B := by have := k.mulB' (by omega : 0 ≤ q) (by omega); exact wrapU this.1 this.2
       have c1 : q < 4294967296 := by omega
       have c2 : q * B ≤ 4294967296 * r + u0 := by
        refine Int.not_lt.1 fun h => ?_
        have := k.over he h
        omega
       subst hqq
       have c3 : Hid (Q2 * A + r = X2) := he
       clear he k
       go_wp2
       go_ret2
       exact ⟨rfl, rfl⟩
      ·have hgt : Q2 < q := by omega
       have hw : IntKind.u64.wrap (q - 1) = q - 1 := wrapU (by omega) (by omega)
       have c2 : q < 4294967296 → 4294967296 * r + u0 < q * B := by
        intro c1
        refine Int.not_le.1 fun h => ?_
        have := k.is he h hq0
        omega
       have w3 : q < 4294967296 → IntKind.u64.wrap (q * B) = q * B := fun c1 => by have := k.mulB' (by omega : 0 ≤ q) (by omega); exact wrapU this.1 this.2
       have he' : (q - 1) * A + (r + A) = X2 := by rw [Int.sub_mul, Int.one_mul]; omega
       by_cases hb : r + A < 4294967296
       ·have c4 : Hid ((q - 1) * A + (r + A) = X2) := he'
        clear he he' k
        by_cases c1 : q < 4294967296
        ·have c3 := c2 c1
         have w4 := w3 c1
         clear c2 w3
         go_wp2
         go_round
         case rel => exact ⟨q - 1, r + A, by first | rfl | go_num, by first | rfl | go_num, c4.out, by omega, by omega, by omega, by omega⟩
         case measure => simp [intOf]; omega
        ·have c3 : 4294967296 ≤ q := by omega
         clear c2 w3
         go_wp2
         go_round
         case rel => exact ⟨q - 1, r + A, by first | rfl | go_num, by first | rfl | go_num, c4.out, by omega, by omega, by omega, by omega⟩
         case measure => simp [intOf]; omega
       ·have hb' : 4294967296 ≤ r + A := by omega
        have hfin : q - 1 = Q2 := by
         refine k.is he' ?_ (by omega)
         have := k.mulB (by omega : 0 ≤ q - 1) (by omega)
         omega
        replace hw := hw.trans hfin
        clear he he' k hfin
        by_cases c1 : q < 4294967296
        ·have c3 := c2 c1
         have w4 := w3 c1
         clear c2 w3
         go_wp2
         go_ret2
         exact ⟨rfl, rfl⟩
        ·have c3 : 4294967296 ≤ q := by omega
         clear c2 w3
         go_wp2
         go_ret2
         exact ⟨rfl, rfl⟩
theorem div64_small (lo y : Int) (w : World) (hlo : 0 ≤ lo) (hlo1 : lo < 18446744073709551616) (hy : 0 < y) (hy1 : y < 18446744073709551616) :
  Calls Tryz.prog 333 #[.int .u64 0, .int .u64 lo, .int .u64 y] w fun e w' => e = .returned (.tuple #[.int .u64 (lo / y), .int .u64 (lo % y)]) ∧ Below w.heap.size w w' := by
 have hy0 : ¬ y = 0 := by omega
 have hyx : ¬ y ≤ 0 := by omega
 have hq : IntKind.u64.wrap (lo.tdiv y) = lo / y := by
  rw [Int.tdiv_eq_ediv_of_nonneg hlo]
  have h1 := Int.ediv_nonneg hlo (by omega : 0 ≤ y)
  have h2 : lo / y ≤ lo := Int.ediv_le_self _ hlo
  exact wrapU h1 (by omega)
 have hr : lo.tmod y = lo % y := Int.tmod_eq_emod_of_nonneg hlo
 go_enter Tryz.func333, Tryz.ntmps333
 go_wp2
 go_region
 go_wp2
 go_ret2
 exact ⟨rfl, (Below.refl _ _).drew⟩
theorem div64_any (x lo y : Int) (w : World) (hx : 0 ≤ x) (hlo : 0 ≤ lo) (hlo1 : lo < 18446744073709551616) (hxy : x < y) (hy1 : y < 18446744073709551616) :
  Calls Tryz.prog 333 #[.int .u64 x, .int .u64 lo, .int .u64 y] w fun e w' => e = .returned (.tuple #[.int .u64 ((x * 18446744073709551616 + lo) / y), .int .u64 ((x * 18446744073709551616 + lo) % y)]) ∧ Below w.heap.size w w' := by
 by_cases h0 : x = 0
 ·subst h0
  have := div64_small lo y w hlo hlo1 hxy hy1
  rw [Int.zero_mul, Int.zero_add]; exact this
 ·refine (div64_big x lo y w hx hlo hlo1 hxy hy1 h0).mono ?_
  rintro e w' ⟨rfl, rfl⟩
  exact ⟨rfl, Below.refl _ _⟩
/-- scale.quotient: the quotient of x 2^32 by y, what is left, and whether it is too large -/
def f326 (x y : Int) : Int × Int × Bool := bif decide (y ≤ x / 4294967296) then (0, 0, true) else (x * 4294967296 / y, x * 4294967296 % y, decide (576460752303423488 < x * 4294967296 / y))
theorem quot_any (x y : Int) (w : World) (hx : 0 ≤ x) (hx1 : x < 18446744073709551616) (_hy : 0 ≤ y) (hy1 : y < 18446744073709551616) :
  Calls Tryz.prog 326 #[.int .u64 x, .int .u64 y] w fun e w' => e = .returned (.tuple #[.int .u64 (f326 x y).1, .int .u64 (f326 x y).2.1, .bool (f326 x y).2.2]) ∧ Below w.heap.size w w' := by
 by_cases h : y ≤ x / 4294967296
 ·have hf : f326 x y = (0, 0, true) := by unfold f326; rw [decide_eq_true h]; rfl
  rw [hf]
  go_enter Tryz.func326, Tryz.ntmps326
  go_wp2
  go_ret3
  exact ⟨rfl, Below.refl _ _⟩
 ·have hf : f326 x y = (x * 4294967296 / y, x * 4294967296 % y, decide (576460752303423488 < x * 4294967296 / y)) := by unfold f326; rw [decide_eq_false h]; rfl
  rw [hf]
  have e : x / 4294967296 * 18446744073709551616 + IntKind.u64.wrap (x * 4294967296) = x * 4294967296 := by rw [wrapU_mod]; omega
  have hl : 0 ≤ IntKind.u64.wrap (x * 4294967296) ∧ IntKind.u64.wrap (x * 4294967296) < 18446744073709551616 := by rw [wrapU_mod]; omega
  have hd := fun w => div64_any (x / 4294967296) (IntKind.u64.wrap (x * 4294967296)) y w (by omega) hl.1 hl.2 (by omega) hy1
  rw [e] at hd
  have h' : ¬ y ≤ x / 4294967296 := h
  clear hf e hl h
  go_enter Tryz.func326, Tryz.ntmps326
  go_wp2_with (go_at_call 333; refine (hd _).mono ?_; rintro e w' ⟨rfl, hb⟩)
  go_ret3
  exact ⟨by simp, hb⟩
end Go.Proofs.YtdchdajjhofmnaaGreat
