import Derived.Test.YtdchdajjhofmnaaGreatProg
import Derived.WalkKit
import Derived.WalkSpells
import Derived.WalkLawsBesides
namespace Go.Proofs.YtdchdajjhofmnaaGreat
open Go.RowKit Go.Proofs
/-- cmp.Or: the first that is not zero -/
def orL : List Int → Int
 | [] => 0
 | n :: l => bif n == 0 then orL l else n
theorem orL_drop_at {zs : List Int} {k : Nat} (h : k < zs.length) : orL (zs.drop k) = bif zs.getD k 0 == 0 then orL (zs.drop (k + 1)) else zs.getD k 0 := by
 rw [List.drop_eq_getElem_cons h, orL, List.getD_eq_getElem?_getD, List.getElem?_eq_getElem h]; rfl
set_option maxHeartbeats 1000000 in
theorem or_any (b off cap : Nat) (zs : List Int) (w : World) (hmax : zs.length ≤ 9223372036854775807)
  (hc : ∀ j, j < zs.length → w.cell? ⟨b, off + j, none⟩ = some (.int .i64 (zs.getD j 0))) :
  Calls Tryz.prog 184 #[.slice (some ⟨b, off, none⟩) zs.length cap] w fun e w' => e = .returned (.int .i64 (orL zs)) ∧ w' = w := by
 obtain ⟨n, hn⟩ : ∃ n, n = zs.length := ⟨_, rfl⟩
 rw [← hn]
 rw [← hn] at hc hmax
 have HN : Hid (n = zs.length) := hn
 clear hn
 go_enter Tryz.func184, Tryz.ntmps184
 go_wp2
 go_loop [8] (fun i => ∃ k : Nat, k ≤ n ∧ i = .int .i64 k ∧ orL zs = orL (zs.drop k)) (fun i => n - (intOf i).toNat)
 case atStart => exact ⟨0, by omega, rfl, rfl⟩
 case round =>
  obtain ⟨k, hk, rfl, hd⟩ := hrel
  have HD : Hid (orL zs = orL (zs.drop k)) := hd
  have hcell : k < n → w.cell? ⟨b, off + k, none⟩ = some (.int .i64 (zs.getD k 0)) := fun h => hc k h
  obtain ⟨z, hz⟩ : ∃ z, z = zs.getD k 0 := ⟨_, rfl⟩
  rw [← hz] at hcell
  have HZ : Hid (z = zs.getD k 0) := hz
  clear hd hc hz
  go_wp2
  ·have hz0 : (z != 0) = true := by assumption
   have hlt : k < n := by assumption
   have e : orL zs = z := by
    rw [HD.out, orL_drop_at (by rw [← HN.out]; exact hlt), ← HZ.out]
    have : (z == 0) = false := by simpa using hz0
    rw [this]; rfl
   rw [e]
   go_ret
   exact ⟨rfl, rfl⟩
  ·have hz0 : (z != 0) = false := by assumption
   have hlt : k < n := by assumption
   go_round
   case rel =>
    refine ⟨k + 1, by omega, by go_num, ?_⟩
    rw [HD.out, orL_drop_at (by rw [← HN.out]; exact hlt), ← HZ.out]
    have : (z == 0) = true := by simpa using hz0
    rw [this]; rfl
   case measure => simp [intOf]; omega
  ·have hge : ¬ k < n := by assumption
   have e : orL zs = 0 := by
    rw [HD.out, List.drop_eq_nil_of_le (by rw [← HN.out]; omega)]; rfl
   rw [e]
   go_ret
   exact ⟨rfl, rfl⟩
theorem changed_any (F : Int → Int × Bool) (hF : ∀ n : Int, IntKind.i64.wrap n = n → ∀ w, Calls Tryz.prog 99 #[.int .i64 n] w fun e w' => e = .returned (.tuple #[.int .i64 (F n).1, .bool (F n).2]) ∧ Below w.heap.size w w')
  (b off cap : Nat) (zs : List Int) (w : World) (hmax : zs.length ≤ 9223372036854775807) (hb : b < w.heap.size) (hr : ∀ j, j < zs.length → IntKind.i64.wrap (zs.getD j 0) = zs.getD j 0)
  (hc : ∀ j, j < zs.length → w.cell? ⟨b, off + j, none⟩ = some (.int .i64 (zs.getD j 0))) :
  Calls Tryz.prog 260 #[.slice (some ⟨b, off, none⟩) zs.length cap] w fun e w' => e = .returned (.bool (zs.any fun n => (F n).2)) ∧ Below w.heap.size w w' := by
 obtain ⟨n, hn⟩ : ∃ n, n = zs.length := ⟨_, rfl⟩
 rw [← hn]
 rw [← hn] at hc hmax hr
 have HN : Hid (n = zs.length) := hn
 have HF : Hid (∀ n : Int, IntKind.i64.wrap n = n → ∀ w, Calls Tryz.prog 99 #[.int .i64 n] w fun e w' => e = .returned (.tuple #[.int .i64 (F n).1, .bool (F n).2]) ∧ Below w.heap.size w w') := hF
 have HC : Hid (∀ j, j < n → w.cell? ⟨b, off + j, none⟩ = some (.int .i64 (zs.getD j 0))) := hc
 have HR : Hid (∀ j, j < n → IntKind.i64.wrap (zs.getD j 0) = zs.getD j 0) := hr
 clear hn hF hc hr
 obtain ⟨B0, hB0⟩ : ∃ B0, B0 = w.heap.size := ⟨_, rfl⟩
 rw [← hB0] at hb ⊢
 have HB : Hid (B0 = w.heap.size) := hB0
 clear hB0
 obtain ⟨r, hr⟩ : ∃ r, r = zs.any fun n => (F n).2 := ⟨_, rfl⟩
 rw [← hr]
 have HA : Hid (r = zs.any fun n => (F n).2) := hr
 clear hr
 go_enter Tryz.func260, Tryz.ntmps260
 go_wp2
 go_loopw [9] (fun i wr => ∃ k : Nat, k ≤ n ∧ i = .int .i64 k ∧ r = (zs.drop k).any (fun n => (F n).2) ∧ Below B0 w wr) (fun i _ => n - (intOf i).toNat)
 case atStart => exact ⟨0, by omega, rfl, HA.out, Below.refl _ _⟩
 case round =>
  obtain ⟨k, hk, rfl, hd, hbw⟩ := hrel
  have HD : Hid (r = (zs.drop k).any fun n => (F n).2) := hd
  obtain ⟨z, hz⟩ : ∃ z, z = zs.getD k 0 := ⟨_, rfl⟩
  have hcell : k < n → wr.cell? ⟨b, off + k, none⟩ = some (.int .i64 z) := fun h => by
   rw [hbw.cell (p := ⟨b, off + k, none⟩) hb, hz]; exact HC.out k h
  have HZ : Hid (z = zs.getD k 0) := hz
  have HBW : Hid (Below B0 w wr) := hbw
  clear hd hz hbw
  go_wp2_with (go_at_call 99; refine (HF.out z (by rw [HZ.out]; exact HR.out k (by assumption)) _).mono ?_; rintro e w' ⟨rfl, hb'⟩)
  ·have hlt : k < n := by assumption
   have hz0 : (F z).2 = true := by assumption
   have e : r = true := by
    rw [HD.out, List.drop_eq_getElem_cons (by rw [← HN.out]; exact hlt), List.any_cons]
    have : zs[k]'(by rw [← HN.out]; exact hlt) = z := by rw [HZ.out, List.getD_eq_getElem?_getD, List.getElem?_eq_getElem (by rw [← HN.out]; exact hlt)]; rfl
    rw [this, hz0]; rfl
   rw [e]
   go_ret
   exact ⟨rfl, HBW.out.trans (hb'.mono (by rw [HB.out]; exact HBW.out.size))⟩
  ·have hlt : k < n := by assumption
   have hz0 : (F z).2 = false := by assumption
   go_roundw
   case rel =>
    refine ⟨k + 1, by omega, by go_num, ?_, HBW.out.trans (hb'.mono (by rw [HB.out]; exact HBW.out.size))⟩
    rw [HD.out, List.drop_eq_getElem_cons (by rw [← HN.out]; exact hlt), List.any_cons]
    have : zs[k]'(by rw [← HN.out]; exact hlt) = z := by rw [HZ.out, List.getD_eq_getElem?_getD, List.getElem?_eq_getElem (by rw [← HN.out]; exact hlt)]; rfl
    rw [this, hz0]; rfl
   case measure => simp [intOf]; omega
  ·have hge : ¬ k < n := by assumption
   have e : r = false := by
    rw [HD.out, List.drop_eq_nil_of_le (by rw [← HN.out]; omega)]; rfl
   rw [e]
   go_ret
   exact ⟨rfl, HBW.out⟩
end Go.Proofs.YtdchdajjhofmnaaGreat
