/- outriggerref16.Fits as a call: it says what the plain law says. -/
import Derived.Test.YtidnooaccbahpaaTx
set_option linter.unusedVariables false
set_option linter.unusedSimpArgs false
namespace Go.Proofs.Ytidnooaccbahpaa
open Go.RowKit Go.Proofs Go.Sx
attribute [local go_sem ↓] Go.wp_at_zero Go.wp_at_succ
def fr2 (zs : List A) : List Nat → Int → Bool
  | [], _ => true
  | k :: ks, now => if ks.any (fun y => decide ((zs[y]!).to < (zs[k]!).fr)) then false else if !(zs[k]!).w && decide ((zs[k]!).v ≠ now) then false else fr2 zs ks (if (zs[k]!).w then (zs[k]!).v else now)
theorem fr2_V {zs : List A} (hs : saneB zs = true) : ∀ (L : List Nat) (now : Int), (∀ i ∈ L, i < zs.length) → (fr2 zs L now = true ↔ V zs L now)
  | [], now, _ => by simp [fr2, V]
  | k :: ks, now, hb => by
    have ih := fr2_V hs ks (thenV zs now k) (fun i hi => hb i (List.mem_cons_of_mem _ hi))
    have hk := sane_at hs (hb k (List.mem_cons_self ..))
    unfold fr2
    simp only [V]
    by_cases h1 : ks.any (fun y => decide ((zs[y]!).to < (zs[k]!).fr)) = true
    · rw [if_pos h1]
      simp only [Bool.false_eq_true, false_iff]
      rintro ⟨_, h2, _⟩
      simp only [List.any_eq_true, decide_eq_true_eq] at h1
      obtain ⟨y, hy, hyy⟩ := h1
      have := h2 y (List.mem_cons_of_mem _ hy); omega
    · rw [if_neg h1]
      have h1' : ∀ y ∈ k :: ks, (zs[k]!).fr ≤ (zs[y]!).to := fun y hy => by
        rcases List.mem_cons.1 hy with rfl | hy
        · omega
        · simp only [List.any_eq_true, decide_eq_true_eq, not_exists, not_and] at h1
          have := h1 y hy; omega
      by_cases h2 : (!(zs[k]!).w && decide ((zs[k]!).v ≠ now)) = true
      · rw [if_pos h2]
        simp only [Bool.false_eq_true, false_iff]
        rintro ⟨h3, _⟩
        simp only [Bool.and_eq_true, Bool.not_eq_true', decide_eq_true_eq] at h2
        rcases h3 with h3 | h3
        · rw [h3] at h2; simp at h2
        · exact h2.2 h3
      · rw [if_neg h2]
        have h3 : (zs[k]!).w = true ∨ (zs[k]!).v = now := by
          simp only [Bool.and_eq_true, Bool.not_eq_true', decide_eq_true_eq, not_and, Decidable.not_not] at h2
          cases hw : (zs[k]!).w with
          | true => exact .inl rfl
          | false => exact .inr (h2 hw)
        exact ⟨fun h => ⟨h3, h1', ih.1 h⟩, fun h => ih.2 h.2.2⟩
def refFits (zs : List A) (xs : List Int) : Bool := saneB zs && (placesB zs.length xs && fr2 zs (natsOf xs) 0)
theorem refFits_eq (zs : List A) (xs : List Int) : refFits zs xs = fitsP zs xs := by
  unfold refFits
  rw [places_eq]
  cases hs : saneB zs with
  | false => simp [fitsP, hs]
  | true =>
    by_cases hp : permB xs = true ∧ xs.length = zs.length
    · have hfit : fitsP zs xs = fitRun zs xs 0 0 := by simp [fitsP, hs, hp.1, hp.2]
      rw [hfit]
      simp only [hp.1, hp.2, decide_true, Bool.true_and]
      have hperm := perm_places.1 hp.1
      have hb : ∀ i ∈ natsOf xs, i < zs.length := fun i hi => by
        simp only [natsOf, List.mem_map] at hi
        obtain ⟨x, hx, rfl⟩ := hi
        have hm := hperm.mem_iff.1 hx
        simp only [places, List.mem_map, List.mem_range] at hm
        obtain ⟨j, hj, rfl⟩ := hm; simp; omega
      have hx : xs = ordI (natsOf xs) := by
        unfold ordI natsOf
        rw [List.map_map]
        apply List.ext_getElem (by simp)
        intro i h1 h2
        have hm : xs[i] ∈ places xs.length := hperm.mem_iff.1 (List.getElem_mem _)
        simp only [places, List.mem_map, List.mem_range] at hm
        obtain ⟨j, _, hj⟩ := hm
        simp only [List.getElem_map, Function.comp]
        rw [← hj]; simp
      rw [Bool.eq_iff_iff, fr2_V hs _ _ hb]
      conv => rhs; rw [hx]
      rw [fitRun_V]
      exact ⟨fun h => ⟨h, fun y hy => by have := sane_at hs (hb y hy); omega⟩, fun h => h.1⟩
    · have h1 : (permB xs && decide (xs.length = zs.length)) = false := by
        cases h2 : permB xs with
        | false => rfl
        | true => simp only [Bool.true_and, decide_eq_false_iff_not]; intro e; exact hp ⟨h2, e⟩
      have h2 : fitsP zs xs = false := by
        unfold fitsP
        rw [hs, Bool.true_and, h1]; rfl
      rw [h1, h2]; rfl
set_option maxRecDepth 100000 in
set_option maxHeartbeats 3000000 in
theorem ref_fits_calls (zs : List A) (xs : List Int) (v vo : Value) (w : World) (hv : LstD w v zs) (ho : LstI w vo xs) :
    Calls Try.prog 14 #[v, vo] w fun e w' => e = .returned (.bool (refFits zs xs)) ∧ Below w.heap.size w w' := by
  have hs12 := sane12_calls hv
  have hlst := hv.lst
  obtain ⟨q, c, rfl, hl, hq⟩ := hlst
  have ho0 := ho
  obtain ⟨p, c', rfl, hl', hp⟩ := ho
  cases hs : saneB zs with
  | false =>
    rw [hs] at hs12
    go_enter Try.func14, Try.ntmps14
    go_wp2_with (go_at_call 12; refine hs12.mono ?_; rintro e w1 ⟨rfl, hb1⟩)
    all_goals go_ret
    all_goals exact ⟨by rw [refFits, hs]; rfl, hb1⟩
  | true =>
    rw [hs] at hs12
    have h7 := sane_len hs
    have HP24 : Hid (∀ w1, Below w.heap.size w w1 → Calls Try.prog 24 #[.int .i64 zs.length, .slice p xs.length c'] w1 fun e w' => e = .returned (.bool (placesB zs.length xs)) ∧ Below w1.heap.size w1 w') := fun w1 hb => places_calls zs.length h7 xs _ w1 (ho0.below hb)
    cases hpl : placesB zs.length xs with
    | false =>
      rw [hpl] at HP24
      go_enter Try.func14, Try.ntmps14
      go_wp2_with (first
        | (go_at_call 12; refine hs12.mono ?_; rintro e w1 ⟨rfl, hb1⟩)
        | (go_at_call 24; refine (HP24.out _ hb1).mono ?_; rintro e w2 ⟨rfl, hb2⟩))
      all_goals go_ret
      all_goals exact ⟨by rw [refFits, hpl]; simp, hb1.trans (hb2.mono hb1.size)⟩
    | true =>
      rw [hpl] at HP24
      have hin : ∀ (i : Nat) x, xs[i]? = some x → ∃ k : Nat, k < zs.length ∧ x = (k : Int) := fun i x hx => by
        have h1 := hpl
        rw [places_eq, Bool.and_eq_true, decide_eq_true_eq] at h1
        have hm := (perm_places.1 h1.1).mem_iff.1 (List.mem_of_getElem? hx)
        simp only [places, List.mem_map, List.mem_range] at hm
        obtain ⟨j, hj, rfl⟩ := hm
        exact ⟨j, by omega, rfl⟩
      have hlen : xs.length = zs.length := by
        have h1 := hpl
        rw [places_eq, Bool.and_eq_true, decide_eq_true_eq] at h1; exact h1.2
      have HR : Hid (refFits zs xs = fr2 zs (natsOf xs) 0) := by show _ = _; rw [refFits, hs, hpl]; rfl
      obtain ⟨m, hm⟩ : ∃ m, m = xs.length := ⟨_, rfl⟩
      have HM : Hid (m = xs.length) := hm
      have HIN := (show Hid _ from hin)
      have HQ : Hid (zs = [] ∨ ∃ b off, q = some ⟨b, off, none⟩ ∧ At w b off zs) := hq
      have HPP : Hid (IntsAt w w.heap.size p xs) := hp
      have hzm : zs.length = m := by omega
      rw [← hm] at hl'
      simp only [hzm, ← hm] at HP24 hs12 h7 hl ⊢
      have HZ : Hid (zs.length = m) := hzm
      clear hs hpl hin hlen hq hp ho0 hv hm hzm
      go_enter Try.func14, Try.ntmps14
      go_wp2_with (first
        | (go_at_call 12; refine hs12.mono ?_; rintro e w1 ⟨rfl, hb1⟩)
        | (go_at_call 24; refine (HP24.out _ hb1).mono ?_; rintro e w2 ⟨rfl, hb2⟩))
      have HB2 : Hid (Below w.heap.size w w2) := hb1.trans (hb2.mono hb1.size)
      clear hb1 hb2 HP24 hs12
      go_loopw [5, 6] (fun nw i wr => ∃ (j : Nat) (now : Int), j ≤ m ∧ nw = .int .i64 now ∧ i = .int .i64 j ∧ Hid (Below w.heap.size w wr) ∧ Hid (fr2 zs (natsOf xs) 0 = fr2 zs (natsOf (xs.drop j)) now)) (fun _ i _ => m - (intOf i).toNat)
      case atStart => exact ⟨0, 0, Nat.zero_le _, rfl, rfl, HB2, rfl⟩
      case round =>
        obtain ⟨j, now, hj, rfl, rfl, BW, FF⟩ := hrel
        by_cases hlt : j < m
        · obtain ⟨xj, hxj⟩ : ∃ x, xs[j]? = some x := ⟨_, List.getElem?_eq_getElem (by rw [← HM.out]; exact hlt)⟩
          obtain ⟨kk, hkk, rfl⟩ := HIN.out j _ hxj
          obtain ⟨b1, off1, rfl, hb1n, d1⟩ := (HPP.out.below BW.out).at hxj
          obtain ⟨b, off, rfl, hat⟩ := HQ.out.resolve_left (by intro e; have h := HZ.out; rw [e] at h; simp at h; omega)
          obtain ⟨y, hy⟩ : ∃ y, zs[kk]! = y := ⟨_, rfl⟩
          obtain ⟨l0, l1, l2, l3⟩ := (hat.below BW.out).four hkk hy
          have FF' : Hid (fr2 zs (natsOf xs) 0 = (if (natsOf (xs.drop (j + 1))).any (fun r => decide ((zs[r]!).to < y.fr)) then false else if !y.w && decide (y.v ≠ now) then false else fr2 zs (natsOf (xs.drop (j + 1))) (if y.w then y.v else now))) := by
            have hjl : j < xs.length := (List.getElem?_eq_some_iff.1 hxj).1
            have h1 := FF.out
            rw [List.drop_eq_getElem_cons hjl, (List.getElem?_eq_some_iff.1 hxj).2] at h1
            have h2 : natsOf ((kk : Int) :: xs.drop (j + 1)) = kk :: natsOf (xs.drop (j + 1)) := by simp [natsOf]
            rw [h2, fr2, hy] at h1
            exact h1
          have HAT : Hid (At w b off zs) := hat
          have hkl : (kk : Int) < (m : Int) := by have := HZ.out; omega
          have hbw := hat.1
          have hbs := BW.out.size
          obtain ⟨yw, yv, yf, yt⟩ := y
          simp only at l0 l1 l2 l3 FF'
          clear hxj hy FF hat hkk
          obtain ⟨W0, rfl⟩ : ∃ W0, W0 = wr := ⟨_, rfl⟩
          go_wp2
          have H0 : Hid (Below w.heap.size w (W0.alloc (.cells #[.bool yw, .int .i64 yv, .int .i64 yf, .int .i64 yt] 32))) := BW.out.alloc hbs _
          go_loopw [8] (fun s8 wr2 => ∃ q : Nat, j + 1 ≤ q ∧ q ≤ m ∧ s8 = .int .i64 q ∧ Hid (Below (W0.alloc (.cells #[.bool yw, .int .i64 yv, .int .i64 yf, .int .i64 yt] 32)).heap.size (W0.alloc (.cells #[.bool yw, .int .i64 yv, .int .i64 yf, .int .i64 yt] 32)) wr2) ∧ Hid (∀ r, j + 1 ≤ r → r < q → ∀ x, xs[r]? = some x → ¬ (zs[x.toNat]!).to < yf)) (fun s8 _ => m - (intOf s8).toNat)
          case atStart => exact ⟨j + 1, Nat.le_refl _, by omega, by go_num, Below.refl _ _, fun r h1 h2 => by omega⟩
          case round =>
            obtain ⟨q, hq1, hq2, rfl, B2, N2⟩ := hrel
            have hB2w : Below w.heap.size w wr := H0.out.trans (B2.out.mono H0.out.size)
            have x0 : wr.cell? ⟨W0.heap.size, 0, none⟩ = some (.bool yw) := by rw [B2.out.cell (p := ⟨W0.heap.size, 0, none⟩) (by simp)]; exact cell_new _ _ _ _ _ rfl
            have x1 : wr.cell? ⟨W0.heap.size, 1, none⟩ = some (.int .i64 yv) := by rw [B2.out.cell (p := ⟨W0.heap.size, 1, none⟩) (by simp)]; exact cell_new _ _ _ _ _ rfl
            have x2 : wr.cell? ⟨W0.heap.size, 2, none⟩ = some (.int .i64 yf) := by rw [B2.out.cell (p := ⟨W0.heap.size, 2, none⟩) (by simp)]; exact cell_new _ _ _ _ _ rfl
            have HB2w : Hid (Below w.heap.size w wr) := hB2w
            by_cases hltq : q < m
            · obtain ⟨xq, hxq⟩ : ∃ x, xs[q]? = some x := ⟨_, List.getElem?_eq_getElem (by rw [← HM.out]; exact hltq)⟩
              have hxq0 := hxq
              obtain ⟨k2, hk2, rfl⟩ := HIN.out q _ hxq
              have d2 : wr.cell? ⟨b1, off1 + q, none⟩ = some (.int .i64 (k2 : Int)) := by
                obtain ⟨b1', off1', e1, _, d⟩ := (HPP.out.below hB2w).at hxq
                simp only [Option.some.injEq, Addr.mk.injEq, and_true] at e1
                rw [e1.1, e1.2]; exact d
              obtain ⟨u, hu⟩ : ∃ u, zs[k2]! = u := ⟨_, rfl⟩
              obtain ⟨_, _, _, d3⟩ := (HAT.out.below hB2w).four hk2 hu
              have HU : Hid ((zs[((k2 : Nat) : Int).toNat]!).to = u.to) := by show _ = _; rw [Int.toNat_natCast, hu]
              have HXQ : Hid (xs[q]? = some (k2 : Int)) := hxq0
              have i0' : (0 : Int) ≤ (q : Int) := Int.natCast_nonneg _
              have i1' : (q : Int) < (m : Int) := by omega
              have i2' : (0 : Int) ≤ (k2 : Int) := Int.natCast_nonneg _
              have i3' : (k2 : Int) < (m : Int) := by have := HZ.out; omega
              clear hxq hxq0 hu hB2w d1 l0 l1 l2 l3 x0 x1
              generalize u.to = ut at *
              by_cases hty : ut < yf
              · go_wp2_with fail
                go_region_held3 (fun w' => w'.cell? ⟨b1, off1 + q, none⟩ = some (.int .i64 (k2 : Int)) ∧ w'.cell? ⟨b, off + k2 * 4 + 3, none⟩ = some (.int .i64 ut) ∧ w'.cell? ⟨W0.heap.size, 2, none⟩ = some (.int .i64 yf)) (go_keep) (fail)
                have hany : (natsOf (xs.drop (j + 1))).any (fun r => decide ((zs[r]!).to < yf)) = true := by
                  refine List.any_eq_true.2 ⟨k2, ?_, decide_eq_true ?_⟩
                  · have hm : (k2 : Int) ∈ xs.drop (j + 1) := by
                      refine List.mem_of_getElem? (i := q - (j + 1)) ?_
                      rw [List.getElem?_drop, show j + 1 + (q - (j + 1)) = q by omega]; exact HXQ.out
                    simp only [natsOf, List.mem_map]
                    exact ⟨_, hm, by simp⟩
                  · have h1 := HU.out
                    rw [Int.toNat_natCast] at h1
                    rw [h1]; exact hty
                have HANY : Hid (fr2 zs (natsOf xs) 0 = false) := by show _ = _; rw [FF'.out, if_pos hany]
                clear hany
                go_wp2
                all_goals go_ret
                all_goals exact ⟨by rw [HR.out, HANY.out]; rfl, HB2w.out.drew⟩
              · have HTY : Hid (¬ ut < yf) := hty
                go_wp2_with fail
                go_region_held3 (fun w' => w'.cell? ⟨b1, off1 + q, none⟩ = some (.int .i64 (k2 : Int)) ∧ w'.cell? ⟨b, off + k2 * 4 + 3, none⟩ = some (.int .i64 ut) ∧ w'.cell? ⟨W0.heap.size, 2, none⟩ = some (.int .i64 yf)) (go_keep) (fail)
                go_wp2
                go_roundw
                case rel => exact ⟨q + 1, by omega, by omega, by go_num, B2.out.drew, fun r h1 h2 x hx => by
                  by_cases e : r = q
                  · subst e
                    rw [HXQ.out] at hx; cases hx
                    rw [HU.out]; have := HTY.out; omega
                  · have := N2.out r h1 (by omega) x hx; omega⟩
                case measure => simp [intOf]; omega
            · have hqm : q = m := by omega
              subst hqm
              have hany : ¬ (natsOf (xs.drop (j + 1))).any (fun r => decide ((zs[r]!).to < yf)) = true := by
                intro h
                obtain ⟨r, hr, hd⟩ := List.any_eq_true.1 h
                simp only [natsOf, List.mem_map] at hr
                obtain ⟨x, hx, rfl⟩ := hr
                obtain ⟨r', hr', rfl⟩ := List.getElem_of_mem hx
                rw [List.length_drop, ← HM.out] at hr'
                refine N2.out (j + 1 + r') (by omega) (by omega) _ ?_ (of_decide_eq_true hd)
                rw [List.getElem_drop]; exact List.getElem?_eq_getElem _
              have FG : Hid (fr2 zs (natsOf xs) 0 = (if !yw && decide (yv ≠ now) then false else fr2 zs (natsOf (xs.drop (j + 1))) (if yw then yv else now))) := by show _ = _; rw [FF'.out, if_neg hany]
              clear hany d1 l0 l1 l2 l3 hB2w
              cases yw with
              | true =>
                go_wp2
                go_roundw
                case rel => exact ⟨j + 1, yv, by omega, rfl, by go_num, HB2w, by show _ = _; rw [FG.out]; rfl⟩
                case measure => simp [intOf]; omega
              | false =>
                by_cases hyn : yv = now
                · have hyn' := hyn.symm
                  subst hyn'
                  go_wp2
                  go_roundw
                  case rel => exact ⟨j + 1, now, by omega, rfl, by go_num, HB2w, by show _ = _; rw [FG.out]; simp⟩
                  case measure => simp [intOf]; omega
                · have HYN : Hid (¬ yv = now) := hyn
                  go_wp2
                  all_goals go_ret
                  all_goals exact ⟨by rw [HR.out, FG.out]; simp [show ¬ yv = now from HYN.out], HB2w.out⟩
        · have hjm : j = m := by omega
          subst hjm
          go_wp2
          go_ret
          refine ⟨?_, BW.out⟩
          have h1 := FF.out
          rw [HM.out, List.drop_length] at h1
          rw [HR.out, h1]
          rfl
end Go.Proofs.Ytidnooaccbahpaa
