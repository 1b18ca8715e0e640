/- trace.Fits as a call. -/
import Derived.Test.YtidnooaccbahpaaTh
set_option linter.unusedVariables false
set_option linter.unusedSimpArgs false
namespace Go.Proofs.Ytidnooaccbahpaa
open Go.RowKit Go.Proofs Go.Sx
/-- a slice value that is a list of numbers -/
def LstI (w : World) (v : Value) (xs : List Int) : Prop := ∃ p c, v = .slice p xs.length c ∧ xs.length ≤ 1000000000000 ∧ IntsAt w w.heap.size p xs
theorem IntsAt.mono {w : World} {n0 n1 : Nat} {p : Option Addr} {xs : List Int} (h : IntsAt w n0 p xs) (hn : n0 ≤ n1) : IntsAt w n1 p xs := by
  rcases h with h | ⟨b, off, rfl, hb0, hc⟩
  · exact .inl h
  · exact .inr ⟨b, off, rfl, by omega, hc⟩
theorem LstI.below {w w' : World} {v : Value} {xs : List Int} (h : LstI w v xs) (hb : Below w.heap.size w w') : LstI w' v xs := by
  obtain ⟨p, c, rfl, hl, h⟩ := h
  exact ⟨p, c, rfl, hl, (h.below hb).mono hb.size⟩
theorem own_ints {w : World} {base : Nat} {v : Value} {xs : List Int} (h : w.ownsRow base 3 1 v xs.length (xs.map encI)) (hl : xs.length ≤ 1000000000000) : LstI w v xs := by
  rcases h.2 with ⟨rfl, h0⟩ | ⟨g, cap, cur, rfl, hb, hg, h1, h2, h3, h4⟩
  · have : xs = [] := List.eq_nil_of_length_eq_zero h0
    subst this
    exact ⟨none, 0, rfl, by simp, .inl rfl⟩
  · refine ⟨_, _, rfl, hl, .inr ⟨g, 0, rfl, lt_of_block hg, fun i x hx => ?_⟩⟩
    have hi : i < xs.length := (List.getElem?_eq_some_iff.1 hx).1
    have h5 : (xs.map encI)[i]? = some (.int .i64 x) := by simp [hx, encI]
    rw [← h4, List.getElem?_take_of_lt (by omega)] at h5
    rw [Nat.zero_add]
    simp only [World.cell?, hg]
    simpa using h5
theorem IntsAt.at {w : World} {n0 : Nat} {p : Option Addr} {xs : List Int} (h : IntsAt w n0 p xs) {i : Nat} {x : Int} (hx : xs[i]? = some x) : ∃ b off, p = some ⟨b, off, none⟩ ∧ b < n0 ∧ w.cell? ⟨b, off + i, none⟩ = some (.int .i64 x) := by
  rcases h with h | ⟨b, off, rfl, hb0, hc⟩
  · rw [h] at hx; simp at hx
  · exact ⟨b, off, rfl, hb0, hc i x hx⟩
def idB (s : List Int) : Bool := (List.range s.length).all fun i => s[i]! == (i : Int)
def fitRun (zs : List A) : List Int → Int → Int → Bool
  | [], _, _ => true
  | k :: ks, now, late =>
    let x := zs[k.toNat]!
    if x.to < max late x.fr then false else if !x.w && decide (x.v ≠ now) then false else fitRun zs ks (if x.w then x.v else now) (max late x.fr)
def fitsL (zs : List A) (xs : List Int) : Bool := idB (sortL xs) && (saneB zs && decide (xs.length = zs.length)) && fitRun zs xs 0 0
theorem fitRun_cons (zs : List A) (k : Int) (ks : List Int) (now late : Int) {y : A} {lt : Int} (hy : zs[k.toNat]! = y) (hm : max late y.fr = lt) :
    fitRun zs (k :: ks) now late = if y.to < lt then false else if !y.w && decide (y.v ≠ now) then false else fitRun zs ks (if y.w then y.v else now) lt := by subst hy hm; rfl
theorem fit_same (zs : List A) (ks : List Int) (now lt : Int) (a b : Int) : (if !(A.mk false now a b).w && decide ((A.mk false now a b).v ≠ now) then false else fitRun zs ks (if (A.mk false now a b).w then (A.mk false now a b).v else now) lt) = fitRun zs ks now lt := by simp
theorem values_calls (v : Value) (w : World) (hv : ∃ p n c, v = .slice p n c) : Calls Try.prog 23 #[v] w fun e w' => e = .returned (.func (.func 28) #[] #[.pointer (some ⟨w.heap.size, 0, none⟩)]) ∧ w' = w.alloc (.cells #[v] 23) := by
  obtain ⟨p, n, c, rfl⟩ := hv
  go_enter Try.func23, Try.ntmps23
  go_wp2
  all_goals go_ret
  all_goals exact ⟨rfl, rfl⟩
theorem id_no {s : List Int} {k : Nat} {x : Int} (hx : s[k]? = some x) (h : ¬ ((k : Int) = x)) : idB s = false := by
  have hk : k < s.length := (List.getElem?_eq_some_iff.1 hx).1
  cases hh : idB s with
  | false => rfl
  | true =>
    have := List.all_eq_true.1 hh k (by simpa using hk)
    rw [getElem!_pos _ k hk, (List.getElem?_eq_some_iff.1 hx).2] at this
    exact absurd (by simpa using this.symm : x = (k : Int)).symm h
theorem id_yes {s : List Int} {n : Nat} (hn : s.length = n) (h : ∀ j, j < n → s[j]? = some (j : Int)) : idB s = true := by
  refine List.all_eq_true.2 fun j hj => ?_
  have hj' : j < s.length := by simpa using hj
  have := h j (by omega)
  rw [getElem!_pos _ j hj', (List.getElem?_eq_some_iff.1 this).2]
  simp
theorem id_in {xs : List Int} {n : Nat} (hn : xs.length = n) (h : idB (sortL xs) = true) {i : Nat} {x : Int} (hx : xs[i]? = some x) : ∃ k : Nat, k < n ∧ x = (k : Int) := by
  have hm : x ∈ sortL xs := (List.mergeSort_perm xs _).mem_iff.2 (List.mem_of_getElem? hx)
  obtain ⟨j, hj, rfl⟩ := List.getElem_of_mem hm
  have hl := sortL_length xs
  have := List.all_eq_true.1 h j (by simpa using hj)
  rw [getElem!_pos _ j hj] at this
  exact ⟨j, by omega, by simpa using this⟩
set_option maxHeartbeats 4000000 in
theorem fits_calls (zs : List A) (xs : List Int) (v vo : Value) (w : World) (hv : Lst w v zs) (ho : LstI w vo xs) :
    Calls Try.prog 13 #[v, vo] w fun e w' => e = .returned (.bool (fitsL zs xs)) ∧ Below w.heap.size w w' := by
  have hv0 := hv
  have ho0 := ho
  obtain ⟨q, c, rfl, hl, hq⟩ := hv
  obtain ⟨p, c', rfl, hl', hp⟩ := ho
  have hval := values_calls (.slice p xs.length c') w ⟨_, _, _, rfl⟩
  have hB1 : Below w.heap.size w (w.alloc (.cells #[.slice p xs.length c'] 23)) := (Below.refl _ _).alloc (Nat.le_refl _) _
  have hsort : Calls Try.prog 22 #[.func (.func 28) #[] #[.pointer (some ⟨w.heap.size, 0, none⟩)]] (w.alloc (.cells #[.slice p xs.length c'] 23)) fun e w' => (∃ v, e = .returned v ∧ w'.ownsRow (w.alloc (.cells #[.slice p xs.length c'] 23)).heap.size 3 1 v xs.length ((sortL xs).map encI)) ∧ Below (w.alloc (.cells #[.slice p xs.length c'] 23)).heap.size (w.alloc (.cells #[.slice p xs.length c'] 23)) w' :=
    callsIn_wide.1 (sorted_in w.heap.size c' p xs _ hl' (by simp) ((hp.below hB1).mono hB1.size) (cell_new _ _ _ _ _ rfl))
  obtain ⟨n, hn⟩ : ∃ n, n = xs.length := ⟨_, rfl⟩
  have HN : Hid (n = xs.length) := hn
  have HSO : Hid (∀ w2, Below (w.alloc (.cells #[.slice p xs.length c'] 23)).heap.size (w.alloc (.cells #[.slice p xs.length c'] 23)) w2 → ∀ sv, w2.ownsRow (w.alloc (.cells #[.slice p xs.length c'] 23)).heap.size 3 1 sv xs.length ((sortL xs).map encI) →
      Below w.heap.size w w2 ∧ ∃ q2 c2, sv = .slice q2 xs.length c2 ∧ IntsAt w2 w2.heap.size q2 (sortL xs)) := fun w2 h2 sv hsv => by
    have hsl := sortL_length xs
    rw [← hsl] at hsv
    obtain ⟨q2, c2, rfl, _, h3⟩ := own_ints hsv (by rw [hsl]; exact hl')
    exact ⟨hB1.trans (h2.mono (B' := w.heap.size) (by simp)), q2, c2, by rw [hsl], h3⟩
  have HV : Hid (Lst w (.slice q zs.length c) zs) := hv0
  have HQ : Hid (zs = [] ∨ ∃ b off, q = some ⟨b, off, none⟩ ∧ At w b off zs) := hq
  have HP : Hid (IntsAt w w.heap.size p xs) := hp
  rw [← hn] at hl' hval hsort
  simp only [← hn] at HSO
  clear hv0 ho0 hq hp hB1
  rw [← hn]
  clear hn
  go_enter Try.func13, Try.ntmps13
  go_wp2_with (first
    | (go_at_call 23; refine hval.mono ?_; rintro e w1 ⟨rfl, rfl⟩)
    | (go_at_call 22; refine hsort.mono ?_; rintro e w2 ⟨⟨sv, rfl, hsv⟩, hb2⟩; obtain ⟨hB2, q2, c2, rfl, hI2⟩ := HSO.out w2 hb2 _ hsv))
  clear hsort hval hsv hb2
  have HI2 : Hid (IntsAt w2 w2.heap.size q2 (sortL xs)) := hI2
  have HB2 : Hid (Below w.heap.size w w2) := hB2
  clear hI2 hB2
  have hsl : (sortL xs).length = n := by rw [sortL_length]; exact HN.out.symm
  have HSL : Hid ((sortL xs).length = n) := hsl
  clear hsl
  go_loopw [18] (fun i wr => ∃ k : Nat, k ≤ n ∧ i = .int .i64 k ∧ Hid (Below w2.heap.size w2 wr) ∧ Hid (∀ j, j < k → (sortL xs)[j]? = some (j : Int))) (fun i _ => n - (intOf i).toNat)
  case atStart => exact ⟨0, Nat.zero_le _, rfl, Below.refl _ _, fun j hj => absurd hj (Nat.not_lt_zero _)⟩
  case round =>

    obtain ⟨k, hk, rfl, BW, AA⟩ := hrel
    by_cases hlt : k < n
    · obtain ⟨x, hx⟩ : ∃ x, (sortL xs)[k]? = some x := ⟨_, List.getElem?_eq_getElem (by rw [HSL.out]; exact hlt)⟩
      obtain ⟨b2, off2, rfl, _, d1⟩ := (HI2.out.below BW.out).at hx
      have HX : Hid ((sortL xs)[k]? = some x) := hx
      clear hx
      by_cases hkx : (k : Int) = x
      · have hkx' := hkx.symm
        subst hkx'
        go_wp2
        go_roundw
        case rel => exact ⟨k + 1, by omega, by go_num, BW, fun j hj => by
          by_cases e : j = k
          · subst e; exact HX.out
          · exact AA.out j (by omega)⟩
        case measure => simp [intOf]; omega
      · go_wp2
        go_ret
        refine ⟨?_, HB2.out.trans (BW.out.mono HB2.out.size)⟩
        rw [fitsL, id_no HX.out hkx]; rfl
    · have hkn : k = n := by omega
      subst hkn
      have hid := id_yes HSL.out AA.out
      have hBr : Below w.heap.size w wr := HB2.out.trans (BW.out.mono HB2.out.size)
      have hsane := sane_calls _ zs wr (HV.out.below hBr)
      have HID : Hid (idB (sortL xs) = true) := hid
      have HBR : Hid (Below w.heap.size w wr) := hBr
      clear hid hBr BW AA HI2 HB2
      cases hs : saneB zs with
      | false =>
        rw [hs] at hsane
        go_wp2_with (go_at_call 11; refine hsane.mono ?_; rintro e w4 ⟨rfl, hb4⟩)
        go_ret
        exact ⟨by rw [fitsL, hs]; simp, HBR.out.trans (hb4.mono HBR.out.size)⟩
      | true =>
        rw [hs] at hsane
        by_cases hlen : k = zs.length
        · have hlen' : (k : Int) = (zs.length : Int) := by omega
          go_wp2_with (go_at_call 11; refine hsane.mono ?_; rintro e w4 ⟨rfl, hb4⟩)
          have hB4 : Hid (Below w.heap.size w w4) := HBR.out.trans (hb4.mono HBR.out.size)
          have HSA : Hid (saneB zs = true) := hs
          clear hb4 HBR hsane HSO hs
          go_loopw [8, 9, 39] (fun s8 s9 i wr' => ∃ (j : Nat) (now late : Int), j ≤ k ∧ s8 = .int .i64 now ∧ s9 = .int .i64 late ∧ i = .int .i64 j ∧ Hid (Below w.heap.size w wr') ∧ Hid (fitRun zs xs 0 0 = fitRun zs (xs.drop j) now late)) (fun _ _ i _ => k - (intOf i).toNat)
          case atStart => exact ⟨0, 0, 0, Nat.zero_le _, rfl, rfl, rfl, hB4, rfl⟩
          case round =>
            obtain ⟨j, now, late, hj, rfl, rfl, rfl, BW, FF⟩ := hrel
            by_cases hltj : j < k
            · obtain ⟨xj, hxj⟩ : ∃ x, xs[j]? = some x := ⟨_, List.getElem?_eq_getElem (by rw [← HN.out]; exact hltj)⟩
              obtain ⟨kk, hkk, rfl⟩ := id_in HN.out.symm HID.out hxj
              obtain ⟨b1, off1, rfl, _, d1⟩ := (HP.out.below BW.out).at hxj
              obtain ⟨b, off, rfl, hat⟩ := HQ.out.resolve_left (by intro e; rw [e] at hlen; simp at hlen; omega)
              obtain ⟨y, hy⟩ : ∃ y, zs[kk]! = y := ⟨_, rfl⟩
              obtain ⟨l0, l1, l2, l3⟩ := (hat.below BW.out).four (by omega) hy
              have hdrop : xs.drop j = (kk : Int) :: xs.drop (j + 1) := by
                have hjl : j < xs.length := (List.getElem?_eq_some_iff.1 hxj).1
                rw [List.drop_eq_getElem_cons hjl, (List.getElem?_eq_some_iff.1 hxj).2]
              have FF' : Hid (fitRun zs xs 0 0 = fitRun zs ((kk : Int) :: xs.drop (j + 1)) now late) := by rw [← hdrop]; exact FF
              have YY : Hid (zs[((kk : Nat) : Int).toNat]! = y) := by rw [Int.toNat_natCast]; exact hy
              obtain ⟨yw, yv, yf, yt⟩ := y
              simp only at l0 l1 l2 l3
              have hkl : (kk : Int) < (zs.length : Int) := by omega
              have hbs := BW.out.size
              clear hxj hdrop hy FF hat hkk
              skip
              skip
              skip
              by_cases h1 : yt < (max late yf)
              · go_wp2
                all_goals go_ret
                all_goals exact ⟨by rw [fitsL, FF'.out, fitRun_cons _ _ _ _ _ YY.out rfl, if_pos h1]; simp, BW.out.alloc hbs _⟩
              · have H1 : Hid (¬ yt < (max late yf)) := h1
                cases yw with
                | true =>
                  go_wp2
                  go_roundw
                  case rel => exact ⟨j + 1, yv, (max late yf), by omega, rfl, rfl, by go_num, BW.out.alloc hbs _, by rw [FF'.out, fitRun_cons _ _ _ _ _ YY.out rfl, if_neg (show ¬ yt < max late yf from by have := H1.out; omega)]; rfl⟩
                  case measure => simp [intOf]; omega
                | false =>
                  by_cases h2 : yv = now
                  · have h2' := h2.symm
                    subst h2'
                    go_wp2
                    go_roundw
                    case rel => exact ⟨j + 1, now, (max late yf), by omega, rfl, rfl, by go_num, BW.out.alloc hbs _, by rw [FF'.out, fitRun_cons _ _ _ _ _ YY.out rfl, if_neg (show ¬ yt < max late yf from by have := H1.out; omega)]; exact fit_same _ _ _ _ _ _⟩
                    case measure => simp [intOf]; omega
                  · have H2 : Hid (¬ yv = now) := h2
                    go_wp2
                    all_goals go_ret
                    all_goals exact ⟨by rw [fitsL, FF'.out, fitRun_cons _ _ _ _ _ YY.out rfl, if_neg (show ¬ yt < max late yf from by have := H1.out; omega)]; simp [show ¬ yv = now from H2.out], BW.out.alloc hbs _⟩
            · have hjk : j = k := by omega
              subst hjk
              go_wp2
              go_ret
              refine ⟨?_, BW.out⟩
              rw [fitsL, HID.out, FF.out, HN.out, List.drop_length, show saneB zs = true from HSA.out]
              simp [fitRun, HN.out.symm.trans hlen]
        · have hlen' : ¬ (k : Int) = (zs.length : Int) := by omega
          go_wp2_with (go_at_call 11; refine hsane.mono ?_; rintro e w4 ⟨rfl, hb4⟩)
          go_ret
          exact ⟨by rw [fitsL, HN.out] at *; simp [HN.out, hlen], HBR.out.trans (hb4.mono HBR.out.size)⟩
end Go.Proofs.Ytidnooaccbahpaa
