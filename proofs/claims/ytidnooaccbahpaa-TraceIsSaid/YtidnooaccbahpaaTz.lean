/- outriggerref16.next as a call. -/
import Derived.Test.YtidnooaccbahpaaTy
import Derived.Test.YtidnooaccbahpaaTu
import Derived.Deep.QuietTactic
import Derived.BigQuiet
set_option linter.unusedVariables false
set_option linter.unusedSimpArgs false
namespace Go.Proofs.Ytidnooaccbahpaa
open Go.RowKit Go.Proofs Go.Sx
attribute [local go_sem ↓] Go.wp_at_zero Go.wp_at_succ
theorem below_quiet {n0 : Nat} {w w' w'' : World} (h : Below n0 w w') (h1 : w''.os = w'.os) (h2 : w''.tape = w'.tape) (h3 : w''.output = w'.output) (h4 : w''.heap = w'.heap) : Below n0 w w'' :=
  ⟨h1.trans h.os, h2.trans h.tape, h3.trans h.output, by rw [h4]; exact h.size, fun k hk => by rw [h4]; exact h.block k hk⟩
def descI (xs : List Int) : Nat → Nat
  | 0 => 0
  | i + 1 => if xs.getD i 0 > xs.getD (i + 1) 0 then descI xs i else i + 1
def lastK (xs : List Int) (v : Int) : Nat → Nat
  | 0 => 0
  | k + 1 => if xs.getD (k + 1) 0 < v then lastK xs v k else k + 1
def swapL (xs : List Int) (a b : Nat) : List Int := (xs.set a (xs.getD b 0)).set b (xs.getD a 0)
def revL : Nat → List Int → Nat → Nat → List Int
  | 0, xs, _, _ => xs
  | f + 1, xs, a, b => if a < b then revL f (swapL xs a b) (a + 1) (b - 1) else xs
def nextI (xs : List Int) : Option (List Int) := match descI xs (xs.length - 1) with
  | 0 => none
  | i + 1 => some (revL xs.length (swapL xs i (lastK xs (xs.getD i 0) (xs.length - 1))) (i + 1) (xs.length - 1))
theorem swapL_length (xs : List Int) (a b : Nat) : (swapL xs a b).length = xs.length := by simp [swapL]
theorem revL_length : ∀ (f : Nat) (xs : List Int) (a b : Nat), (revL f xs a b).length = xs.length
  | 0, _, _, _ => rfl
  | f + 1, xs, a, b => by
    unfold revL; split
    · rw [revL_length, swapL_length]
    · rfl
theorem descI_le (xs : List Int) : ∀ i, descI xs i ≤ i
  | 0 => Nat.le_refl _
  | i + 1 => by unfold descI; split; exact Nat.le_succ_of_le (descI_le xs i); exact Nat.le_refl _
theorem own_int_at {w : World} {base g cap n : Nat} {xs : List Int} (h : w.ownsRow base 3 1 (.slice (some ⟨g, 0, none⟩) n cap) n (xs.map encI)) (hn : xs.length = n) {i : Nat} (hi : i < n) : w.cell? ⟨g, i, none⟩ = some (.int .i64 (xs.getD i 0)) := by
  rw [h.cellAt i (by omega)]
  simp [encI, List.getD_eq_getElem?_getD, hn, hi]
theorem own_int_set {w : World} {base g cap n : Nat} {xs : List Int} (h : w.ownsRow base 3 1 (.slice (some ⟨g, 0, none⟩) n cap) n (xs.map encI)) (i : Nat) (x : Int) : (w.setCell ⟨g, i, none⟩ (.int .i64 x)).ownsRow base 3 1 (.slice (some ⟨g, 0, none⟩) n cap) n ((xs.set i x).map encI) := by
  have := (h.stored i (.int .i64 x)).1
  rw [List.map_set]; exact this
def NextEnd (w : World) (r : Option (List Int)) (e : Ending) (w' : World) : Prop :=
  Below w.heap.size w w' ∧ match r with
    | some ys => ∃ lv, e = .returned (.tuple #[lv, .bool true]) ∧ w'.ownsRow w.heap.size 3 1 lv ys.length (ys.map encI)
    | none => e = .returned (.tuple #[.slice none 0 0, .bool false])
theorem desc_exit {xs : List Int} : ∀ {r : Nat}, descI xs r = r → r ≠ 0 → xs.getD (r - 1) 0 ≤ xs.getD r 0
  | 0, _, h => absurd rfl h
  | i + 1, h, _ => by
    unfold descI at h
    split at h
    · have := descI_le xs i; omega
    · rename_i h1; simp only [Nat.add_sub_cancel]; omega
set_option maxRecDepth 100000 in
set_option maxHeartbeats 3000000 in
theorem next_calls (xs : List Int) (b off c : Nat) (w : World) (hb : b < w.heap.size) (hcell : ∀ (i : Nat) v, xs[i]? = some v → w.cell? ⟨b, off + i, none⟩ = some (.int .i64 v)) (h0 : xs.length ≠ 0) (h7 : xs.length ≤ 1000) :
    Calls Try.prog 20 #[.slice (some ⟨b, off, none⟩) xs.length c] w (NextEnd w (nextI xs)) := by
  obtain ⟨i0, hi, hz0, hz1, hz2⟩ := info_parts info3
  obtain ⟨n, hn⟩ : ∃ n, n = xs.length := ⟨_, rfl⟩
  have HN : Hid (n = xs.length) := hn
  have HC : Hid (∀ (i : Nat) v, xs[i]? = some v → w.cell? ⟨b, off + i, none⟩ = some (.int .i64 v)) := hcell
  rw [← hn] at h0 h7 ⊢
  have hown0 : (w.alloc (.cells #[] 3)).ownsRow w.heap.size 3 1 (.slice (some ⟨w.heap.size, 0, none⟩) 0 0) 0 [] := World.ownsRow_made w #[] 0 (Nat.le_refl _) (Nat.zero_le _) rfl
  have hnews : ∀ (j : Nat) (u : Value), (xs.map encI)[j]? = some u → (w.alloc (.cells #[] 3)).cell? ((⟨b, off, none⟩ : Addr).add j) = some u := fun j u hu => by
    rw [List.getElem?_map] at hu
    obtain ⟨v, hv, rfl⟩ := Option.map_eq_some_iff.1 hu
    rw [Addr.add_lit]
    exact (World.grownBy_alloc w _ none).cell (hcell j v hv) (by simp)
  have hone : ∀ u ∈ xs.map encI, u.oneCell' = true := fun u hu => by
    simp only [List.mem_map] at hu
    obtain ⟨x, _, rfl⟩ := hu; rfl
  have hlm : (xs.map encI).length = n * 1 := by simp [hn]
  have HNW := (show Hid _ from hnews)
  have HON := (show Hid _ from hone)
  have HLM := (show Hid _ from hlm)
  have H00 := (show Hid _ from hown0)
  clear hnews hone hlm hown0 hcell hn
  go_enter Try.func20, Try.ntmps20
  go_wp2_with (at_builtin; refine wpList_append_own _ rfl (.tmp 10) (.tmp 11) 23 rfl w.heap.size 3 i0 _ 1 8 Try.underlying23 hi hz0 hz1 hz2 rfl (by decide) _ _ _ rfl H00.out ⟨b, off, none⟩ n c (xs.map encI) rfl HLM.out HNW.out HON.out (by unfold maxLen; omega) (by omega) (by simp) ?_; intro v1 w2 ho2 hg2 _; have hB2 : Below w.heap.size w w2 := ((Below.refl _ _).alloc (Nat.le_refl _) _).grown hg2 (by simp) (fun r hr => by cases hr; exact Nat.le_refl _); simp only [Nat.zero_add, List.nil_append] at ho2; obtain ⟨g, cap, rfl, hcap, hgb⟩ := own_shape' ho2 h0)
  have HO2 := (show Hid _ from ho2)
  have HB2 := (show Hid _ from hB2)
  clear ho2 hB2 hg2 HNW HON HLM H00
  go_loopw [5] (fun s5 wr => ∃ r : Nat, r ≤ n - 1 ∧ s5 = .int .i64 ((r : Int) - 1) ∧ Hid (Below w.heap.size w wr) ∧ Hid (wr.ownsRow w.heap.size 3 1 (.slice (some ⟨g, 0, none⟩) n cap) n (xs.map encI)) ∧ Hid (descI xs (n - 1) = descI xs r)) (fun s5 _ => (intOf s5 + 1).toNat)
  case atStart => exact ⟨n - 1, Nat.le_refl _, by go_num, HB2, HO2, rfl⟩
  case round =>
    obtain ⟨r, hr, rfl, BW, OW, DD⟩ := hrel
    have hxl : xs.length = n := HN.out.symm
    cases r with
    | zero =>
      have hnx : nextI xs = none := by
        have h1 := DD.out
        rw [HN.out] at h1
        unfold nextI; rw [h1]; rfl
      have HNX : Hid (nextI xs = none) := hnx
      clear hnx
      rw [show ((0 : Nat) : Int) - 1 = -1 from rfl]
      go_wp2_with fail
      go_quiet (fail)
      go_wp2
      all_goals go_ret2
      all_goals exact ⟨below_quiet BW.out rfl rfl rfl rfl, by rw [HNX.out]; rfl⟩
    | succ i =>
      have hin : i + 1 < n := by omega
      rw [show ((i + 1 : Nat) : Int) - 1 = (i : Int) by omega]
      have d1 := own_int_at OW.out hxl (i := i) (by omega)
      have d2 := own_int_at OW.out hxl (i := i + 1) hin
      have i0' : (0 : Int) ≤ (i : Int) := Int.natCast_nonneg _
      have i1' : (i : Int) < (n : Int) := by omega
      have i2' : (0 : Int) ≤ (i : Int) + 1 := by omega
      have i3' : (i : Int) + 1 < (n : Int) := by omega
      have hwr : IntKind.i64.wrap ((i : Int) + 1) = (i : Int) + 1 := (rg_iff (k := .i64)).2 ⟨by simp only [loK]; omega, by simp only [hiK]; omega⟩
      have HXL : Hid (xs.length = n) := hxl
      have E1 : Hid (descI xs (i + 1) = if xs.getD i 0 > xs.getD (i + 1) 0 then descI xs i else i + 1) := rfl
      clear hxl
      obtain ⟨u, hu⟩ : ∃ u, xs.getD i 0 = u := ⟨_, rfl⟩
      obtain ⟨u2, hu2⟩ : ∃ u, xs.getD (i + 1) 0 = u := ⟨_, rfl⟩
      rw [hu] at d1
      rw [hu2] at d2
      rw [hu, hu2] at E1
      have HU : Hid (xs.getD i 0 = u) := hu
      have HU2 : Hid (xs.getD (i + 1) 0 = u2) := hu2
      clear hu hu2
      by_cases hgt : u > u2
      · have hgt' : u2 < u := hgt
        have E2 : Hid (descI xs (n - 1) = descI xs i) := by show _ = _; rw [DD.out, E1.out, if_pos hgt]
        go_wp2_with fail
        go_region_held3 (fun w' => w'.cell? ⟨g, i, none⟩ = some (.int .i64 u) ∧ w'.cell? ⟨g, i + 1, none⟩ = some (.int .i64 u2)) (go_keep) (fail)
        go_wp2
        go_roundw
        case rel => exact ⟨i, by omega, by go_num, BW.out.drew, OW.out.drew, E2.out⟩
        case measure => first | (simp [intOf]; done) | (simp [intOf]; omega)
      · have hle : u ≤ u2 := by omega
        have E2 : Hid (descI xs (n - 1) = i + 1) := by show _ = _; rw [DD.out, E1.out, if_neg hgt]
        have HNX : Hid (nextI xs = some (revL n (swapL xs i (lastK xs u (n - 1))) (i + 1) (n - 1))) := by
          show _ = _
          unfold nextI
          rw [HXL.out, E2.out]
          simp only [HU.out]
        clear E1
        go_wp2_with fail
        go_region_held3 (fun w' => w'.cell? ⟨g, i, none⟩ = some (.int .i64 u) ∧ w'.cell? ⟨g, i + 1, none⟩ = some (.int .i64 u2)) (go_keep) (fail)
        go_wp2
        have BW2 : Hid (Below w.heap.size w wr.drew) := BW.out.drew
        have OW2 : Hid (wr.drew.ownsRow w.heap.size 3 1 (.slice (some ⟨g, 0, none⟩) n cap) n (xs.map encI)) := OW.out.drew
        go_loopw [6] (fun s6 wr3 => ∃ kq : Nat, i < kq ∧ kq ≤ n - 1 ∧ s6 = .int .i64 kq ∧ Hid (Below w.heap.size w wr3) ∧ Hid (wr3.ownsRow w.heap.size 3 1 (.slice (some ⟨g, 0, none⟩) n cap) n (xs.map encI)) ∧ Hid (lastK xs u (n - 1) = lastK xs u kq)) (fun s6 _ => (intOf s6).toNat)
        case atStart => exact ⟨n - 1, by omega, Nat.le_refl _, by go_num, BW2, OW2, rfl⟩
        case round =>
          clear d1 d2
          obtain ⟨kq, hk1, hk2, rfl, B3, O3, KK⟩ := hrel
          obtain ⟨k, rfl⟩ : ∃ k, kq = k + 1 := ⟨kq - 1, by omega⟩
          have hk3 : k + 1 < n := by omega
          have d1 := own_int_at O3.out HXL.out (i := i) (by omega)
          have d3 := own_int_at O3.out HXL.out (i := k + 1) hk3
          rw [HU.out] at d1
          have EK : Hid (lastK xs u (k + 1) = if xs.getD (k + 1) 0 < u then lastK xs u k else k + 1) := rfl
          obtain ⟨uk, huk⟩ : ∃ u, xs.getD (k + 1) 0 = u := ⟨_, rfl⟩
          rw [huk] at d3 EK
          have HUK : Hid (xs.getD (k + 1) 0 = uk) := huk
          have hki : uk < u → i < k := fun h => by
            rcases Nat.lt_or_ge i k with h1 | h1
            · exact h1
            · have : k = i := by omega
              subst this
              rw [HU2.out] at huk; omega
          clear huk
          have j0' : (0 : Int) ≤ (k : Int) + 1 := by omega
          have j1' : (k : Int) + 1 < (n : Int) := by omega
          have HKI := (show Hid _ from hki)
          clear hki
          by_cases hlt : uk < u
          · have E3 : Hid (lastK xs u (n - 1) = lastK xs u k) := by show _ = _; rw [KK.out, EK.out, if_pos hlt]
            have hik := HKI.out hlt
            go_wp2_with fail
            go_region_held3 (fun w' => w'.cell? ⟨g, k + 1, none⟩ = some (.int .i64 uk) ∧ w'.cell? ⟨g, i, none⟩ = some (.int .i64 u)) (go_keep) (fail)
            go_wp2
            go_roundw
            case rel => exact ⟨k, hik, by omega, by go_num, B3.out.drew, O3.out.drew, E3.out⟩
            case measure => first | (simp [intOf]; done) | (simp [intOf]; omega)
          · have hge : u ≤ uk := by omega
            have E3 : Hid (nextI xs = some (revL n (swapL xs i (k + 1)) (i + 1) (n - 1))) := by
              show _ = _
              rw [HNX.out, KK.out, EK.out, if_neg hlt]
            have z1 : wr.frozen? ⟨g, i, none⟩ = false := O3.out.frozenAt _
            have z2 : wr.frozen? ⟨g, k + 1, none⟩ = false := O3.out.frozenAt _
            have HO5 : Hid (((wr.setCell ⟨g, i, none⟩ (.int .i64 uk)).setCell ⟨g, k + 1, none⟩ (.int .i64 u)).drew.ownsRow w.heap.size 3 1 (.slice (some ⟨g, 0, none⟩) n cap) n ((swapL xs i (k + 1)).map encI)) := by
              have := (own_int_set (own_int_set O3.out i uk) (k + 1) u).drew
              show World.ownsRow _ _ _ _ _ _ _
              unfold swapL; rw [HUK.out, HU.out]; exact this
            have HB5 : Hid (Below w.heap.size w ((wr.setCell ⟨g, i, none⟩ (.int .i64 uk)).setCell ⟨g, k + 1, none⟩ (.int .i64 u)).drew) := ((B3.out.setCell (p := ⟨g, i, none⟩) hgb _).setCell (p := ⟨g, k + 1, none⟩) hgb _).drew
            clear EK
            go_wp2_with fail
            go_region_held3 (fun w' => w'.cell? ⟨g, k + 1, none⟩ = some (.int .i64 uk) ∧ w'.cell? ⟨g, i, none⟩ = some (.int .i64 u)) (go_keep) (fail)
            go_wp2
            go_loopw [7, 8, 9] (fun s7 s8 s9 wr4 => ∃ (f a b' : Nat) (ys : List Int) (x : Int), s7 = .int .i64 x ∧ s8 = .int .i64 a ∧ s9 = .int .i64 b' ∧ b' < n ∧ b' < a + f ∧ ys.length = n ∧ Hid (Below w.heap.size w wr4) ∧ Hid (wr4.ownsRow w.heap.size 3 1 (.slice (some ⟨g, 0, none⟩) n cap) n (ys.map encI)) ∧ Hid (nextI xs = some (revL f ys a b'))) (fun _ s8 s9 _ => (intOf s9 - intOf s8).toNat)
            case atStart => exact ⟨n, i + 1, n - 1, swapL xs i (k + 1), u, rfl, by go_num, by go_num, by omega, by omega, by rw [swapL_length]; exact HXL.out, HB5, HO5, E3.out⟩
            case round =>
              obtain ⟨f, a, b', ys, x, rfl, rfl, rfl, hb1, hb2, hyl, B6, O6, RR⟩ := hrel
              by_cases hab : a < b'
              · obtain ⟨f', rfl⟩ : ∃ f', f = f' + 1 := ⟨f - 1, by omega⟩
                have p1 := own_int_at O6.out hyl (i := a) (by omega)
                have p2 := own_int_at O6.out hyl (i := b') hb1
                have z3 : wr.frozen? ⟨g, a, none⟩ = false := O6.out.frozenAt _
                have z4 : wr.frozen? ⟨g, b', none⟩ = false := O6.out.frozenAt _
                have HYL : Hid (ys.length = n) := hyl
                have R2 : Hid (nextI xs = some (revL f' (swapL ys a b') (a + 1) (b' - 1))) := by
                  show _ = _
                  rw [RR.out, revL, if_pos hab]
                have HO7 : Hid (((wr.setCell ⟨g, a, none⟩ (.int .i64 (ys.getD b' 0))).setCell ⟨g, b', none⟩ (.int .i64 (ys.getD a 0))).ownsRow w.heap.size 3 1 (.slice (some ⟨g, 0, none⟩) n cap) n ((swapL ys a b').map encI)) := own_int_set (own_int_set O6.out a _) b' _
                obtain ⟨ya, hya⟩ : ∃ u, ys.getD a 0 = u := ⟨_, rfl⟩
                obtain ⟨yb, hyb⟩ : ∃ u, ys.getD b' 0 = u := ⟨_, rfl⟩
                rw [hya] at p1 HO7
                rw [hyb] at p2 HO7
                clear hya hyb hyl RR
                have a0' : (a : Int) < (b' : Int) := by omega
                go_wp2
                go_roundw
                case rel => exact ⟨f', a + 1, b' - 1, swapL ys a b', ya, rfl, by go_num, by go_num, by omega, by omega, by rw [swapL_length]; exact HYL.out, (B6.out.setCell (p := ⟨g, a, none⟩) hgb _).setCell (p := ⟨g, b', none⟩) hgb _, HO7, R2.out⟩
                case measure => first | (simp [intOf]; done) | (simp [intOf]; omega)
              · have HY : Hid (nextI xs = some ys) := by
                  show _ = _
                  rw [RR.out]
                  cases f with
                  | zero => rfl
                  | succ f => rw [revL, if_neg hab]
                have HO8 : Hid (wr.ownsRow w.heap.size 3 1 (.slice (some ⟨g, 0, none⟩) n cap) ys.length (ys.map encI)) := by
                  show World.ownsRow _ _ _ _ _ _ _
                  rw [hyl]; exact O6.out
                clear hyl RR
                go_wp2
                all_goals go_ret2
                all_goals exact ⟨B6.out, by rw [HY.out]; exact ⟨_, rfl, HO8.out⟩⟩
end Go.Proofs.Ytidnooaccbahpaa
