/- trace.left as a call: the acts that are not done, in a new list. -/
import Derived.Test.YtidnooaccbahpaaTb
set_option linter.unusedVariables false
set_option linter.unusedSimpArgs false
namespace Go.Proofs.Ytidnooaccbahpaa
open Go.RowKit Go.Proofs Go.Sx
def leftL (zs : List A) (D : Nat → Bool) (n : Nat) : List A := ((List.range n).filter fun i => !D i).map fun i => zs[i]!
theorem leftL_yes (zs : List A) (D : Nat → Bool) (n : Nat) (h : D n = false) : leftL zs D (n + 1) = leftL zs D n ++ [zs[n]!] := by
  simp [leftL, List.range_succ, h]
theorem leftL_no (zs : List A) (D : Nat → Bool) (n : Nat) (h : D n = true) : leftL zs D (n + 1) = leftL zs D n := by
  simp [leftL, List.range_succ, h]
theorem leftL_len (zs : List A) (D : Nat → Bool) (n : Nat) : (leftL zs D n).length ≤ n := by
  simp only [leftL, List.length_map]
  exact Nat.le_trans (List.length_filter_le _ _) (by simp)
def encs (l : List A) : List Value := l.flatMap enc
theorem encs_length (l : List A) : (encs l).length = l.length * 4 := by
  induction l with
  | nil => rfl
  | cons x l ih => simp only [encs, List.flatMap_cons, List.length_append, List.length_cons] at ih ⊢; rw [ih]; simp [enc]; omega
theorem encs_append (l m : List A) : encs (l ++ m) = encs l ++ encs m := by simp [encs]
theorem encs_at : ∀ (l : List A) (j i : Nat) (u : Value), j < l.length → (enc l[j]!)[i]? = some u → (encs l)[j * 4 + i]? = some u
  | x :: l, 0, i, u, hj, h => by
    have hi : i < (enc x).length := (List.getElem?_eq_some_iff.1 h).1
    simp only [encs, List.flatMap_cons, Nat.zero_mul, Nat.zero_add]
    rw [List.getElem?_append_left hi]; exact h
  | x :: l, j + 1, i, u, hj, h => by
    have := encs_at l j i u (by simpa using hj) (by simpa using h)
    simp only [encs, List.flatMap_cons] at this ⊢
    rw [List.getElem?_append_right (by simp [enc]; omega), show (j + 1) * 4 + i - (enc x).length = j * 4 + i by simp [enc]; omega]
    exact this
theorem own_lst {w : World} {base : Nat} {v : Value} {l : List A} (h : w.ownsRow base 32 4 v l.length (encs l)) (hl : l.length ≤ 9223372036854775807) : Lst w v l := by
  rcases h.2 with ⟨rfl, h0⟩ | ⟨g, cap, cur, rfl, hb, hg, h1, h2, h3, h4⟩
  · have : l = [] := List.eq_nil_of_length_eq_zero h0
    subst this
    exact ⟨none, 0, rfl, by simp, .inl rfl⟩
  · refine ⟨_, _, rfl, hl, .inr ⟨g, 0, rfl, lt_of_block hg, fun j hj i u hu => ?_⟩⟩
    have h5 := encs_at l j i u hj hu
    rw [← h4] at h5
    have hi : j * 4 + i < l.length * 4 := by
      have : i < (enc l[j]!).length := (List.getElem?_eq_some_iff.1 hu).1
      simp [enc] at this; omega
    rw [List.getElem?_take_of_lt hi] at h5
    rw [Nat.zero_add]
    simp only [World.cell?, hg]
    simpa using h5
theorem info32 : (Try.prog.info? 32).map (fun i => (i.zero, i.size, i.bytes)) = some (some (.agg #[.bool false, .int .i64 0, .int .i64 0, .int .i64 0]), 4, 32) := by kernel_rfl
theorem left_calls (zs : List A) (dn cd : Nat) (D : Nat → Bool) (b off c : Nat) (w : World) (h7 : zs.length ≤ 7) (hat : At w b off zs) (hdl : dn < w.heap.size)
    (hd : ∀ i, i < zs.length → w.cell? ⟨dn, i, none⟩ = some (.bool (D i))) :
    Calls Try.prog 19 #[.slice (some ⟨b, off, none⟩) zs.length c, .slice (some ⟨dn, 0, none⟩) zs.length cd] w fun e w' => (∃ v, e = .returned v ∧ Lst w' v (leftL zs D zs.length)) ∧ Below w.heap.size w w' := by
  obtain ⟨n, hn⟩ : ∃ n, n = zs.length := ⟨_, rfl⟩
  rw [← hn] at h7 hd ⊢
  have HN : Hid (n = zs.length) := hn
  have HA : Hid (At w b off zs) := hat
  have HD : Hid (∀ i, i < n → w.cell? ⟨dn, i, none⟩ = some (.bool (D i))) := hd
  have HL : Hid (dn < w.heap.size) := hdl
  obtain ⟨i0, hi, hz0, hz1, hz2⟩ := info_parts info32
  clear hn hat hd hdl
  go_enter Try.func19, Try.ntmps19
  go_wp2
  go_loopw [5, 10] (fun v i wr => ∃ k : Nat, k ≤ n ∧ i = .int .i64 k ∧ Hid (wr.ownsRow w.heap.size 32 4 v (leftL zs D k).length (encs (leftL zs D k))) ∧ Hid (Below w.heap.size w wr)) (fun _ i _ => n - (intOf i).toNat)
  case atStart => exact ⟨0, Nat.zero_le _, rfl, World.ownsRow_nil _ _ _ _, Below.refl _ w⟩
  case round =>
    rename_i v i wr
    obtain ⟨k, hk, rfl, hown, BW⟩ := hrel
    by_cases hlt : k < n
    · obtain ⟨y, hy⟩ : ∃ y, zs[k]! = y := ⟨_, rfl⟩
      obtain ⟨l0, l1, l2, l3⟩ := (HA.out.below BW.out).four (by rw [← HN.out]; exact hlt) hy
      have BB : Hid (zs[k]! = y) := hy
      have d0 : wr.cell? ⟨dn, k, none⟩ = some (.bool (D k)) := (BW.out.cell (p := ⟨dn, k, none⟩) HL.out).trans (HD.out k hlt)
      have hdw : dn < wr.heap.size := Nat.lt_of_lt_of_le HL.out BW.out.size
      have d1 : wr.heap.size ≠ dn := by omega
      clear hy
      have hbs := BW.out.size
      have hll := leftL_len zs D k
      cases hq : D k with
      | true =>
        rw [hq] at d0
        go_wp2
        go_roundw
        case rel => exact ⟨k + 1, by omega, by go_num, by rw [leftL_no zs D k hq]; exact hown.out.alloc _, BW.out.alloc BW.out.size _⟩
        case measure => simp [intOf]; omega
      | false =>
        rw [hq] at d0
        obtain ⟨yw, yv, yf, yt⟩ := y
        have HY := leftL_yes zs D k hq
        go_wp2_with (first
          | (at_builtin; refine wpList_append_own _ rfl _ _ 22 rfl w.heap.size 32 i0 _ 4 32 Try.underlying22 hi hz0 hz1 hz2 rfl (by decide) _ _ _ rfl ((hown.out.alloc _).alloc _) ⟨wr.heap.size + 1, 0, none⟩ 1 1 (enc ⟨yw, yv, yf, yt⟩) rfl rfl ?c1 ?c2 ?c3 ?c4 ?c5 ?_)
          | go_in)
        case c1 => intro j u hj; exact hj
        case c2 => intro u hu; simp [enc] at hu; rcases hu with rfl | rfl | rfl | rfl <;> rfl
        case c3 => unfold maxLen; omega
        case c4 => omega
        case c5 => first | omega | (simp; omega)
        · intro v' w1 hown' hgrow _
          have hB : Below w.heap.size w w1 := ((BW.out.alloc BW.out.size _).alloc (by simp; omega) _).grown hgrow (by simp; omega) (fun r hr => (hown.out.lt r hr).1)
          have hO : Hid (w1.ownsRow w.heap.size 32 4 v' (leftL zs D (k + 1)).length (encs (leftL zs D (k + 1)))) := by
            rw [HY, BB.out, encs_append, List.length_append]
            exact hown'
          clear hown' hgrow HY hown
          go_wp2
          go_roundw
          case rel => exact ⟨k + 1, by omega, by go_num, hO, hB⟩
          case measure => simp [intOf]; omega
    · have : k = n := by omega
      subst this
      go_wp2
      go_ret
      exact ⟨⟨_, rfl, own_lst hown.out (by have := leftL_len zs D k; omega)⟩, BW.out⟩
end Go.Proofs.Ytidnooaccbahpaa
