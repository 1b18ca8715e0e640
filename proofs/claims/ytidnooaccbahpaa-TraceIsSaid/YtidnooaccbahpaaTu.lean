/- TraceWide, walked: a copy whose act is written over, and a copy with one act left out. -/
import Derived.Test.YtidnooaccbahpaaTt
set_option linter.unusedVariables false
set_option linter.unusedSimpArgs false
namespace Go.Proofs.Ytidnooaccbahpaa
open Go.RowKit Go.Proofs Go.Sx
theorem encs_set : ∀ (l : List A) (i r : Nat) (x : A) (u : Value), i < l.length → r < 4 → enc x = (enc l[i]!).set r u → (encs l).set (i * 4 + r) u = encs (l.set i x)
  | y :: l, 0, r, x, u, _, hr, h => by
    simp only [List.getElem!_cons_zero] at h
    simp only [encs, List.flatMap_cons, List.set_cons_zero, Nat.zero_mul, Nat.zero_add, h]
    rw [List.set_append_left _ _ (by simp [enc]; omega)]
  | y :: l, i + 1, r, x, u, hi, hr, h => by
    have ih := encs_set l i r x u (by simpa using hi) hr (by simpa using h)
    simp only [encs, List.flatMap_cons, List.set_cons_succ] at ih ⊢
    rw [List.set_append_right _ _ (by simp [enc]; omega), ← ih]
    congr 1
    simp [enc]; congr 1; omega
/-- a cell of an own list -/
theorem own_at {w : World} {base : Nat} {g cap : Nat} {l : List A} (h : w.ownsRow base 32 4 (.slice (some ⟨g, 0, none⟩) l.length cap) l.length (encs l)) {i r : Nat} {u : Value} (hi : i < l.length) (hu : (enc l[i]!)[r]? = some u) : w.cell? ⟨g, i * 4 + r, none⟩ = some u := by
  have hr : r < 4 := by have := (List.getElem?_eq_some_iff.1 hu).1; simpa [enc] using this
  rw [h.cellAt _ (by omega)]
  exact encs_at l i r u hi hu
theorem own_shape' {w : World} {base e sz m : Nat} {v : Value} {xs : List Value} (h : w.ownsRow base e sz v m xs) (hm : m ≠ 0) : ∃ g cap, v = .slice (some ⟨g, 0, none⟩) m cap ∧ m ≤ cap ∧ base ≤ g := by
  rcases h.2 with ⟨_, h0⟩ | ⟨g, cap, cur, rfl, h3, h4, h5, _⟩
  · exact absurd h0 hm
  · exact ⟨g, cap, rfl, h5, h3⟩
theorem At.take {w : World} {b off : Nat} {zs : List A} (h : At w b off zs) (i : Nat) : At w b off (zs.take i) := ⟨h.1, fun j hj r u hu => by
  have hj1 : j < zs.length := by simp at hj; omega
  have hj2 : j < i := by simp at hj; omega
  refine h.2 j hj1 r u ?_
  rw [← hu, getElem!_pos (zs.take i) j hj, getElem!_pos zs j hj1]; simp⟩
theorem At.drop {w : World} {b off : Nat} {zs : List A} (h : At w b off zs) (i : Nat) : At w b (off + i * 4) (zs.drop i) := ⟨h.1, fun j hj r u hu => by
  have hj1 : i + j < zs.length := by simp at hj; omega
  have := h.2 (i + j) hj1 r u (by rw [← hu, getElem!_pos (zs.drop i) j hj, getElem!_pos zs (i + j) hj1]; simp)
  rw [show off + i * 4 + j * 4 + r = off + (i + j) * 4 + r by omega]; exact this⟩
theorem At.sub {w : World} {b off : Nat} {zs : List A} (h : At w b off zs) : True := trivial
set_option maxRecDepth 100000 in
set_option maxHeartbeats 1000000 in
theorem wide_calls (zs : List A) (k less more : Int) (b off c : Nat) (W : World) (hat : At W b off zs) (hnc : zs.length ≤ c) (h0 : zs.length ≠ 0) (h7 : zs.length ≤ 7) (hok : (orderL zs).isSome = true) (hl : 0 ≤ less) (hl2 : less ≤ 9223372036854775807) (hm : 0 ≤ more) (hm2 : more ≤ 1000) :
    Calls Try.prog 6 #[.slice (some ⟨b, off, none⟩) zs.length c, .int .i64 k, .int .i64 less, .int .i64 more] W fun e w' => e = .returned (.bool true) ∧ Below W.heap.size W w' := by
  have hup := awake_calls W
  obtain ⟨i0, hi, hz0, hz1, hz2⟩ := info_parts info32
  have HO : Hid _ := order_flag zs (.slice (some ⟨b, off, none⟩) zs.length c) W ⟨_, _, rfl, by omega, .inr ⟨b, off, rfl, hat⟩⟩ hok
  have HA : Hid (At W b off zs) := hat
  obtain ⟨n, hn⟩ : ∃ n, n = zs.length := ⟨_, rfl⟩
  have HN : Hid (n = zs.length) := hn
  rw [← hn] at h0 h7 hnc
  obtain ⟨i, hin, hik⟩ := pick_at k h0
  have hn7 : decide ((7 : Int) < (n : Int)) = false := by simp; omega
  have hn0 : ((n : Int) == 0) = false := by simp; omega
  have hld : decide (less < 0) = false := by simp; omega
  have hmd : decide (more < 0) = false := by simp; omega
  have hmd2 : decide ((1000 : Int) < more) = false := by simp; omega
  have hsane := sane_at (order_some.1 hok).1 (j := i) (by omega)
  obtain ⟨x, hx⟩ : ∃ x, zs[i]! = x := ⟨_, rfl⟩
  rw [hx] at hsane
  have HX : Hid (zs[i]! = x) := hx
  have H2 : Hid ((orderL (zs.set i ⟨x.w, x.v, max 0 (x.fr - less), min 1099511627776 (x.to + more)⟩)).isSome = true) := by
    have := wide_some (i := i) (f := max 0 (x.fr - less)) (t := min 1099511627776 (x.to + more)) hok (by omega) (by omega) (by rw [hx]; omega) (by rw [hx]; omega) (by omega)
    rw [hx] at this; exact this
  have H3 : Hid ((orderL (zs.take i ++ zs.drop (i + 1))).isSome = true ∨ x.w = true) := by
    cases hw : x.w with
    | true => exact .inr rfl
    | false => rw [← hx] at hw; exact .inl (less_some hok (by omega) hw)
  have hbW := hat.1
  have hzl : zs.length = n := hn.symm
  obtain ⟨B3, hB3e⟩ : ∃ B, (orderL (zs.take i ++ zs.drop (i + 1))).isSome = B := ⟨_, rfl⟩
  have K3 : B3 = true ∨ x.w = true := by rw [← hB3e]; exact H3.out
  have hlen3 : (zs.take i ++ zs.drop (i + 1)).length = i + (n - (i + 1)) := by simp; omega
  obtain ⟨xw, xv, xf, xt⟩ := x
  simp only [okA] at K3 hsane H2
  obtain ⟨hf0, hft, htx⟩ := hsane
  have C2 : Hid (∀ (w : World) (g cap : Nat), w.ownsRow W.heap.size 32 4 (.slice (some ⟨g, 0, none⟩) n cap) n (encs zs) →
      Calls Try.prog 9 #[.slice (some ⟨g, 0, none⟩) n cap] ((w.setCell ⟨g, i * 4 + 2, none⟩ (.int .i64 (max 0 (xf - less)))).setCell ⟨g, i * 4 + 3, none⟩ (.int .i64 (min 1099511627776 (xt + more)))) fun e w' =>
        Below ((w.setCell ⟨g, i * 4 + 2, none⟩ (.int .i64 (max 0 (xf - less)))).setCell ⟨g, i * 4 + 3, none⟩ (.int .i64 (min 1099511627776 (xt + more)))).heap.size ((w.setCell ⟨g, i * 4 + 2, none⟩ (.int .i64 (max 0 (xf - less)))).setCell ⟨g, i * 4 + 3, none⟩ (.int .i64 (min 1099511627776 (xt + more)))) w' ∧
        ∃ lv, e = .returned (.tuple #[lv, .bool true])) := fun w g cap h => by
    have h2 := ((h.stored (i * 4 + 2) (.int .i64 (max 0 (xf - less)))).1.stored (i * 4 + 3) (.int .i64 (min 1099511627776 (xt + more)))).1
    have hi' : i < zs.length := by omega
    have e1 := encs_set zs i 2 ⟨xw, xv, max 0 (xf - less), xt⟩ (.int .i64 (max 0 (xf - less))) hi' (by omega) (by rw [HX.out]; simp [enc])
    have e2 := encs_set (zs.set i ⟨xw, xv, max 0 (xf - less), xt⟩) i 3 ⟨xw, xv, max 0 (xf - less), min 1099511627776 (xt + more)⟩ (.int .i64 (min 1099511627776 (xt + more))) (by simpa using hi') (by omega) (by rw [set_at hi' i hi', if_pos rfl]; simp [enc])
    rw [e1, e2, List.set_set] at h2
    have hll : (zs.set i ⟨xw, xv, max 0 (xf - less), min 1099511627776 (xt + more)⟩).length = n := by simp [hzl]
    refine (order_calls _ (.slice (some ⟨g, 0, none⟩) n cap) _ (own_lst (base := W.heap.size) (l := zs.set i ⟨xw, xv, max 0 (xf - less), min 1099511627776 (xt + more)⟩) (by rw [hll]; exact h2) (by rw [hll]; omega))).mono fun e w' he => ?_
    have := order_end he
    rw [show (orderL (zs.set i ⟨xw, xv, max 0 (xf - less), min 1099511627776 (xt + more)⟩)).isSome = true from H2.out] at this
    exact this
  have C3 : Hid (∀ (w : World) (v : Value), w.ownsRow W.heap.size 32 4 v (i + (n - (i + 1))) (encs (zs.take i) ++ encs (zs.drop (i + 1))) → Calls Try.prog 9 #[v] w fun e w' => Below w.heap.size w w' ∧ ∃ lv, e = .returned (.tuple #[lv, .bool B3])) := fun w v h => by
    refine (order_calls (zs.take i ++ zs.drop (i + 1)) v w (own_lst (base := W.heap.size) (by rw [hlen3, encs_append]; exact h) (by rw [hlen3]; omega))).mono fun e w' he => ?_
    rw [← hB3e]; exact order_end he
  have L4 : Hid (∀ w', Below W.heap.size W w' → w'.cell? ⟨b, off + i * 4, none⟩ = some (.bool xw)) := fun w' hw' => ((HA.out.below hw').four (by omega) HX.out).1
  have O4 : Hid (∀ (w : World) (g cap : Nat), w.ownsRow W.heap.size 32 4 (.slice (some ⟨g, 0, none⟩) n cap) n (encs zs) → w.cell? ⟨g, i * 4 + 2, none⟩ = some (.int .i64 xf) ∧ w.cell? ⟨g, i * 4 + 3, none⟩ = some (.int .i64 xt) ∧ w.frozen? ⟨g, i * 4 + 2, none⟩ = false ∧ w.frozen? ⟨g, i * 4 + 3, none⟩ = false) := fun w g cap h => by
    have h' := h
    rw [← hzl] at h'
    exact ⟨own_at h' (r := 2) (by omega) (by rw [HX.out]; rfl), own_at h' (r := 3) (by omega) (by rw [HX.out]; rfl), h.frozenAt _, h.frozenAt _⟩
  have A4 : Hid (∀ w', Below W.heap.size W w' → ∀ (q : Nat) (u : Value), (encs zs)[q]? = some u → w'.cell? ((⟨b, off, none⟩ : Addr).add q) = some u) := fun w' hw' => at_encs (HA.out.below hw')
  have A5 : Hid (∀ w', Below W.heap.size W w' → ∀ (q : Nat) (u : Value), (encs (zs.take i))[q]? = some u → w'.cell? ((⟨b, off, none⟩ : Addr).add q) = some u) := fun w' hw' => at_encs ((HA.out.below hw').take i)
  have A6 : Hid (∀ w', Below W.heap.size W w' → ∀ (q : Nat) (u : Value), (encs (zs.drop (i + 1)))[q]? = some u → w'.cell? ((⟨b, off + (i + 1) * 4, none⟩ : Addr).add q) = some u) := fun w' hw' => at_encs ((HA.out.below hw').drop (i + 1))
  have N4 : (encs zs).length = n * 4 := by rw [encs_length, hzl]
  have N5 : (encs (zs.take i)).length = i * 4 := by rw [encs_length]; simp; omega
  have N6 : (encs (zs.drop (i + 1))).length = (n - (i + 1)) * 4 := by rw [encs_length]; simp [hzl]
  have HO4 : Hid (∀ u ∈ encs zs, u.oneCell' = true) := encs_one zs
  have HO5 : Hid (∀ u ∈ encs (zs.take i), u.oneCell' = true) := encs_one _
  have HO6 : Hid (∀ u ∈ encs (zs.drop (i + 1)), u.oneCell' = true) := encs_one _
  have HN4 := (show Hid _ from N4)
  have HN5 := (show Hid _ from N5)
  have HN6 := (show Hid _ from N6)
  clear hat hok hx hzl hB3e hlen3 H2 H3 N4 N5 N6
  rw [← hn]
  simp only [← hn] at HO
  clear hn
  have HK3 := (show Hid _ from K3)
  clear K3
  by_cases hci : c = i + 1
  · subst hci
    have CV : Hid (∀ (w' : World) (v : Value), w'.ownsRow W.heap.size 32 4 v (i + 0) (encs (zs.take i) ++ []) → w'.ownsRow W.heap.size 32 4 v (i + (n - (i + 1))) (encs (zs.take i) ++ encs (zs.drop (i + 1)))) := fun w' v h => by
      have h1 : n - (i + 1) = 0 := by omega
      have h2 : encs (zs.drop (i + 1)) = [] := List.eq_nil_of_length_eq_zero (by rw [HN6.out]; omega)
      rw [h1, h2]; exact h
    cases B3 with
    | true =>
      go_enter Try.func6, Try.ntmps6
      go_wp2_with (first
        | (go_at_call 8; refine hup.mono ?_; rintro e w1 ⟨rfl, hb1⟩)
        | (go_at_call 9; refine (C3.out _ _ ho8).mono ?_; rintro e w9 ⟨hb9, lv3, rfl⟩; have hB9 : Below W.heap.size W w9 := hB8.trans (hb9.mono hs8); have q0 := L4.out w9 hB9)
        | (go_at_call 9; refine (C2.out _ _ _ ho4).mono ?_; rintro e w6 ⟨hb6, lv2, rfl⟩; have hB6 : Below W.heap.size W w6 := ((hB4.setCell (p := ⟨g4, i * 4 + 2, none⟩) hg4b _).setCell (p := ⟨g4, i * 4 + 3, none⟩) hg4b _).trans (hb6.mono (by simp; omega)); have hs6 := hB6.size)
        | (go_at_call 9; refine (HO.out _ hb1).mono ?_; rintro e w2 ⟨hb2, lv, rfl⟩; have hB2 : Below W.heap.size W w2 := hb1.trans (hb2.mono hb1.size); have hs2 := hB2.size)
        | (at_builtin; refine wpList_append_own _ rfl (.tmp 55) (.tmp 56) 22 rfl W.heap.size 32 i0 _ 4 32 Try.underlying22 hi hz0 hz1 hz2 rfl (by decide) _ _ _ rfl (own_empty w2 W.heap.size hs2) ⟨b, off, none⟩ n _ (encs zs) rfl HN4.out (A4.out _ (hB2.alloc hs2 _)) HO4.out (by unfold maxLen; omega) (by omega) (by simp; omega) ?_; intro v1 w4 ho4 hg4 _; have hB4 : Below W.heap.size W w4 := (hB2.alloc hs2 _).grown hg4 (by simp; omega) (fun r hr => by cases hr; exact hs2); have hs4 := hB4.size; simp only [Nat.zero_add, List.nil_append] at ho4; obtain ⟨g4, cap4, rfl, hcap4, hg4b⟩ := own_shape' ho4 h0; obtain ⟨f2, f3, z2, z3⟩ := O4.out _ _ _ ho4)
        | (at_builtin; refine wpList_append_own _ rfl (.tmp 87) (.tmp 90) 22 rfl W.heap.size 32 i0 _ 4 32 Try.underlying22 hi hz0 hz1 hz2 rfl (by decide) _ _ _ rfl (own_empty w6 W.heap.size hs6) ⟨b, off, none⟩ i _ (encs (zs.take i)) rfl HN5.out (A5.out _ (hB6.alloc hs6 _)) HO5.out (by unfold maxLen; omega) (by omega) (by simp; omega) ?_; intro v3 w7 ho7 hg7 _; have hB7 : Below W.heap.size W w7 := (hB6.alloc hs6 _).grown hg7 (by simp; omega) (fun r hr => by cases hr; exact hs6); have hs7 := hB7.size; simp only [Nat.zero_add, List.nil_append] at ho7)
        | (at_builtin; refine wpList_append_own _ rfl (.tmp 92) (.tmp 96) 22 rfl W.heap.size 32 i0 _ 4 32 Try.underlying22 hi hz0 hz1 hz2 rfl (by decide) _ _ _ rfl ho7 ⟨b, off, none⟩ 0 _ [] rfl rfl (fun q u hu => by cases hu) (fun u hu => by cases hu) (by unfold maxLen; omega) (by omega) (by omega) ?_; intro v4 w8 ho8' hg8 _; have ho8 := CV.out _ _ ho8'; have hB8 : Below W.heap.size W w8 := hB7.grown hg8 hs7 (fun r hr => (ho7.lt r hr).1); have hs8 := hB8.size))
      all_goals go_ret
      all_goals exact ⟨rfl, hB9⟩
    | false =>
      have hxw : xw = true := HK3.out.resolve_left (by simp)
      subst hxw
      go_enter Try.func6, Try.ntmps6
      go_wp2_with (first
        | (go_at_call 8; refine hup.mono ?_; rintro e w1 ⟨rfl, hb1⟩)
        | (go_at_call 9; refine (C3.out _ _ ho8).mono ?_; rintro e w9 ⟨hb9, lv3, rfl⟩; have hB9 : Below W.heap.size W w9 := hB8.trans (hb9.mono hs8); have q0 := L4.out w9 hB9)
        | (go_at_call 9; refine (C2.out _ _ _ ho4).mono ?_; rintro e w6 ⟨hb6, lv2, rfl⟩; have hB6 : Below W.heap.size W w6 := ((hB4.setCell (p := ⟨g4, i * 4 + 2, none⟩) hg4b _).setCell (p := ⟨g4, i * 4 + 3, none⟩) hg4b _).trans (hb6.mono (by simp; omega)); have hs6 := hB6.size)
        | (go_at_call 9; refine (HO.out _ hb1).mono ?_; rintro e w2 ⟨hb2, lv, rfl⟩; have hB2 : Below W.heap.size W w2 := hb1.trans (hb2.mono hb1.size); have hs2 := hB2.size)
        | (at_builtin; refine wpList_append_own _ rfl (.tmp 55) (.tmp 56) 22 rfl W.heap.size 32 i0 _ 4 32 Try.underlying22 hi hz0 hz1 hz2 rfl (by decide) _ _ _ rfl (own_empty w2 W.heap.size hs2) ⟨b, off, none⟩ n _ (encs zs) rfl HN4.out (A4.out _ (hB2.alloc hs2 _)) HO4.out (by unfold maxLen; omega) (by omega) (by simp; omega) ?_; intro v1 w4 ho4 hg4 _; have hB4 : Below W.heap.size W w4 := (hB2.alloc hs2 _).grown hg4 (by simp; omega) (fun r hr => by cases hr; exact hs2); have hs4 := hB4.size; simp only [Nat.zero_add, List.nil_append] at ho4; obtain ⟨g4, cap4, rfl, hcap4, hg4b⟩ := own_shape' ho4 h0; obtain ⟨f2, f3, z2, z3⟩ := O4.out _ _ _ ho4)
        | (at_builtin; refine wpList_append_own _ rfl (.tmp 87) (.tmp 90) 22 rfl W.heap.size 32 i0 _ 4 32 Try.underlying22 hi hz0 hz1 hz2 rfl (by decide) _ _ _ rfl (own_empty w6 W.heap.size hs6) ⟨b, off, none⟩ i _ (encs (zs.take i)) rfl HN5.out (A5.out _ (hB6.alloc hs6 _)) HO5.out (by unfold maxLen; omega) (by omega) (by simp; omega) ?_; intro v3 w7 ho7 hg7 _; have hB7 : Below W.heap.size W w7 := (hB6.alloc hs6 _).grown hg7 (by simp; omega) (fun r hr => by cases hr; exact hs6); have hs7 := hB7.size; simp only [Nat.zero_add, List.nil_append] at ho7)
        | (at_builtin; refine wpList_append_own _ rfl (.tmp 92) (.tmp 96) 22 rfl W.heap.size 32 i0 _ 4 32 Try.underlying22 hi hz0 hz1 hz2 rfl (by decide) _ _ _ rfl ho7 ⟨b, off, none⟩ 0 _ [] rfl rfl (fun q u hu => by cases hu) (fun u hu => by cases hu) (by unfold maxLen; omega) (by omega) (by omega) ?_; intro v4 w8 ho8' hg8 _; have ho8 := CV.out _ _ ho8'; have hB8 : Below W.heap.size W w8 := hB7.grown hg8 hs7 (fun r hr => (ho7.lt r hr).1); have hs8 := hB8.size))
      all_goals go_ret
      all_goals exact ⟨rfl, hB9⟩
  · have hci2 : ¬ c - (i + 1) = 0 := by omega
    cases B3 with
    | true =>
      go_enter Try.func6, Try.ntmps6
      go_wp2_with (first
        | (go_at_call 8; refine hup.mono ?_; rintro e w1 ⟨rfl, hb1⟩)
        | (go_at_call 9; refine (C3.out _ _ ho8).mono ?_; rintro e w9 ⟨hb9, lv3, rfl⟩; have hB9 : Below W.heap.size W w9 := hB8.trans (hb9.mono hs8); have q0 := L4.out w9 hB9)
        | (go_at_call 9; refine (C2.out _ _ _ ho4).mono ?_; rintro e w6 ⟨hb6, lv2, rfl⟩; have hB6 : Below W.heap.size W w6 := ((hB4.setCell (p := ⟨g4, i * 4 + 2, none⟩) hg4b _).setCell (p := ⟨g4, i * 4 + 3, none⟩) hg4b _).trans (hb6.mono (by simp; omega)); have hs6 := hB6.size)
        | (go_at_call 9; refine (HO.out _ hb1).mono ?_; rintro e w2 ⟨hb2, lv, rfl⟩; have hB2 : Below W.heap.size W w2 := hb1.trans (hb2.mono hb1.size); have hs2 := hB2.size)
        | (at_builtin; refine wpList_append_own _ rfl (.tmp 55) (.tmp 56) 22 rfl W.heap.size 32 i0 _ 4 32 Try.underlying22 hi hz0 hz1 hz2 rfl (by decide) _ _ _ rfl (own_empty w2 W.heap.size hs2) ⟨b, off, none⟩ n _ (encs zs) rfl HN4.out (A4.out _ (hB2.alloc hs2 _)) HO4.out (by unfold maxLen; omega) (by omega) (by simp; omega) ?_; intro v1 w4 ho4 hg4 _; have hB4 : Below W.heap.size W w4 := (hB2.alloc hs2 _).grown hg4 (by simp; omega) (fun r hr => by cases hr; exact hs2); have hs4 := hB4.size; simp only [Nat.zero_add, List.nil_append] at ho4; obtain ⟨g4, cap4, rfl, hcap4, hg4b⟩ := own_shape' ho4 h0; obtain ⟨f2, f3, z2, z3⟩ := O4.out _ _ _ ho4)
        | (at_builtin; refine wpList_append_own _ rfl (.tmp 87) (.tmp 90) 22 rfl W.heap.size 32 i0 _ 4 32 Try.underlying22 hi hz0 hz1 hz2 rfl (by decide) _ _ _ rfl (own_empty w6 W.heap.size hs6) ⟨b, off, none⟩ i _ (encs (zs.take i)) rfl HN5.out (A5.out _ (hB6.alloc hs6 _)) HO5.out (by unfold maxLen; omega) (by omega) (by simp; omega) ?_; intro v3 w7 ho7 hg7 _; have hB7 : Below W.heap.size W w7 := (hB6.alloc hs6 _).grown hg7 (by simp; omega) (fun r hr => by cases hr; exact hs6); have hs7 := hB7.size; simp only [Nat.zero_add, List.nil_append] at ho7)
        | (at_builtin; refine wpList_append_own _ rfl (.tmp 92) (.tmp 96) 22 rfl W.heap.size 32 i0 _ 4 32 Try.underlying22 hi hz0 hz1 hz2 rfl (by decide) _ _ _ rfl ho7 ⟨b, off + (i + 1) * 4, none⟩ (n - (i + 1)) _ (encs (zs.drop (i + 1))) rfl HN6.out (A6.out _ hB7) HO6.out (by unfold maxLen; omega) (by omega) (by omega) ?_; intro v4 w8 ho8 hg8 _; have hB8 : Below W.heap.size W w8 := hB7.grown hg8 hs7 (fun r hr => (ho7.lt r hr).1); have hs8 := hB8.size))
      all_goals go_ret
      all_goals exact ⟨rfl, hB9⟩
    | false =>
      have hxw : xw = true := HK3.out.resolve_left (by simp)
      subst hxw
      go_enter Try.func6, Try.ntmps6
      go_wp2_with (first
        | (go_at_call 8; refine hup.mono ?_; rintro e w1 ⟨rfl, hb1⟩)
        | (go_at_call 9; refine (C3.out _ _ ho8).mono ?_; rintro e w9 ⟨hb9, lv3, rfl⟩; have hB9 : Below W.heap.size W w9 := hB8.trans (hb9.mono hs8); have q0 := L4.out w9 hB9)
        | (go_at_call 9; refine (C2.out _ _ _ ho4).mono ?_; rintro e w6 ⟨hb6, lv2, rfl⟩; have hB6 : Below W.heap.size W w6 := ((hB4.setCell (p := ⟨g4, i * 4 + 2, none⟩) hg4b _).setCell (p := ⟨g4, i * 4 + 3, none⟩) hg4b _).trans (hb6.mono (by simp; omega)); have hs6 := hB6.size)
        | (go_at_call 9; refine (HO.out _ hb1).mono ?_; rintro e w2 ⟨hb2, lv, rfl⟩; have hB2 : Below W.heap.size W w2 := hb1.trans (hb2.mono hb1.size); have hs2 := hB2.size)
        | (at_builtin; refine wpList_append_own _ rfl (.tmp 55) (.tmp 56) 22 rfl W.heap.size 32 i0 _ 4 32 Try.underlying22 hi hz0 hz1 hz2 rfl (by decide) _ _ _ rfl (own_empty w2 W.heap.size hs2) ⟨b, off, none⟩ n _ (encs zs) rfl HN4.out (A4.out _ (hB2.alloc hs2 _)) HO4.out (by unfold maxLen; omega) (by omega) (by simp; omega) ?_; intro v1 w4 ho4 hg4 _; have hB4 : Below W.heap.size W w4 := (hB2.alloc hs2 _).grown hg4 (by simp; omega) (fun r hr => by cases hr; exact hs2); have hs4 := hB4.size; simp only [Nat.zero_add, List.nil_append] at ho4; obtain ⟨g4, cap4, rfl, hcap4, hg4b⟩ := own_shape' ho4 h0; obtain ⟨f2, f3, z2, z3⟩ := O4.out _ _ _ ho4)
        | (at_builtin; refine wpList_append_own _ rfl (.tmp 87) (.tmp 90) 22 rfl W.heap.size 32 i0 _ 4 32 Try.underlying22 hi hz0 hz1 hz2 rfl (by decide) _ _ _ rfl (own_empty w6 W.heap.size hs6) ⟨b, off, none⟩ i _ (encs (zs.take i)) rfl HN5.out (A5.out _ (hB6.alloc hs6 _)) HO5.out (by unfold maxLen; omega) (by omega) (by simp; omega) ?_; intro v3 w7 ho7 hg7 _; have hB7 : Below W.heap.size W w7 := (hB6.alloc hs6 _).grown hg7 (by simp; omega) (fun r hr => by cases hr; exact hs6); have hs7 := hB7.size; simp only [Nat.zero_add, List.nil_append] at ho7)
        | (at_builtin; refine wpList_append_own _ rfl (.tmp 92) (.tmp 96) 22 rfl W.heap.size 32 i0 _ 4 32 Try.underlying22 hi hz0 hz1 hz2 rfl (by decide) _ _ _ rfl ho7 ⟨b, off + (i + 1) * 4, none⟩ (n - (i + 1)) _ (encs (zs.drop (i + 1))) rfl HN6.out (A6.out _ hB7) HO6.out (by unfold maxLen; omega) (by omega) (by omega) ?_; intro v4 w8 ho8 hg8 _; have hB8 : Below W.heap.size W w8 := hB7.grown hg8 hs7 (fun r hr => (ho7.lt r hr).1); have hs8 := hB8.size))
      all_goals go_ret
      all_goals exact ⟨rfl, hB9⟩
end Go.Proofs.Ytidnooaccbahpaa
