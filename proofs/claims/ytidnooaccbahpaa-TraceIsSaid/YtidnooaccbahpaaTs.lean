/- TraceMore, walked. -/
import Derived.Test.YtidnooaccbahpaaTq
import Derived.Test.YtidnooaccbahpaaTr
set_option linter.unusedVariables false
set_option linter.unusedSimpArgs false
namespace Go.Proofs.Ytidnooaccbahpaa
open Go.RowKit Go.Proofs Go.Sx
theorem at_encs {w : World} {b off : Nat} {zs : List A} (h : At w b off zs) : ∀ (j : Nat) (u : Value), (encs zs)[j]? = some u → w.cell? ((⟨b, off, none⟩ : Addr).add j) = some u := fun j u hu => by
  have hj : j < zs.length * 4 := by rw [← encs_length]; exact (List.getElem?_eq_some_iff.1 hu).1
  have hq : j / 4 < zs.length := by omega
  have hr : j % 4 < (enc zs[j / 4]!).length := by simp [enc]; omega
  have hc := h.2 (j / 4) hq (j % 4) _ (List.getElem?_eq_getElem hr)
  have he := encs_at zs (j / 4) (j % 4) _ hq (List.getElem?_eq_getElem hr)
  rw [show j / 4 * 4 + j % 4 = j by omega, hu] at he
  rw [Addr.add_lit]
  rw [show off + j / 4 * 4 + j % 4 = off + j by omega] at hc
  rw [hc]; exact he.symm
theorem encs_one (zs : List A) : ∀ u ∈ encs zs, u.oneCell' = true := fun u hu => by
  simp only [encs, List.mem_flatMap] at hu
  obtain ⟨x, _, hx⟩ := hu
  simp [enc] at hx
  rcases hx with rfl | rfl | rfl | rfl <;> rfl
theorem own_empty (w : World) (base : Nat) (hb : base ≤ w.heap.size) : (w.alloc (.cells #[] 32)).ownsRow base 32 4 (.slice (some ⟨w.heap.size, 0, none⟩) 0 0) 0 [] :=
  World.ownsRow_made w #[] 0 hb (Nat.zero_le _) rfl
/-- how trace.Order ends, told by whether there is an order -/
theorem order_end {w w' : World} {r : Option (List Nat)} {e : Ending} (h : OrderEnd w r e w') : Below w.heap.size w w' ∧ ∃ lv, e = .returned (.tuple #[lv, .bool r.isSome]) := by
  cases r with
  | none => exact ⟨h.1, _, h.2⟩
  | some o =>
    obtain ⟨lv, _, h1, _, _⟩ := h.2
    exact ⟨h.1, lv, h1⟩
theorem and_range (k : Int) : 0 ≤ bits .and .i64 k 65535 ∧ bits .and .i64 k 65535 ≤ 65535 := by
  have h : (BitVec.ofInt 64 k &&& BitVec.ofInt 64 65535).toNat ≤ 65535 := by
    rw [BitVec.toNat_and]
    exact Nat.and_le_right
  have hw : bits .and .i64 k 65535 = (((BitVec.ofInt 64 k &&& BitVec.ofInt 64 65535).toNat : Nat) : Int) := by
    show IntKind.i64.wrap (((BitVec.ofInt 64 k &&& BitVec.ofInt 64 65535).toNat : Nat) : Int) = _
    refine (rg_iff (k := .i64)).2 ⟨by simp only [loK]; omega, by simp only [hiK]; omega⟩
  rw [hw]; omega
theorem pick_at (k : Int) {n : Nat} (hn : n ≠ 0) : ∃ i : Nat, i < n ∧ (bits .and .i64 k 65535).tmod (n : Int) = (i : Int) := by
  have h := and_range k
  refine ⟨(bits .and .i64 k 65535).toNat % n, Nat.mod_lt _ (by omega), ?_⟩
  rw [Int.tmod_eq_emod_of_nonneg h.1, Int.natCast_emod, Int.toNat_of_nonneg h.1]
set_option maxRecDepth 100000 in
set_option maxHeartbeats 1000000 in
theorem more_calls (zs : List A) (k : Int) (b off c : Nat) (W : World) (hat : At W b off zs) (h0 : zs.length ≠ 0) (h6 : zs.length ≤ 6) (hok : (orderL zs).isSome = true) :
    Calls Try.prog 7 #[.slice (some ⟨b, off, none⟩) zs.length c, .int .i64 k] W fun e w' => e = .returned (.bool true) ∧ Below W.heap.size W w' := by
  have hup := awake_calls W
  obtain ⟨i0, hi, hz0, hz1, hz2⟩ := info_parts info32
  have hord := fun w1 (h : Below W.heap.size W w1) => order_calls zs (.slice (some ⟨b, off, none⟩) zs.length c) w1 ⟨_, _, rfl, by omega, .inr ⟨b, off, rfl, hat.below h⟩⟩
  obtain ⟨o0, ho0⟩ := Option.isSome_iff_exists.1 hok
  rw [ho0] at hord
  have HO := (show Hid _ from hord)
  have HA : Hid (At W b off zs) := hat
  obtain ⟨n, hn⟩ : ∃ n, n = zs.length := ⟨_, rfl⟩
  have HN : Hid (n = zs.length) := hn
  rw [← hn] at h0 h6
  obtain ⟨i, hin, hik⟩ := pick_at k h0
  have hn6 : decide ((6 : Int) < (n : Int)) = false := by simp; omega
  have hn0 : ((n : Int) == 0) = false := by simp; omega
  have hsane := (order_some.1 hok).1
  have HF : Hid (∀ j, j < n → 0 ≤ (zs[j]!).fr ∧ (zs[j]!).fr ≤ 1099511627776) := fun j hj => by have := sane_at hsane (j := j) (by rw [← HN.out]; exact hj); omega
  obtain ⟨x, hx⟩ : ∃ x, zs[i]! = x := ⟨_, rfl⟩
  have HX : Hid (zs[i]! = x) := hx
  have H2 : Hid ((orderL (zs ++ [x])).isSome = true ∨ x.w = true) := by
    cases hw : x.w with
    | true => exact .inr rfl
    | false => rw [← hx] at hw ⊢; exact .inl (more_two hok (by omega) (by omega) hw)
  have H3 : Hid (∀ t : Int, 0 < t → t ≤ 1099511627776 → (orderL (zs ++ [⟨false, 0, 0, t⟩])).isSome = true) := fun t h1 h2 => more_nought hok (by omega) h1 h2
  have hbW := hat.1
  clear hord hat hok hsane hx ho0
  rw [← hn]
  simp only [← hn] at HO
  clear hn
  go_enter Try.func7, Try.ntmps7
  go_wp2_with (first
    | (go_at_call 8; refine hup.mono ?_; rintro e w1 ⟨rfl, hb1⟩)
    | (go_at_call 9; refine (HO.out _ hb1).mono ?_; intro e w2 he; obtain ⟨hb2, lv, rfl⟩ := order_end he; simp only [Option.isSome_some]))
  have hB2 : Hid (Below W.heap.size W w2) := hb1.trans (hb2.mono hb1.size)
  clear hb1 hb2 HO
  go_loopw [9, 10] (fun f i wr => ∃ (j : Nat) (m : Int), j ≤ n ∧ i = .int .i64 j ∧ f = .int .i64 m ∧ 0 ≤ m ∧ m ≤ 1099511627776 ∧ Hid (Below W.heap.size W wr)) (fun _ i _ => n - (intOf i).toNat)
  case atStart => exact ⟨0, _, Nat.zero_le _, rfl, rfl, by omega, by omega, hB2⟩
  case round =>
    obtain ⟨j, m, hj, rfl, rfl, hm0, hm1, BW⟩ := hrel
    by_cases hlt : j < n
    · obtain ⟨y, hy⟩ : ∃ y, zs[j]! = y := ⟨_, rfl⟩
      obtain ⟨l0, l1, l2, l3⟩ := (HA.out.below BW.out).four (by rw [← HN.out]; exact hlt) hy
      have hfy := HF.out j hlt
      rw [hy] at hfy
      clear hy
      go_wp2
      go_roundw
      case rel => exact ⟨j + 1, min m y.fr, by omega, by go_num, rfl, by omega, by omega, BW⟩
      case measure => simp [intOf]; omega
    · have hjn : j = n := by omega
      subst hjn
      have hBW := BW.out
      have hbs := hBW.size
      have hatr := HA.out.below hBW
      have hn4 : (encs zs).length = j * 4 := by rw [encs_length, ← HN.out]
      have hzl : zs.length = j := HN.out.symm
      -- whether there is an order of the two new lists, told ahead
      obtain ⟨B2, hB2e⟩ : ∃ B, (orderL (zs ++ [x])).isSome = B := ⟨_, rfl⟩
      obtain ⟨B3, hB3e⟩ : ∃ B, (orderL (zs ++ [⟨false, 0, 0, max 1 (m - 1)⟩])).isSome = B := ⟨_, rfl⟩
      have K2 : B2 = true ∨ x.w = true := by rw [← hB2e]; exact H2.out
      have K3 : B3 = true ∨ m < 2 := by
        by_cases h2 : m < 2
        · exact .inr h2
        · rw [← hB3e]; exact .inl (H3.out _ (by omega) (by omega))
      have C2 : Hid (∀ (w : World) (v : Value), w.ownsRow W.heap.size 32 4 v (j + 1) (encs zs ++ enc x) → Calls Try.prog 9 #[v] w fun e w' => Below w.heap.size w w' ∧ ∃ lv, e = .returned (.tuple #[lv, .bool B2])) := fun w v h => by
        have hl : (zs ++ [x]).length = j + 1 := by simp [hzl]
        refine (order_calls (zs ++ [x]) v w (own_lst (base := W.heap.size) (by rw [hl, encs_append]; simpa [encs] using h) (by rw [hl]; omega))).mono fun e w' he => ?_
        rw [← hB2e]; exact order_end he
      have C3 : Hid (∀ (w : World) (v : Value), w.ownsRow W.heap.size 32 4 v (j + 1) (encs zs ++ enc ⟨false, 0, 0, max 1 (m - 1)⟩) → Calls Try.prog 9 #[v] w fun e w' => Below w.heap.size w w' ∧ ∃ lv, e = .returned (.tuple #[lv, .bool B3])) := fun w v h => by
        have hl : (zs ++ [(⟨false, 0, 0, max 1 (m - 1)⟩ : A)]).length = j + 1 := by simp [hzl]
        refine (order_calls (zs ++ [⟨false, 0, 0, max 1 (m - 1)⟩]) v w (own_lst (base := W.heap.size) (by rw [hl, encs_append]; simpa [encs] using h) (by rw [hl]; omega))).mono fun e w' he => ?_
        rw [← hB3e]; exact order_end he
      have L4 : Hid (∀ w', Below W.heap.size W w' → w'.cell? ⟨b, off + i * 4, none⟩ = some (.bool x.w) ∧ w'.cell? ⟨b, off + i * 4 + 1, none⟩ = some (.int .i64 x.v) ∧ w'.cell? ⟨b, off + i * 4 + 2, none⟩ = some (.int .i64 x.fr) ∧ w'.cell? ⟨b, off + i * 4 + 3, none⟩ = some (.int .i64 x.to)) := fun w' hw' =>
        (HA.out.below hw').four (by rw [hzl]; exact hin) HX.out
      have A4 : Hid (∀ w', Below W.heap.size W w' → ∀ (q : Nat) (u : Value), (encs zs)[q]? = some u → w'.cell? ((⟨b, off, none⟩ : Addr).add q) = some u) := fun w' hw' => at_encs (HA.out.below hw')
      have OE := encs_one zs
      have hm1' : (0 : Int) ≤ m ∧ m ≤ 1099511627776 := ⟨hm0, hm1⟩
      obtain ⟨xw, xv, xf, xt⟩ := x
      simp only at K2 L4
      have OX : ∀ u ∈ enc ⟨xw, xv, xf, xt⟩, u.oneCell' = true := by intro u hu; simp [enc] at hu; rcases hu with rfl | rfl | rfl | rfl <;> rfl
      have OZ : ∀ u ∈ enc ⟨false, 0, 0, max 1 (m - 1)⟩, u.oneCell' = true := by intro u hu; simp [enc] at hu; rcases hu with rfl | rfl | rfl | rfl <;> rfl
      have HO4 : Hid (∀ u ∈ encs zs, u.oneCell' = true) := OE
      have HOX : Hid (∀ u ∈ enc ⟨xw, xv, xf, xt⟩, u.oneCell' = true) := OX
      have HOZ : Hid (∀ u ∈ enc ⟨false, 0, 0, max 1 (m - 1)⟩, u.oneCell' = true) := OZ
      clear hB2e hB3e hatr OE OX OZ hBW hlt HF H2 H3
      cases B2 with
      | true =>
        clear K2
        cases B3 with
        | true =>
          clear K3
          go_wp2_with (first
            | (at_builtin; refine wpList_append_own _ rfl (.tmp 54) (.tmp 55) 22 rfl W.heap.size 32 i0 _ 4 32 Try.underlying22 hi hz0 hz1 hz2 rfl (by decide) _ _ _ rfl (own_empty wr W.heap.size hbs) ⟨b, off, none⟩ j c (encs zs) rfl hn4 (A4.out _ (BW.out.alloc hbs _)) HO4.out (by unfold maxLen; omega) (by omega) (by simp; omega) ?_; intro v1 w4 ho4 hg4 _; have hB4 : Below W.heap.size W w4 := (BW.out.alloc hbs _).grown hg4 (by simp; omega) (fun r hr => by cases hr; exact hbs); have hs4 := hB4.size; obtain ⟨l0, l1, l2, l3⟩ := L4.out w4 hB4; simp only [Nat.zero_add, List.nil_append] at ho4)
            | (at_builtin; refine wpList_append_own _ rfl (.tmp 57) (.tmp 62) 22 rfl W.heap.size 32 i0 _ 4 32 Try.underlying22 hi hz0 hz1 hz2 rfl (by decide) _ _ _ rfl (ho4.alloc _) ⟨w4.heap.size, 0, none⟩ 1 1 (enc ⟨xw, xv, xf, xt⟩) rfl rfl (World.news_of_block (cs := #[.bool xw, .int .i64 xv, .int .i64 xf, .int .i64 xt]) (t := 32) (fr := (0, 0)) (heap_alloc_new w4 _)) HOX.out (by unfold maxLen; omega) (by omega) (by simp; omega) ?_; intro v2 w5 ho5 hg5 _; have hB5 : Below W.heap.size W w5 := (hB4.alloc hs4 _).grown hg5 (by simp; omega) (fun r hr => (ho4.lt r hr).1); have hs5 := hB5.size)
            | (go_at_call 9; refine (C3.out _ _ ho8).mono ?_; rintro e w9 ⟨hb9, lv3, rfl⟩; have hB9 : Below W.heap.size W w9 := hB8.trans (hb9.mono hs8); obtain ⟨q0, q1, q2, q3⟩ := L4.out w9 hB9)
            | (go_at_call 9; refine (C2.out _ _ ho5).mono ?_; rintro e w6 ⟨hb6, lv2, rfl⟩; have hB6 : Below W.heap.size W w6 := hB5.trans (hb6.mono hs5); have hs6 := hB6.size)
            | (at_builtin; refine wpList_append_own _ rfl (.tmp 69) (.tmp 70) 22 rfl W.heap.size 32 i0 _ 4 32 Try.underlying22 hi hz0 hz1 hz2 rfl (by decide) _ _ _ rfl (own_empty w6 W.heap.size hs6) ⟨b, off, none⟩ j c (encs zs) rfl hn4 (A4.out _ (hB6.alloc hs6 _)) HO4.out (by unfold maxLen; omega) (by omega) (by simp; omega) ?_; intro v3 w7 ho7 hg7 _; have hB7 : Below W.heap.size W w7 := (hB6.alloc hs6 _).grown hg7 (by simp; omega) (fun r hr => by cases hr; exact hs6); have hs7 := hB7.size; simp only [Nat.zero_add, List.nil_append] at ho7)
            | (at_builtin; refine wpList_append_own _ rfl (.tmp 72) (.tmp 77) 22 rfl W.heap.size 32 i0 _ 4 32 Try.underlying22 hi hz0 hz1 hz2 rfl (by decide) _ _ _ rfl (ho7.alloc _) ⟨w7.heap.size, 0, none⟩ 1 1 (enc ⟨false, 0, 0, max 1 (m - 1)⟩) rfl rfl (World.news_of_block (cs := #[.bool false, .int .i64 0, .int .i64 0, .int .i64 (max 1 (m - 1))]) (t := 32) (fr := (0, 0)) (heap_alloc_new w7 _)) HOZ.out (by unfold maxLen; omega) (by omega) (by simp; omega) ?_; intro v4 w8 ho8 hg8 _; have hB8 : Below W.heap.size W w8 := (hB7.alloc hs7 _).grown hg8 (by simp; omega) (fun r hr => (ho7.lt r hr).1); have hs8 := hB8.size))
          all_goals go_ret
          all_goals exact ⟨rfl, hB9⟩
        | false =>
          have hm2 : m < 2 := K3.resolve_left (by simp)
          have hm2d : decide (m < 2) = true := decide_eq_true hm2
          clear K3
          go_wp2_with (first
            | (at_builtin; refine wpList_append_own _ rfl (.tmp 54) (.tmp 55) 22 rfl W.heap.size 32 i0 _ 4 32 Try.underlying22 hi hz0 hz1 hz2 rfl (by decide) _ _ _ rfl (own_empty wr W.heap.size hbs) ⟨b, off, none⟩ j c (encs zs) rfl hn4 (A4.out _ (BW.out.alloc hbs _)) HO4.out (by unfold maxLen; omega) (by omega) (by simp; omega) ?_; intro v1 w4 ho4 hg4 _; have hB4 : Below W.heap.size W w4 := (BW.out.alloc hbs _).grown hg4 (by simp; omega) (fun r hr => by cases hr; exact hbs); have hs4 := hB4.size; obtain ⟨l0, l1, l2, l3⟩ := L4.out w4 hB4; simp only [Nat.zero_add, List.nil_append] at ho4)
            | (at_builtin; refine wpList_append_own _ rfl (.tmp 57) (.tmp 62) 22 rfl W.heap.size 32 i0 _ 4 32 Try.underlying22 hi hz0 hz1 hz2 rfl (by decide) _ _ _ rfl (ho4.alloc _) ⟨w4.heap.size, 0, none⟩ 1 1 (enc ⟨xw, xv, xf, xt⟩) rfl rfl (World.news_of_block (cs := #[.bool xw, .int .i64 xv, .int .i64 xf, .int .i64 xt]) (t := 32) (fr := (0, 0)) (heap_alloc_new w4 _)) HOX.out (by unfold maxLen; omega) (by omega) (by simp; omega) ?_; intro v2 w5 ho5 hg5 _; have hB5 : Below W.heap.size W w5 := (hB4.alloc hs4 _).grown hg5 (by simp; omega) (fun r hr => (ho4.lt r hr).1); have hs5 := hB5.size)
            | (go_at_call 9; refine (C3.out _ _ ho8).mono ?_; rintro e w9 ⟨hb9, lv3, rfl⟩; have hB9 : Below W.heap.size W w9 := hB8.trans (hb9.mono hs8); obtain ⟨q0, q1, q2, q3⟩ := L4.out w9 hB9)
            | (go_at_call 9; refine (C2.out _ _ ho5).mono ?_; rintro e w6 ⟨hb6, lv2, rfl⟩; have hB6 : Below W.heap.size W w6 := hB5.trans (hb6.mono hs5); have hs6 := hB6.size)
            | (at_builtin; refine wpList_append_own _ rfl (.tmp 69) (.tmp 70) 22 rfl W.heap.size 32 i0 _ 4 32 Try.underlying22 hi hz0 hz1 hz2 rfl (by decide) _ _ _ rfl (own_empty w6 W.heap.size hs6) ⟨b, off, none⟩ j c (encs zs) rfl hn4 (A4.out _ (hB6.alloc hs6 _)) HO4.out (by unfold maxLen; omega) (by omega) (by simp; omega) ?_; intro v3 w7 ho7 hg7 _; have hB7 : Below W.heap.size W w7 := (hB6.alloc hs6 _).grown hg7 (by simp; omega) (fun r hr => by cases hr; exact hs6); have hs7 := hB7.size; simp only [Nat.zero_add, List.nil_append] at ho7)
            | (at_builtin; refine wpList_append_own _ rfl (.tmp 72) (.tmp 77) 22 rfl W.heap.size 32 i0 _ 4 32 Try.underlying22 hi hz0 hz1 hz2 rfl (by decide) _ _ _ rfl (ho7.alloc _) ⟨w7.heap.size, 0, none⟩ 1 1 (enc ⟨false, 0, 0, max 1 (m - 1)⟩) rfl rfl (World.news_of_block (cs := #[.bool false, .int .i64 0, .int .i64 0, .int .i64 (max 1 (m - 1))]) (t := 32) (fr := (0, 0)) (heap_alloc_new w7 _)) HOZ.out (by unfold maxLen; omega) (by omega) (by simp; omega) ?_; intro v4 w8 ho8 hg8 _; have hB8 : Below W.heap.size W w8 := (hB7.alloc hs7 _).grown hg8 (by simp; omega) (fun r hr => (ho7.lt r hr).1); have hs8 := hB8.size))
          all_goals go_ret
          all_goals exact ⟨rfl, hB9⟩
      | false =>
        have hxw : xw = true := K2.resolve_left (by simp)
        subst hxw
        clear K2
        cases B3 with
        | true =>
          clear K3
          go_wp2_with (first
            | (at_builtin; refine wpList_append_own _ rfl (.tmp 54) (.tmp 55) 22 rfl W.heap.size 32 i0 _ 4 32 Try.underlying22 hi hz0 hz1 hz2 rfl (by decide) _ _ _ rfl (own_empty wr W.heap.size hbs) ⟨b, off, none⟩ j c (encs zs) rfl hn4 (A4.out _ (BW.out.alloc hbs _)) HO4.out (by unfold maxLen; omega) (by omega) (by simp; omega) ?_; intro v1 w4 ho4 hg4 _; have hB4 : Below W.heap.size W w4 := (BW.out.alloc hbs _).grown hg4 (by simp; omega) (fun r hr => by cases hr; exact hbs); have hs4 := hB4.size; obtain ⟨l0, l1, l2, l3⟩ := L4.out w4 hB4; simp only [Nat.zero_add, List.nil_append] at ho4)
            | (at_builtin; refine wpList_append_own _ rfl (.tmp 57) (.tmp 62) 22 rfl W.heap.size 32 i0 _ 4 32 Try.underlying22 hi hz0 hz1 hz2 rfl (by decide) _ _ _ rfl (ho4.alloc _) ⟨w4.heap.size, 0, none⟩ 1 1 (enc ⟨true, xv, xf, xt⟩) rfl rfl (World.news_of_block (cs := #[.bool true, .int .i64 xv, .int .i64 xf, .int .i64 xt]) (t := 32) (fr := (0, 0)) (heap_alloc_new w4 _)) HOX.out (by unfold maxLen; omega) (by omega) (by simp; omega) ?_; intro v2 w5 ho5 hg5 _; have hB5 : Below W.heap.size W w5 := (hB4.alloc hs4 _).grown hg5 (by simp; omega) (fun r hr => (ho4.lt r hr).1); have hs5 := hB5.size)
            | (go_at_call 9; refine (C3.out _ _ ho8).mono ?_; rintro e w9 ⟨hb9, lv3, rfl⟩; have hB9 : Below W.heap.size W w9 := hB8.trans (hb9.mono hs8); obtain ⟨q0, q1, q2, q3⟩ := L4.out w9 hB9)
            | (go_at_call 9; refine (C2.out _ _ ho5).mono ?_; rintro e w6 ⟨hb6, lv2, rfl⟩; have hB6 : Below W.heap.size W w6 := hB5.trans (hb6.mono hs5); have hs6 := hB6.size)
            | (at_builtin; refine wpList_append_own _ rfl (.tmp 69) (.tmp 70) 22 rfl W.heap.size 32 i0 _ 4 32 Try.underlying22 hi hz0 hz1 hz2 rfl (by decide) _ _ _ rfl (own_empty w6 W.heap.size hs6) ⟨b, off, none⟩ j c (encs zs) rfl hn4 (A4.out _ (hB6.alloc hs6 _)) HO4.out (by unfold maxLen; omega) (by omega) (by simp; omega) ?_; intro v3 w7 ho7 hg7 _; have hB7 : Below W.heap.size W w7 := (hB6.alloc hs6 _).grown hg7 (by simp; omega) (fun r hr => by cases hr; exact hs6); have hs7 := hB7.size; simp only [Nat.zero_add, List.nil_append] at ho7)
            | (at_builtin; refine wpList_append_own _ rfl (.tmp 72) (.tmp 77) 22 rfl W.heap.size 32 i0 _ 4 32 Try.underlying22 hi hz0 hz1 hz2 rfl (by decide) _ _ _ rfl (ho7.alloc _) ⟨w7.heap.size, 0, none⟩ 1 1 (enc ⟨false, 0, 0, max 1 (m - 1)⟩) rfl rfl (World.news_of_block (cs := #[.bool false, .int .i64 0, .int .i64 0, .int .i64 (max 1 (m - 1))]) (t := 32) (fr := (0, 0)) (heap_alloc_new w7 _)) HOZ.out (by unfold maxLen; omega) (by omega) (by simp; omega) ?_; intro v4 w8 ho8 hg8 _; have hB8 : Below W.heap.size W w8 := (hB7.alloc hs7 _).grown hg8 (by simp; omega) (fun r hr => (ho7.lt r hr).1); have hs8 := hB8.size))
          all_goals go_ret
          all_goals exact ⟨rfl, hB9⟩
        | false =>
          have hm2 : m < 2 := K3.resolve_left (by simp)
          have hm2d : decide (m < 2) = true := decide_eq_true hm2
          clear K3
          go_wp2_with (first
            | (at_builtin; refine wpList_append_own _ rfl (.tmp 54) (.tmp 55) 22 rfl W.heap.size 32 i0 _ 4 32 Try.underlying22 hi hz0 hz1 hz2 rfl (by decide) _ _ _ rfl (own_empty wr W.heap.size hbs) ⟨b, off, none⟩ j c (encs zs) rfl hn4 (A4.out _ (BW.out.alloc hbs _)) HO4.out (by unfold maxLen; omega) (by omega) (by simp; omega) ?_; intro v1 w4 ho4 hg4 _; have hB4 : Below W.heap.size W w4 := (BW.out.alloc hbs _).grown hg4 (by simp; omega) (fun r hr => by cases hr; exact hbs); have hs4 := hB4.size; obtain ⟨l0, l1, l2, l3⟩ := L4.out w4 hB4; simp only [Nat.zero_add, List.nil_append] at ho4)
            | (at_builtin; refine wpList_append_own _ rfl (.tmp 57) (.tmp 62) 22 rfl W.heap.size 32 i0 _ 4 32 Try.underlying22 hi hz0 hz1 hz2 rfl (by decide) _ _ _ rfl (ho4.alloc _) ⟨w4.heap.size, 0, none⟩ 1 1 (enc ⟨true, xv, xf, xt⟩) rfl rfl (World.news_of_block (cs := #[.bool true, .int .i64 xv, .int .i64 xf, .int .i64 xt]) (t := 32) (fr := (0, 0)) (heap_alloc_new w4 _)) HOX.out (by unfold maxLen; omega) (by omega) (by simp; omega) ?_; intro v2 w5 ho5 hg5 _; have hB5 : Below W.heap.size W w5 := (hB4.alloc hs4 _).grown hg5 (by simp; omega) (fun r hr => (ho4.lt r hr).1); have hs5 := hB5.size)
            | (go_at_call 9; refine (C3.out _ _ ho8).mono ?_; rintro e w9 ⟨hb9, lv3, rfl⟩; have hB9 : Below W.heap.size W w9 := hB8.trans (hb9.mono hs8); obtain ⟨q0, q1, q2, q3⟩ := L4.out w9 hB9)
            | (go_at_call 9; refine (C2.out _ _ ho5).mono ?_; rintro e w6 ⟨hb6, lv2, rfl⟩; have hB6 : Below W.heap.size W w6 := hB5.trans (hb6.mono hs5); have hs6 := hB6.size)
            | (at_builtin; refine wpList_append_own _ rfl (.tmp 69) (.tmp 70) 22 rfl W.heap.size 32 i0 _ 4 32 Try.underlying22 hi hz0 hz1 hz2 rfl (by decide) _ _ _ rfl (own_empty w6 W.heap.size hs6) ⟨b, off, none⟩ j c (encs zs) rfl hn4 (A4.out _ (hB6.alloc hs6 _)) HO4.out (by unfold maxLen; omega) (by omega) (by simp; omega) ?_; intro v3 w7 ho7 hg7 _; have hB7 : Below W.heap.size W w7 := (hB6.alloc hs6 _).grown hg7 (by simp; omega) (fun r hr => by cases hr; exact hs6); have hs7 := hB7.size; simp only [Nat.zero_add, List.nil_append] at ho7)
            | (at_builtin; refine wpList_append_own _ rfl (.tmp 72) (.tmp 77) 22 rfl W.heap.size 32 i0 _ 4 32 Try.underlying22 hi hz0 hz1 hz2 rfl (by decide) _ _ _ rfl (ho7.alloc _) ⟨w7.heap.size, 0, none⟩ 1 1 (enc ⟨false, 0, 0, max 1 (m - 1)⟩) rfl rfl (World.news_of_block (cs := #[.bool false, .int .i64 0, .int .i64 0, .int .i64 (max 1 (m - 1))]) (t := 32) (fr := (0, 0)) (heap_alloc_new w7 _)) HOZ.out (by unfold maxLen; omega) (by omega) (by simp; omega) ?_; intro v4 w8 ho8 hg8 _; have hB8 : Below W.heap.size W w8 := (hB7.alloc hs7 _).grown hg8 (by simp; omega) (fun r hr => (ho7.lt r hr).1); have hs8 := hB8.size))
          all_goals go_ret
          all_goals exact ⟨rfl, hB9⟩
end Go.Proofs.Ytidnooaccbahpaa
