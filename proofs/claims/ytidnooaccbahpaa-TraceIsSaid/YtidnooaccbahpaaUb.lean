/- outriggerref16.Order as a call. -/
import Derived.Test.YtidnooaccbahpaaUa
set_option linter.unusedVariables false
set_option linter.unusedSimpArgs false
namespace Go.Proofs.Ytidnooaccbahpaa
open Go.RowKit Go.Proofs Go.Sx
def fitOrd (zs : List A) (L : List Nat) : Bool := fitsP zs (ordI L)
/-- an own list of places: what it owns, and that it can be read -/
theorem own_lstI {w : World} {base : Nat} {v : Value} {xs : List Int} (h : w.ownsRow base 3 1 v xs.length (xs.map encI)) (hl : xs.length ≤ 1000) : LstI w v xs := own_ints h (by omega)
theorem own_cells {w : World} {base g cap n : Nat} {xs : List Int} (h : w.ownsRow base 3 1 (.slice (some ⟨g, 0, none⟩) n cap) n (xs.map encI)) (hn : xs.length = n) : ∀ (i : Nat) v, xs[i]? = some v → w.cell? ⟨g, 0 + i, none⟩ = some (.int .i64 v) := fun i v hv => by
  have hi : i < n := by rw [← hn]; exact (List.getElem?_eq_some_iff.1 hv).1
  rw [Nat.zero_add, own_int_at h hn hi, List.getD_eq_getElem?_getD, hv]; rfl
theorem next_own {w : World} {base : Nat} {v : Value} {xs : List Int} (h : w.ownsRow base 3 1 v xs.length (xs.map encI)) (h0 : xs.length ≠ 0) (h7 : xs.length ≤ 1000) : Calls Try.prog 20 #[v] w (NextEnd w (nextI xs)) := by
  obtain ⟨g, cap, rfl, hc, hb⟩ := own_shape' h h0
  have hg := (h.lt g rfl).2
  exact next_calls xs g 0 cap w hg (own_cells h rfl) h0 h7
theorem places_succ (k : Nat) : places (k + 1) = places k ++ [(k : Int)] := by simp [places, List.range_succ]
theorem ord_range (n : Nat) : ordI (List.range n) = places n := rfl
theorem allOrders_head {n : Nat} : ∃ r, allOrders n = List.range n :: r := by
  have key : ∀ (f : Nat) (l : List Nat), l.length = f → l.Nodup → ∃ r, permsOf f l = l :: r := by
    intro f
    induction f with
    | zero => intro l hl _; exact ⟨[], by rw [List.eq_nil_of_length_eq_zero hl]; rfl⟩
    | succ f ih =>
      intro l hl hd
      match l, hl, hd with
      | a :: l, hl, hd =>
        obtain ⟨r, hr⟩ := ih l (by simpa using hl) (List.nodup_cons.1 hd).2
        refine ⟨r.map (a :: ·) ++ l.flatMap fun x => (permsOf f ((a :: l).erase x)).map (x :: ·), ?_⟩
        show (a :: l).flatMap _ = _
        rw [List.flatMap_cons, List.erase_cons_head, hr]
        rfl
  exact key n (List.range n) (by simp) List.nodup_range
theorem full_of_mem : ∀ {f : Nat} {l L : List Nat}, L ∈ permsOf f l → L.length = f
  | 0, l, L, h => by simp [permsOf] at h; subst h; rfl
  | f + 1, l, L, h => by
    simp only [permsOf, List.mem_flatMap, List.mem_map] at h
    obtain ⟨a, _, L', h', rfl⟩ := h
    simp [full_of_mem h']
set_option maxRecDepth 100000 in
set_option maxHeartbeats 3000000 in
theorem ref_order_calls (zs : List A) (v : Value) (w : World) (hv : LstD w v zs) : Calls Try.prog 10 #[v] w (OrderEnd w (refOrderL zs)) := by
  have hs12 := sane12_calls hv
  have hlst := hv.lst
  obtain ⟨q, c, rfl, hl, -⟩ := hlst
  have HV : Hid (LstD w (.slice q zs.length c) zs) := hv
  clear hv
  cases hs : saneB zs with
  | false =>
    rw [hs] at hs12
    have ho : refOrderL zs = none := by simp [refOrderL, hs]
    rw [ho]
    go_enter Try.func10, Try.ntmps10
    go_wp2_with (go_at_call 12; refine hs12.mono ?_; rintro e w1 ⟨rfl, hb1⟩)
    all_goals go_ret2
    all_goals exact ⟨hb1, rfl⟩
  | true =>
    rw [hs] at hs12
    have h7 := sane_len hs
    have HR : Hid (refOrderL zs = (allOrders zs.length).find? (fitOrd zs)) := by show _ = _; unfold refOrderL; rw [if_pos hs]; rfl
    obtain ⟨i0, hi, hz0, hz1, hz2⟩ := info_parts info3
    obtain ⟨n, hn⟩ : ∃ n, n = zs.length := ⟨_, rfl⟩
    have HZ : Hid (zs.length = n) := hn.symm
    rw [← hn] at h7 hs12 hl ⊢
    simp only [← hn] at HR HV
    clear hs hn
    go_enter Try.func10, Try.ntmps10
    go_wp2_with (go_at_call 12; refine hs12.mono ?_; rintro e w1 ⟨rfl, hb1⟩)
    go_loopw [4, 5] (fun s4 s5 wr => ∃ k : Nat, k ≤ n ∧ s5 = .int .i64 k ∧ Hid (Below w.heap.size w wr) ∧ Hid (wr.ownsRow w.heap.size 3 1 s4 k ((places k).map encI))) (fun _ s5 _ => n - (intOf s5).toNat)
    case atStart => exact ⟨0, Nat.zero_le _, rfl, hb1, World.ownsRow_nil _ _ _ _⟩
    case round =>
      obtain ⟨k, hk, rfl, BW, OW⟩ := hrel
      have hbs := BW.out.size
      by_cases hlt : k < n
      · go_wp2_with (first
          | (at_builtin; refine wpList_append_own _ rfl (.tmp 17) (.tmp 19) 23 rfl w.heap.size 3 i0 _ 1 8 Try.underlying23 hi hz0 hz1 hz2 rfl (by decide) _ _ _ rfl (OW.out.alloc _) ⟨wr.heap.size, 0, none⟩ 1 1 [.int .i64 (k : Int)] rfl rfl (own_c1 _ _ _ _ rfl) (own_c2 _) (by unfold maxLen; omega) (by omega) (by simp; omega) ?_; intro v' w6 ho6 hg6 _; have hB6 : Below w.heap.size w w6 := (BW.out.alloc hbs _).grown hg6 (by simp; omega) (fun r hr => (OW.out.lt r hr).1)))
        have HO6 : Hid (w6.ownsRow w.heap.size 3 1 v' (k + 1) ((places (k + 1)).map encI)) := by
          show World.ownsRow _ _ _ _ _ _ _
          rw [places_succ, List.map_append]; exact ho6
        clear ho6 hg6
        go_roundw
        case rel => exact ⟨k + 1, by omega, by go_num, hB6, HO6⟩
        case measure => simp [intOf]; omega
      · have hkn : k = n := by omega
        subst hkn
        have HO1 : Hid (wr.ownsRow w.heap.size 3 1 u4 k ((ordI (List.range k)).map encI)) := OW.out
        have HB1 := BW
        obtain ⟨S0, hS0⟩ := allOrders_head (n := k)
        have HR1 : Hid (refOrderL zs = (List.range k :: S0).find? (fitOrd zs)) := by show _ = _; rw [← hS0]; exact HR.out
        have HC1 : Hid (chainB (List.range k :: S0) = true) := by show _ = _; rw [← hS0]; exact chain_of h7
        have HL1 : Hid (∀ L ∈ List.range k :: S0, L.length = k) := by
          intro L hL
          rw [← hS0] at hL
          exact full_of_mem hL
        clear hS0 BW OW HR
        go_wp2
        go_loopg [4] S0.length (fun gg s4 wr2 => ∃ (a : List Nat) (S : List (List Nat)), S.length ≤ gg ∧ Hid (∀ L ∈ a :: S, L.length = k) ∧ Hid (chainB (a :: S) = true) ∧ Hid (Below w.heap.size w wr2) ∧ Hid (wr2.ownsRow w.heap.size 3 1 s4 k ((ordI a).map encI)) ∧ Hid (refOrderL zs = (a :: S).find? (fitOrd zs)))
        case atStart => exact ⟨List.range k, S0, Nat.le_refl _, HL1, HC1, HB1, HO1, HR1⟩
        case round =>
          clear HL1 HC1 HB1 HO1 HR1 hbs
          obtain ⟨a, S, hS, HL, HC, BW, OW, RR⟩ := hrel
          have hal := HL.out a (List.mem_cons_self ..)
          have hol : (ordI a).length = k := by simp [ordI, hal]
          have hown : wr.ownsRow w.heap.size 3 1 u4 (ordI a).length ((ordI a).map encI) := by rw [hol]; exact OW.out
          have hfit := ref_fits_calls zs (ordI a) (.slice q k c) u4 wr (HV.out.below BW.out) (own_lstI hown (by omega))
          rw [show refFits zs (ordI a) = fitOrd zs a from refFits_eq zs (ordI a)] at hfit
          cases hf : fitOrd zs a with
          | true =>
            rw [hf] at hfit
            have HE : Hid (refOrderL zs = some a) := by show _ = _; rw [RR.out, List.find?_cons_of_pos (by exact hf)]
            have HW : Hid (∀ w', Below wr.heap.size wr w' → w'.ownsRow w.heap.size 3 1 u4 a.length (ints a)) := fun w' hb => by
              rw [ints_eq, hal]; exact ownsRow_below OW.out hb
            clear hf hown hol hal
            go_wp2_with (go_at_call 14; refine hfit.mono ?_; rintro e w5 ⟨rfl, hb5⟩)
            all_goals go_ret2
            all_goals exact ⟨BW.out.trans (hb5.mono BW.out.size), by rw [HE.out]; exact ⟨_, w.heap.size, rfl, Nat.le_refl _, HW.out _ hb5⟩⟩
          | false =>
            rw [hf] at hfit
            have hk0 : k ≠ 0 := by
              intro e
              have h1 : zs = [] := List.eq_nil_of_length_eq_zero (by rw [HZ.out]; exact e)
              have h2 : a = [] := List.eq_nil_of_length_eq_zero (by rw [hal]; exact e)
              rw [h1, h2] at hf
              exact absurd hf (by decide)
            have HN : Hid (∀ w', Below wr.heap.size wr w' → Calls Try.prog 20 #[u4] w' (NextEnd w' (nextI (ordI a)))) := fun w' hb => next_own (base := w.heap.size) (ownsRow_below hown hb) (by rw [hol]; exact hk0) (by omega)
            have RR2 : Hid (refOrderL zs = S.find? (fitOrd zs)) := by show _ = _; rw [RR.out, List.find?_cons_of_neg (by rw [hf]; simp)]
            cases S with
            | nil =>
              rw [chain_last HC.out] at HN
              have HE : Hid (refOrderL zs = none) := RR2.out
              clear hf hown hol hal
              go_wp2_with (first
                | (go_at_call 14; refine hfit.mono ?_; rintro e w5 ⟨rfl, hb5⟩)
                | (go_at_call 20; refine (HN.out _ hb5).mono ?_; rintro e w6 ⟨hb6, rfl⟩))
              all_goals go_ret2
              all_goals exact ⟨(BW.out.trans (hb5.mono BW.out.size)).trans (hb6.mono (by have := hb5.size; have := BW.out.size; omega)), by rw [HE.out]; rfl⟩
            | cons b2 S2 =>
              obtain ⟨hn2, hc2⟩ := chain_tail HC.out
              rw [hn2] at HN
              have HC2 : Hid (chainB (b2 :: S2) = true) := hc2
              have HL2 : Hid (∀ L ∈ b2 :: S2, L.length = k) := fun L hL => HL.out L (List.mem_cons_of_mem _ hL)
              have hb2l : b2.length = k := HL2.out b2 (List.mem_cons_self ..)
              have HBL : Hid (∀ (w' : World) (B : Nat) (lv : Value), w.heap.size ≤ B → w'.ownsRow B 3 1 lv (ordI b2).length ((ordI b2).map encI) → w'.ownsRow w.heap.size 3 1 lv k ((ordI b2).map encI)) := fun w' B lv hB h => by
                have h2 : (ordI b2).length = k := by simp [ordI, hb2l]
                rw [h2] at h
                exact ⟨h.1, h.2.imp id fun ⟨g, cap, cur, e1, e2, e3⟩ => ⟨g, cap, cur, e1, Nat.le_trans hB e2, e3⟩⟩
              rw [List.length_cons] at hS
              clear hf hown hol hal hn2 hc2 hb2l
              go_wp2_with (first
                | (go_at_call 14; refine hfit.mono ?_; rintro e w5 ⟨rfl, hb5⟩; have hB5 : Below w.heap.size w w5 := BW.out.trans (hb5.mono BW.out.size); have hs5 := hB5.size)
                | (go_at_call 20; refine (HN.out _ hb5).mono ?_; rintro e w6 ⟨hb6, lv, rfl, ho6⟩; have hB6 : Below w.heap.size w w6 := hB5.trans (hb6.mono hs5)))
              have HO6 := HBL.out _ _ _ hs5 ho6
              go_roundg (S2.length)
              case measure => omega
              case rel => exact ⟨b2, S2, Nat.le_refl _, HL2, HC2, hB6, HO6, RR2⟩
end Go.Proofs.Ytidnooaccbahpaa
