/- outriggerref16.places as a call; the reference's Sane as a plain call. -/
import Derived.Test.YtidnooaccbahpaaTw
import Derived.Test.YtidnooaccbahpaaTq
set_option linter.unusedVariables false
set_option linter.unusedSimpArgs false
namespace Go.Proofs.Ytidnooaccbahpaa
open Go.RowKit Go.Proofs Go.Sx
/-- a list of acts, as data in the memory as it lies -/
def LstD (w : World) (v : Value) (zs : List A) : Prop := ∃ n f, relT (fun b => w.heap[b]?) (.sl n f) (.sl KA) v ∧ zs = acts n f
def labH (w : World) : Lab := ⟨fun _ => none, fun _ => false, fun b => w.heap[b]?⟩
theorem labH_hr (w : World) : HR (labH w) (hpOf []) w :=
  ⟨fun l o e => by simp [hpOf, nth] at e, fun l l' b _ _ e => by simp [labH] at e, fun l b _ e => by simp [labH] at e, fun b c e => ⟨e, fun l _ => by simp [labH]⟩⟩
theorem LstD.below {w w' : World} {v : Value} {zs : List A} (h : LstD w v zs) (hb : Below w.heap.size w w') : LstD w' v zs := by
  obtain ⟨n, f, h1, h2⟩ := h
  exact ⟨n, f, relT_mono (fun b c hc => (hb.block b (lt_of_block hc)).trans hc) _ _ _ h1, h2⟩
theorem LstD.lst {w : World} {v : Value} {zs : List A} (h : LstD w v zs) : Lst w v zs := by
  obtain ⟨n, f, h1, rfl⟩ := h
  exact lst_of (β := labH w) (labH_hr w) h1
theorem sane12_calls {w : World} {v : Value} {zs : List A} (h : LstD w v zs) : Calls Try.prog 12 #[v] w fun e w' => e = .returned (.bool (saneB zs)) ∧ Below w.heap.size w w' := by
  obtain ⟨n, f, h1, rfl⟩ := h
  refine (run12 (β0 := labH w) (fun _ => rfl) (labH_hr w) n f (vals := [v]) ((relL_cons ..).2 ⟨v, [], h1, relL_nil.2 rfl, rfl⟩)).mono ?_
  rintro e w' ⟨⟨u, rfl, hu⟩, hB⟩
  simp only [SV.rel, SB.val] at hu
  exact ⟨by rw [hu], hB⟩
def natsOf (xs : List Int) : List Nat := xs.map Int.toNat
/-- each place once -/
def onceB (n : Nat) : List Int → List Nat → Bool
  | [], _ => true
  | x :: xs, o => if x < 0 ∨ (n : Int) ≤ x ∨ x.toNat ∈ o then false else onceB n xs (o ++ [x.toNat])
def placesB (n : Nat) (xs : List Int) : Bool := onceB n xs [] && decide (xs.length = n)
theorem onceB_iff {n : Nat} : ∀ (xs : List Int) (o : List Nat), o.Nodup → (onceB n xs o = true ↔ (∀ x ∈ xs, 0 ≤ x ∧ x < (n : Int)) ∧ (o ++ natsOf xs).Nodup)
  | [], o, ho => by simp [onceB, natsOf, ho]
  | x :: xs, o, ho => by
    unfold onceB
    split
    · rename_i h
      simp only [Bool.false_eq_true, false_iff]
      rintro ⟨h1, h2⟩
      have := h1 x (List.mem_cons_self ..)
      rcases h with h | h | h
      · omega
      · omega
      · exact (List.nodup_append.1 h2).2.2 _ h x.toNat (by simp [natsOf]) rfl
    · rename_i h
      simp only [not_or] at h
      have hd : (o ++ [x.toNat]).Nodup := List.nodup_append.2 ⟨ho, by simp, fun a ha b hb => by simp at hb; subst hb; intro e; subst e; exact h.2.2 ha⟩
      rw [onceB_iff xs (o ++ [x.toNat]) hd]
      have e : (o ++ [x.toNat]) ++ natsOf xs = o ++ natsOf (x :: xs) := by simp [natsOf]
      rw [e]
      refine and_congr ⟨fun h' y hy => ?_, fun h' y hy => h' y (List.mem_cons_of_mem _ hy)⟩ Iff.rfl
      rcases List.mem_cons.1 hy with rfl | hy
      · omega
      · exact h' y hy
theorem places_eq (n : Nat) (xs : List Int) : placesB n xs = (permB xs && decide (xs.length = n)) := by
  unfold placesB
  by_cases hl : xs.length = n
  · subst hl
    simp only [decide_true, Bool.and_true]
    rw [Bool.eq_iff_iff, onceB_iff xs [] (by simp), perm_places]
    have hx : ∀ (h : ∀ x ∈ xs, 0 ≤ x ∧ x < (xs.length : Int)), xs = ordI (natsOf xs) := fun h => by
      unfold ordI natsOf
      rw [List.map_map]
      apply List.ext_getElem (by simp)
      intro i h1 h2
      have := h xs[i] (List.getElem_mem _)
      simp only [List.getElem_map, Function.comp]; omega
    constructor
    · rintro ⟨h1, h2⟩
      rw [List.nil_append] at h2
      have hf : Full xs.length (natsOf xs) := ⟨by simp [natsOf], h2, fun i hi => by
        simp only [natsOf, List.mem_map] at hi
        obtain ⟨x, hx, rfl⟩ := hi
        have := h1 x hx; omega⟩
      have hp : permB xs = true := by
        refine List.all_eq_true.2 fun i hi => ?_
        have hi' : i < xs.length := by simpa using hi
        have hm := mem_of_full hf.1 hf.2.1 hf.2.2 hi'
        simp only [natsOf, List.mem_map] at hm
        obtain ⟨x, hx, e⟩ := hm
        have := h1 x hx
        simp only [List.contains_iff_mem]
        rw [show (i : Int) = x by omega]; exact hx
      exact perm_places.1 hp
    · intro h
      refine ⟨fun x hx => ?_, ?_⟩
      · have hm := h.mem_iff.1 hx
        simp only [places, List.mem_map, List.mem_range] at hm
        obtain ⟨j, hj, rfl⟩ := hm; omega
      · rw [List.nil_append]
        have := h.map Int.toNat
        refine this.nodup_iff.2 ?_
        have e : (places xs.length).map Int.toNat = List.range xs.length := by
          unfold places; rw [List.map_map]
          apply List.ext_getElem (by simp)
          intro i h1 h2; simp
        rw [e]; exact List.nodup_range
  · simp [hl]
theorem natsOf_snoc (xs : List Int) (x : Int) : natsOf (xs ++ [x]) = natsOf xs ++ [x.toNat] := by simp [natsOf]
set_option maxHeartbeats 2000000 in
theorem places_calls (n : Nat) (hn : n ≤ 7) (xs : List Int) (v : Value) (w : World) (hv : LstI w v xs) : Calls Try.prog 24 #[.int .i64 n, v] w fun e w' => e = .returned (.bool (placesB n xs)) ∧ Below w.heap.size w w' := by
  obtain ⟨p, c, rfl, hl, hI⟩ := hv
  obtain ⟨m, hm⟩ : ∃ m, m = xs.length := ⟨_, rfl⟩
  rw [← hm] at hl ⊢
  have HM : Hid (m = xs.length) := hm
  have HI : Hid (IntsAt w w.heap.size p xs) := hI
  clear hm hI
  obtain ⟨i0, hi, hz0, hz1, hz2⟩ := info_parts info4
  have hby : i0.bytes * n ≤ 281474976710656 := by rw [hz2]; omega
  have hmk : madeCells (Value.bool false).cells (n * i0.size) = flags n [] := by rw [hz1]; exact flags_made _
  go_enter Try.func24, Try.ntmps24
  go_wp2_with (at_make; refine wpList_make_at _ rfl _ _ 30 rfl 4 i0 _ Try.underlying30 hi hz0 n rfl rfl hby (by omega) _ hmk ?_)
  go_loopw [6] (fun i wr => ∃ j : Nat, j ≤ m ∧ i = .int .i64 j ∧ Hid (Below w.heap.size w wr) ∧ Hid (wr.heap[w.heap.size]? = some (.cells (flags n (natsOf (xs.take j))) 4 (0, 0))) ∧ Hid (onceB n xs [] = onceB n (xs.drop j) (natsOf (xs.take j)))) (fun i _ => m - (intOf i).toNat)
  case atStart => exact ⟨0, Nat.zero_le _, rfl, (Below.refl _ _).alloc (Nat.le_refl _) _, heap_alloc_new w _, rfl⟩
  case round =>
    obtain ⟨j, hj, rfl, BW, SB, OB⟩ := hrel
    by_cases hlt : j < m
    · obtain ⟨x, hx⟩ : ∃ x, xs[j]? = some x := ⟨_, List.getElem?_eq_getElem (by rw [← HM.out]; exact hlt)⟩
      obtain ⟨b, off, rfl, hbn, d1⟩ := (HI.out.below BW.out).at hx
      have ht : xs.take (j + 1) = xs.take j ++ [x] := by rw [List.take_add_one, hx]; rfl
      have hd : xs.drop j = x :: xs.drop (j + 1) := by
        have hjl : j < xs.length := (List.getElem?_eq_some_iff.1 hx).1
        rw [List.drop_eq_getElem_cons hjl, (List.getElem?_eq_some_iff.1 hx).2]
      have OB' : Hid (onceB n xs [] = if x < 0 ∨ (n : Int) ≤ x ∨ x.toNat ∈ natsOf (xs.take j) then false else onceB n (xs.drop (j + 1)) (natsOf (xs.take (j + 1)))) := by
        have := OB.out
        rw [hd, onceB, ← natsOf_snoc, ← ht] at this; exact this
      have HT : Hid (natsOf (xs.take (j + 1)) = natsOf (xs.take j) ++ [x.toNat]) := by show _ = _; rw [ht, natsOf_snoc]
      clear OB hx ht hd
      generalize natsOf (xs.take j) = o at *
      by_cases h1 : x < 0
      · go_wp2
        all_goals go_ret
        all_goals exact ⟨by rw [placesB, OB'.out, if_pos (.inl h1)]; rfl, BW.out⟩
      · by_cases h2 : (n : Int) ≤ x
        · have h2d : decide (x ≥ (n : Int)) = true := decide_eq_true h2
          go_wp2
          all_goals go_ret
          all_goals exact ⟨by rw [placesB, OB'.out, if_pos (.inr (.inl h2))]; rfl, BW.out⟩
        · obtain ⟨q, rfl⟩ : ∃ q : Nat, x = (q : Int) := ⟨x.toNat, by omega⟩
          have hq : q < n := by omega
          have h2' : (q : Int) < (n : Int) := by omega
          have h2d : decide ((q : Int) ≥ (n : Int)) = false := decide_eq_false (by omega)
          have d2 : wr.cell? ⟨w.heap.size, q, none⟩ = some (.bool (dn o q)) := by
            simp only [World.cell?, SB.out]; simpa using flags_at hq
          have d3 : wr.frozen? ⟨w.heap.size, q, none⟩ = false := by simp [World.frozen?, SB.out]
          have H2 : Hid (¬ (n : Int) ≤ (q : Int)) := h2
          clear h1 h2
          have hbne : b ≠ w.heap.size := by omega
          cases hdq : dn o q with
          | true =>
            rw [hdq] at d2
            go_wp2
            all_goals go_ret
            all_goals exact ⟨by rw [placesB, OB'.out, if_pos (.inr (.inr (by simpa [dn] using hdq)))]; rfl, BW.out⟩
          | false =>
            rw [hdq] at d2
            go_wp2
            go_roundw
            case rel => exact ⟨j + 1, by omega, by go_num, BW.out.setCell (Nat.le_refl _) _, by
              show _ = _
              rw [heap_setCell_same wr w.heap.size q _ 4 _ SB.out, flags_push, HT.out]; simp, by
              show _ = _
              rw [OB'.out, if_neg (by
                rintro (h | h | h)
                · omega
                · exact H2.out h
                · simp [dn] at hdq; exact hdq (by simpa using h))]⟩
            case measure => simp [intOf]; omega
    · have hjm : j = m := by omega
      subst hjm
      go_wp2
      go_ret
      refine ⟨?_, BW.out⟩
      have h1 := OB.out
      rw [HM.out, List.drop_length] at h1
      rw [placesB, h1, ← HM.out]
      simp only [onceB, Bool.true_and]
      have e : ((j : Int) == (n : Int)) = decide (j = n) := by rw [Bool.eq_iff_iff]; simp; omega
      rw [← e]; rfl
end Go.Proofs.Ytidnooaccbahpaa
