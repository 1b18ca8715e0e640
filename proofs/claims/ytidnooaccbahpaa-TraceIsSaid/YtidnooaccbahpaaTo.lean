/- The plain law of trace: what the search finds, and that it finds the first. -/
import Derived.Test.YtidnooaccbahpaaTj
namespace Go.Proofs.Ytidnooaccbahpaa
set_option linter.unusedVariables false
set_option linter.unusedSimpArgs false
/-- acts can have been done in this order, from a value on -/
def V (zs : List A) : List Nat → Int → Prop
  | [], _ => True
  | k :: ks, now => ((zs[k]!).w = true ∨ (zs[k]!).v = now) ∧ (∀ y ∈ k :: ks, (zs[k]!).fr ≤ (zs[y]!).to) ∧ V zs ks (thenV zs now k)
theorem fitRun_V (zs : List A) : ∀ (L : List Nat) (now late : Int), fitRun zs (ordI L) now late = true ↔ V zs L now ∧ ∀ y ∈ L, late ≤ (zs[y]!).to
  | [], now, late => by simp [ordI, fitRun, V]
  | k :: ks, now, late => by
    have ih := fitRun_V zs ks (thenV zs now k) (max late (zs[k]!).fr)
    have e : fitRun zs (ordI (k :: ks)) now late = if (zs[k]!).to < max late (zs[k]!).fr then false else if !(zs[k]!).w && decide ((zs[k]!).v ≠ now) then false else fitRun zs (ordI ks) (thenV zs now k) (max late (zs[k]!).fr) := by
      simp only [ordI, List.map_cons]
      rw [fitRun_cons zs _ _ _ _ rfl rfl, Int.toNat_natCast]; rfl
    rw [e]
    generalize hx : zs[k]! = x at *
    by_cases h1 : x.to < max late x.fr
    · rw [if_pos h1]
      simp only [Bool.false_eq_true, V, hx, false_iff]
      rintro ⟨⟨_, h3, _⟩, h4⟩
      have h5 := h3 k (List.mem_cons_self ..)
      have h6 := h4 k (List.mem_cons_self ..)
      rw [hx] at h5 h6
      omega
    · rw [if_neg h1]
      by_cases h2 : (!x.w && decide (x.v ≠ now)) = true
      · rw [if_pos h2]
        simp only [Bool.false_eq_true, V, hx, false_iff]
        rintro ⟨⟨h3, _⟩, _⟩
        simp only [Bool.and_eq_true, Bool.not_eq_true', decide_eq_true_eq] at h2
        rcases h3 with h3 | h3
        · rw [h3] at h2; simp at h2
        · exact h2.2 h3
      · rw [if_neg h2, ih]
        have h3 : x.w = true ∨ x.v = now := by
          simp only [Bool.and_eq_true, Bool.not_eq_true', decide_eq_true_eq, not_and, Decidable.not_not] at h2
          cases hw : x.w with
          | true => exact .inl rfl
          | false => exact .inr (h2 hw)
        simp only [V, hx]
        constructor
        · rintro ⟨h4, h5⟩
          refine ⟨⟨h3, fun y hy => ?_, h4⟩, fun y hy => ?_⟩
          · rcases List.mem_cons.1 hy with rfl | hy
            · rw [hx]; omega
            · have := h5 y hy; omega
          · rcases List.mem_cons.1 hy with rfl | hy
            · rw [hx]; omega
            · have := h5 y hy; omega
        · rintro ⟨⟨_, h4, h5⟩, h6⟩
          exact ⟨h5, fun y hy => by have := h4 y (List.mem_cons_of_mem _ hy); have := h6 y (List.mem_cons_of_mem _ hy); omega⟩
/-- whom one waits for -/
theorem left_any {zs : List A} {o : List Nat} {f : Int} : ((leftL zs (dn o) zs.length).any fun y => decide (y.to < f)) = false ↔ ∀ j, j < zs.length → j ∉ o → f ≤ (zs[j]!).to := by
  simp only [leftL, List.any_eq_false, List.mem_map, List.mem_filter, List.mem_range, decide_eq_true_eq, dn]
  constructor
  · intro h j hj hjo
    have := h (zs[j]!) ⟨j, ⟨hj, by simpa using hjo⟩, rfl⟩
    omega
  · rintro h x ⟨j, ⟨hj, hjo⟩, rfl⟩
    have := h j hj (by simpa using hjo)
    omega
theorem skip_false {zs : List A} {o : List Nat} {now : Int} {k : Nat} : skipB zs o now k = false ↔ k ∉ o ∧ ((zs[k]!).w = true ∨ (zs[k]!).v = now) ∧ ∀ j, j < zs.length → j ∉ o → (zs[k]!).fr ≤ (zs[j]!).to := by
  simp only [skipB, Bool.or_eq_false_iff, left_any, and_assoc]
  refine and_congr (by simp [dn]) (and_congr ?_ Iff.rfl)
  cases hw : (zs[k]!).w <;> simp
/-- what the search finds can have been -/
theorem dfs_sound {zs : List A} : ∀ (m : Nat) (o : List Nat) (now : Int) (r : List Nat), dfs zs m o now = some r → (∀ i ∈ o, i < zs.length) → o.Nodup → ∃ L, r = o ++ L ∧ V zs L now
  | 0, o, now, r, h, _, _ => ⟨[], by simp only [dfs, Option.some.injEq] at h; simp [h], trivial⟩
  | m + 1, o, now, r, h, ho, hd => by
    obtain ⟨k, hk, hs, h'⟩ := step_some h
    obtain ⟨hno, hv, hw⟩ := skip_false.1 hs
    have ho' : ∀ i ∈ o ++ [k], i < zs.length := fun i hi => by rcases List.mem_append.1 hi with e | e; exact ho i e; simp at e; omega
    have hd' : (o ++ [k]).Nodup := List.nodup_append.2 ⟨hd, by simp, fun a ha b hb => by simp at hb; subst hb; intro e; subst e; exact hno ha⟩
    obtain ⟨L, rfl, hV⟩ := dfs_sound m _ _ r h' ho' hd'
    obtain ⟨_, hb, hn⟩ := dfs_props m _ _ _ h' ho' hd'
    refine ⟨k :: L, by simp, hv, fun y hy => hw y ?_ ?_, hV⟩
    · exact hb y (by rcases List.mem_cons.1 hy with e | e; simp [e]; simp [e])
    · intro hyo
      rw [List.append_assoc] at hn
      exact (List.nodup_append.1 hn).2.2 y hyo y (by simpa using hy) rfl
def lexLe : List Nat → List Nat → Prop
  | a :: l, b :: m => a < b ∨ (a = b ∧ lexLe l m)
  | [], _ => True
  | _ :: _, [] => False
theorem lexLe_refl : ∀ l, lexLe l l
  | [] => trivial
  | a :: l => .inr ⟨rfl, lexLe_refl l⟩
theorem mem_of_full {n : Nat} {l : List Nat} (hl : l.length = n) (hn : l.Nodup) (hb : ∀ i ∈ l, i < n) {j : Nat} (hj : j < n) : j ∈ l := by
  obtain ⟨rest, hr⟩ := perm_of_sub l (List.range n) hn (fun a ha => List.mem_range.2 (hb a ha))
  have h1 := hr.length_eq
  rw [List.length_append, List.length_range, hl] at h1
  have : rest = [] := List.eq_nil_of_length_eq_zero (by omega)
  subst this
  exact (by simpa using hr.mem_iff.1 (List.mem_range.2 hj))
theorem findSome_first {β : Type} {f : Nat → Option β} : ∀ {n k : Nat} {r : β}, k < n → f k = some r → ∃ k' r', k' ≤ k ∧ f k' = some r' ∧ (List.range n).findSome? f = some r' := by
  intro n k r hk h
  induction k using Nat.strongRecOn generalizing r with
  | _ k ih =>
    by_cases hx : ∃ j, j < k ∧ (f j).isSome
    · obtain ⟨j, hj, hs⟩ := hx
      obtain ⟨rj, hrj⟩ := Option.isSome_iff_exists.1 hs
      obtain ⟨k', r', h1, h2, h3⟩ := ih j hj (by omega) hrj
      exact ⟨k', r', by omega, h2, h3⟩
    · refine ⟨k, r, Nat.le_refl _, h, findSome_hit hk (fun j hj => ?_) h⟩
      cases hfj : f j with
      | none => rfl
      | some x => exact absurd ⟨j, hj, by rw [hfj]; rfl⟩ hx
/-- whatever can have been, the search finds one, and none that is later -/
theorem dfs_complete {zs : List A} : ∀ (L o : List Nat) (now : Int), (o ++ L).length = zs.length → (o ++ L).Nodup → (∀ i ∈ o ++ L, i < zs.length) → V zs L now → ∃ L', dfs zs L.length o now = some (o ++ L') ∧ lexLe L' L ∧ L'.length = L.length
  | [], o, now, _, _, _, _ => ⟨[], by simp [dfs], trivial, rfl⟩
  | k :: ks, o, now, hl, hd, hb, hV => by
    obtain ⟨h1, h2, h3⟩ := hV
    have hk : k < zs.length := hb k (by simp)
    have hko : k ∉ o := fun e => (List.nodup_append.1 hd).2.2 k e k (by simp) rfl
    have hskip : skipB zs o now k = false := skip_false.2 ⟨hko, h1, fun j hj hjo => by
      have := mem_of_full hl hd hb hj
      rcases List.mem_append.1 this with e | e
      · exact absurd e hjo
      · exact h2 j e⟩
    have happ : o ++ k :: ks = (o ++ [k]) ++ ks := by simp
    obtain ⟨L1, e1, e2, e3⟩ := dfs_complete ks (o ++ [k]) (thenV zs now k) (by rw [← happ]; exact hl) (by rw [← happ]; exact hd) (by rw [← happ]; exact hb) h3
    have hstep : stepF zs ks.length o now k = some ((o ++ [k]) ++ L1) := by simp only [stepF, hskip]; exact e1
    obtain ⟨k', r', h4, h5, h6⟩ := findSome_first (f := stepF zs ks.length o now) hk hstep
    have hdfs : dfs zs (k :: ks).length o now = some r' := h6
    by_cases he : k' = k
    · subst he
      rw [hstep] at h5; cases h5
      exact ⟨k' :: L1, by rw [hdfs]; simp, .inr ⟨rfl, e2⟩, by simp [e3]⟩
    · have hlt : k' < k := by omega
      unfold stepF at h5
      split at h5
      · cases h5
      · rename_i hs
        have hs' : skipB zs o now k' = false := by simpa using hs
        have hbo : ∀ i ∈ o ++ [k'], i < zs.length := fun i hi => by
          rcases List.mem_append.1 hi with e | e
          · exact hb i (List.mem_append_left _ e)
          · simp at e; omega
        have hdo : (o ++ [k']).Nodup := List.nodup_append.2 ⟨(List.nodup_append.1 hd).1, by simp, fun a ha b hb' => by simp at hb'; subst hb'; intro e; subst e; exact (skip_false.1 hs').1 ha⟩
        obtain ⟨L2, rfl, _⟩ := dfs_sound _ _ _ _ h5 hbo hdo
        obtain ⟨hl2, _, _⟩ := dfs_props _ _ _ _ h5 hbo hdo
        refine ⟨k' :: L2, by rw [hdfs]; simp, .inl hlt, by simp at hl2 ⊢; omega⟩
/-- an order of all places -/
def Full (n : Nat) (L : List Nat) : Prop := L.length = n ∧ L.Nodup ∧ ∀ i ∈ L, i < n
theorem order_sound {zs : List A} {o : List Nat} (h : orderL zs = some o) : saneB zs = true ∧ Full zs.length o ∧ V zs o 0 := by
  obtain ⟨h1, h2, h3, h4, h5⟩ := orderL_props h
  obtain ⟨L, rfl, hV⟩ := dfs_sound _ _ _ _ h5 (by simp) (by simp)
  exact ⟨h1, ⟨h2, h4, h3⟩, by simpa using hV⟩
theorem order_complete {zs : List A} {L : List Nat} (hs : saneB zs = true) (hL : Full zs.length L) (hV : V zs L 0) : ∃ o, orderL zs = some o ∧ lexLe o L := by
  obtain ⟨L', h1, h2, h3⟩ := dfs_complete L [] 0 (by simpa using hL.1) (by simpa using hL.2.1) (by simpa using hL.2.2) hV
  refine ⟨L', ?_, h2⟩
  unfold orderL
  rw [if_pos hs, ← hL.1]
  simpa using h1
theorem order_some {zs : List A} : (orderL zs).isSome = true ↔ saneB zs = true ∧ ∃ L, Full zs.length L ∧ V zs L 0 := by
  constructor
  · intro h
    obtain ⟨o, ho⟩ := Option.isSome_iff_exists.1 h
    obtain ⟨h1, h2, h3⟩ := order_sound ho
    exact ⟨h1, o, h2, h3⟩
  · rintro ⟨h1, L, h2, h3⟩
    obtain ⟨o, ho, _⟩ := order_complete h1 h2 h3
    rw [ho]; rfl
/-! # fits -/
theorem sane_at {zs : List A} (h : saneB zs = true) {j : Nat} (hj : j < zs.length) : 0 ≤ (zs[j]!).fr ∧ (zs[j]!).fr < (zs[j]!).to ∧ (zs[j]!).to ≤ 1099511627776 := by
  simp only [saneB, Bool.and_eq_true, Bool.not_eq_true', List.any_eq_false] at h
  have := h.2 (zs[j]!) (by rw [getElem!_pos zs j hj]; exact List.getElem_mem _)
  simp only [badB, Bool.or_eq_true, decide_eq_true_eq, not_or] at this
  omega
theorem fits_of {zs : List A} {L : List Nat} (hs : saneB zs = true) (hL : Full zs.length L) (hV : V zs L 0) : fitsP zs (ordI L) = true := by
  have hp : permB (ordI L) = true := by
    refine List.all_eq_true.2 fun i hi => ?_
    have hi' : i < zs.length := by simpa [ordI, hL.1] using hi
    simp only [List.contains_iff_mem, ordI, List.mem_map]
    exact ⟨i, mem_of_full hL.1 hL.2.1 hL.2.2 hi', rfl⟩
  unfold fitsP
  rw [hp, hs, (fitRun_V zs L 0 0).2 ⟨hV, fun y hy => by have := sane_at hs (hL.2.2 y hy); omega⟩]
  simp [ordI, hL.1]
theorem of_fits {zs : List A} {xs : List Int} (h : fitsP zs xs = true) : saneB zs = true ∧ ∃ L, xs = ordI L ∧ Full zs.length L ∧ V zs L 0 := by
  unfold fitsP at h
  simp only [Bool.and_eq_true, decide_eq_true_eq] at h
  obtain ⟨⟨hp, hs, hl⟩, hr⟩ := h
  have hperm := perm_places.1 hp
  have hx : xs = ordI (xs.map Int.toNat) := by
    unfold ordI
    rw [List.map_map]
    apply List.ext_getElem (by simp)
    intro i h1 h2
    have hm : xs[i] ∈ places xs.length := hperm.mem_iff.1 (List.getElem_mem _)
    simp only [places, List.mem_map, List.mem_range] at hm
    obtain ⟨j, _, hj⟩ := hm
    simp only [List.getElem_map, Function.comp]
    rw [← hj]; simp
  refine ⟨hs, xs.map Int.toNat, hx, ⟨by simp [hl], ?_, ?_⟩, ?_⟩
  · have := hperm.map Int.toNat
    refine this.nodup_iff.2 ?_
    have e : (places xs.length).map Int.toNat = List.range xs.length := by
      unfold places; rw [List.map_map]
      apply List.ext_getElem (by simp)
      intro i h1 h2; simp
    rw [e]; exact List.nodup_range
  · intro i hi
    simp only [List.mem_map] at hi
    obtain ⟨x, hx, rfl⟩ := hi
    have hm := hperm.mem_iff.1 hx
    simp only [places, List.mem_map, List.mem_range] at hm
    obtain ⟨j, hj, rfl⟩ := hm
    simp; omega
  · rw [hx] at hr
    exact ((fitRun_V zs _ 0 0).1 hr).1
end Go.Proofs.Ytidnooaccbahpaa
