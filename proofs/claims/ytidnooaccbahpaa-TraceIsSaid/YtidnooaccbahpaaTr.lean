/- The plain law of TraceMore and TraceWide: what can be seen with one act more, with a wider act, with a read less. -/
import Derived.Test.YtidnooaccbahpaaTo
set_option linter.unusedVariables false
set_option linter.unusedSimpArgs false
namespace Go.Proofs.Ytidnooaccbahpaa
/-- acts that look alike can have been alike -/
theorem V_alike {zs zs' : List A} (h : ∀ j, j < zs.length → zs'[j]! = zs[j]!) : ∀ (L : List Nat) (now : Int), (∀ i ∈ L, i < zs.length) → V zs L now → V zs' L now
  | [], _, _, _ => trivial
  | k :: L, now, hb, hV => by
    obtain ⟨h1, h2, h3⟩ := hV
    have hk := h k (hb k (List.mem_cons_self ..))
    refine ⟨by rw [hk]; exact h1, fun y hy => by rw [hk, h y (hb y hy)]; exact h2 y hy, ?_⟩
    have : thenV zs' now k = thenV zs now k := by simp only [thenV, hk]
    rw [this]
    exact V_alike h L _ (fun i hi => hb i (List.mem_cons_of_mem _ hi)) h3
theorem snoc_at {zs : List A} {x : A} {j : Nat} (hj : j < zs.length) : (zs ++ [x])[j]! = zs[j]! := by
  rw [getElem!_pos _ j (by simp; omega), getElem!_pos _ j hj, List.getElem_append_left hj]
theorem snoc_last {zs : List A} {x : A} : (zs ++ [x])[zs.length]! = x := by
  rw [getElem!_pos _ _ (by simp)]; simp
def okA (x : A) : Prop := 0 ≤ x.fr ∧ x.fr < x.to ∧ x.to ≤ 1099511627776
theorem sane_iff {zs : List A} : saneB zs = true ↔ zs.length ≤ 7 ∧ ∀ x ∈ zs, okA x := by
  simp only [saneB, Bool.and_eq_true, decide_eq_true_eq, Bool.not_eq_true', List.any_eq_false]
  refine and_congr Iff.rfl (forall_congr' fun x => forall_congr' fun _ => ?_)
  simp only [badB, Bool.or_eq_true, decide_eq_true_eq, not_or, okA]
  omega
theorem snoc_sane {zs : List A} {x : A} (hs : saneB zs = true) (hn : zs.length ≤ 6) (hx : okA x) : saneB (zs ++ [x]) = true := by
  rw [sane_iff] at hs ⊢
  exact ⟨by simp; omega, fun y hy => by rcases List.mem_append.1 hy with e | e; exact hs.2 y e; simp at e; subst e; exact hx⟩
/-! # one of the reads a second time -/
def ins (i n : Nat) : List Nat → List Nat
  | [] => []
  | k :: ks => if k = i then k :: n :: ks else k :: ins i n ks
theorem ins_perm (i n : Nat) : ∀ {L : List Nat}, i ∈ L → (ins i n L).Perm (n :: L)
  | k :: ks, h => by
    unfold ins
    split
    · exact .swap _ _ _
    · rename_i hk
      have hi : i ∈ ks := by rcases List.mem_cons.1 h with e | e; exact absurd e.symm hk; exact e
      exact ((ins_perm i n hi).cons k).trans (.swap _ _ _)
theorem V_ins {zs : List A} {i : Nat} (hi : i < zs.length) (hr : (zs[i]!).w = false) : ∀ (L : List Nat) (now : Int), i ∈ L → (∀ j ∈ L, j < zs.length) → V zs L now → V (zs ++ [zs[i]!]) (ins i zs.length L) now
  | k :: ks, now, hm, hb, hV => by
    obtain ⟨h1, h2, h3⟩ := hV
    have hbk := hb k (List.mem_cons_self ..)
    have hbs : ∀ j ∈ ks, j < zs.length := fun j hj => hb j (List.mem_cons_of_mem _ hj)
    have hal : ∀ j, j < zs.length → (zs ++ [zs[i]!])[j]! = zs[j]! := fun j hj => snoc_at hj
    have hl : (zs ++ [zs[i]!])[zs.length]! = zs[i]! := snoc_last
    unfold ins
    split
    · rename_i hk
      subst hk
      have hnow : (zs[k]!).v = now := by
        rcases h1 with h1 | h1
        · rw [hr] at h1; cases h1
        · exact h1
      have hth : thenV zs now k = now := by simp only [thenV, hr, Bool.false_eq_true, if_false]
      rw [hth] at h3
      have hth' : thenV (zs ++ [zs[k]!]) now k = now := by simp only [thenV, hal k hbk, hr]; rfl
      have hth2 : thenV (zs ++ [zs[k]!]) now zs.length = now := by simp only [thenV, hl, hr]; rfl
      refine ⟨by rw [hal k hbk]; exact h1, fun y hy => ?_, ?_⟩
      · rw [hal k hbk]
        rcases List.mem_cons.1 hy with rfl | hy
        · rw [hal _ hbk]; exact h2 _ (List.mem_cons_self ..)
        · rcases List.mem_cons.1 hy with rfl | hy
          · rw [hl]; exact h2 _ (List.mem_cons_self ..)
          · rw [hal y (hbs y hy)]; exact h2 y (List.mem_cons_of_mem _ hy)
      · rw [hth']
        refine ⟨by rw [hl]; exact .inr hnow, fun y hy => ?_, ?_⟩
        · rw [hl]
          rcases List.mem_cons.1 hy with rfl | hy
          · rw [hl]; exact h2 _ (List.mem_cons_self ..)
          · rw [hal y (hbs y hy)]; exact h2 y (List.mem_cons_of_mem _ hy)
        · rw [hth2]
          exact V_alike hal ks now hbs h3
    · rename_i hk
      have hi' : i ∈ ks := by rcases List.mem_cons.1 hm with e | e; exact absurd e.symm hk; exact e
      refine ⟨by rw [hal k hbk]; exact h1, fun y hy => ?_, ?_⟩
      · rw [hal k hbk]
        rcases List.mem_cons.1 hy with rfl | hy
        · rw [hal _ hbk]; exact h2 _ (List.mem_cons_self ..)
        · have := (ins_perm i zs.length hi').mem_iff.1 hy
          rcases List.mem_cons.1 this with rfl | hy
          · rw [hl]; exact h2 i (List.mem_cons_of_mem _ hi')
          · rw [hal y (hbs y hy)]; exact h2 y (List.mem_cons_of_mem _ hy)
      · have : thenV (zs ++ [zs[i]!]) now k = thenV zs now k := by simp only [thenV, hal k hbk]
        rw [this]
        exact V_ins hi hr ks _ hi' hbs h3
theorem more_two {zs : List A} {i : Nat} (hok : (orderL zs).isSome = true) (hn : zs.length ≤ 6) (hi : i < zs.length) (hr : (zs[i]!).w = false) : (orderL (zs ++ [zs[i]!])).isSome = true := by
  obtain ⟨hs, L, hL, hV⟩ := order_some.1 hok
  have hm : i ∈ L := mem_of_full hL.1 hL.2.1 hL.2.2 hi
  have hp := ins_perm i zs.length hm
  refine order_some.2 ⟨snoc_sane hs hn (sane_at hs hi), ins i zs.length L, ⟨?_, ?_, ?_⟩, V_ins hi hr L 0 hm hL.2.2 hV⟩
  · rw [hp.length_eq]; simp [hL.1]
  · exact hp.nodup_iff.2 (List.nodup_cons.2 ⟨fun e => by have := hL.2.2 _ e; omega, hL.2.1⟩)
  · intro j hj
    rcases List.mem_cons.1 (hp.mem_iff.1 hj) with e | e
    · subst e; simp
    · have := hL.2.2 j e; simp; omega
/-! # a read of nothing ahead of all -/
theorem more_nought {zs : List A} {t : Int} (hok : (orderL zs).isSome = true) (hn : zs.length ≤ 6) (ht : 0 < t) (ht' : t ≤ 1099511627776) : (orderL (zs ++ [⟨false, 0, 0, t⟩])).isSome = true := by
  obtain ⟨hs, L, hL, hV⟩ := order_some.1 hok
  have hal : ∀ j, j < zs.length → (zs ++ [(⟨false, 0, 0, t⟩ : A)])[j]! = zs[j]! := fun j hj => snoc_at hj
  have hl : (zs ++ [(⟨false, 0, 0, t⟩ : A)])[zs.length]! = ⟨false, 0, 0, t⟩ := snoc_last
  refine order_some.2 ⟨snoc_sane hs hn ⟨Int.le_refl _, ht, ht'⟩, zs.length :: L, ⟨by simp [hL.1], List.nodup_cons.2 ⟨fun e => by have := hL.2.2 _ e; omega, hL.2.1⟩, fun j hj => ?_⟩, ?_⟩
  · rcases List.mem_cons.1 hj with e | e
    · subst e; simp
    · have := hL.2.2 j e; simp; omega
  · refine ⟨by rw [hl]; exact .inr rfl, fun y hy => ?_, ?_⟩
    · rw [hl]
      rcases List.mem_cons.1 hy with rfl | hy
      · rw [hl]; show (0 : Int) ≤ t; omega
      · rw [hal y (hL.2.2 y hy)]
        have := sane_at hs (hL.2.2 y hy)
        show (0 : Int) ≤ _; omega
    · have : thenV (zs ++ [(⟨false, 0, 0, t⟩ : A)]) 0 zs.length = 0 := by simp only [thenV, hl]; rfl
      rw [this]
      exact V_alike hal L 0 hL.2.2 hV
/-! # a wider act -/
theorem V_wide {zs zs' : List A} (h : ∀ j, j < zs.length → (zs'[j]!).w = (zs[j]!).w ∧ (zs'[j]!).v = (zs[j]!).v ∧ (zs'[j]!).fr ≤ (zs[j]!).fr ∧ (zs[j]!).to ≤ (zs'[j]!).to) : ∀ (L : List Nat) (now : Int), (∀ i ∈ L, i < zs.length) → V zs L now → V zs' L now
  | [], _, _, _ => trivial
  | k :: L, now, hb, hV => by
    obtain ⟨h1, h2, h3⟩ := hV
    have hk := h k (hb k (List.mem_cons_self ..))
    refine ⟨by rw [hk.1, hk.2.1]; exact h1, fun y hy => ?_, ?_⟩
    · have hy' := h y (hb y hy)
      have := h2 y hy
      omega
    · have : thenV zs' now k = thenV zs now k := by simp only [thenV, hk.1, hk.2.1]
      rw [this]
      exact V_wide h L _ (fun i hi => hb i (List.mem_cons_of_mem _ hi)) h3
theorem set_at {zs : List A} {i : Nat} {x : A} (hi : i < zs.length) (j : Nat) (hj : j < zs.length) : (zs.set i x)[j]! = if j = i then x else zs[j]! := by
  rw [getElem!_pos _ j (by simpa using hj), getElem!_pos _ j hj, List.getElem_set]
  by_cases e : i = j
  · simp [e]
  · simp [e, Ne.symm e]
theorem wide_some {zs : List A} {i : Nat} {f t : Int} (hok : (orderL zs).isSome = true) (hi : i < zs.length) (hf0 : 0 ≤ f) (hf : f ≤ (zs[i]!).fr) (ht : (zs[i]!).to ≤ t) (ht1 : t ≤ 1099511627776) : (orderL (zs.set i ⟨(zs[i]!).w, (zs[i]!).v, f, t⟩)).isSome = true := by
  obtain ⟨hs, L, hL, hV⟩ := order_some.1 hok
  have hsi := sane_at hs hi
  refine order_some.2 ⟨?_, L, ⟨by simpa using hL.1, hL.2.1, by simpa using hL.2.2⟩, V_wide (fun j hj => ?_) L 0 hL.2.2 hV⟩
  · rw [sane_iff] at hs ⊢
    refine ⟨by simpa using hs.1, fun x hx => ?_⟩
    rcases List.mem_or_eq_of_mem_set hx with e | e
    · exact hs.2 x e
    · subst e; exact ⟨hf0, by show f < t; omega, ht1⟩
  · rw [set_at hi j hj]
    by_cases e : j = i
    · subst e; rw [if_pos rfl]; exact ⟨rfl, rfl, hf, ht⟩
    · rw [if_neg e]; exact ⟨rfl, rfl, Int.le_refl _, Int.le_refl _⟩
/-! # a read less -/
def ren (i j : Nat) : Nat := if j < i then j else j - 1
theorem V_less {zs zs' : List A} {i : Nat} (hr : (zs[i]!).w = false) (h : ∀ j, j < zs.length → j ≠ i → zs'[ren i j]! = zs[j]!) : ∀ (L : List Nat) (now : Int), (∀ j ∈ L, j < zs.length) → V zs L now → V zs' ((L.filter fun j => j != i).map (ren i)) now
  | [], _, _, _ => trivial
  | k :: L, now, hb, hV => by
    obtain ⟨h1, h2, h3⟩ := hV
    have ih := V_less hr h L (thenV zs now k) (fun j hj => hb j (List.mem_cons_of_mem _ hj)) h3
    by_cases e : k = i
    · subst e
      have hth : thenV zs now k = now := by simp only [thenV, hr, Bool.false_eq_true, if_false]
      rw [hth] at ih
      simpa using ih
    · have hk := h k (hb k (List.mem_cons_self ..)) e
      have hf : (k :: L).filter (fun j => j != i) = k :: L.filter fun j => j != i := by simp [e]
      rw [hf, List.map_cons]
      refine ⟨by rw [hk]; exact h1, fun y hy => ?_, ?_⟩
      · rw [hk]
        rcases List.mem_cons.1 hy with rfl | hy
        · rw [hk]; exact h2 _ (List.mem_cons_self ..)
        · simp only [List.mem_map, List.mem_filter, bne_iff_ne, ne_eq] at hy
          obtain ⟨j, ⟨hj, hji⟩, rfl⟩ := hy
          rw [h j (hb j (List.mem_cons_of_mem _ hj)) hji]
          exact h2 j (List.mem_cons_of_mem _ hj)
      · have : thenV zs' now (ren i k) = thenV zs now k := by simp only [thenV, hk]
        rw [this]; exact ih
theorem less_at {zs : List A} {i : Nat} (hi : i < zs.length) (j : Nat) (hj : j < zs.length) (e : j ≠ i) : (zs.take i ++ zs.drop (i + 1))[ren i j]! = zs[j]! := by
  have hl : (zs.take i ++ zs.drop (i + 1)).length = zs.length - 1 := by simp; omega
  unfold ren
  split
  · rename_i h
    rw [getElem!_pos _ j (by omega), getElem!_pos _ j hj, List.getElem_append_left (by simp; omega)]
    simp
  · rename_i h
    rw [getElem!_pos _ (j - 1) (by omega), getElem!_pos _ j hj, List.getElem_append_right (by simp; omega)]
    simp only [List.length_take, List.getElem_drop]
    congr 1; omega
theorem less_some {zs : List A} {i : Nat} (hok : (orderL zs).isSome = true) (hi : i < zs.length) (hr : (zs[i]!).w = false) : (orderL (zs.take i ++ zs.drop (i + 1))).isSome = true := by
  obtain ⟨hs, L, hL, hV⟩ := order_some.1 hok
  have hm : i ∈ L := mem_of_full hL.1 hL.2.1 hL.2.2 hi
  have hl : (zs.take i ++ zs.drop (i + 1)).length = zs.length - 1 := by simp; omega
  have hinj : ∀ a b, a ≠ i → b ≠ i → ren i a = ren i b → a = b := fun a b h1 h2 h3 => by unfold ren at h3; split at h3 <;> split at h3 <;> omega
  refine order_some.2 ⟨?_, (L.filter fun j => j != i).map (ren i), ⟨?_, ?_, ?_⟩, V_less hr (fun j hj e => less_at hi j hj e) L 0 hL.2.2 hV⟩
  · rw [sane_iff] at hs ⊢
    refine ⟨by omega, fun x hx => ?_⟩
    rcases List.mem_append.1 hx with e | e
    · exact hs.2 x (List.mem_of_mem_take e)
    · exact hs.2 x (List.mem_of_mem_drop e)
  · rw [List.length_map, hl, ← hL.1]
    have : (L.filter fun j => j != i) = L.erase i := by
      rw [hL.2.1.erase_eq_filter]
    rw [this, List.length_erase_of_mem hm]
  · rw [List.nodup_iff_pairwise_ne, List.pairwise_map]
    have := (hL.2.1.filter fun j => j != i)
    refine List.Pairwise.imp_of_mem (fun {a b} ha hb hab e => ?_) this
    simp only [List.mem_filter, bne_iff_ne, ne_eq] at ha hb
    exact hab (hinj a b ha.2 hb.2 e)
  · intro y hy
    simp only [List.mem_map, List.mem_filter, bne_iff_ne, ne_eq] at hy
    obtain ⟨j, ⟨hj, hji⟩, rfl⟩ := hy
    have := hL.2.2 j hj
    unfold ren; split <;> omega
end Go.Proofs.Ytidnooaccbahpaa
