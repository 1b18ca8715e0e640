/- The plain law of the reference's Order: all orders one behind the other; the first that fits is what the search finds. -/
import Derived.Test.YtidnooaccbahpaaTz
set_option linter.unusedVariables false
set_option linter.unusedSimpArgs false
namespace Go.Proofs.Ytidnooaccbahpaa
def permsOf : Nat → List Nat → List (List Nat)
  | 0, _ => [[]]
  | f + 1, l => l.flatMap fun a => (permsOf f (l.erase a)).map (a :: ·)
theorem mem_permsOf : ∀ (f : Nat) (l L : List Nat), L.length = f → L.Perm l → L ∈ permsOf f l
  | 0, l, L, h, _ => by
    have : L = [] := List.eq_nil_of_length_eq_zero h
    subst this; simp [permsOf]
  | f + 1, l, a :: L, h, hp => by
    have ha : a ∈ l := hp.mem_iff.1 (List.mem_cons_self ..)
    simp only [permsOf, List.mem_flatMap, List.mem_map]
    refine ⟨a, ha, L, mem_permsOf f (l.erase a) L (by simpa using h) ?_, rfl⟩
    have := hp.erase a
    simpa using this
def lexLtB : List Nat → List Nat → Bool
  | a :: l, b :: m => decide (a < b) || (decide (a = b) && lexLtB l m)
  | _, _ => false
theorem lexLt_le : ∀ {a b : List Nat}, lexLtB a b = true → lexLe a b
  | a :: l, b :: m, h => by
    simp only [lexLtB, Bool.or_eq_true, Bool.and_eq_true, decide_eq_true_eq] at h
    exact h.imp id fun h => ⟨h.1, lexLt_le h.2⟩
  | [], _, h => trivial
  | _ :: _, [], h => by simp [lexLtB] at h
theorem lexLe_trans : ∀ {a b c : List Nat}, lexLe a b → lexLe b c → lexLe a c
  | [], _, _, _, _ => trivial
  | _ :: _, [], _, h, _ => h.elim
  | _ :: _, _ :: _, [], _, h => h.elim
  | x :: a, y :: b, z :: c, h, h' => by
    rcases h with h | ⟨rfl, h⟩
    · rcases h' with h' | ⟨rfl, h'⟩
      · exact .inl (by omega)
      · exact .inl h
    · rcases h' with h' | ⟨rfl, h'⟩
      · exact .inl h'
      · exact .inr ⟨rfl, lexLe_trans h h'⟩
theorem lexLe_anti : ∀ {a b : List Nat}, a.length = b.length → lexLe a b → lexLe b a → a = b
  | [], [], _, _, _ => rfl
  | [], _ :: _, h, _, _ => by simp at h
  | _ :: _, [], h, _, _ => by simp at h
  | x :: a, y :: b, hl, h, h' => by
    rcases h with h | ⟨rfl, h⟩
    · rcases h' with h' | ⟨rfl, h'⟩
      · omega
      · omega
    · rcases h' with h' | ⟨_, h'⟩
      · omega
      · rw [lexLe_anti (by simpa using hl) h h']
def chainB : List (List Nat) → Bool
  | [] => false
  | [a] => nextI (ordI a) == none
  | a :: b :: r => (nextI (ordI a) == some (ordI b)) && lexLtB a b && chainB (b :: r)
theorem chain_le : ∀ {S : List (List Nat)} {a : List Nat}, chainB (a :: S) = true → ∀ x ∈ S, lexLe a x
  | [], _, _, x, hx => by simp at hx
  | b :: r, a, h, x, hx => by
    simp only [chainB, Bool.and_eq_true] at h
    have h1 := lexLt_le h.1.2
    rcases List.mem_cons.1 hx with rfl | hx
    · exact h1
    · exact lexLe_trans h1 (chain_le h.2 x hx)
theorem chain_tail {a b : List Nat} {r : List (List Nat)} (h : chainB (a :: b :: r) = true) : nextI (ordI a) = some (ordI b) ∧ chainB (b :: r) = true := by
  simp only [chainB, Bool.and_eq_true, beq_iff_eq] at h
  exact ⟨h.1.1, h.2⟩
theorem chain_last {a : List Nat} (h : chainB [a] = true) : nextI (ordI a) = none := by
  simpa [chainB] using h
theorem find_le {p : List Nat → Bool} : ∀ {S : List (List Nat)} {L o : List Nat}, chainB S = true → S.find? p = some L → o ∈ S → p o = true → lexLe L o
  | [], _, _, _, h, _, _ => by simp at h
  | a :: S, L, o, hc, h, ho, hp => by
    by_cases ha : p a = true
    · rw [List.find?_cons_of_pos ha] at h
      cases h
      rcases List.mem_cons.1 ho with rfl | ho
      · exact lexLe_refl _
      · exact chain_le hc o ho
    · rw [List.find?_cons_of_neg ha] at h
      have ho' : o ∈ S := by
        rcases List.mem_cons.1 ho with rfl | ho
        · exact absurd hp ha
        · exact ho
      cases S with
      | nil => simp at ho'
      | cons b r => exact find_le (chain_tail hc).2 h ho' hp
def allOrders (n : Nat) : List (List Nat) := permsOf n (List.range n)
set_option maxRecDepth 100000 in
set_option maxHeartbeats 10000000 in
theorem chain_all : (List.range 8).all (fun n => chainB (allOrders n)) = true := by decide +kernel
theorem chain_of {n : Nat} (hn : n ≤ 7) : chainB (allOrders n) = true := List.all_eq_true.1 chain_all n (by simp; omega)
def refOrderL (zs : List A) : Option (List Nat) := if saneB zs then (allOrders zs.length).find? fun L => fitsP zs (ordI L) else none
theorem full_mem {n : Nat} {L : List Nat} (hL : Full n L) : L ∈ allOrders n := by
  refine mem_permsOf n (List.range n) L hL.1 ?_
  obtain ⟨rest, hr⟩ := perm_of_sub L (List.range n) hL.2.1 (fun a ha => List.mem_range.2 (hL.2.2 a ha))
  have h1 := hr.length_eq
  rw [List.length_append, List.length_range, hL.1] at h1
  have : rest = [] := List.eq_nil_of_length_eq_zero (by omega)
  subst this
  rw [List.append_nil] at hr
  exact hr.symm
theorem refOrder_eq (zs : List A) : refOrderL zs = orderL zs := by
  unfold refOrderL
  cases hs : saneB zs with
  | false => simp [orderL, hs]
  | true =>
    rw [if_pos rfl]
    have h7 := sane_len hs
    cases hf : (allOrders zs.length).find? fun L => fitsP zs (ordI L) with
    | none =>
      cases ho : orderL zs with
      | none => rfl
      | some o =>
        obtain ⟨_, h2, h3⟩ := order_sound ho
        have := List.find?_eq_none.1 hf o (full_mem h2)
        exact absurd (fits_of hs h2 h3) this
    | some L =>
      have hfit := List.find?_some hf
      obtain ⟨_, L', he, h2, h3⟩ := of_fits hfit
      have hinj : L = L' := by
        have hn : ∀ a : List Nat, natsOf (ordI a) = a := fun a => by
          unfold natsOf ordI
          rw [List.map_map]
          apply List.ext_getElem (by simp)
          intro i h1 h2; simp
        rw [← hn L, he, hn]
      subst hinj
      obtain ⟨o, ho, hle⟩ := order_complete hs h2 h3
      obtain ⟨_, h4, h5⟩ := order_sound ho
      have hge := find_le (chain_of h7) hf (full_mem h4) (fits_of hs h4 h5)
      rw [ho, lexLe_anti (by rw [h2.1, h4.1]) hge hle]
end Go.Proofs.Ytidnooaccbahpaa
