/- TraceRow's plain law: of acts one behind the other there is an order just if each read tells the last write; it is the order as they stand. -/
import Derived.Test.YtidnooaccbahpaaTo
set_option linter.unusedVariables false
set_option linter.unusedSimpArgs false
namespace Go.Proofs.Ytidnooaccbahpaa
def rowA (ws : List Bool) (vs : List Int) (i : Nat) : A := ⟨ws.getD i false, vs.getD i 0, 3 * (i : Int), 3 * (i : Int) + 2⟩
def rowH (ws : List Bool) (vs : List Int) (k : Nat) : List A := (List.range k).map (rowA ws vs)
theorem rowH_succ (ws : List Bool) (vs : List Int) (k : Nat) : rowH ws vs (k + 1) = rowH ws vs k ++ [rowA ws vs k] := by simp [rowH, List.range_succ]
theorem rowH_length (ws : List Bool) (vs : List Int) (k : Nat) : (rowH ws vs k).length = k := by simp [rowH]
theorem rowH_at (ws : List Bool) (vs : List Int) {k j : Nat} (hj : j < k) : (rowH ws vs k)[j]! = rowA ws vs j := by
  rw [getElem!_pos _ j (by rw [rowH_length]; exact hj)]; simp [rowH]
def rowS (ws : List Bool) (vs : List Int) : Nat → Int × Bool
  | 0 => (0, true)
  | k + 1 => if ws.getD k false then (vs.getD k 0, (rowS ws vs k).2) else ((rowS ws vs k).1, (rowS ws vs k).2 && vs.getD k 0 == (rowS ws vs k).1)
theorem rowS_bad {ws : List Bool} {vs : List Int} {k : Nat} (h : (rowS ws vs k).2 = false) : ∀ d, (rowS ws vs (k + d)).2 = false
  | 0 => h
  | d + 1 => by
    have := rowS_bad h d
    show (rowS ws vs (k + d + 1)).2 = false
    simp only [rowS]
    split <;> simp [this]
theorem row_sane (ws : List Bool) (vs : List Int) {N : Nat} (hN : N ≤ 7) : saneB (rowH ws vs N) = true := by
  simp only [saneB, rowH_length, Bool.and_eq_true, decide_eq_true_eq, Bool.not_eq_true', List.any_eq_false]
  refine ⟨hN, fun x hx => ?_⟩
  simp only [rowH, List.mem_map, List.mem_range] at hx
  obtain ⟨i, hi, rfl⟩ := hx
  simp only [badB, rowA, Bool.or_eq_true, decide_eq_true_eq, not_or]

  refine ⟨⟨?_, ?_⟩, ?_⟩ <;> (intro h; have h' := of_decide_eq_true h; omega)
theorem row_V {ws : List Bool} {vs : List Int} {N : Nat} : ∀ (d k : Nat), k + d = N → (rowS ws vs k).2 = true → (V (rowH ws vs N) (List.range' k d) (rowS ws vs k).1 ↔ (rowS ws vs N).2 = true)
  | 0, k, h, hk => by
    have : k = N := by omega
    subst this
    simp [V, hk]
  | d + 1, k, h, hk => by
    have hkN : k < N := by omega
    have hz := rowH_at ws vs hkN
    simp only [List.range'_succ, V, hz]
    have hord : ∀ y ∈ k :: List.range' (k + 1) d, (rowA ws vs k).fr ≤ ((rowH ws vs N)[y]!).to := fun y hy => by
      have hy' : k ≤ y ∧ y < N := by
        rcases List.mem_cons.1 hy with e | e
        · omega
        · have := List.mem_range'_1.1 e; omega
      rw [rowH_at ws vs hy'.2]
      simp only [rowA]; omega
    have hthen : thenV (rowH ws vs N) (rowS ws vs k).1 k = (rowS ws vs (k + 1)).1 := by
      simp only [thenV, hz, rowS, rowA]; split <;> simp_all
    rw [hthen]
    by_cases hc : (rowA ws vs k).w = true ∨ (rowA ws vs k).v = (rowS ws vs k).1
    · have h1 : (rowS ws vs (k + 1)).2 = true := by
        simp only [rowS, hk]
        simp only [rowA] at hc
        split
        · rfl
        · rename_i hw; rcases hc with hc | hc
          · exact absurd hc hw
          · rw [hc]; simp
      have := row_V (N := N) d (k + 1) (by omega) h1
      rw [← this]
      exact ⟨fun h => h.2.2, fun h => ⟨hc, hord, h⟩⟩
    · have h1 : (rowS ws vs (k + 1)).2 = false := by
        simp only [rowS, hk]
        simp only [rowA, not_or] at hc
        split
        · rename_i hw; exact absurd hw hc.1
        · simp only [Bool.true_and, beq_eq_false_iff_ne, ne_eq]; exact hc.2
      have h2 := rowS_bad h1 d
      rw [show k + 1 + d = N by omega] at h2
      rw [h2]
      exact ⟨fun h => absurd h.1 hc, fun h => by cases h⟩
theorem V_sorted {ws : List Bool} {vs : List Int} {N : Nat} : ∀ (L : List Nat) (now : Int), (∀ i ∈ L, i < N) → V (rowH ws vs N) L now → L.Pairwise (· ≤ ·)
  | [], _, _, _ => .nil
  | k :: L, now, hb, hV => by
    obtain ⟨_, h2, h3⟩ := hV
    refine List.pairwise_cons.2 ⟨fun y hy => ?_, V_sorted L _ (fun i hi => hb i (List.mem_cons_of_mem _ hi)) h3⟩
    have h4 := h2 y (List.mem_cons_of_mem _ hy)
    rw [rowH_at ws vs (hb k (List.mem_cons_self ..)), rowH_at ws vs (hb y (List.mem_cons_of_mem _ hy))] at h4
    simp only [rowA] at h4; omega
theorem full_sorted {N : Nat} {L : List Nat} (hL : Full N L) (hs : L.Pairwise (· ≤ ·)) : L = List.range N := by
  obtain ⟨rest, hr⟩ := perm_of_sub L (List.range N) hL.2.1 (fun a ha => List.mem_range.2 (hL.2.2 a ha))
  have h1 := hr.length_eq
  rw [List.length_append, List.length_range, hL.1] at h1
  have : rest = [] := List.eq_nil_of_length_eq_zero (by omega)
  subst this
  rw [List.append_nil] at hr
  exact List.Perm.eq_of_pairwise (le := (· ≤ ·)) (fun a b _ _ h1 h2 => by omega) hs ((List.pairwise_lt_range (n := N)).imp fun h => by omega) hr.symm
theorem range_full (N : Nat) : Full N (List.range N) := ⟨by simp, List.nodup_range, fun i hi => by simpa using hi⟩
theorem row_some {ws : List Bool} {vs : List Int} {N : Nat} {o : List Nat} (h : orderL (rowH ws vs N) = some o) : o = List.range N ∧ (rowS ws vs N).2 = true := by
  obtain ⟨h1, h2, h3⟩ := order_sound h
  rw [rowH_length] at h2
  have e := full_sorted h2 (V_sorted o 0 h2.2.2 h3)
  subst e
  refine ⟨rfl, ?_⟩
  rw [List.range_eq_range'] at h3
  exact (row_V N 0 (by omega) rfl).1 h3
theorem row_none {ws : List Bool} {vs : List Int} {N : Nat} (hN : N ≤ 7) (h : orderL (rowH ws vs N) = none) : (rowS ws vs N).2 = false := by
  cases hg : (rowS ws vs N).2 with
  | false => rfl
  | true =>
    have hV := (row_V (ws := ws) (vs := vs) N 0 (by omega) rfl).2 hg
    rw [← List.range_eq_range'] at hV
    obtain ⟨o, ho, _⟩ := order_complete (row_sane ws vs hN) (by rw [rowH_length]; exact range_full N) hV
    rw [h] at ho; cases ho
end Go.Proofs.Ytidnooaccbahpaa
