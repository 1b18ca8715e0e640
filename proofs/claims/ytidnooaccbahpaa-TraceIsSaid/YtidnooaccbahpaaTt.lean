/- TraceMore: the ways on which nothing is tried; the law as a call. -/
import Derived.Test.YtidnooaccbahpaaTs
set_option linter.unusedVariables false
set_option linter.unusedSimpArgs false
namespace Go.Proofs.Ytidnooaccbahpaa
open Go.RowKit Go.Proofs Go.Sx
theorem order_flag (zs : List A) (v : Value) (W : World) (hv : Lst W v zs) {B : Bool} (hB : (orderL zs).isSome = B) : ∀ w1, Below W.heap.size W w1 → Calls Try.prog 9 #[v] w1 fun e w' => Below w1.heap.size w1 w' ∧ ∃ lv, e = .returned (.tuple #[lv, .bool B]) := fun w1 h =>
  (order_calls zs v w1 (hv.below h)).mono fun e w' he => by rw [← hB]; exact order_end he
set_option maxHeartbeats 2000000 in
theorem more_up (zs : List A) (k : Int) (v : Value) (W : World) (hv : Lst W v zs) (h : (orderL zs).isSome = false ∨ 6 < zs.length ∨ zs.length = 0) :
    Calls Try.prog 7 #[v, .int .i64 k] W fun e w' => e = .returned (.bool true) ∧ Below W.heap.size W w' := by
  have hup := awake_calls W
  obtain ⟨B, hB⟩ : ∃ B, (orderL zs).isSome = B := ⟨_, rfl⟩
  have HO : Hid _ := order_flag zs v W hv hB
  rw [hB] at h
  obtain ⟨q, c, rfl, -, -⟩ := hv
  clear hB
  cases B with
  | false =>
    clear h
    go_enter Try.func7, Try.ntmps7
    go_wp2_with (first
      | (go_at_call 8; refine hup.mono ?_; rintro e w1 ⟨rfl, hb1⟩)
      | (go_at_call 9; refine (HO.out _ hb1).mono ?_; rintro e w2 ⟨hb2, lv, rfl⟩))
    all_goals go_ret
    all_goals exact ⟨rfl, hb1.trans (hb2.mono hb1.size)⟩
  | true =>
    by_cases h6 : 6 < zs.length
    · have h6d : decide ((6 : Int) < (zs.length : Int)) = true := by simp; omega
      clear h
      go_enter Try.func7, Try.ntmps7
      go_wp2_with (first
        | (go_at_call 8; refine hup.mono ?_; rintro e w1 ⟨rfl, hb1⟩)
        | (go_at_call 9; refine (HO.out _ hb1).mono ?_; rintro e w2 ⟨hb2, lv, rfl⟩))
      all_goals go_ret
      all_goals exact ⟨rfl, hb1.trans (hb2.mono hb1.size)⟩
    · have h0 : zs.length = 0 := by rcases h with h | h | h; exact absurd h (by simp); exact absurd h h6; exact h
      have h6d : decide ((6 : Int) < (zs.length : Int)) = false := by simp; omega
      have h0d : ((zs.length : Int) == 0) = true := by simp [h0]
      clear h h0 h6
      go_enter Try.func7, Try.ntmps7
      go_wp2_with (first
        | (go_at_call 8; refine hup.mono ?_; rintro e w1 ⟨rfl, hb1⟩)
        | (go_at_call 9; refine (HO.out _ hb1).mono ?_; rintro e w2 ⟨hb2, lv, rfl⟩))
      all_goals go_ret
      all_goals exact ⟨rfl, hb1.trans (hb2.mono hb1.size)⟩
theorem row7 {W : World} (g0 g1 : Tr) {v0 v1 : Value} (h0 : SV.rel (labW W) (cellT (fun _ => g0) 0 (.sl KA)) v0) (h1 : SV.rel (labW W) (cellT (fun _ => g1) 0 (.int .i64)) v1) :
    Calls Go.Proofs.Try.prog 7 #[v0, v1] W fun e w' => e = .returned (.bool true) ∧ Below W.heap.size W w' := by
  simp only [cellT, SV.rel, SI.val] at h0 h1
  obtain ⟨rfl, -⟩ := h1
  have hv := lst_of (labW_hr W) h0
  by_cases h : (orderL (acts g0.n g0.f)).isSome = true ∧ (acts g0.n g0.f).length ≤ 6 ∧ (acts g0.n g0.f).length ≠ 0
  · obtain ⟨q, c, e, _, hq⟩ := hv
    rw [e]
    rcases hq with hq | ⟨b, off, rfl, hat⟩
    · rw [hq] at h; exact absurd rfl h.2.2
    · exact more_calls _ _ b off c W hat h.2.2 h.2.1 h.1
  · refine more_up _ _ _ W hv ?_
    cases hB : (orderL (acts g0.n g0.f)).isSome with
    | false => exact .inl rfl
    | true =>
      rw [hB] at h
      by_cases h6 : 6 < (acts g0.n g0.f).length
      · exact .inr (.inl h6)
      · refine .inr (.inr ?_)
        by_cases h0 : (acts g0.n g0.f).length = 0
        · exact h0
        · exact absurd ⟨rfl, by omega, h0⟩ h
end Go.Proofs.Ytidnooaccbahpaa
