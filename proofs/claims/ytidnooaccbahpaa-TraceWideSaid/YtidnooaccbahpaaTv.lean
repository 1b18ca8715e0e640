/- TraceWide: the ways on which nothing is tried; the law as a call. -/
import Derived.Test.YtidnooaccbahpaaTu
set_option linter.unusedVariables false
set_option linter.unusedSimpArgs false
namespace Go.Proofs.Ytidnooaccbahpaa
open Go.RowKit Go.Proofs Go.Sx
set_option maxHeartbeats 1000000 in
theorem wide_up (zs : List A) (k less more : Int) (v : Value) (W : World) (hv : Lst W v zs) (h : (orderL zs).isSome = false ∨ zs.length = 0 ∨ 7 < zs.length ∨ less < 0 ∨ more < 0 ∨ 1000 < more) :
    Calls Try.prog 6 #[v, .int .i64 k, .int .i64 less, .int .i64 more] W fun e w' => e = .returned (.bool true) ∧ Below W.heap.size W w' := by
  have hup := awake_calls W
  obtain ⟨B, hB⟩ : ∃ B, (orderL zs).isSome = B := ⟨_, rfl⟩
  have HO : Hid _ := order_flag zs v W hv hB
  rw [hB] at h
  obtain ⟨q, c, rfl, -, -⟩ := hv
  clear hB
  cases B with
  | false =>
    clear h
    go_enter Try.func6, Try.ntmps6
    go_wp2_with (first
      | (go_at_call 8; refine hup.mono ?_; rintro e w1 ⟨rfl, hb1⟩)
      | (go_at_call 9; refine (HO.out _ hb1).mono ?_; rintro e w2 ⟨hb2, lv, rfl⟩))
    all_goals go_ret
    all_goals exact ⟨rfl, hb1.trans (hb2.mono hb1.size)⟩
  | true =>
    have h := h.resolve_left (by simp)
    by_cases p0 : zs.length = 0
    · have d0 : ((zs.length : Int) == 0) = true := beq_iff_eq.2 (by omega)
      clear h p0
      go_enter Try.func6, Try.ntmps6
      go_wp2_with (first
        | (go_at_call 8; refine hup.mono ?_; rintro e w1 ⟨rfl, hb1⟩)
        | (go_at_call 9; refine (HO.out _ hb1).mono ?_; rintro e w2 ⟨hb2, lv, rfl⟩))
      all_goals go_ret
      all_goals exact ⟨rfl, hb1.trans (hb2.mono hb1.size)⟩
    · have d0 : ((zs.length : Int) == 0) = false := beq_eq_false_iff_ne.2 (by omega)
      have h := h.resolve_left p0
      by_cases p1 : 7 < zs.length
      · have d1 : decide ((7 : Int) < (zs.length : Int)) = true := decide_eq_true (by omega)
        clear h p0 p1
        go_enter Try.func6, Try.ntmps6
        go_wp2_with (first
          | (go_at_call 8; refine hup.mono ?_; rintro e w1 ⟨rfl, hb1⟩)
          | (go_at_call 9; refine (HO.out _ hb1).mono ?_; rintro e w2 ⟨hb2, lv, rfl⟩))
        all_goals go_ret
        all_goals exact ⟨rfl, hb1.trans (hb2.mono hb1.size)⟩
      · have d1 : decide ((7 : Int) < (zs.length : Int)) = false := decide_eq_false (by omega)
        have h := h.resolve_left p1
        by_cases p2 : less < 0
        · have d2 : decide (less < 0) = true := decide_eq_true (by omega)
          clear h p0 p1 p2
          go_enter Try.func6, Try.ntmps6
          go_wp2_with (first
            | (go_at_call 8; refine hup.mono ?_; rintro e w1 ⟨rfl, hb1⟩)
            | (go_at_call 9; refine (HO.out _ hb1).mono ?_; rintro e w2 ⟨hb2, lv, rfl⟩))
          all_goals go_ret
          all_goals exact ⟨rfl, hb1.trans (hb2.mono hb1.size)⟩
        · have d2 : decide (less < 0) = false := decide_eq_false (by omega)
          have h := h.resolve_left p2
          by_cases p3 : more < 0
          · have d3 : decide (more < 0) = true := decide_eq_true (by omega)
            clear h p0 p1 p2 p3
            go_enter Try.func6, Try.ntmps6
            go_wp2_with (first
              | (go_at_call 8; refine hup.mono ?_; rintro e w1 ⟨rfl, hb1⟩)
              | (go_at_call 9; refine (HO.out _ hb1).mono ?_; rintro e w2 ⟨hb2, lv, rfl⟩))
            all_goals go_ret
            all_goals exact ⟨rfl, hb1.trans (hb2.mono hb1.size)⟩
          · have d3 : decide (more < 0) = false := decide_eq_false (by omega)
            have h := h.resolve_left p3
            have d4 : decide ((1000 : Int) < more) = true := decide_eq_true (by omega)
            clear h p0 p1 p2 p3
            go_enter Try.func6, Try.ntmps6
            go_wp2_with (first
              | (go_at_call 8; refine hup.mono ?_; rintro e w1 ⟨rfl, hb1⟩)
              | (go_at_call 9; refine (HO.out _ hb1).mono ?_; rintro e w2 ⟨hb2, lv, rfl⟩))
            all_goals go_ret
            all_goals exact ⟨rfl, hb1.trans (hb2.mono hb1.size)⟩
theorem row6 {W : World} (g0 g1 g2 g3 : Tr) {v0 v1 v2 v3 : Value} (h0 : SV.rel (labW W) (cellT (fun _ => g0) 0 (.sl KA)) v0) (h1 : SV.rel (labW W) (cellT (fun _ => g1) 0 (.int .i64)) v1)
    (h2 : SV.rel (labW W) (cellT (fun _ => g2) 0 (.int .i64)) v2) (h3 : SV.rel (labW W) (cellT (fun _ => g3) 0 (.int .i64)) v3) :
    Calls Go.Proofs.Try.prog 6 #[v0, v1, v2, v3] W fun e w' => e = .returned (.bool true) ∧ Below W.heap.size W w' := by
  simp only [cellT, SV.rel, SI.val] at h0 h1 h2 h3
  obtain ⟨rfl, -⟩ := h1
  obtain ⟨rfl, r2⟩ := h2
  obtain ⟨rfl, -⟩ := h3
  have hv := lst_of (labW_hr W) h0
  have hcap : ∃ a c, v0 = .slice a g0.n c ∧ g0.n ≤ c := by
    simp only [relT] at h0
    rcases h0.2 with ⟨rfl, e⟩ | ⟨a, cap, rfl, hc, _⟩
    · exact ⟨none, 0, by rw [e], by omega⟩
    · exact ⟨some a, cap, rfl, hc⟩
  have hlen : (acts g0.n g0.f).length = g0.n := rdL_length _ _ _
  have hless : g2.i ≤ 9223372036854775807 := by
    have := rg_iff.1 r2
    simp only [hiK] at this; omega
  by_cases h : ((orderL (acts g0.n g0.f)).isSome = true ∧ (acts g0.n g0.f).length ≤ 7 ∧ (acts g0.n g0.f).length ≠ 0) ∧ 0 ≤ g2.i ∧ 0 ≤ g3.i ∧ g3.i ≤ 1000
  · obtain ⟨q, c, e, _, hq⟩ := hv
    obtain ⟨a', c', e', hc'⟩ := hcap
    rw [e'] at e
    simp only [Value.slice.injEq] at e
    obtain ⟨rfl, _, rfl⟩ := e
    rw [e', ← hlen]
    rcases hq with hq | ⟨b, off, rfl, hat⟩
    · rw [hq] at h; exact absurd rfl h.1.2.2
    · exact wide_calls _ _ _ _ b off c' W hat (by rw [hlen]; exact hc') h.1.2.2 h.1.2.1 h.1.1 h.2.1 hless h.2.2.1 h.2.2.2
  · refine wide_up _ _ _ _ _ W hv ?_
    cases hB : (orderL (acts g0.n g0.f)).isSome with
    | false => exact .inl rfl
    | true =>
      rw [hB] at h
      refine .inr ?_
      by_cases q1 : (acts g0.n g0.f).length = 0
      · exact .inl q1
      by_cases q2 : 7 < (acts g0.n g0.f).length
      · exact .inr (.inl q2)
      by_cases q3 : g2.i < 0
      · exact .inr (.inr (.inl q3))
      by_cases q4 : g3.i < 0
      · exact .inr (.inr (.inr (.inl q4)))
      refine .inr (.inr (.inr (.inr ?_)))
      by_cases q5 : 1000 < g3.i
      · exact q5
      exact absurd ⟨⟨rfl, by omega, q1⟩, by omega, by omega, by omega⟩ h
end Go.Proofs.Ytidnooaccbahpaa
