/- Histories: lists of acts in memory; trace.Sane, slices.ContainsFunc and trace.left as calls. -/
import Derived.Test.YtidnooaccbahpaaTa
set_option linter.unusedVariables false
set_option linter.unusedSimpArgs false
namespace Go.Proofs.Ytidnooaccbahpaa
open Go.RowKit Go.Proofs Go.Sx
/-- a slice value that is a list of acts -/
def Lst (w : World) (v : Value) (zs : List A) : Prop := ∃ p c, v = .slice p zs.length c ∧ zs.length ≤ 9223372036854775807 ∧ (zs = [] ∨ ∃ b off, p = some ⟨b, off, none⟩ ∧ At w b off zs)
theorem Lst.below {w w' : World} {v : Value} {zs : List A} (h : Lst w v zs) (hb : Below w.heap.size w w') : Lst w' v zs := by
  obtain ⟨p, c, rfl, hl, h⟩ := h
  exact ⟨p, c, rfl, hl, h.imp id fun ⟨b, off, hp, hat⟩ => ⟨b, off, hp, hat.below hb⟩⟩
theorem contains_calls (p : A → Bool) (g : Nat) (lb : Array Value) (eg : ∀ args w, (callFunc g args).run Try.prog w = .ok (.enter g args) w) (v : Value) (zs : List A) (w : World) (hp : TestB g lb p w) (hv : Lst w v zs) :
    Calls Try.prog 18 #[v, .func (.func g) #[] lb] w fun e w' => e = .returned (.bool (zs.any p)) ∧ Below w.heap.size w w' := by
  obtain ⟨q, c, rfl, hl, hv⟩ := hv
  have e25 : ∀ args w, (callFunc 25 args).run Try.prog w = .ok (.enter 25 args) w := enters_of Try.func25 (by kernel_rfl) rfl
  have hc : Calls Try.prog 25 #[.slice q zs.length c, .func (.func g) #[] lb] w fun e w' => (∃ k : Int, e = .returned (.int .i64 k) ∧ decide (k ≥ 0) = zs.any p) ∧ Below w.heap.size w w' := by
    rcases hv with rfl | ⟨b, off, rfl, hat⟩
    · exact (index_none q c g lb w).mono fun e w' ⟨h1, h2⟩ => ⟨⟨_, h1, rfl⟩, h2⟩
    · exact index_calls p g lb eg b off c zs w hp (by omega) hat
  clear hv hl hp eg
  go_enter Try.func18, Try.ntmps18
  go_wp2_with (go_at_call 25; refine hc.mono ?_; rintro e w' ⟨⟨k, rfl, hk⟩, hb'⟩)
  all_goals go_ret
  all_goals exact ⟨by rw [← hk]; rfl, hb'⟩
def saneB (zs : List A) : Bool := decide (zs.length ≤ 7) && !zs.any badB
theorem test_bad (w : World) : TestB 21 #[] badB w := fun W x hb => (bad_calls x W).mono fun _ _ ⟨h1, h2⟩ => ⟨h1, hb.trans (h2.mono hb.size)⟩
theorem sane_calls (v : Value) (zs : List A) (w : World) (hv : Lst w v zs) :
    Calls Try.prog 11 #[v] w fun e w' => e = .returned (.bool (saneB zs)) ∧ Below w.heap.size w w' := by
  have hc := contains_calls badB 21 #[] (enters_of Try.func21 (by kernel_rfl) rfl) v zs w (test_bad w) hv
  obtain ⟨q, c, rfl, hl, -⟩ := hv
  go_enter Try.func11, Try.ntmps11
  by_cases h7 : zs.length ≤ 7
  · have h7' : (zs.length : Int) ≤ 7 := by omega
    go_wp2_with (go_at_call 18; refine hc.mono ?_; rintro e w' ⟨rfl, hb'⟩)
    all_goals go_ret
    all_goals exact ⟨by simp [saneB, h7], hb'⟩
  · have h7' : ¬ (zs.length : Int) ≤ 7 := by omega
    go_wp2
    all_goals go_ret
    all_goals exact ⟨by simp [saneB, h7], Below.refl _ _⟩
end Go.Proofs.Ytidnooaccbahpaa
