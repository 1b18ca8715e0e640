/- scale.changed as a summary: over fix.Clamp's. -/
import Derived.Test.YtejlbofmlaclpaaGa
namespace Go.Proofs.Ytejlbofmlaclpaa
open Go Go.Sx Go.RowKit
/-- scale.changed: whether one of them leaves the bounds -/
def f56 (l : List Int) : Bool := l.any fun n => (f25 n).2
def S56 : Summ
  | [.row l] => match Nat.ble l.length 1000, ints64 l with | true, some r => some (.bool (.sym (f56 r))) | _, _ => none
  | _ => none
theorem S56_ok : SummFn Go.Proofs.Try.prog 56 S56 := by
  intro fs r h w vs hv
  unfold S56 at h
  split at h
  · rename_i l
    split at h
    · rename_i zs hl hz
      cases h
      simp only [SArels, SArel] at hv
      obtain ⟨v, _, ⟨b, off, cap, us, rfl, h1, h2, h3⟩, rfl, rfl⟩ := hv
      obtain ⟨c1, c2, c3⟩ := row_cells h1 hz h2
      rw [c3] at hl ⊢
      refine (changed_any f25 (fun n hn w => ?_) b off cap zs w (by have := Nat.le_of_ble_eq_true hl; omega) h3 c2 c1).mono ?_
      · have hs := S25_ok [.v (.int .i64 (.sym n))] _ rfl w [.int .i64 n] ⟨_, _, ⟨rfl, hn⟩, rfl, rfl⟩
        refine hs.mono ?_
        rintro e w' ⟨⟨v, rfl, hv⟩, hb⟩
        simp only [g25, SV.rel] at hv
        obtain ⟨xs, hx, rfl⟩ := hv
        simp only [relL, SV.rel] at hx
        obtain ⟨_, _, ⟨rfl, _⟩, ⟨_, _, rfl, rfl, rfl⟩, rfl⟩ := hx
        exact ⟨rfl, hb⟩
      · rintro e w' ⟨rfl, hb⟩
        exact ⟨⟨_, rfl, rfl⟩, hb⟩
    · cases h
  · cases h
end Go.Proofs.Ytejlbofmlaclpaa
