/- scale.changed as a summary: over fix.Clamp's. -/
import Derived.Test.YtmnglkcodbecbaaGreatGa
namespace Go.Proofs.YtmnglkcodbecbaaGreat
open Go Go.Sx Go.RowKit
/-- scale.changed: whether one of them leaves the bounds -/
def f159 (l : List Int) : Bool := l.any fun n => (f82 n).2
def S159 : Summ
  | [.row l] => match Nat.ble l.length 1000, ints64 l with | true, some r => some (.bool (.sym (f159 r))) | _, _ => none
  | _ => none
theorem S159_ok : SummFn Go.Proofs.Tryz.prog 159 S159 := by
  intro fs r h w vs hv
  unfold S159 at h
  split at h
  · rename_i l
    split at h
    · rename_i zs hl hz
      cases h
      simp only [SArels, SArel] at hv
      obtain ⟨v, _, ⟨b, off, cap, us, rfl, h1, h2, h3⟩, rfl, rfl⟩ := hv
      obtain ⟨c1, c2, c3⟩ := row_cells h1 hz h2
      rw [c3] at hl ⊢
      refine (changed_any f82 (fun n hn w => ?_) b off cap zs w (by have := Nat.le_of_ble_eq_true hl; omega) h3 c2 c1).mono ?_
      · have hs := S82_ok [.v (.int .i64 (.sym n))] _ rfl w [.int .i64 n] ⟨_, _, ⟨rfl, hn⟩, rfl, rfl⟩
        refine hs.mono ?_
        rintro e w' ⟨⟨v, rfl, hv⟩, hb⟩
        simp only [g82, SV.rel] at hv
        obtain ⟨xs, hx, rfl⟩ := hv
        simp only [relL, SV.rel] at hx
        obtain ⟨_, _, ⟨rfl, _⟩, ⟨_, _, rfl, rfl, rfl⟩, rfl⟩ := hx
        exact ⟨rfl, hb⟩
      · rintro e w' ⟨rfl, hb⟩
        exact ⟨⟨_, rfl, rfl⟩, hb⟩
    · cases h
  · cases h
end Go.Proofs.YtmnglkcodbecbaaGreat
