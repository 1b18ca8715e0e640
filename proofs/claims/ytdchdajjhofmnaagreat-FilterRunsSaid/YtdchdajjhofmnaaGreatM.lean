/- scale.changed as a summary: over fix.Clamp's. -/
import Derived.Test.YtdchdajjhofmnaaGreatGa
namespace Go.Proofs.YtdchdajjhofmnaaGreat
open Go Go.Sx Go.RowKit
def f260 (l : List Int) : Bool := l.any fun n => (f99 n).2
def S260 : Summ
 | [.row l] => match Nat.ble l.length 1000, ints64 l with | true, some r => some (.bool (.sym (f260 r))) | _, _ => none
 | _ => none
theorem S260_ok : SummFn Go.Proofs.Tryz.prog 260 S260 := by
 intro fs r h w vs hv
 unfold S260 at h
 split at h
 ·rename_i l
  split at h
  ·rename_i zs hl hz
   cases h
   simp only [SArels, SArel] at hv
   obtain ⟨v, _, ⟨b, off, cap, us, rfl, h1, h2, h3⟩, rfl, rfl⟩ := hv
   obtain ⟨c1, c2, c3⟩ := row_cells h1 hz h2
   rw [c3] at hl ⊢
   refine (changed_any f99 (fun n hn w => ?_) b off cap zs w (by have := Nat.le_of_ble_eq_true hl; omega) h3 c2 c1).mono ?_
   ·have hs := S99_ok [.v (.int .i64 (.sym n))] _ rfl w [.int .i64 n] ⟨_, _, ⟨rfl, hn⟩, rfl, rfl⟩
    refine hs.mono ?_
    rintro e w' ⟨⟨v, rfl, hv⟩, hb⟩
    simp only [g99, SV.rel] at hv
    obtain ⟨xs, hx, rfl⟩ := hv
    simp only [relL, SV.rel] at hx
    obtain ⟨_, _, ⟨rfl, _⟩, ⟨_, _, rfl, rfl, rfl⟩, rfl⟩ := hx
    exact ⟨rfl, hb⟩
   ·rintro e w' ⟨rfl, hb⟩
    exact ⟨⟨_, rfl, rfl⟩, hb⟩
  ·cases h
 ·cases h
end Go.Proofs.YtdchdajjhofmnaaGreat
