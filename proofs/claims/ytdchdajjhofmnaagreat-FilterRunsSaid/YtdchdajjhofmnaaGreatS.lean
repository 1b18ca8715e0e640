import Derived.Test.YtdchdajjhofmnaaGreatDiv
import Derived.Test.YtdchdajjhofmnaaGreatOr
namespace Go.Proofs.YtdchdajjhofmnaaGreat
open Go Go.Sx Go.RowKit
def ints64 : List SV → Option (List Int)
 | [] => some []
 | .int .i64 n :: l => match ints64 l with | some r => some (n.val :: r) | none => none
 | _ => none
theorem ints64_rel : ∀ {xs : List SV} {zs : List Int} {vs : List Value}, relL noLab xs vs → ints64 xs = some zs → xs.length = zs.length ∧ vs = zs.map (Value.int .i64) ∧ ∀ n ∈ zs, IntKind.i64.wrap n = n
 | [], zs, vs, h, e => by
  simp only [ints64, Option.some.injEq] at e; subst e
  rw [relL_nil] at h; subst h; exact ⟨rfl, rfl, by simp⟩
 | x :: xs, zs, vs, h, e => by
  unfold ints64 at e
  split at e
  ·simp_all
  ·rename_i n l hx
   obtain ⟨rfl, rfl⟩ := List.cons.inj hx
   split at e
   ·rename_i r hr
    simp only [Option.some.injEq] at e; subst e
    rw [relL_cons] at h; obtain ⟨v, vs', h1, h2, rfl⟩ := h
    simp only [SV.rel] at h1
    obtain ⟨a, b, c⟩ := ints64_rel h2 hr
    refine ⟨by simp [a], by rw [h1.1, b]; rfl, ?_⟩
    intro m hm
    rcases List.mem_cons.1 hm with rfl | hm
    ·exact h1.2
    ·exact c m hm
   ·cases e
  ·cases e
theorem row_cells {w : World} {xs : List SV} {zs : List Int} {vs : List Value} {b off : Nat} (h : relL noLab xs vs) (e : ints64 xs = some zs)
  (hc : ∀ i, i < xs.length → w.cell? ⟨b, off + i, none⟩ = vs[i]?) :
  (∀ j, j < zs.length → w.cell? ⟨b, off + j, none⟩ = some (.int .i64 (zs.getD j 0))) ∧ (∀ j, j < zs.length → IntKind.i64.wrap (zs.getD j 0) = zs.getD j 0) ∧ xs.length = zs.length := by
 obtain ⟨h1, h2, h3⟩ := ints64_rel h e
 refine ⟨fun j hj => ?_, fun j hj => ?_, h1⟩
 ·rw [hc j (by omega), h2, List.getElem?_map, List.getD_eq_getElem?_getD, List.getElem?_eq_getElem hj]; rfl
 ·refine h3 _ ?_
  rw [List.getD_eq_getElem?_getD, List.getElem?_eq_getElem hj]; exact List.getElem_mem hj
def S184 : Summ
 | [.row l] => match Nat.ble l.length 1000, ints64 l with | true, some r => some (.int .i64 (.sym (orL r))) | _, _ => none
 | _ => none
theorem orL_wrap : ∀ {zs : List Int}, (∀ n ∈ zs, IntKind.i64.wrap n = n) → IntKind.i64.wrap (orL zs) = orL zs
 | [], _ => rfl
 | n :: l, h => by
  unfold orL
  cases hn : (n == 0)
  ·exact h n (by simp)
  ·exact orL_wrap fun m hm => h m (by simp [hm])
theorem S184_ok : SummFn Go.Proofs.Tryz.prog 184 S184 := by
 intro fs r h w vs hv
 unfold S184 at h
 split at h
 ·rename_i l
  split at h
  ·rename_i zs hl hz
   cases h
   simp only [SArels, SArel] at hv
   obtain ⟨v, _, ⟨b, off, cap, us, rfl, h1, h2, h3⟩, rfl, rfl⟩ := hv
   obtain ⟨c1, c2, c3⟩ := row_cells h1 hz h2
   rw [c3] at hl ⊢
   have hw := orL_wrap (ints64_rel h1 hz).2.2
   refine (or_any b off cap zs w (by have := Nat.le_of_ble_eq_true hl; omega) c1).mono ?_
   rintro e w' ⟨rfl, rfl⟩
   exact ⟨⟨_, rfl, rfl, hw⟩, Below.refl _ _⟩
  ·cases h
 ·cases h
def g326 (p : Int × Int × Bool) : SV := .tuple [.int .u64 (.sym p.1), .int .u64 (.sym p.2.1), bv p.2.2]
def S326 : Summ
 | [.v (.int .u64 a0), .v (.int .u64 a1)] => some (g326 (f326 a0.val a1.val))
 | _ => none
theorem rgU {n : Int} (h : Rg .u64 n) : 0 ≤ n ∧ n < 18446744073709551616 := by
 unfold Rg at h; rw [wrapU_mod] at h; omega
theorem f326_rg {x y : Int} (hx : 0 ≤ x) (hx1 : x < 18446744073709551616) (hy : 0 ≤ y) (hy1 : y < 18446744073709551616) : Rg .u64 (f326 x y).1 ∧ Rg .u64 (f326 x y).2.1 := by
 unfold f326 Rg
 by_cases h : y ≤ x / 4294967296
 ·rw [decide_eq_true h]; exact ⟨rfl, rfl⟩
 ·rw [decide_eq_false h]
  refine ⟨wrapU (Int.ediv_nonneg (by omega) hy) ?_, wrapU (Int.emod_nonneg _ (by omega)) ?_⟩
  ·show x * 4294967296 / y < _
   refine Int.ediv_lt_of_lt_mul (by omega) ?_
   omega
  ·show x * 4294967296 % y < _
   have := Int.emod_lt_of_pos (x * 4294967296) (b := y) (by omega); omega
theorem S326_ok : SummFn Go.Proofs.Tryz.prog 326 S326 := by
 intro fs r h w vs hv
 unfold S326 at h
 split at h
 ·rename_i a0 a1
  cases h
  simp only [SArels, SArel, SV.rel] at hv
  obtain ⟨_, _, ⟨rfl, h1⟩, ⟨_, _, ⟨rfl, h2⟩, rfl, rfl⟩, rfl⟩ := hv
  have r1 := rgU h1
  have r2 := rgU h2
  have hg := f326_rg r1.1 r1.2 r2.1 r2.2
  refine (quot_any a0.val a1.val w r1.1 r1.2 r2.1 r2.2).mono ?_
  rintro e w' ⟨rfl, hb⟩
  refine ⟨⟨_, rfl, ?_⟩, hb⟩
  unfold g326
  simp only [SV.rel]
  refine ⟨[_, _, _], ?_, rfl⟩
  simp only [relL, SV.rel]
  exact ⟨_, _, ⟨rfl, hg.1⟩, ⟨_, _, ⟨rfl, hg.2⟩, ⟨_, _, rfl, rfl, rfl⟩, rfl⟩, rfl⟩
 ·cases h
end Go.Proofs.YtdchdajjhofmnaaGreat
