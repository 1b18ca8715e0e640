/- TraceRow, walked. -/
import Derived.Test.YtidnooaccbahpaaTl
import Derived.Test.YtidnooaccbahpaaTp
import Derived.Test.YtidnooaccbahpaaDt
import Derived.Deep.RegionHeld3
import Derived.Deep.AppendLies
import Derived.Deep.DrawnRows
set_option linter.unusedVariables false
set_option linter.unusedSimpArgs false
namespace Go.Proofs.Ytidnooaccbahpaa
open Go.RowKit Go.Proofs Go.Sx
attribute [local go_sem ↓] Go.wp_at_zero Go.wp_at_succ
/-- awake, as a plain call -/
theorem awake_calls (W : World) : Calls Try.prog 8 #[] W fun e w' => e = .returned (.bool true) ∧ Below W.heap.size W w' := by
  refine (run8 (β0 := ⟨fun _ => none, fun _ => false, fun b => W.heap[b]?⟩) (w0 := W) (fun _ => rfl)
    ⟨fun l o e => by simp [hpOf, nth] at e, fun l l' b _ _ e => by simp at e, fun l b _ e => by simp at e, fun b c e => ⟨e, fun l _ => by simp⟩⟩).mono ?_
  rintro e w' ⟨⟨v, rfl, hv⟩, hB⟩
  simp only [SV.rel, SB.val] at hv
  exact ⟨by rw [hv], hB⟩
theorem own_range {w : World} {base N : Nat} {lv : Value} (h : w.ownsRow base 3 1 lv (List.range N).length (ints (List.range N))) (hN : N ≤ 1000000000000 := by omega) : ∃ q c, lv = .slice q N c ∧ IntsAt w w.heap.size q (ordI (List.range N)) := by
  have hl : (ordI (List.range N)).length = N := by simp [ordI]
  obtain ⟨q, c, h1, _, h3⟩ := own_ints (xs := ordI (List.range N)) (by rw [hl, ← ints_eq]; simpa using h) (by rw [hl]; exact hN)
  exact ⟨q, c, by rw [h1, hl], h3⟩
theorem nums_length' (n : Nat) (f : Nat → Nat → Tr) : (nums n f).length = n := rdL_length _ _ _
/-- a slice of flags that lie below a block number -/
def FlagsAt (w : World) (n0 : Nat) (p : Option Addr) (xs : List Bool) : Prop := xs = [] ∨ ∃ b off, p = some ⟨b, off, none⟩ ∧ b < n0 ∧ ∀ (i : Nat) v, xs[i]? = some v → w.cell? ⟨b, off + i, none⟩ = some (.bool v)
theorem FlagsAt.below {w w' : World} {n0 : Nat} {p : Option Addr} {xs : List Bool} (h : FlagsAt w n0 p xs) (hb : Below n0 w w') : FlagsAt w' n0 p xs := by
  rcases h with h | ⟨b, off, rfl, hb0, hc⟩
  · exact .inl h
  · exact .inr ⟨b, off, rfl, hb0, fun i v hv => (hb.cell (p := ⟨b, off + i, none⟩) hb0).trans (hc i v hv)⟩
theorem FlagsAt.at {w : World} {n0 : Nat} {p : Option Addr} {xs : List Bool} (h : FlagsAt w n0 p xs) {i : Nat} {x : Bool} (hx : xs[i]? = some x) : ∃ b off, p = some ⟨b, off, none⟩ ∧ b < n0 ∧ w.cell? ⟨b, off + i, none⟩ = some (.bool x) := by
  rcases h with h | ⟨b, off, rfl, hb0, hc⟩
  · rw [h] at hx; simp at hx
  · exact ⟨b, off, rfl, hb0, hc i x hx⟩
set_option maxRecDepth 100000 in
set_option maxHeartbeats 8000000 in
theorem row_calls1 (ws : List Bool) (vs : List Int) (p1 p2 : Option Addr) (c1 c2 : Nat) (W : World) (hw : FlagsAt W W.heap.size p1 ws) (hv : IntsAt W W.heap.size p2 vs) (h1 : (vs.length : Int) < (ws.length : Int)) (h2 : (7 : Int) < (vs.length : Int)) (hlw : ws.length ≤ 9223372036854775807) (hlv : vs.length ≤ 9223372036854775807) :
    Calls Try.prog 5 #[.slice p1 ws.length c1, .slice p2 vs.length c2] W fun e w' => e = .returned (.bool true) ∧ Below W.heap.size W w' := by
  have hup := awake_calls W
  obtain ⟨i0, hi, hz0, hz1, hz2⟩ := info_parts info32
  have HW : Hid (FlagsAt W W.heap.size p1 ws) := hw
  have HV : Hid (IntsAt W W.heap.size p2 vs) := hv
  clear hw hv
  go_enter Try.func5, Try.ntmps5
  go_wp2_with (go_at_call 8; refine hup.mono ?_; rintro e w1 ⟨rfl, hb1⟩)
  go_loopw [7, 8, 9, 10] (fun h nw gd i wr => ∃ k : Nat, k ≤ 7 ∧ i = .int .i64 k ∧ Hid (wr.ownsRow W.heap.size 32 4 h k (encs (rowH ws vs k))) ∧ nw = .int .i64 (rowS ws vs k).1 ∧ gd = .bool (rowS ws vs k).2 ∧ Hid (Below W.heap.size W wr)) (fun _ _ _ i _ => 7 - (intOf i).toNat)
  case atStart => exact ⟨0, Nat.zero_le _, rfl, World.ownsRow_nil _ _ _ _, rfl, rfl, hb1⟩
  case round =>
    obtain ⟨k, hk, rfl, hown, rfl, rfl, BW⟩ := hrel
    by_cases hlt : k < 7
    · have hkw : k < ws.length := by omega
      have hkv : k < vs.length := by omega
      obtain ⟨x, hx⟩ : ∃ x, ws[k]? = some x := ⟨_, List.getElem?_eq_getElem hkw⟩
      obtain ⟨y, hy⟩ : ∃ y, vs[k]? = some y := ⟨_, List.getElem?_eq_getElem hkv⟩
      obtain ⟨ba, oa, rfl, hba, d1⟩ := (HW.out.below BW.out).at hx
      obtain ⟨bb, ob, rfl, hbb, d2⟩ := (HV.out.below BW.out).at hy
      have hbs := BW.out.size
      have hA : rowA ws vs k = ⟨x, y, 3 * (k : Int), 3 * (k : Int) + 2⟩ := by simp [rowA, List.getD_eq_getElem?_getD, hx, hy]
      have HA : Hid (rowA ws vs k = ⟨x, y, 3 * (k : Int), 3 * (k : Int) + 2⟩) := hA
      have hS : rowS ws vs (k + 1) = if x then (y, (rowS ws vs k).2) else ((rowS ws vs k).1, (rowS ws vs k).2 && y == (rowS ws vs k).1) := by
        show (if ws.getD k false then _ else _) = _
        rw [show ws.getD k false = x by simp [List.getD_eq_getElem?_getD, hx], show vs.getD k 0 = y by simp [List.getD_eq_getElem?_getD, hy]]
      have HS : Hid (rowS ws vs (k + 1) = if x then (y, (rowS ws vs k).2) else ((rowS ws vs k).1, (rowS ws vs k).2 && y == (rowS ws vs k).1)) := hS
      clear hx hy hA hS
      generalize (rowS ws vs k).1 = nw at *
      generalize (rowS ws vs k).2 = gd at *
      have i0' : (0 : Int) ≤ (k : Int) := Int.natCast_nonneg _
      have i1' : (k : Int) < (ws.length : Int) := by omega
      have i2' : (k : Int) < (vs.length : Int) := by omega
      have hrow := rowH_length ws vs k
      have HO : ∀ (g : Value) (w1 : World), w1.ownsRow W.heap.size 32 4 g (k + 1) (encs (rowH ws vs k) ++ enc ⟨x, y, 3 * (k : Int), 3 * (k : Int) + 2⟩) → Hid (w1.ownsRow W.heap.size 32 4 g (k + 1) (encs (rowH ws vs (k + 1)))) := fun g w1 h => by
        rw [rowH_succ, HA.out, encs_append]; exact (by simpa [encs] using h : w1.ownsRow W.heap.size 32 4 g (k + 1) (encs (rowH ws vs k) ++ encs [⟨x, y, 3 * (k : Int), 3 * (k : Int) + 2⟩]))
      have HO' := (show Hid _ from HO)
      clear HO hrow
      have hw3 : IntKind.i64.wrap (3 * (k : Int)) = 3 * (k : Int) := (rg_iff (k := .i64)).2 ⟨by simp only [loK]; omega, by simp only [hiK]; omega⟩
      have hw5 : IntKind.i64.wrap (3 * (k : Int) + 2) = 3 * (k : Int) + 2 := (rg_iff (k := .i64)).2 ⟨by simp only [loK]; omega, by simp only [hiK]; omega⟩
      go_wp2_with fail
      go_region_held3 (fun w' => w'.cell? ⟨ba, oa + k, none⟩ = some (.bool x) ∧ w'.cell? ⟨bb, ob + k, none⟩ = some (.int .i64 y))
        (first
          | go_keep
          | (go_split_ands
             refine ⟨?_, ?_⟩
             · (rw [hgrow.cell_far _ (by simp; omega) (fun e => by have := (hown.out.lt _ e.symm).1; simp at this; omega)]; assumption)
             · (rw [hgrow.cell_far _ (by simp; omega) (fun e => by have := (hown.out.lt _ e.symm).1; simp at this; omega)]; assumption)))
        ((refine step_append_lies _ (by rfl) _ _ _ (by rfl) W.heap.size 32 i0 _ 4 32 Try.underlying22 hi hz0 hz1 hz2 rfl (by omega) _ k _ (by rfl) ((hown.out.alloc _).drew)
            ⟨wr.heap.size, 0, none⟩ 1 1 (enc ⟨x, y, 3 * (k : Int), 3 * (k : Int) + 2⟩) (by rfl) (by rfl) (World.news_of_block (cs := #[.bool x, .int .i64 y, .int .i64 (3 * (k : Int)), .int .i64 (3 * (k : Int) + 2)]) (t := 32) (fr := (0, 0)) (heap_alloc_new wr _)) (by simp [Value.oneCell', enc])
            (by omega) (by unfold maxLen; omega) (by omega) (by simp; omega) (wr.heap.size + 1) (by simp) ?_; intro gg cap w2 hown1 hgrow hat hlt2))
      have hBy : Below W.heap.size wr w2 := (((Below.refl W.heap.size wr).alloc hbs _).drew).grown hgrow (by simp; omega) (fun r hr => (hown.out.lt r hr).1)
      have hBx : Below W.heap.size W w2 := BW.out.trans hBy
      have d3 : w2.cell? ⟨ba, oa + k, none⟩ = some (.bool x) := (hBy.cell (p := ⟨ba, oa + k, none⟩) hba).trans d1
      have d4 : w2.cell? ⟨bb, ob + k, none⟩ = some (.int .i64 y) := (hBy.cell (p := ⟨bb, ob + k, none⟩) hbb).trans d2
      have HO2 := HO'.out _ _ hown1
      have HBX : Hid (Below W.heap.size W w2) := hBx
      clear hBy hBx hown1 hgrow d1 d2 hown HO' hat hw3 hw5
      cases x with
      | true =>
        go_wp2
        go_roundw
        case rel => exact ⟨k + 1, by omega, by go_num, HO2, by rw [HS.out]; rfl, by rw [HS.out]; rfl, HBX⟩
        case measure => simp [intOf]; omega
      | false =>
        cases gd with
        | true =>
          go_wp2
          go_roundw
          case rel => exact ⟨k + 1, by omega, by go_num, HO2, by rw [HS.out]; rfl, by rw [HS.out]; rfl, HBX⟩
          case measure => simp [intOf]; omega
        | false =>
          go_wp2
          go_roundw
          case rel => exact ⟨k + 1, by omega, by go_num, HO2, by rw [HS.out]; rfl, by rw [HS.out]; rfl, HBX⟩
          case measure => simp [intOf]; omega
    · have hkn : k = 7 := by omega
      subst hkn
      have hls := own_lst (l := rowH ws vs 7) (w := wr) (base := W.heap.size) (by rw [rowH_length]; exact hown.out) (by rw [rowH_length]; omega)
      have hord := order_calls _ _ wr hls
      have HB : Hid (Below W.heap.size W wr) := BW.out
      have hn7 : 7 ≤ 7 := by omega
      clear hls hown BW
      cases ho : orderL (rowH ws vs 7) with
      | none =>
        rw [row_none hn7 ho]
        rw [ho] at hord
        clear ho
        go_wp2_with (go_at_call 9; refine hord.mono ?_; rintro e w3 ⟨hb3, rfl⟩)
        refine wp_loop_rounds 1 ?_; rw [rounds_succ]
        go_wp2
        go_ret
        exact ⟨rfl, HB.out.trans (hb3.mono HB.out.size)⟩
      | some o =>
        obtain ⟨rfl, hg⟩ := row_some ho
        rw [hg]
        rw [ho] at hord
        clear ho hg
        go_wp2_with (go_at_call 9; refine hord.mono ?_; rintro e w3 ⟨hb3, lv, base, rfl, hbase, hrow⟩; obtain ⟨ql, cl, rfl, hlI⟩ := own_range hrow)
        have HI : Hid (IntsAt w3 w3.heap.size ql (ordI (List.range (7)))) := hlI
        clear hlI hrow
        go_loopw [13] (fun i wr2 => ∃ j : Nat, j ≤ 7 ∧ i = .int .i64 j ∧ Hid (Below w3.heap.size w3 wr2)) (fun i _ => 7 - (intOf i).toNat)
        case atStart => exact ⟨0, Nat.zero_le _, rfl, Below.refl _ _⟩
        case round =>
          obtain ⟨j, hj, rfl, BW2⟩ := hrel
          by_cases hltj : j < 7
          · obtain ⟨bl, ol, rfl, _, d5⟩ := (HI.out.below BW2.out).at (i := j) (x := (j : Int)) (by simp [ordI, hltj])
            go_wp2
            go_roundw
            case rel => exact ⟨j + 1, by omega, by go_num, BW2⟩
            case measure => simp [intOf]; omega
          · have hjn : j = 7 := by omega
            subst hjn
            go_wp2
            go_ret
            exact ⟨rfl, (HB.out.trans (hb3.mono HB.out.size)).trans (BW2.out.mono (by have := hb3.size; have := HB.out.size; omega))⟩
set_option maxRecDepth 100000 in
set_option maxHeartbeats 8000000 in
theorem row_calls2 (ws : List Bool) (vs : List Int) (p1 p2 : Option Addr) (c1 c2 : Nat) (W : World) (hw : FlagsAt W W.heap.size p1 ws) (hv : IntsAt W W.heap.size p2 vs) (h1 : (vs.length : Int) < (ws.length : Int)) (h2 : ¬ (7 : Int) < (vs.length : Int)) (hlw : ws.length ≤ 9223372036854775807) (hlv : vs.length ≤ 9223372036854775807) :
    Calls Try.prog 5 #[.slice p1 ws.length c1, .slice p2 vs.length c2] W fun e w' => e = .returned (.bool true) ∧ Below W.heap.size W w' := by
  have hup := awake_calls W
  obtain ⟨i0, hi, hz0, hz1, hz2⟩ := info_parts info32
  have HW : Hid (FlagsAt W W.heap.size p1 ws) := hw
  have HV : Hid (IntsAt W W.heap.size p2 vs) := hv
  clear hw hv
  go_enter Try.func5, Try.ntmps5
  go_wp2_with (go_at_call 8; refine hup.mono ?_; rintro e w1 ⟨rfl, hb1⟩)
  go_loopw [7, 8, 9, 10] (fun h nw gd i wr => ∃ k : Nat, k ≤ vs.length ∧ i = .int .i64 k ∧ Hid (wr.ownsRow W.heap.size 32 4 h k (encs (rowH ws vs k))) ∧ nw = .int .i64 (rowS ws vs k).1 ∧ gd = .bool (rowS ws vs k).2 ∧ Hid (Below W.heap.size W wr)) (fun _ _ _ i _ => vs.length - (intOf i).toNat)
  case atStart => exact ⟨0, Nat.zero_le _, rfl, World.ownsRow_nil _ _ _ _, rfl, rfl, hb1⟩
  case round =>
    obtain ⟨k, hk, rfl, hown, rfl, rfl, BW⟩ := hrel
    by_cases hlt : k < vs.length
    · have hkw : k < ws.length := by omega
      have hkv : k < vs.length := by omega
      obtain ⟨x, hx⟩ : ∃ x, ws[k]? = some x := ⟨_, List.getElem?_eq_getElem hkw⟩
      obtain ⟨y, hy⟩ : ∃ y, vs[k]? = some y := ⟨_, List.getElem?_eq_getElem hkv⟩
      obtain ⟨ba, oa, rfl, hba, d1⟩ := (HW.out.below BW.out).at hx
      obtain ⟨bb, ob, rfl, hbb, d2⟩ := (HV.out.below BW.out).at hy
      have hbs := BW.out.size
      have hA : rowA ws vs k = ⟨x, y, 3 * (k : Int), 3 * (k : Int) + 2⟩ := by simp [rowA, List.getD_eq_getElem?_getD, hx, hy]
      have HA : Hid (rowA ws vs k = ⟨x, y, 3 * (k : Int), 3 * (k : Int) + 2⟩) := hA
      have hS : rowS ws vs (k + 1) = if x then (y, (rowS ws vs k).2) else ((rowS ws vs k).1, (rowS ws vs k).2 && y == (rowS ws vs k).1) := by
        show (if ws.getD k false then _ else _) = _
        rw [show ws.getD k false = x by simp [List.getD_eq_getElem?_getD, hx], show vs.getD k 0 = y by simp [List.getD_eq_getElem?_getD, hy]]
      have HS : Hid (rowS ws vs (k + 1) = if x then (y, (rowS ws vs k).2) else ((rowS ws vs k).1, (rowS ws vs k).2 && y == (rowS ws vs k).1)) := hS
      clear hx hy hA hS
      generalize (rowS ws vs k).1 = nw at *
      generalize (rowS ws vs k).2 = gd at *
      have i0' : (0 : Int) ≤ (k : Int) := Int.natCast_nonneg _
      have i1' : (k : Int) < (ws.length : Int) := by omega
      have i2' : (k : Int) < (vs.length : Int) := by omega
      have hrow := rowH_length ws vs k
      have HO : ∀ (g : Value) (w1 : World), w1.ownsRow W.heap.size 32 4 g (k + 1) (encs (rowH ws vs k) ++ enc ⟨x, y, 3 * (k : Int), 3 * (k : Int) + 2⟩) → Hid (w1.ownsRow W.heap.size 32 4 g (k + 1) (encs (rowH ws vs (k + 1)))) := fun g w1 h => by
        rw [rowH_succ, HA.out, encs_append]; exact (by simpa [encs] using h : w1.ownsRow W.heap.size 32 4 g (k + 1) (encs (rowH ws vs k) ++ encs [⟨x, y, 3 * (k : Int), 3 * (k : Int) + 2⟩]))
      have HO' := (show Hid _ from HO)
      clear HO hrow
      have hw3 : IntKind.i64.wrap (3 * (k : Int)) = 3 * (k : Int) := (rg_iff (k := .i64)).2 ⟨by simp only [loK]; omega, by simp only [hiK]; omega⟩
      have hw5 : IntKind.i64.wrap (3 * (k : Int) + 2) = 3 * (k : Int) + 2 := (rg_iff (k := .i64)).2 ⟨by simp only [loK]; omega, by simp only [hiK]; omega⟩
      go_wp2_with fail
      go_region_held3 (fun w' => w'.cell? ⟨ba, oa + k, none⟩ = some (.bool x) ∧ w'.cell? ⟨bb, ob + k, none⟩ = some (.int .i64 y))
        (first
          | go_keep
          | (go_split_ands
             refine ⟨?_, ?_⟩
             · (rw [hgrow.cell_far _ (by simp; omega) (fun e => by have := (hown.out.lt _ e.symm).1; simp at this; omega)]; assumption)
             · (rw [hgrow.cell_far _ (by simp; omega) (fun e => by have := (hown.out.lt _ e.symm).1; simp at this; omega)]; assumption)))
        ((refine step_append_lies _ (by rfl) _ _ _ (by rfl) W.heap.size 32 i0 _ 4 32 Try.underlying22 hi hz0 hz1 hz2 rfl (by omega) _ k _ (by rfl) ((hown.out.alloc _).drew)
            ⟨wr.heap.size, 0, none⟩ 1 1 (enc ⟨x, y, 3 * (k : Int), 3 * (k : Int) + 2⟩) (by rfl) (by rfl) (World.news_of_block (cs := #[.bool x, .int .i64 y, .int .i64 (3 * (k : Int)), .int .i64 (3 * (k : Int) + 2)]) (t := 32) (fr := (0, 0)) (heap_alloc_new wr _)) (by simp [Value.oneCell', enc])
            (by omega) (by unfold maxLen; omega) (by omega) (by simp; omega) (wr.heap.size + 1) (by simp) ?_; intro gg cap w2 hown1 hgrow hat hlt2))
      have hBy : Below W.heap.size wr w2 := (((Below.refl W.heap.size wr).alloc hbs _).drew).grown hgrow (by simp; omega) (fun r hr => (hown.out.lt r hr).1)
      have hBx : Below W.heap.size W w2 := BW.out.trans hBy
      have d3 : w2.cell? ⟨ba, oa + k, none⟩ = some (.bool x) := (hBy.cell (p := ⟨ba, oa + k, none⟩) hba).trans d1
      have d4 : w2.cell? ⟨bb, ob + k, none⟩ = some (.int .i64 y) := (hBy.cell (p := ⟨bb, ob + k, none⟩) hbb).trans d2
      have HO2 := HO'.out _ _ hown1
      have HBX : Hid (Below W.heap.size W w2) := hBx
      clear hBy hBx hown1 hgrow d1 d2 hown HO' hat hw3 hw5
      cases x with
      | true =>
        go_wp2
        go_roundw
        case rel => exact ⟨k + 1, by omega, by go_num, HO2, by rw [HS.out]; rfl, by rw [HS.out]; rfl, HBX⟩
        case measure => simp [intOf]; omega
      | false =>
        cases gd with
        | true =>
          go_wp2
          go_roundw
          case rel => exact ⟨k + 1, by omega, by go_num, HO2, by rw [HS.out]; rfl, by rw [HS.out]; rfl, HBX⟩
          case measure => simp [intOf]; omega
        | false =>
          go_wp2
          go_roundw
          case rel => exact ⟨k + 1, by omega, by go_num, HO2, by rw [HS.out]; rfl, by rw [HS.out]; rfl, HBX⟩
          case measure => simp [intOf]; omega
    · have hkn : k = vs.length := by omega
      subst hkn
      have hls := own_lst (l := rowH ws vs vs.length) (w := wr) (base := W.heap.size) (by rw [rowH_length]; exact hown.out) (by rw [rowH_length]; omega)
      have hord := order_calls _ _ wr hls
      have HB : Hid (Below W.heap.size W wr) := BW.out
      have hn7 : vs.length ≤ 7 := by omega
      clear hls hown BW
      cases ho : orderL (rowH ws vs vs.length) with
      | none =>
        rw [row_none hn7 ho]
        rw [ho] at hord
        clear ho
        go_wp2_with (go_at_call 9; refine hord.mono ?_; rintro e w3 ⟨hb3, rfl⟩)
        refine wp_loop_rounds 1 ?_; rw [rounds_succ]
        go_wp2
        go_ret
        exact ⟨rfl, HB.out.trans (hb3.mono HB.out.size)⟩
      | some o =>
        obtain ⟨rfl, hg⟩ := row_some ho
        rw [hg]
        rw [ho] at hord
        clear ho hg
        go_wp2_with (go_at_call 9; refine hord.mono ?_; rintro e w3 ⟨hb3, lv, base, rfl, hbase, hrow⟩; obtain ⟨ql, cl, rfl, hlI⟩ := own_range hrow)
        have HI : Hid (IntsAt w3 w3.heap.size ql (ordI (List.range (vs.length)))) := hlI
        clear hlI hrow
        go_loopw [13] (fun i wr2 => ∃ j : Nat, j ≤ vs.length ∧ i = .int .i64 j ∧ Hid (Below w3.heap.size w3 wr2)) (fun i _ => vs.length - (intOf i).toNat)
        case atStart => exact ⟨0, Nat.zero_le _, rfl, Below.refl _ _⟩
        case round =>
          obtain ⟨j, hj, rfl, BW2⟩ := hrel
          by_cases hltj : j < vs.length
          · obtain ⟨bl, ol, rfl, _, d5⟩ := (HI.out.below BW2.out).at (i := j) (x := (j : Int)) (by simp [ordI, hltj])
            go_wp2
            go_roundw
            case rel => exact ⟨j + 1, by omega, by go_num, BW2⟩
            case measure => simp [intOf]; omega
          · have hjn : j = vs.length := by omega
            subst hjn
            go_wp2
            go_ret
            exact ⟨rfl, (HB.out.trans (hb3.mono HB.out.size)).trans (BW2.out.mono (by have := hb3.size; have := HB.out.size; omega))⟩
set_option maxRecDepth 100000 in
set_option maxHeartbeats 8000000 in
theorem row_calls3 (ws : List Bool) (vs : List Int) (p1 p2 : Option Addr) (c1 c2 : Nat) (W : World) (hw : FlagsAt W W.heap.size p1 ws) (hv : IntsAt W W.heap.size p2 vs) (h1 : ¬ (vs.length : Int) < (ws.length : Int)) (h2 : (7 : Int) < (ws.length : Int)) (hlw : ws.length ≤ 9223372036854775807) (hlv : vs.length ≤ 9223372036854775807) :
    Calls Try.prog 5 #[.slice p1 ws.length c1, .slice p2 vs.length c2] W fun e w' => e = .returned (.bool true) ∧ Below W.heap.size W w' := by
  have hup := awake_calls W
  obtain ⟨i0, hi, hz0, hz1, hz2⟩ := info_parts info32
  have HW : Hid (FlagsAt W W.heap.size p1 ws) := hw
  have HV : Hid (IntsAt W W.heap.size p2 vs) := hv
  clear hw hv
  go_enter Try.func5, Try.ntmps5
  go_wp2_with (go_at_call 8; refine hup.mono ?_; rintro e w1 ⟨rfl, hb1⟩)
  go_loopw [7, 8, 9, 10] (fun h nw gd i wr => ∃ k : Nat, k ≤ 7 ∧ i = .int .i64 k ∧ Hid (wr.ownsRow W.heap.size 32 4 h k (encs (rowH ws vs k))) ∧ nw = .int .i64 (rowS ws vs k).1 ∧ gd = .bool (rowS ws vs k).2 ∧ Hid (Below W.heap.size W wr)) (fun _ _ _ i _ => 7 - (intOf i).toNat)
  case atStart => exact ⟨0, Nat.zero_le _, rfl, World.ownsRow_nil _ _ _ _, rfl, rfl, hb1⟩
  case round =>
    obtain ⟨k, hk, rfl, hown, rfl, rfl, BW⟩ := hrel
    by_cases hlt : k < 7
    · have hkw : k < ws.length := by omega
      have hkv : k < vs.length := by omega
      obtain ⟨x, hx⟩ : ∃ x, ws[k]? = some x := ⟨_, List.getElem?_eq_getElem hkw⟩
      obtain ⟨y, hy⟩ : ∃ y, vs[k]? = some y := ⟨_, List.getElem?_eq_getElem hkv⟩
      obtain ⟨ba, oa, rfl, hba, d1⟩ := (HW.out.below BW.out).at hx
      obtain ⟨bb, ob, rfl, hbb, d2⟩ := (HV.out.below BW.out).at hy
      have hbs := BW.out.size
      have hA : rowA ws vs k = ⟨x, y, 3 * (k : Int), 3 * (k : Int) + 2⟩ := by simp [rowA, List.getD_eq_getElem?_getD, hx, hy]
      have HA : Hid (rowA ws vs k = ⟨x, y, 3 * (k : Int), 3 * (k : Int) + 2⟩) := hA
      have hS : rowS ws vs (k + 1) = if x then (y, (rowS ws vs k).2) else ((rowS ws vs k).1, (rowS ws vs k).2 && y == (rowS ws vs k).1) := by
        show (if ws.getD k false then _ else _) = _
        rw [show ws.getD k false = x by simp [List.getD_eq_getElem?_getD, hx], show vs.getD k 0 = y by simp [List.getD_eq_getElem?_getD, hy]]
      have HS : Hid (rowS ws vs (k + 1) = if x then (y, (rowS ws vs k).2) else ((rowS ws vs k).1, (rowS ws vs k).2 && y == (rowS ws vs k).1)) := hS
      clear hx hy hA hS
      generalize (rowS ws vs k).1 = nw at *
      generalize (rowS ws vs k).2 = gd at *
      have i0' : (0 : Int) ≤ (k : Int) := Int.natCast_nonneg _
      have i1' : (k : Int) < (ws.length : Int) := by omega
      have i2' : (k : Int) < (vs.length : Int) := by omega
      have hrow := rowH_length ws vs k
      have HO : ∀ (g : Value) (w1 : World), w1.ownsRow W.heap.size 32 4 g (k + 1) (encs (rowH ws vs k) ++ enc ⟨x, y, 3 * (k : Int), 3 * (k : Int) + 2⟩) → Hid (w1.ownsRow W.heap.size 32 4 g (k + 1) (encs (rowH ws vs (k + 1)))) := fun g w1 h => by
        rw [rowH_succ, HA.out, encs_append]; exact (by simpa [encs] using h : w1.ownsRow W.heap.size 32 4 g (k + 1) (encs (rowH ws vs k) ++ encs [⟨x, y, 3 * (k : Int), 3 * (k : Int) + 2⟩]))
      have HO' := (show Hid _ from HO)
      clear HO hrow
      have hw3 : IntKind.i64.wrap (3 * (k : Int)) = 3 * (k : Int) := (rg_iff (k := .i64)).2 ⟨by simp only [loK]; omega, by simp only [hiK]; omega⟩
      have hw5 : IntKind.i64.wrap (3 * (k : Int) + 2) = 3 * (k : Int) + 2 := (rg_iff (k := .i64)).2 ⟨by simp only [loK]; omega, by simp only [hiK]; omega⟩
      go_wp2_with fail
      go_region_held3 (fun w' => w'.cell? ⟨ba, oa + k, none⟩ = some (.bool x) ∧ w'.cell? ⟨bb, ob + k, none⟩ = some (.int .i64 y))
        (first
          | go_keep
          | (go_split_ands
             refine ⟨?_, ?_⟩
             · (rw [hgrow.cell_far _ (by simp; omega) (fun e => by have := (hown.out.lt _ e.symm).1; simp at this; omega)]; assumption)
             · (rw [hgrow.cell_far _ (by simp; omega) (fun e => by have := (hown.out.lt _ e.symm).1; simp at this; omega)]; assumption)))
        ((refine step_append_lies _ (by rfl) _ _ _ (by rfl) W.heap.size 32 i0 _ 4 32 Try.underlying22 hi hz0 hz1 hz2 rfl (by omega) _ k _ (by rfl) ((hown.out.alloc _).drew)
            ⟨wr.heap.size, 0, none⟩ 1 1 (enc ⟨x, y, 3 * (k : Int), 3 * (k : Int) + 2⟩) (by rfl) (by rfl) (World.news_of_block (cs := #[.bool x, .int .i64 y, .int .i64 (3 * (k : Int)), .int .i64 (3 * (k : Int) + 2)]) (t := 32) (fr := (0, 0)) (heap_alloc_new wr _)) (by simp [Value.oneCell', enc])
            (by omega) (by unfold maxLen; omega) (by omega) (by simp; omega) (wr.heap.size + 1) (by simp) ?_; intro gg cap w2 hown1 hgrow hat hlt2))
      have hBy : Below W.heap.size wr w2 := (((Below.refl W.heap.size wr).alloc hbs _).drew).grown hgrow (by simp; omega) (fun r hr => (hown.out.lt r hr).1)
      have hBx : Below W.heap.size W w2 := BW.out.trans hBy
      have d3 : w2.cell? ⟨ba, oa + k, none⟩ = some (.bool x) := (hBy.cell (p := ⟨ba, oa + k, none⟩) hba).trans d1
      have d4 : w2.cell? ⟨bb, ob + k, none⟩ = some (.int .i64 y) := (hBy.cell (p := ⟨bb, ob + k, none⟩) hbb).trans d2
      have HO2 := HO'.out _ _ hown1
      have HBX : Hid (Below W.heap.size W w2) := hBx
      clear hBy hBx hown1 hgrow d1 d2 hown HO' hat hw3 hw5
      cases x with
      | true =>
        go_wp2
        go_roundw
        case rel => exact ⟨k + 1, by omega, by go_num, HO2, by rw [HS.out]; rfl, by rw [HS.out]; rfl, HBX⟩
        case measure => simp [intOf]; omega
      | false =>
        cases gd with
        | true =>
          go_wp2
          go_roundw
          case rel => exact ⟨k + 1, by omega, by go_num, HO2, by rw [HS.out]; rfl, by rw [HS.out]; rfl, HBX⟩
          case measure => simp [intOf]; omega
        | false =>
          go_wp2
          go_roundw
          case rel => exact ⟨k + 1, by omega, by go_num, HO2, by rw [HS.out]; rfl, by rw [HS.out]; rfl, HBX⟩
          case measure => simp [intOf]; omega
    · have hkn : k = 7 := by omega
      subst hkn
      have hls := own_lst (l := rowH ws vs 7) (w := wr) (base := W.heap.size) (by rw [rowH_length]; exact hown.out) (by rw [rowH_length]; omega)
      have hord := order_calls _ _ wr hls
      have HB : Hid (Below W.heap.size W wr) := BW.out
      have hn7 : 7 ≤ 7 := by omega
      clear hls hown BW
      cases ho : orderL (rowH ws vs 7) with
      | none =>
        rw [row_none hn7 ho]
        rw [ho] at hord
        clear ho
        go_wp2_with (go_at_call 9; refine hord.mono ?_; rintro e w3 ⟨hb3, rfl⟩)
        refine wp_loop_rounds 1 ?_; rw [rounds_succ]
        go_wp2
        go_ret
        exact ⟨rfl, HB.out.trans (hb3.mono HB.out.size)⟩
      | some o =>
        obtain ⟨rfl, hg⟩ := row_some ho
        rw [hg]
        rw [ho] at hord
        clear ho hg
        go_wp2_with (go_at_call 9; refine hord.mono ?_; rintro e w3 ⟨hb3, lv, base, rfl, hbase, hrow⟩; obtain ⟨ql, cl, rfl, hlI⟩ := own_range hrow)
        have HI : Hid (IntsAt w3 w3.heap.size ql (ordI (List.range (7)))) := hlI
        clear hlI hrow
        go_loopw [13] (fun i wr2 => ∃ j : Nat, j ≤ 7 ∧ i = .int .i64 j ∧ Hid (Below w3.heap.size w3 wr2)) (fun i _ => 7 - (intOf i).toNat)
        case atStart => exact ⟨0, Nat.zero_le _, rfl, Below.refl _ _⟩
        case round =>
          obtain ⟨j, hj, rfl, BW2⟩ := hrel
          by_cases hltj : j < 7
          · obtain ⟨bl, ol, rfl, _, d5⟩ := (HI.out.below BW2.out).at (i := j) (x := (j : Int)) (by simp [ordI, hltj])
            go_wp2
            go_roundw
            case rel => exact ⟨j + 1, by omega, by go_num, BW2⟩
            case measure => simp [intOf]; omega
          · have hjn : j = 7 := by omega
            subst hjn
            go_wp2
            go_ret
            exact ⟨rfl, (HB.out.trans (hb3.mono HB.out.size)).trans (BW2.out.mono (by have := hb3.size; have := HB.out.size; omega))⟩
set_option maxRecDepth 100000 in
set_option maxHeartbeats 8000000 in
theorem row_calls4 (ws : List Bool) (vs : List Int) (p1 p2 : Option Addr) (c1 c2 : Nat) (W : World) (hw : FlagsAt W W.heap.size p1 ws) (hv : IntsAt W W.heap.size p2 vs) (h1 : ¬ (vs.length : Int) < (ws.length : Int)) (h2 : ¬ (7 : Int) < (ws.length : Int)) (hlw : ws.length ≤ 9223372036854775807) (hlv : vs.length ≤ 9223372036854775807) :
    Calls Try.prog 5 #[.slice p1 ws.length c1, .slice p2 vs.length c2] W fun e w' => e = .returned (.bool true) ∧ Below W.heap.size W w' := by
  have hup := awake_calls W
  obtain ⟨i0, hi, hz0, hz1, hz2⟩ := info_parts info32
  have HW : Hid (FlagsAt W W.heap.size p1 ws) := hw
  have HV : Hid (IntsAt W W.heap.size p2 vs) := hv
  clear hw hv
  go_enter Try.func5, Try.ntmps5
  go_wp2_with (go_at_call 8; refine hup.mono ?_; rintro e w1 ⟨rfl, hb1⟩)
  go_loopw [7, 8, 9, 10] (fun h nw gd i wr => ∃ k : Nat, k ≤ ws.length ∧ i = .int .i64 k ∧ Hid (wr.ownsRow W.heap.size 32 4 h k (encs (rowH ws vs k))) ∧ nw = .int .i64 (rowS ws vs k).1 ∧ gd = .bool (rowS ws vs k).2 ∧ Hid (Below W.heap.size W wr)) (fun _ _ _ i _ => ws.length - (intOf i).toNat)
  case atStart => exact ⟨0, Nat.zero_le _, rfl, World.ownsRow_nil _ _ _ _, rfl, rfl, hb1⟩
  case round =>
    obtain ⟨k, hk, rfl, hown, rfl, rfl, BW⟩ := hrel
    by_cases hlt : k < ws.length
    · have hkw : k < ws.length := by omega
      have hkv : k < vs.length := by omega
      obtain ⟨x, hx⟩ : ∃ x, ws[k]? = some x := ⟨_, List.getElem?_eq_getElem hkw⟩
      obtain ⟨y, hy⟩ : ∃ y, vs[k]? = some y := ⟨_, List.getElem?_eq_getElem hkv⟩
      obtain ⟨ba, oa, rfl, hba, d1⟩ := (HW.out.below BW.out).at hx
      obtain ⟨bb, ob, rfl, hbb, d2⟩ := (HV.out.below BW.out).at hy
      have hbs := BW.out.size
      have hA : rowA ws vs k = ⟨x, y, 3 * (k : Int), 3 * (k : Int) + 2⟩ := by simp [rowA, List.getD_eq_getElem?_getD, hx, hy]
      have HA : Hid (rowA ws vs k = ⟨x, y, 3 * (k : Int), 3 * (k : Int) + 2⟩) := hA
      have hS : rowS ws vs (k + 1) = if x then (y, (rowS ws vs k).2) else ((rowS ws vs k).1, (rowS ws vs k).2 && y == (rowS ws vs k).1) := by
        show (if ws.getD k false then _ else _) = _
        rw [show ws.getD k false = x by simp [List.getD_eq_getElem?_getD, hx], show vs.getD k 0 = y by simp [List.getD_eq_getElem?_getD, hy]]
      have HS : Hid (rowS ws vs (k + 1) = if x then (y, (rowS ws vs k).2) else ((rowS ws vs k).1, (rowS ws vs k).2 && y == (rowS ws vs k).1)) := hS
      clear hx hy hA hS
      generalize (rowS ws vs k).1 = nw at *
      generalize (rowS ws vs k).2 = gd at *
      have i0' : (0 : Int) ≤ (k : Int) := Int.natCast_nonneg _
      have i1' : (k : Int) < (ws.length : Int) := by omega
      have i2' : (k : Int) < (vs.length : Int) := by omega
      have hrow := rowH_length ws vs k
      have HO : ∀ (g : Value) (w1 : World), w1.ownsRow W.heap.size 32 4 g (k + 1) (encs (rowH ws vs k) ++ enc ⟨x, y, 3 * (k : Int), 3 * (k : Int) + 2⟩) → Hid (w1.ownsRow W.heap.size 32 4 g (k + 1) (encs (rowH ws vs (k + 1)))) := fun g w1 h => by
        rw [rowH_succ, HA.out, encs_append]; exact (by simpa [encs] using h : w1.ownsRow W.heap.size 32 4 g (k + 1) (encs (rowH ws vs k) ++ encs [⟨x, y, 3 * (k : Int), 3 * (k : Int) + 2⟩]))
      have HO' := (show Hid _ from HO)
      clear HO hrow
      have hw3 : IntKind.i64.wrap (3 * (k : Int)) = 3 * (k : Int) := (rg_iff (k := .i64)).2 ⟨by simp only [loK]; omega, by simp only [hiK]; omega⟩
      have hw5 : IntKind.i64.wrap (3 * (k : Int) + 2) = 3 * (k : Int) + 2 := (rg_iff (k := .i64)).2 ⟨by simp only [loK]; omega, by simp only [hiK]; omega⟩
      go_wp2_with fail
      go_region_held3 (fun w' => w'.cell? ⟨ba, oa + k, none⟩ = some (.bool x) ∧ w'.cell? ⟨bb, ob + k, none⟩ = some (.int .i64 y))
        (first
          | go_keep
          | (go_split_ands
             refine ⟨?_, ?_⟩
             · (rw [hgrow.cell_far _ (by simp; omega) (fun e => by have := (hown.out.lt _ e.symm).1; simp at this; omega)]; assumption)
             · (rw [hgrow.cell_far _ (by simp; omega) (fun e => by have := (hown.out.lt _ e.symm).1; simp at this; omega)]; assumption)))
        ((refine step_append_lies _ (by rfl) _ _ _ (by rfl) W.heap.size 32 i0 _ 4 32 Try.underlying22 hi hz0 hz1 hz2 rfl (by omega) _ k _ (by rfl) ((hown.out.alloc _).drew)
            ⟨wr.heap.size, 0, none⟩ 1 1 (enc ⟨x, y, 3 * (k : Int), 3 * (k : Int) + 2⟩) (by rfl) (by rfl) (World.news_of_block (cs := #[.bool x, .int .i64 y, .int .i64 (3 * (k : Int)), .int .i64 (3 * (k : Int) + 2)]) (t := 32) (fr := (0, 0)) (heap_alloc_new wr _)) (by simp [Value.oneCell', enc])
            (by omega) (by unfold maxLen; omega) (by omega) (by simp; omega) (wr.heap.size + 1) (by simp) ?_; intro gg cap w2 hown1 hgrow hat hlt2))
      have hBy : Below W.heap.size wr w2 := (((Below.refl W.heap.size wr).alloc hbs _).drew).grown hgrow (by simp; omega) (fun r hr => (hown.out.lt r hr).1)
      have hBx : Below W.heap.size W w2 := BW.out.trans hBy
      have d3 : w2.cell? ⟨ba, oa + k, none⟩ = some (.bool x) := (hBy.cell (p := ⟨ba, oa + k, none⟩) hba).trans d1
      have d4 : w2.cell? ⟨bb, ob + k, none⟩ = some (.int .i64 y) := (hBy.cell (p := ⟨bb, ob + k, none⟩) hbb).trans d2
      have HO2 := HO'.out _ _ hown1
      have HBX : Hid (Below W.heap.size W w2) := hBx
      clear hBy hBx hown1 hgrow d1 d2 hown HO' hat hw3 hw5
      cases x with
      | true =>
        go_wp2
        go_roundw
        case rel => exact ⟨k + 1, by omega, by go_num, HO2, by rw [HS.out]; rfl, by rw [HS.out]; rfl, HBX⟩
        case measure => simp [intOf]; omega
      | false =>
        cases gd with
        | true =>
          go_wp2
          go_roundw
          case rel => exact ⟨k + 1, by omega, by go_num, HO2, by rw [HS.out]; rfl, by rw [HS.out]; rfl, HBX⟩
          case measure => simp [intOf]; omega
        | false =>
          go_wp2
          go_roundw
          case rel => exact ⟨k + 1, by omega, by go_num, HO2, by rw [HS.out]; rfl, by rw [HS.out]; rfl, HBX⟩
          case measure => simp [intOf]; omega
    · have hkn : k = ws.length := by omega
      subst hkn
      have hls := own_lst (l := rowH ws vs ws.length) (w := wr) (base := W.heap.size) (by rw [rowH_length]; exact hown.out) (by rw [rowH_length]; omega)
      have hord := order_calls _ _ wr hls
      have HB : Hid (Below W.heap.size W wr) := BW.out
      have hn7 : ws.length ≤ 7 := by omega
      clear hls hown BW
      cases ho : orderL (rowH ws vs ws.length) with
      | none =>
        rw [row_none hn7 ho]
        rw [ho] at hord
        clear ho
        go_wp2_with (go_at_call 9; refine hord.mono ?_; rintro e w3 ⟨hb3, rfl⟩)
        refine wp_loop_rounds 1 ?_; rw [rounds_succ]
        go_wp2
        go_ret
        exact ⟨rfl, HB.out.trans (hb3.mono HB.out.size)⟩
      | some o =>
        obtain ⟨rfl, hg⟩ := row_some ho
        rw [hg]
        rw [ho] at hord
        clear ho hg
        go_wp2_with (go_at_call 9; refine hord.mono ?_; rintro e w3 ⟨hb3, lv, base, rfl, hbase, hrow⟩; obtain ⟨ql, cl, rfl, hlI⟩ := own_range hrow)
        have HI : Hid (IntsAt w3 w3.heap.size ql (ordI (List.range (ws.length)))) := hlI
        clear hlI hrow
        go_loopw [13] (fun i wr2 => ∃ j : Nat, j ≤ ws.length ∧ i = .int .i64 j ∧ Hid (Below w3.heap.size w3 wr2)) (fun i _ => ws.length - (intOf i).toNat)
        case atStart => exact ⟨0, Nat.zero_le _, rfl, Below.refl _ _⟩
        case round =>
          obtain ⟨j, hj, rfl, BW2⟩ := hrel
          by_cases hltj : j < ws.length
          · obtain ⟨bl, ol, rfl, _, d5⟩ := (HI.out.below BW2.out).at (i := j) (x := (j : Int)) (by simp [ordI, hltj])
            go_wp2
            go_roundw
            case rel => exact ⟨j + 1, by omega, by go_num, BW2⟩
            case measure => simp [intOf]; omega
          · have hjn : j = ws.length := by omega
            subst hjn
            go_wp2
            go_ret
            exact ⟨rfl, (HB.out.trans (hb3.mono HB.out.size)).trans (BW2.out.mono (by have := hb3.size; have := HB.out.size; omega))⟩
theorem row_calls (ws : List Bool) (vs : List Int) (p1 p2 : Option Addr) (c1 c2 : Nat) (W : World) (hw : FlagsAt W W.heap.size p1 ws) (hv : IntsAt W W.heap.size p2 vs) (hlw : ws.length ≤ 9223372036854775807) (hlv : vs.length ≤ 9223372036854775807) :
    Calls Try.prog 5 #[.slice p1 ws.length c1, .slice p2 vs.length c2] W fun e w' => e = .returned (.bool true) ∧ Below W.heap.size W w' := by
  by_cases h1 : (vs.length : Int) < (ws.length : Int)
  · by_cases h2 : (7 : Int) < (vs.length : Int)
    · exact row_calls1 ws vs p1 p2 c1 c2 W hw hv h1 h2 hlw hlv
    · exact row_calls2 ws vs p1 p2 c1 c2 W hw hv h1 h2 hlw hlv
  · by_cases h2 : (7 : Int) < (ws.length : Int)
    · exact row_calls3 ws vs p1 p2 c1 c2 W hw hv h1 h2 hlw hlv
    · exact row_calls4 ws vs p1 p2 c1 c2 W hw hv h1 h2 hlw hlv
def KB : List CK := [.bool]
def flags' (n : Nat) (f : Nat → Nat → Tr) : List Bool := rdL (fun g => (g 0).b) n f
theorem ints_of {β : Lab} {hp : HP} {w : World} (hr : HR β hp w) {n : Nat} {f : Nat → Nat → Tr} {v : Value} (h : relT β.fz (.sl n f) (.sl KI) v) : ∃ p c, v = .slice p (nums n f).length c ∧ IntsAt w w.heap.size p (nums n f) ∧ (nums n f).length ≤ 9223372036854775807 := by
  simp only [relT] at h
  have hlen : (nums n f).length = n := nums_length' n f
  rcases h with ⟨hm, ⟨rfl, rfl⟩ | ⟨a, cap, rfl, hc, hh⟩⟩
  · exact ⟨none, 0, by rw [hlen], .inl (List.eq_nil_of_length_eq_zero hlen), by rw [hlen]; omega⟩
  · refine ⟨some a, cap, by rw [hlen], ?_, by rw [hlen]; unfold maxLen at hm; omega⟩
    by_cases h0 : n = 0
    · exact .inl (List.eq_nil_of_length_eq_zero (by rw [hlen]; exact h0))
    · have hx : ∀ i, i < n → w.cell? (a.add i) = some (.int .i64 (f i 0).i) := fun i hi => by
        obtain ⟨u, h1, h2⟩ := hh i 0 (.int .i64) hi rfl
        rw [show i * KI.length + 0 = i by simp [KI]] at h1
        rw [fz_cell hr h1, (relT_int h2).1]
      have c0 := hx 0 (by omega)
      obtain ⟨b, off, sp⟩ := a
      have hsp : sp = none := cell_spot c0
      subst hsp
      refine .inr ⟨b, off, rfl, World.block_lt_of_cell? w _ c0, fun i x hi => ?_⟩
      have hi' : i < n := by rw [← hlen]; exact (List.getElem?_eq_some_iff.1 hi).1
      have hz : x = (f i 0).i := by
        have := (List.getElem?_eq_some_iff.1 hi).2
        rw [← this]; simp [nums, rdL, rdI]
      subst hz
      rw [← Addr.add_lit]; exact hx i hi'
theorem flags_of {β : Lab} {hp : HP} {w : World} (hr : HR β hp w) {n : Nat} {f : Nat → Nat → Tr} {v : Value} (h : relT β.fz (.sl n f) (.sl KB) v) : ∃ p c, v = .slice p (flags' n f).length c ∧ FlagsAt w w.heap.size p (flags' n f) ∧ (flags' n f).length ≤ 9223372036854775807 := by
  simp only [relT] at h
  have hlen : (flags' n f).length = n := rdL_length _ _ _
  rcases h with ⟨hm, ⟨rfl, rfl⟩ | ⟨a, cap, rfl, hc, hh⟩⟩
  · exact ⟨none, 0, by rw [hlen], .inl (List.eq_nil_of_length_eq_zero hlen), by rw [hlen]; omega⟩
  · refine ⟨some a, cap, by rw [hlen], ?_, by rw [hlen]; unfold maxLen at hm; omega⟩
    by_cases h0 : n = 0
    · exact .inl (List.eq_nil_of_length_eq_zero (by rw [hlen]; exact h0))
    · have hx : ∀ i, i < n → w.cell? (a.add i) = some (.bool (f i 0).b) := fun i hi => by
        obtain ⟨u, h1, h2⟩ := hh i 0 .bool hi rfl
        rw [show i * KB.length + 0 = i by simp [KB]] at h1
        rw [fz_cell hr h1, relT_bool h2]
      have c0 := hx 0 (by omega)
      obtain ⟨b, off, sp⟩ := a
      have hsp : sp = none := cell_spot c0
      subst hsp
      refine .inr ⟨b, off, rfl, World.block_lt_of_cell? w _ c0, fun i x hi => ?_⟩
      have hi' : i < n := by rw [← hlen]; exact (List.getElem?_eq_some_iff.1 hi).1
      have hz : x = (f i 0).b := by
        have := (List.getElem?_eq_some_iff.1 hi).2
        rw [← this]; simp [flags', rdL]
      subst hz
      rw [← Addr.add_lit]; exact hx i hi'
theorem row5 {W : World} (g0 g1 : Tr) {v0 v1 : Value} (h0 : SV.rel (labW W) (cellT (fun _ => g0) 0 (.sl KB)) v0) (h1 : SV.rel (labW W) (cellT (fun _ => g1) 0 (.sl KI)) v1) :
    Calls Go.Proofs.Try.prog 5 #[v0, v1] W fun e w' => e = .returned (.bool true) ∧ Below W.heap.size W w' := by
  simp only [cellT, SV.rel] at h0 h1
  obtain ⟨p1, c1, rfl, hw, hlw⟩ := flags_of (labW_hr W) h0
  obtain ⟨p2, c2, rfl, hv, hlv⟩ := ints_of (labW_hr W) h1
  exact row_calls _ _ p1 p2 c1 c2 W hw hv hlw hlv
end Go.Proofs.Ytidnooaccbahpaa
