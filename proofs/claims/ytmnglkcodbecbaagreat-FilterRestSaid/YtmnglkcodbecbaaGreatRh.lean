/- filter.Run as a summary: over a list that the call laid down, and over one that came in. -/
import Derived.Test.YtmnglkcodbecbaaGreatRn
namespace Go.Proofs.YtmnglkcodbecbaaGreat
open Go Go.RowKit Go.Proofs Go.Sx
set_option linter.unusedVariables false
set_option linter.unusedSimpArgs false
set_option linter.constructorNameAsVariable false
set_option maxRecDepth 1000000
set_option maxHeartbeats 100000000
def dec5 : List SV → Option (List S5)
  | [] => some []
  | .int .i64 a :: .int .i64 b :: .int .i64 c :: .int .i64 d :: .int .i64 e :: l => match dec5 l with
    | some r => some ((a.val, b.val, c.val, d.val, e.val) :: r)
    | none => none
  | _ => none
theorem dec5_read {β : Lab} : ∀ {cs : List SV} {vs : List Value} {L : List S5}, dec5 cs = some L → relL β cs vs → ∀ {w : World} {a : Addr} {j : Nat}, (∀ i v, vs[i]? = some v → w.cell? (a.add (j * 5 + i)) = some v) →
    (∀ i, i < L.length → cellsOk w (a.add ((j + i) * 5)) 0 K5) ∧ (List.range L.length).map (fun i => sampleAt w (a.add ((j + i) * 5))) = L
  | [], vs, L, h, hr, w, a, j, hc => by
    simp only [dec5, Option.some.injEq] at h; subst h
    exact ⟨fun i hi => absurd hi (Nat.not_lt_zero _), rfl⟩
  | [_], _, _, h, _, _, _, _, _ => by simp [dec5] at h
  | [_, _], _, _, h, _, _, _, _, _ => by simp [dec5] at h
  | [_, _, _], _, _, h, _, _, _, _, _ => by simp [dec5] at h
  | [_, _, _, _], _, _, h, _, _, _, _, _ => by simp [dec5] at h
  | s0 :: s1 :: s2 :: s3 :: s4 :: l, vs, L, h, hr, w, a, j, hc => by
    unfold dec5 at h
    split at h <;> (try simp only [reduceCtorEq] at h)
    · rename_i e; cases e
    rename_i x0 x1 x2 x3 x4 l' e
    simp only [List.cons.injEq] at e
    obtain ⟨rfl, rfl, rfl, rfl, rfl, rfl⟩ := e
    split at h <;> simp only [Option.some.injEq, reduceCtorEq] at h
    rename_i r hd; subst h
    rw [relL_cons] at hr; obtain ⟨v0, t0, h0, hr, rfl⟩ := hr
    rw [relL_cons] at hr; obtain ⟨v1, t1, h1, hr, rfl⟩ := hr
    rw [relL_cons] at hr; obtain ⟨v2, t2, h2, hr, rfl⟩ := hr
    rw [relL_cons] at hr; obtain ⟨v3, t3, h3, hr, rfl⟩ := hr
    rw [relL_cons] at hr; obtain ⟨v4, t4, h4, hr, rfl⟩ := hr
    simp only [SV.rel] at h0 h1 h2 h3 h4
    obtain ⟨rfl, g0⟩ := h0; obtain ⟨rfl, g1⟩ := h1; obtain ⟨rfl, g2⟩ := h2; obtain ⟨rfl, g3⟩ := h3; obtain ⟨rfl, g4⟩ := h4
    have k0 := hc 0 _ rfl
    have k1 := hc 1 _ rfl
    have k2 := hc 2 _ rfl
    have k3 := hc 3 _ rfl
    have k4 := hc 4 _ rfl
    have ad : ∀ i, (a.add (j * 5)).add i = a.add (j * 5 + i) := fun i => add_add' a _ i
    obtain ⟨ih1, ih2⟩ := dec5_read hd hr (w := w) (a := a) (j := j + 1) (fun i v hi => by
      have := hc (i + 5) v (by simpa using hi)
      rwa [show j * 5 + (i + 5) = (j + 1) * 5 + i by omega] at this)
    refine ⟨fun i hi => ?_, ?_⟩
    · cases i with
      | zero =>
        rw [Nat.add_zero]
        refine ⟨⟨_, by rw [ad]; exact k0, g0⟩, ⟨_, by rw [ad]; exact k1, g1⟩, ⟨_, by rw [ad]; exact k2, g2⟩, ⟨_, by rw [ad]; exact k3, g3⟩, ⟨_, by rw [ad]; exact k4, g4⟩, trivial⟩
      | succ i =>
        have := ih1 i (by simpa using hi)
        rwa [show j + (i + 1) = j + 1 + i by omega]
    · simp only [List.length_cons, List.range_succ_eq_map, List.map_cons, List.map_map, Nat.add_zero]
      refine List.cons_eq_cons.2 ⟨?_, ?_⟩
      · simp only [sampleAt, ad, intAt, k0, k1, k2, k3, k4]
      · refine Eq.trans (List.map_congr_left fun i _ => ?_) ih2
        simp only [Function.comp]
        rw [show j + Nat.succ i = j + 1 + i by omega]
noncomputable def R32 : HSumm := fun vs H => match vs with
  | [.agg [.int .i64 a0, .int .i64 a1, .int .i64 a2, .int .i64 a3, .int .i64 a4, .int .i64 a5, .int .i64 a6, .int .i64 a7, .int .i64 a8, .int .i64 a9, .bool a10, .int .i64 a11, .int .i64 a12, .int .i64 a13, .int .i64 a14, .int .i64 a15, .bool a16, .int .i64 a17, .int .i64 a18, .int .i64 a19, .int .i64 a20, .int .i64 a21, .bool a22, .int .i64 a23, .int .i64 a24, .int .i64 a25, .int .i64 a26, .int .i64 a27, .bool a28], .agg [.int .i64 c0, .int .i64 c1, .int .i64 c2, .int .i64 c3, .int .i64 c4, .int .i64 c5, .int .i64 c6, .int .i64 c7, .int .i64 c8, .int .i64 c9, .int .i64 c10, .int .i64 c11, .int .i64 c12, .int .i64 c13, .int .i64 c14, .int .i64 c15, .int .i64 c16, .int .i64 c17, .int .i64 c18, .int .i64 c19], .own l lc n] => match hpOf H l with
    | some o => match takeN (n * 5) o.1 with
      | some cs => match dec5 cs with
        | some L => if Nat.beq L.length n && Nat.ble n 1000 then some (g60 (runR (c0.val, c1.val, c2.val, c3.val, c4.val, c5.val, c6.val, c7.val, c8.val, c9.val, c10.val, c11.val, c12.val, c13.val, c14.val, c15.val, c16.val, c17.val, c18.val, c19.val) (a0.val, a1.val, a2.val, a3.val, a4.val, a5.val, a6.val, a7.val, a8.val, a9.val, a10.val, a11.val, a12.val, a13.val, a14.val, a15.val, a16.val, a17.val, a18.val, a19.val, a20.val, a21.val, a22.val, a23.val, a24.val, a25.val, a26.val, a27.val, a28.val) L)) else none
        | none => none
      | none => none
    | none => none
  | _ => none
theorem R32_ok : HSummFn Go.Proofs.Tryz.prog 32 R32 := by
  intro vs H r h β w vals hv hr hf
  unfold R32 at h
  split at h <;> (try simp only [reduceCtorEq] at h)
  rename_i a0 a1 a2 a3 a4 a5 a6 a7 a8 a9 a10 a11 a12 a13 a14 a15 a16 a17 a18 a19 a20 a21 a22 a23 a24 a25 a26 a27 a28 c0 c1 c2 c3 c4 c5 c6 c7 c8 c9 c10 c11 c12 c13 c14 c15 c16 c17 c18 c19 l lc n
  split at h <;> (try simp only [reduceCtorEq] at h)
  rename_i o ho
  split at h <;> (try simp only [reduceCtorEq] at h)
  rename_i cs hcs
  split at h <;> (try simp only [reduceCtorEq] at h)
  rename_i L hL
  split at h <;> simp only [Option.some.injEq, reduceCtorEq] at h
  rename_i hn
  simp only [Bool.and_eq_true, Nat.ble_eq] at hn
  subst h
  obtain ⟨hn, hn2⟩ := hn
  have hn := Nat.eq_of_beq_eq_true hn
  subst hn
  rw [relL_cons] at hv; obtain ⟨vx, t0, hx, hv, rfl⟩ := hv
  rw [relL_cons] at hv; obtain ⟨vc, t1, hc, hv, rfl⟩ := hv
  rw [relL_cons] at hv; obtain ⟨vl, t2, hl, hv, rfl⟩ := hv
  rw [relL_nil] at hv; subst hv
  simp only [SV.rel] at hl; obtain ⟨b, cap, hb, hcap, rfl⟩ := hl
  obtain ⟨b', us, rest, hb', hus, hw, _, _⟩ := hr.obj l o ho
  obtain rfl : b = b' := by rw [hb] at hb'; simpa using hb'
  obtain ⟨h1, h2⟩ := relL_takeN hus hcs
  have hcell : ∀ i v, (us.take (L.length * 5))[i]? = some v → w.cell? ((⟨b, 0, none⟩ : Addr).add (0 * 5 + i)) = some v := fun i v hi => by
    rw [addr_add, cell_block w hw, show 0 + (0 * 5 + i) = i by omega]
    rw [List.getElem?_take] at hi
    split at hi
    · rw [List.getElem?_append_left (List.getElem?_eq_some_iff.1 hi).1]; exact hi
    · simp at hi
  obtain ⟨k1, k2⟩ := dec5_read hL h1 (w := w) (a := ⟨b, 0, none⟩) (j := 0) hcell
  have hlt : b < w.heap.size := (Array.getElem?_eq_some_iff.1 hw).1
  have := run32 w (a0.val, a1.val, a2.val, a3.val, a4.val, a5.val, a6.val, a7.val, a8.val, a9.val, a10.val, a11.val, a12.val, a13.val, a14.val, a15.val, a16.val, a17.val, a18.val, a19.val, a20.val, a21.val, a22.val, a23.val, a24.val, a25.val, a26.val, a27.val, a28.val) (c0.val, c1.val, c2.val, c3.val, c4.val, c5.val, c6.val, c7.val, c8.val, c9.val, c10.val, c11.val, c12.val, c13.val, c14.val, c15.val, c16.val, c17.val, c18.val, c19.val) ⟨b, 0, none⟩ L.length cap (by unfold maxLen; omega) ⟨hlt, fun i hi => by have := k1 i hi; rwa [Nat.zero_add] at this⟩ [vx, vc, .slice (some ⟨b, 0, none⟩) L.length cap]
    ⟨_, _, flat_rel (β' := noLab) _ _ rfl hx, ⟨_, _, flat_rel (β' := noLab) _ _ rfl hc, ⟨_, _, ⟨rfl, rfl⟩, rfl, rfl⟩, rfl⟩, rfl⟩
  have e : readL w ⟨b, 0, none⟩ L.length = L := by
    refine Eq.trans (List.map_congr_left fun i _ => ?_) k2
    rw [Nat.zero_add]
  rw [e] at this
  exact this
noncomputable def X32 (w0 : World) : XCall := fun vs => match vs with
  | [.agg [.int .i64 a0, .int .i64 a1, .int .i64 a2, .int .i64 a3, .int .i64 a4, .int .i64 a5, .int .i64 a6, .int .i64 a7, .int .i64 a8, .int .i64 a9, .bool a10, .int .i64 a11, .int .i64 a12, .int .i64 a13, .int .i64 a14, .int .i64 a15, .bool a16, .int .i64 a17, .int .i64 a18, .int .i64 a19, .int .i64 a20, .int .i64 a21, .bool a22, .int .i64 a23, .int .i64 a24, .int .i64 a25, .int .i64 a26, .int .i64 a27, .bool a28], .agg [.int .i64 c0, .int .i64 c1, .int .i64 c2, .int .i64 c3, .int .i64 c4, .int .i64 c5, .int .i64 c6, .int .i64 c7, .int .i64 c8, .int .i64 c9, .int .i64 c10, .int .i64 c11, .int .i64 c12, .int .i64 c13, .int .i64 c14, .int .i64 c15, .int .i64 c16, .int .i64 c17, .int .i64 c18, .int .i64 c19], .raw (.slice (some a) n cap)] => some (.ite (dec (n ≤ maxLen ∧ samplesOk w0 a n)) (.ret (g60 (runR (c0.val, c1.val, c2.val, c3.val, c4.val, c5.val, c6.val, c7.val, c8.val, c9.val, c10.val, c11.val, c12.val, c13.val, c14.val, c15.val, c16.val, c17.val, c18.val, c19.val) (a0.val, a1.val, a2.val, a3.val, a4.val, a5.val, a6.val, a7.val, a8.val, a9.val, a10.val, a11.val, a12.val, a13.val, a14.val, a15.val, a16.val, a17.val, a18.val, a19.val, a20.val, a21.val, a22.val, a23.val, a24.val, a25.val, a26.val, a27.val, a28.val) (readL w0 a n)))) .fail)
  | _ => none
theorem readL_below {w0 w : World} (h : Below w0.heap.size w0 w) {a : Addr} (ha : a.block < w0.heap.size) (n : Nat) : readL w a n = readL w0 a n := by
  unfold readL
  refine List.map_congr_left fun i _ => ?_
  have hb : ∀ j, ((a.add (i * 5)).add j).block < w0.heap.size := fun j => by rw [add_block, add_block]; exact ha
  simp only [sampleAt, intAt_below h (hb _)]
theorem samplesOk_below {w0 w : World} (h : Below w0.heap.size w0 w) {a : Addr} {n : Nat} (hs : samplesOk w0 a n) : samplesOk w a n :=
  ⟨Nat.lt_of_lt_of_le hs.1 h.size, fun i hi => (cellsOk_below h (by rw [add_block]; exact hs.1)).2 (hs.2 i hi)⟩
theorem X32_ok (w0 : World) : XCallFn Go.Proofs.Tryz.prog w0 32 (X32 w0) := by
  intro vs t h β w vals hb hv R hK
  unfold X32 at h
  split at h <;> simp only [Option.some.injEq, reduceCtorEq] at h
  rename_i a0 a1 a2 a3 a4 a5 a6 a7 a8 a9 a10 a11 a12 a13 a14 a15 a16 a17 a18 a19 a20 a21 a22 a23 a24 a25 a26 a27 a28 c0 c1 c2 c3 c4 c5 c6 c7 c8 c9 c10 c11 c12 c13 c14 c15 c16 c17 c18 c19 a n cap
  subst h
  obtain ⟨hd, hK⟩ := iteFail hK
  rw [dec_true] at hd
  rw [relL_cons] at hv; obtain ⟨vx, t0, hx, hv, rfl⟩ := hv
  rw [relL_cons] at hv; obtain ⟨vc, t1, hc, hv, rfl⟩ := hv
  rw [relL_cons] at hv; obtain ⟨vl, t2, hl, hv, rfl⟩ := hv
  rw [relL_nil] at hv; subst hv
  have hl' := hl
  simp only [SV.rel] at hl; obtain ⟨rfl, _⟩ := hl
  have := run32 w (a0.val, a1.val, a2.val, a3.val, a4.val, a5.val, a6.val, a7.val, a8.val, a9.val, a10.val, a11.val, a12.val, a13.val, a14.val, a15.val, a16.val, a17.val, a18.val, a19.val, a20.val, a21.val, a22.val, a23.val, a24.val, a25.val, a26.val, a27.val, a28.val) (c0.val, c1.val, c2.val, c3.val, c4.val, c5.val, c6.val, c7.val, c8.val, c9.val, c10.val, c11.val, c12.val, c13.val, c14.val, c15.val, c16.val, c17.val, c18.val, c19.val) a n cap hd.1 (samplesOk_below hb hd.2) [vx, vc, .slice (some a) n cap]
    ⟨_, _, flat_rel (β' := noLab) _ _ rfl hx, ⟨_, _, flat_rel (β' := noLab) _ _ rfl hc, ⟨_, _, ⟨rfl, rfl⟩, rfl, rfl⟩, rfl⟩, rfl⟩
  rw [readL_below hb hd.2.1] at this
  refine this.mono ?_
  rintro e w' ⟨⟨v, rfl, hv⟩, hb'⟩
  exact hK w' v hb' hv
end Go.Proofs.YtmnglkcodbecbaaGreat
