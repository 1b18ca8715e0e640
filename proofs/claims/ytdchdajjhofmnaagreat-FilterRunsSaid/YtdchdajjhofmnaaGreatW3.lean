/- outriggerref04.Wide: its summary. -/
import Derived.Test.YtdchdajjhofmnaaGreatW2
namespace Go.Proofs.YtdchdajjhofmnaaGreat
open Go Go.RowKit Go.Proofs Go.Sx
theorem Hd.step {E : Env} (hE : E.Ok) {call : CallF} (hcall : CallOk E.P call) {n : Nat} {x y Y' : Code} {s : St} {K : Ex × St → Prop} (h : Hd (symCode E call (n + 1) (.seq x y) s) K) {w0 : World} {β : Lab} {a : Act} {w : World} (hr : Rel β s a w)
  (he : Ext noLab [] w0 β s.heap w) {Q : Exit → Act → World → Prop}
  (hK : ∀ (e : Ex) (st : St) β' a' w', (match e with | .normal => False | _ => True) → K (e, st) → Ext noLab [] w0 β' st.heap w' → Rel β' st a' w' → Q e.toExit a' w')
  (hN : ∀ (st : St) β' a' w', Hd (symCode E call n y st) K → Ext noLab [] w0 β' st.heap w' → Rel β' st a' w' → Y'.wp E.P Q a' w') : (Code.seq x Y').wp E.P Q a w := by
 refine wp_seq (Hd.code hE hcall n x hr (h.split.mono ?_))
 rintro ⟨e, st⟩ hh β' a' w' hx hr'
 have hx0 := Ext.trans (fun _ _ => rfl) hr.free he hx
 cases e with
 | normal => exact hN st β' a' w' hh hx0 hr'
 | ret => exact hK .ret st β' a' w' trivial hh hx0 hr'
 | exit id => exact hK (.exit id) st β' a' w' trivial hh hx0 hr'
 | goto l => exact hK (.goto l) st β' a' w' trivial hh hx0 hr'
theorem Rel.toB {β : Lab} {st : St} {a : Act} {w : World} {n bit : SI} {x y c d : Int} {t u : Tag} (h : Rel β st a w) (hl : st.slots.length = 49) (h1 : nth st.slots 1 = some (.val (.ptr 0 0))) (h4 : nth st.slots 4 = some (.val (.ptr 1 0)))
  (h5 : nth st.slots 5 = some (.val (.int .i64 n))) (h6 : nth st.slots 6 = some (.val (.int .i64 bit))) (hh : st.heap = [some ([.int .i64 (.sym x), .int .i64 (.sym y)], t), some ([.int .i64 (.sym c), .int .i64 (.sym d)], u)]) : Rel β (stB n.val bit.val x y c d t u) a w := by
 have hr := h.hr; rw [hh] at hr
 refine ⟨by rw [h.size, hl]; rfl, fun k e he => ?_, hr, fun l hl' => h.free l (by rw [hh]; exact hl'), h.defers⟩
 have f1 := h.fact 1 _ h1
 have f4 := h.fact 4 _ h4
 have f5 := h.fact 5 _ h5
 have f6 := h.fact 6 _ h6
 simp only [stB, nth_append] at he
 split at he
 ·rename_i hk
  match k, hk with
  | 0, _ => simp only [nth, Option.some.injEq] at he; subst he; trivial
  | 1, _ => simp only [nth, Option.some.injEq] at he; subst he; exact f1
  | 2, _ => simp only [nth, Option.some.injEq] at he; subst he; trivial
  | 3, _ => simp only [nth, Option.some.injEq] at he; subst he; trivial
  | 4, _ => simp only [nth, Option.some.injEq] at he; subst he; exact f4
  | 5, _ => simp only [nth, Option.some.injEq] at he; subst he; simpa [EntFact, SV.rel, SI.val] using f5
  | 6, _ => simp only [nth, Option.some.injEq] at he; subst he; simpa [EntFact, SV.rel, SI.val] using f6
  | k + 7, hk => exact absurd hk (by simp)
 ·rw [nth_eq, List.getElem?_replicate] at he
  split at he <;> simp only [Option.some.injEq, reduceCtorEq] at he
  subst he; trivial
theorem vwB_at (f : Int → Int → Int → Int → Int → Int → Tag → Tag → LB) (st : St) : vwB f st = .none ∨ ∃ n bit a b c d t u, vwB f st = f n bit a b c d t u ∧ st.heap = (stB n bit a b c d t u).heap ∧ ∀ β ac w, Rel β st ac w → Rel β (stB n bit a b c d t u) ac w := by
 unfold vwB
 split
 ·rename_i n' b' x' y' t' c' d' u' h0 h1 h4 h5 h6 hh
  exact .inr ⟨n'.val, b'.val, x', y', c', d', t', u', rfl, hh, fun β ac w hr => Rel.toB hr (by simpa using h0) h1 h4 h5 h6 hh⟩
 ·exact .inl rfl
theorem rtB_end {β' : Lab} {w0 w' : World} {st : St} {a' : Act} {n : Int} {c : Bool} {R : Ending → World → Prop} (hrt : rtB st = .rt n c) (hrel : Rel β' st a' w') (hb : Below w0.heap.size w0 w')
  (hR : ∀ w', Below w0.heap.size w0 w' → Rg .i64 n → R (.returned (.tuple #[.int .i64 n, .bool c])) w') : bodyPost Go.Proofs.Tryz.prog Tryz.f224 R .ret a' w' := by
 unfold rtB at hrt
 split at hrt <;> simp only [LB.rt.injEq, reduceCtorEq] at hrt
 rename_i sn sc h1
 obtain ⟨rfl, rfl⟩ := hrt
 obtain ⟨v, h2, h3⟩ := results_sound hrel h1
 simp only [resultV, SV.rel, relL] at h3
 obtain ⟨_, ⟨_, _, ⟨rfl, hg⟩, ⟨_, _, rfl, rfl, rfl⟩, rfl⟩, rfl⟩ := h3
 exact ⟨hrel.defers, _, h2, hR w' hb hg⟩
theorem rtB_is (st : St) : rtB st = .none ∨ ∃ n c, rtB st = .rt n c := by
 unfold rtB; split
 ·exact .inr ⟨_, _, rfl⟩
 ·exact .inl rfl
def KE (p : Int × Bool) : LB → Prop
 | .rt n c => (n, c) = p
 | _ => False
theorem KE_leaf {p : Int × Bool} {K : LB → Prop} (hKrt : ∀ n c, K (.rt n c) → (n, c) = p) (hKn : ¬ K .none) (hKx : ∀ n bit a b c d t u, ¬ K (.ex n bit a b c d t u)) {w0 : World} {R : Ending → World → Prop}
  (hR : ∀ n c, (n, c) = p → ∀ w', Below w0.heap.size w0 w' → Rg .i64 n → R (.returned (.tuple #[.int .i64 n, .bool c])) w') (e : Ex) (st : St) (β' : Lab) (a' : Act) (w' : World) (hn : match e with | .normal => False | _ => True) (h : K (viewB (e, st)))
  (hx : Ext noLab [] w0 β' st.heap w') (hr : Rel β' st a' w') : bodyPost Go.Proofs.Tryz.prog Tryz.f224 R e.toExit a' w' := by
 cases e with
 | normal => exact hn.elim
 | ret =>
  have h' : K (rtB st) := h
  rcases rtB_is st with h1 | ⟨n, c, h1⟩
  ·rw [h1] at h'; exact absurd h' hKn
  ·rw [h1] at h'
   exact rtB_end h1 hr (hx.below (fun _ => rfl)) (hR n c (hKrt n c h'))
 | exit id =>
  match id with
  | 0 =>
   have h' : K (vwB .ex st) := h
   rcases vwB_at .ex st with h1 | ⟨n, bit, a, b, c, d, t, u, h1, -⟩
   ·rw [h1] at h'; exact absurd h' hKn
   ·rw [h1] at h'; exact absurd h' (hKx n bit a b c d t u)
  | id + 1 => exact absurd h hKn
 | goto l => exact absurd h hKn
noncomputable def muB (a : Act) : Nat := (intOf (a.tmps.getD 6 undef)).toNat
theorem muB_J {β : Lab} {n bit a b c d : Int} {t u : Tag} {ac : Act} {w : World} (h : Rel β (stB n bit a b c d t u) ac w) : muB ac = bit.toNat := by
 obtain ⟨y6, e6, r6⟩ := h.fact 6 _ rfl
 simp only [SV.rel, SI.val] at r6
 simp [muB, Array.getD_eq_getD_getElem?, e6, r6.1, intOf]
noncomputable def JB (h l : Int) (w0 : World) (ac : Act) (w' : World) : Prop :=
 ∃ β n bit t u k, Rel β (stB n bit h l (f273 h l).1 (f273 h l).2 t u) ac w' ∧ Ext noLab [] w0 β (stB n bit h l (f273 h l).1 (f273 h l).2 t u).heap w' ∧ 0 ≤ bit ∧ bit ≤ 288230376151711744 ∧ bit < 2 ^ k ∧ runB (f273 h l).1 (f273 h l).2 k n bit = runB (f273 h l).1 (f273 h l).2 60 0 288230376151711744
theorem runB_end (c d : Int) (k : Nat) (n bit : Int) (h : ¬ bit > 0) : runB c d k n bit = n := by
 cases k with
 | zero => rfl
 | succ k => unfold runB; rw [decide_eq_false h]; rfl
theorem half_eq {bit : Int} (h0 : 0 ≤ bit) (h1 : bit ≤ 288230376151711744) : IntKind.i64.wrap (bit.tdiv 2) = bit / 2 := by
 rw [tdiv2 _ h0]; exact (rg_iff (k := .i64)).2 ⟨by simp only [loK]; omega, by simp only [hiK]; omega⟩
theorem relB0 (h l : Int) (hh : Rg .i64 h) (hl : Rg .i64 l) (w : World) : Rel noLab (stB0 h l) { tmps := #[.agg #[.int .i64 h, .int .i64 l]] ++ Array.replicate 48 undef, defers := [] } w := by
 refine ⟨by simp [stB0], fun x e he => ?_, ⟨fun l o h => by simp [stB0, hpOf, nth] at h, fun l l' b _ _ h => by simp [noLab] at h, fun l b _ h => by simp [noLab] at h, fun b c h => by simp [noLab] at h⟩, fun _ _ => rfl, rfl⟩
 simp only [stB0, nth_append] at he
 split at he
 ·rename_i hx
  match x, hx with
  | 0, _ =>
   simp only [nth, Option.some.injEq] at he; subst he
   refine ⟨.agg #[.int .i64 h, .int .i64 l], by simp, ?_⟩
   simp only [SV.rel, relL, SI.val]
   exact ⟨_, ⟨_, _, ⟨rfl, hh⟩, ⟨_, _, ⟨rfl, hl⟩, rfl, rfl⟩, rfl⟩, rfl⟩
  | x + 1, hx => exact absurd hx (by simp)
 ·rename_i hx
  rw [nth_eq, List.getElem?_replicate] at he
  split at he <;> simp only [Option.some.injEq, reduceCtorEq] at he
  rename_i hx2; subst he
  refine ⟨undef, ?_, by simp [undefS, SV.rel, undef, relL_nil]⟩
  rw [Array.getElem?_append_right (by simp at hx ⊢; omega), Array.getElem?_replicate, if_pos (by simp at hx hx2 ⊢; omega)]
theorem round_holds (h l : Int) (k : Nat) (n bit : Int) (t u : Tag) (b0 : 0 ≤ bit) (b1 : bit ≤ 288230376151711744) (hk : bit < 2 ^ k) (hrun : runB (f273 h l).1 (f273 h l).2 k n bit = runB (f273 h l).1 (f273 h l).2 60 0 288230376151711744) :
  Hd (T.mapV viewB (symCode Ew2 (symCall Ew2 20) 400 rX (stB n bit h l (f273 h l).1 (f273 h l).2 t u))) (fun v => match v with
   | .go n' bit' a b c d _ _ => a = h ∧ b = l ∧ c = (f273 h l).1 ∧ d = (f273 h l).2 ∧ 0 ≤ bit' ∧ bit' ≤ 288230376151711744 ∧ (∃ k', bit' < 2 ^ k' ∧ runB (f273 h l).1 (f273 h l).2 k' n' bit' = runB (f273 h l).1 (f273 h l).2 60 0 288230376151711744) ∧ bit'.toNat < bit.toNat
   | .ex n' _ a b c d _ _ => a = h ∧ b = l ∧ c = (f273 h l).1 ∧ d = (f273 h l).2 ∧ n' = runB (f273 h l).1 (f273 h l).2 60 0 288230376151711744
   | _ => False) := by
 rw [roundE]
 refine ⟨⟨fun e => ?_, fun e => ⟨rfl, rfl, rfl, rfl, ?_⟩⟩⟩
 ·have hb : bit > 0 := of_decide_eq_true e
  obtain ⟨k, rfl⟩ : ∃ k', k = k' + 1 := by
   cases k with
   | zero => exfalso; rw [Int.pow_zero] at hk; omega
   | succ k => exact ⟨k, rfl⟩
  rw [Int.pow_succ] at hk
  unfold runB at hrun
  rw [e, cond_true] at hrun
  unfold tryB at hrun
  rw [half_eq b0 b1]
  refine ⟨fun e' => ⟨rfl, rfl, rfl, rfl, by omega, by omega, ⟨k, by omega, ?_⟩, by omega⟩, fun e' => ⟨rfl, rfl, rfl, rfl, by omega, by omega, ⟨k, by omega, ?_⟩, by omega⟩⟩
  ·rw [e', cond_true] at hrun; exact hrun
  ·rw [e', cond_false] at hrun; exact hrun
 ·have hb : ¬ bit > 0 := of_decide_eq_false e
  rw [runB_end _ _ _ _ _ hb] at hrun; exact hrun
theorem end_holds (h l : Int) (n bit : Int) (t u : Tag) (c0 : ¬ (f273 h l).1 < 0) (hn : n = runB (f273 h l).1 (f273 h l).2 60 0 288230376151711744) :
  Hd (T.mapV viewB (symCode Ew2 (symCall Ew2 20) 400 rEnd (stB n bit h l (f273 h l).1 (f273 h l).2 t u))) (KE (f224 h l)) := by
 rw [endE56]
 unfold f224
 rw [decide_eq_false c0, cond_false, ← hn]
 refine ⟨⟨fun e => ?_, fun e => ?_⟩⟩
 ·show (_, _) = _; rw [e]; rfl
 ·show (_, _) = _; rw [e]; rfl
set_option maxRecDepth 100000 in
theorem wide56 (h l : Int) (hh : Rg .i64 h) (hl : Rg .i64 l) (w : World) :
  Calls Go.Proofs.Tryz.prog 224 #[.agg #[.int .i64 h, .int .i64 l]] w fun e w' => (e = .returned (.tuple #[.int .i64 (f224 h l).1, .bool (f224 h l).2]) ∧ Rg .i64 (f224 h l).1) ∧ Below w.heap.size w w' := by
 obtain ⟨R, hRd⟩ : ∃ R : Ending → World → Prop, R = fun e w' => (e = .returned (.tuple #[.int .i64 (f224 h l).1, .bool (f224 h l).2]) ∧ Rg .i64 (f224 h l).1) ∧ Below w.heap.size w w' := ⟨_, rfl⟩
 rw [← hRd]
 have hR : ∀ n c, (n, c) = f224 h l → ∀ w', Below w.heap.size w w' → Rg .i64 n → R (.returned (.tuple #[.int .i64 n, .bool c])) w' := fun n c e w' hb hg => by
  rw [hRd]; rw [← e]; exact ⟨⟨rfl, hg⟩, hb⟩
 clear hRd
 have hcall := symCall_sound Ew2_ok 20
 refine calls_of_wp Tryz.func224 (c := .seq r0 (.seq r1 (.seq r2 (.seq r4 (.seq (.seq r5 (.block 0 (.loop rX))) rEnd))))) bodyW_eq ?_
 have hn : Tryz.f224.ntmps - (#[Value.agg #[.int .i64 h, .int .i64 l]] : Array Value).size = 48 := by kernel_rfl
 rw [hn]
 have hrel0 := relB0 h l hh hl w
 obtain ⟨KW, hKW⟩ : ∃ KW : LB → Prop, KW = fun v => match v with
   | .go n bit a b c d _ _ => (n = 0 ∧ bit = 288230376151711744 ∧ a = h ∧ b = l ∧ c = (f273 h l).1 ∧ d = (f273 h l).2) ∧ ¬ (f273 h l).1 < 0
   | .rt n c => (n, c) = f224 h l
   | _ => False := ⟨_, rfl⟩
 have h0 : Hd (symCode Ew2 (symCall Ew2 20) (400 + 4) (.seq r0 (.seq r1 (.seq r2 (.seq r4 r5)))) (stB0 h l)) (fun r => KW (viewB r)) := by
  have h1 : Hd (T.mapV viewB (symCode Ew2 (symCall Ew2 20) (400 + 4) (.seq r0 (.seq r1 (.seq r2 (.seq r4 r5)))) (stB0 h l))) KW := by
   rw [wayE, hKW]
   refine ⟨⟨fun e => ?_, fun e => ⟨⟨rfl, rfl, rfl, rfl, rfl, rfl⟩, of_decide_eq_false e⟩⟩⟩
   show (_, _) = _
   unfold f224; rw [e]; rfl
  exact h1.mapV
 have hKl := @KE_leaf (f224 h l) KW (by rw [hKW]; exact fun n c h => h) (by rw [hKW]; exact id) (by rw [hKW]; exact fun _ _ _ _ _ _ _ _ => id) w R hR
 refine Hd.step (n := 403) Ew2_ok hcall h0 hrel0 (Ext.refl _ _ _) (fun e st β' a' w' hn' hk hx hr => hKl e st β' a' w' hn' hk hx hr) ?_
 intro st1 β1 a1 w1 h1 hx1 hr1
 refine Hd.step (n := 402) Ew2_ok hcall h1 hr1 hx1 (fun e st β' a' w' hn' hk hx hr => hKl e st β' a' w' hn' hk hx hr) ?_
 intro st2 β2 a2 w2 h2 hx2 hr2
 refine Hd.step (n := 401) Ew2_ok hcall h2 hr2 hx2 (fun e st β' a' w' hn' hk hx hr => hKl e st β' a' w' hn' hk hx hr) ?_
 intro st3 β3 a3 w3 h3 hx3 hr3
 refine Hd.step (n := 400) Ew2_ok hcall h3 hr3 hx3 (fun e st β' a' w' hn' hk hx hr => hKl e st β' a' w' hn' hk hx hr) ?_
 intro st4 β4 a4 w4 h4 hx4 hr4
 refine wp_seq (wp_seq (Hd.code Ew2_ok hcall 400 r5 hr4 (h4.mono ?_)))
 rintro ⟨e, st5⟩ hk β5 a5 w5 hx5 hr5
 have hx50 := Ext.trans (fun _ _ => rfl) hr4.free hx4 hx5
 cases e with
 | ret => exact hKl .ret st5 β5 a5 w5 trivial hk hx50 hr5
 | exit id => exact hKl (.exit id) st5 β5 a5 w5 trivial hk hx50 hr5
 | goto i => exact hKl (.goto i) st5 β5 a5 w5 trivial hk hx50 hr5
 | normal =>
  have hk' : KW (vwB .go st5) := hk
  rcases vwB_at .go st5 with g1 | ⟨n, bit, a, b, c, d, t, u, g1, g2, g3⟩
  ·rw [g1, hKW] at hk'; exact hk'.elim
  rw [g1, hKW] at hk'
  obtain ⟨⟨rfl, rfl, rfl, rfl, rfl, rfl⟩, c0⟩ := hk'
  have hr6 := g3 _ _ _ hr5
  rw [g2] at hx50
  show (Code.block 0 (.loop rX)).wp _ _ _ _
  refine wp_block (wp_loop (JB a b w) (fun a _ => muB a) ⟨β5, 0, 288230376151711744, t, u, 60, hr6, hx50, by omega, by omega, by decide, rfl⟩ ?_)
  rintro ac w6 ⟨β, n, bit, t', u', k, hr, he, b0, b1, hkk, hrun⟩
  refine Hd.code Ew2_ok hcall 400 rX hr ((round_holds a b k n bit t' u' b0 b1 hkk hrun).mapV.mono ?_)
  rintro ⟨e, st7⟩ hv β7 a7 w7 hx7 hr7
  have hx70 := Ext.trans (fun _ _ => rfl) hr.free he hx7
  cases e with
  | ret =>
   rcases rtB_is st7 with q | ⟨_, _, q⟩
   ·have hv' := hv
    simp only [viewB, q] at hv'
   ·have hv' := hv
    simp only [viewB, q] at hv'
  | goto i => exact hv.elim
  | normal =>
   rcases vwB_at .go st7 with q | ⟨n1, bit1, x1, y1, c1, d1, t1, u1, q, q2, q3⟩
   ·have hv' := hv
    simp only [viewB, q] at hv'
   ·have hv' := hv
    simp only [viewB, q] at hv'
    obtain ⟨rfl, rfl, rfl, rfl, v1, v2, ⟨k', v3, v4⟩, v5⟩ := hv'
    rw [q2] at hx70
    exact ⟨⟨β7, n1, bit1, t1, u1, k', q3 _ _ _ hr7, hx70, v1, v2, v3, v4⟩, by rw [muB_J hr, muB_J (q3 _ _ _ hr7)]; exact v5⟩
  | exit id =>
   match id with
   | id + 1 => exact hv.elim
   | 0 =>
    rcases vwB_at .ex st7 with q | ⟨n1, bit1, x1, y1, c1, d1, t1, u1, q, q2, q3⟩
    ·have hv' := hv
     simp only [viewB, q] at hv'
    ·have hv' := hv
     simp only [viewB, q] at hv'
     obtain ⟨rfl, rfl, rfl, rfl, v1⟩ := hv'
     rw [q2] at hx70
     have hr8 := q3 _ _ _ hr7
     show rEnd.wp _ _ _ _
     refine Hd.code Ew2_ok hcall 400 rEnd hr8 ((end_holds x1 y1 n1 bit1 t1 u1 c0 v1).mapV.mono ?_)
     rintro ⟨e, st9⟩ hke β9 a9 w9 hx9 hr9
     have hx90 := Ext.trans (fun _ _ => rfl) hr8.free hx70 hx9
     cases e with
     | normal =>
      have hke' : KE (f224 x1 y1) (vwB .go st9) := hke
      rcases vwB_at .go st9 with p | ⟨_, _, _, _, _, _, _, _, p, -⟩ <;> (rw [p] at hke'; exact hke'.elim)
     | ret => exact KE_leaf (K := KE (f224 x1 y1)) (fun _ _ h => h) (fun h => h) (fun _ _ _ _ _ _ _ _ h => h) hR .ret st9 β9 a9 w9 trivial hke hx90 hr9
     | exit id => exact KE_leaf (K := KE (f224 x1 y1)) (fun _ _ h => h) (fun h => h) (fun _ _ _ _ _ _ _ _ h => h) hR (.exit id) st9 β9 a9 w9 trivial hke hx90 hr9
     | goto i => exact KE_leaf (K := KE (f224 x1 y1)) (fun _ _ h => h) (fun h => h) (fun _ _ _ _ _ _ _ _ h => h) hR (.goto i) st9 β9 a9 w9 trivial hke hx90 hr9
noncomputable def g224 (p : Int × Bool) : SV := .tuple [iv p.1, bv p.2]
noncomputable def S224 : Summ
 | [.v (.agg [.int .i64 I0, .int .i64 I1])] => some (g224 (f224 I0.val I1.val))
 | _ => none
theorem S224_ok : SummFn Go.Proofs.Tryz.prog 224 S224 := by
 intro fs r h w vs hv
 unfold S224 at h
 split at h
 ·rename_i a0 a1
  cases h
  simp only [SArels, SArel, SV.rel, relL] at hv
  obtain ⟨_, _, ⟨_, ⟨_, _, ⟨rfl, r0⟩, ⟨_, _, ⟨rfl, r1⟩, rfl, rfl⟩, rfl⟩, rfl⟩, rfl, rfl⟩ := hv
  refine (wide56 a0.val a1.val r0 r1 w).mono ?_
  rintro e w' ⟨⟨rfl, hg⟩, hb⟩
  refine ⟨⟨_, rfl, ?_⟩, hb⟩
  simp only [g224, SV.rel, relL]
  exact ⟨_, ⟨_, _, ⟨rfl, hg⟩, ⟨_, _, rfl, rfl, rfl⟩, rfl⟩, rfl⟩
 ·cases h
end Go.Proofs.YtdchdajjhofmnaaGreat
