/- root.Wide, walked: its loop is a label and a goto; each pass is run by the executor. -/
import Derived.Test.YtdchdajjhofmnaaGreatGb
import Derived.ScopeJumps
namespace Go.Proofs.YtdchdajjhofmnaaGreat
open Go Go.RowKit Go.Proofs Go.Sx
set_option linter.unusedVariables false
set_option linter.unusedSimpArgs false
noncomputable def sqLe (h l m : Int) : Bool := decide (f283 (f259 m m).1 (f259 m m).2 h l ≤ 0)
noncomputable def bs (h l : Int) : Nat → Int → Int → Int
 | 0, lo, _ => lo
 | k + 1, lo, hi => bif decide (lo < hi) then (bif sqLe h l (hi - (hi - lo) / 2) then bs h l k (hi - (hi - lo) / 2) hi else bs h l k lo (hi - (hi - lo) / 2 - 1)) else lo
theorem bs_next (h l : Int) (k : Nat) {lo hi : Int} (hlt : lo < hi) : bs h l (k + 1) lo hi = bif sqLe h l (hi - (hi - lo) / 2) then bs h l k (hi - (hi - lo) / 2) hi else bs h l k lo (hi - (hi - lo) / 2 - 1) := by
 simp only [bs, hlt, decide_true, cond_true]
theorem bs_end (h l : Int) (k : Nat) {lo hi : Int} (hlt : ¬ lo < hi) : bs h l k lo hi = lo := by
 cases k <;> simp [bs, hlt]
noncomputable def rootOf (bad : Bool) (h l n : Int) : Int × Bool :=
 bif decide (n < 288230376151711744) then (n, bad) else (n, decide (f283 (f284 (f259 n n).1 (f259 n n).2 (f285 576460752303423489).1 (f285 576460752303423489).2).1 (f284 (f259 n n).1 (f259 n n).2 (f285 576460752303423489).1 (f285 576460752303423489).2).2.1 h l ≤ 0))
noncomputable def f231 (h l : Int) : Int × Bool :=
 bif f282 h l then (bif decide (h < 0) then (0, true) else rootOf false h l (bs h l 60 0 288230376151711744)) else rootOf true 0 0 (bs 0 0 60 0 288230376151711744)
noncomputable def Ew : Env := ⟨Go.Proofs.Tryz.prog, [(259, S259), (284, S284), (285, S285), (283, S283), (282, S282)], 3, 336, true, [], [], [], []⟩
theorem Ew_ok : Ew.Ok := envOk' (S := [(259, S259), (284, S284), (285, S285), (283, S283), (282, S282)]) ⟨S259_ok, S284_ok, S285_ok, S283_ok, S282_ok, trivial⟩
inductive LV where
 | go (bad : Bool) (lo hi a b : Int) (t : Tag)
 | rt (n : Int) (c : Bool)
 | none
noncomputable def viewGo (st : St) : LV := match Nat.beq st.slots.length 53, nth st.slots 1, nth st.slots 4, nth st.slots 5, nth st.slots 6, st.heap with
 | true, some (.val (.ptr 0 0)), some (.val (.bool bad)), some (.val (.int .i64 lo)), some (.val (.int .i64 hi)), [some ([.int .i64 a, .int .i64 b], t)] => .go bad.val lo.val hi.val a.val b.val t
 | _, _, _, _, _, _ => .none
noncomputable def viewGo' (st : St) : LV := match Nat.beq st.slots.length 53, nth st.slots 1, nth st.slots 4, nth st.slots 5, nth st.slots 6, st.heap with
 | true, some (.val (.ptr 0 0)), some (.val (.bool bad)), some (.val (.int .i64 lo)), some (.val (.int .i64 hi)), [some ([.int .i64 (.sym a), .int .i64 (.sym b)], t)] => .go bad.val lo.val hi.val a b t
 | _, _, _, _, _, _ => .none
noncomputable def viewRt (st : St) : LV := match resultS Go.Proofs.Tryz.prog st Tryz.f231.results.toList with
 | some [.int .i64 n, .bool c] => .rt n.val c.val
 | _ => .none
noncomputable def view : Ex × St → LV
 | (.goto 0, st) => viewGo st
 | (.ret, st) => viewRt st
 | _ => .none
noncomputable def view' : Ex × St → LV
 | (.goto 0, st) => viewGo' st
 | (.ret, st) => viewRt st
 | _ => .none
def T.mapV {α γ : Type} (f : α → γ) : T α → T γ
 | .ret a => .ret (f a)
 | .ite b x y => .ite b (T.mapV f x) (T.mapV f y)
 | .fail => .fail
theorem T.mapV_holds {α γ : Type} {f : α → γ} {K : γ → Prop} : ∀ {t : T α}, (T.mapV f t).Holds K → t.Holds (fun a => K (f a))
 | .ret _, h => h
 | .ite _ _ _, h => ⟨fun e => T.mapV_holds (h.1 e), fun e => T.mapV_holds (h.2 e)⟩
 | .fail, h => h
structure Hd {α : Type} (t : T α) (K : α → Prop) : Prop where
 out : t.Holds K
theorem Hd.bind {α γ : Type} {K : γ → Prop} {t : T α} {f : α → T γ} (h : Hd (t.bind f) K) : Hd t (fun a => Hd (f a) K) := ⟨T.Holds.mono (fun _ h => ⟨h⟩) (T.Holds.bind h.out)⟩
theorem Hd.mapV {α γ : Type} {f : α → γ} {K : γ → Prop} {t : T α} (h : Hd (T.mapV f t) K) : Hd t (fun a => K (f a)) := ⟨T.mapV_holds h.out⟩
theorem Hd.mono {α : Type} {K K' : α → Prop} {t : T α} (h : Hd t K) (hk : ∀ a, K a → K' a) : Hd t K' := ⟨T.Holds.mono hk h.out⟩
theorem T.Holds.and {α : Type} {K K' : α → Prop} : ∀ {t : T α}, t.Holds K → t.Holds K' → t.Holds (fun a => K a ∧ K' a)
 | .ret _, h, h' => ⟨h, h'⟩
 | .ite _ _ _, h, h' => ⟨fun e => T.Holds.and (h.1 e) (h'.1 e), fun e => T.Holds.and (h.2 e) (h'.2 e)⟩
 | .fail, h, _ => h
theorem Hd.and {α : Type} {K K' : α → Prop} {t : T α} (h : Hd t K) (h' : Hd t K') : Hd t (fun a => K a ∧ K' a) := ⟨T.Holds.and h.out h'.out⟩
theorem Hd.code {E : Env} (hE : E.Ok) {call : CallF} (hcall : CallOk E.P call) (n : Nat) (c : Code) {st : St} {β : Lab} {a : Act} {w : World} {Q : Exit → Act → World → Prop} (h : Rel β st a w)
  (hK : Hd (symCode E call n c st) fun r => ∀ β' a' w', Ext β st.heap w β' r.2.heap w' → Rel β' r.2 a' w' → Q r.1.toExit a' w') : c.wp E.P Q a w := symCode_sound hE hcall n c h hK.out
noncomputable def stJ (bad : Bool) (lo hi a b : Int) (t : Tag) : St :=
 ⟨[.none, .val (.ptr 0 0), .none, .none, .val (.bool (.sym bad)), .val (.int .i64 (.sym lo)), .val (.int .i64 (.sym hi))] ++ List.replicate 46 .none, [some ([.int .i64 (.sym a), .int .i64 (.sym b)], t)]⟩
noncomputable def st0 (h l : Int) : St := ⟨[.val (.agg [.int .i64 (.sym h), .int .i64 (.sym l)])] ++ List.replicate 52 (.val undefS), []⟩
noncomputable def codeA : Code := match Tryz.f231.body with | some (.seq r _) => r | _ => .skip
noncomputable def codeB : Code := match Tryz.f231.body with | some (.seq _ (.scope c)) => c | _ => .skip
noncomputable def codeR : Code := (findLabel codeB 0).getD .skip
noncomputable def midE (lo hi : Int) : Int := IntKind.i64.wrap (hi - IntKind.i64.wrap ((IntKind.i64.wrap (hi - lo)).tdiv 2))
noncomputable def endE (bad : Bool) (lo a b : Int) : T LV :=
 .ite (decide (lo < 288230376151711744)) (.ret (.rt lo bad)) (.ret (.rt lo (decide (f283 (f284 (f259 lo lo).1 (f259 lo lo).2 (f285 576460752303423489).1 (f285 576460752303423489).2).1 (f284 (f259 lo lo).1 (f259 lo lo).2 (f285 576460752303423489).1 (f285 576460752303423489).2).2.1 a b ≤ 0))))
theorem passE (bad : Bool) (lo hi a b : Int) (t : Tag) : T.mapV view' (symCode Ew (symCall Ew 20) 400 codeR (stJ bad lo hi a b t)) =
  .ite (decide (lo < hi)) (.ite (sqLe a b (midE lo hi)) (.ret (.go bad (midE lo hi) hi a b t)) (.ret (.go bad lo (IntKind.i64.wrap (midE lo hi - 1)) a b t))) (endE bad lo a b) := by
 kernel_rfl
noncomputable def goE (bad : Bool) (a b : Int) (t : Tag) : T LV :=
 .ite (sqLe a b 144115188075855872) (.ret (.go bad 144115188075855872 288230376151711744 a b t)) (.ret (.go bad 0 144115188075855871 a b t))
theorem firstE (h l : Int) : T.mapV view (symCode Ew (symCall Ew 20) (400 + 1) (.seq codeA codeB) (st0 h l)) =
  .ite (!f282 h l) (goE (!f282 h l) 0 0 ⟨237, none, 1, [1, 1], none⟩) (.ite (decide (h < 0)) (.ret (.rt 0 true)) (goE (!f282 h l) h l ⟨237, none, 0, [], none⟩)) := by
 kernel_rfl
theorem Rel.toJ {β : Lab} {st : St} {a : Act} {w : World} {bad : SB} {lo hi x y : SI} {t : Tag} (h : Rel β st a w) (hl : st.slots.length = 53) (h1 : nth st.slots 1 = some (.val (.ptr 0 0))) (h4 : nth st.slots 4 = some (.val (.bool bad)))
  (h5 : nth st.slots 5 = some (.val (.int .i64 lo))) (h6 : nth st.slots 6 = some (.val (.int .i64 hi))) (hh : st.heap = [some ([.int .i64 x, .int .i64 y], t)]) : Rel β (stJ bad.val lo.val hi.val x.val y.val t) a w := by
 refine ⟨by rw [h.size, hl]; rfl, fun k e he => ?_, ⟨fun l o ho => ?_, h.hr.inj, h.hr.lt, h.hr.fz⟩, fun l hl' => h.free l (by rw [hh]; exact hl'), h.defers⟩
 ·have f1 := h.fact 1 _ h1
  have f4 := h.fact 4 _ h4
  have f5 := h.fact 5 _ h5
  have f6 := h.fact 6 _ h6
  simp only [stJ, nth_append] at he
  split at he
  ·rename_i hk
   match k, hk with
   | 0, _ => simp only [nth, Option.some.injEq] at he; subst he; trivial
   | 1, _ => simp only [nth, Option.some.injEq] at he; subst he; exact f1
   | 2, _ => simp only [nth, Option.some.injEq] at he; subst he; trivial
   | 3, _ => simp only [nth, Option.some.injEq] at he; subst he; trivial
   | 4, _ => simp only [nth, Option.some.injEq] at he; subst he; simpa [EntFact, SV.rel, SB.val] using f4
   | 5, _ => simp only [nth, Option.some.injEq] at he; subst he; simpa [EntFact, SV.rel, SI.val] using f5
   | 6, _ => simp only [nth, Option.some.injEq] at he; subst he; simpa [EntFact, SV.rel, SI.val] using f6
   | k + 7, hk => exact absurd hk (by simp)
  ·rw [nth_eq, List.getElem?_replicate] at he
   split at he <;> simp only [Option.some.injEq, reduceCtorEq] at he
   subst he; trivial
 ·have hl0 : l = 0 := by have := hpOf_lt ho; simp [stJ] at this; exact this
  subst hl0
  simp only [stJ, hpOf, nth, Option.some.injEq] at ho; subst ho
  obtain ⟨b, vs, rest, a1, a2, a3, a4, a5⟩ := h.hr.obj 0 ([.int .i64 x, .int .i64 y], t) (by rw [hh]; rfl)
  exact ⟨b, vs, rest, a1, by simpa [relL, SV.rel, SI.val] using a2, a3, a4, a5⟩
def KV (w0 : World) (G : Bool → Int → Int → Int → Int → Tag → Prop) (R : Ending → World → Prop) (β : Lab) (H : SHeap) (w : World) (J : Act → World → Prop) : LV → Prop
 | .go bad lo hi a b t => G bad lo hi a b t ∧ ∀ β' a' w', Ext β H w β' (stJ bad lo hi a b t).heap w' → Rel β' (stJ bad lo hi a b t) a' w' → J a' w'
 | .rt n c => ∀ w', Below w0.heap.size w0 w' → Rg .i64 n → R (.returned (.tuple #[.int .i64 n, .bool c])) w'
 | .none => False
theorem viewRt_at {st : St} {n : Int} {c : Bool} (h : viewRt st = .rt n c) : ∃ (sn : SI) (sc : SB), resultS Go.Proofs.Tryz.prog st Tryz.f231.results.toList = some [.int .i64 sn, .bool sc] ∧ sn.val = n ∧ sc.val = c := by
 unfold viewRt at h
 split at h <;> simp only [LV.rt.injEq, reduceCtorEq] at h
 rename_i sn sc hr
 exact ⟨sn, sc, hr, h.1, h.2⟩
theorem viewGo_at {st : St} {bad : Bool} {lo hi a b : Int} {t : Tag} (h : viewGo st = .go bad lo hi a b t) {β : Lab} {ac : Act} {w : World} (hr : Rel β st ac w) :
  Rel β (stJ bad lo hi a b t) ac w ∧ (∀ l, hpOf (stJ bad lo hi a b t).heap l = none ↔ hpOf st.heap l = none) ∧ st.heap.length = 1 := by
 unfold viewGo at h
 split at h <;> simp only [LV.go.injEq, reduceCtorEq] at h
 rename_i bad' lo' hi' a' b' t' h0 h1 h4 h5 h6 hh
 obtain ⟨rfl, rfl, rfl, rfl, rfl, rfl⟩ := h
 refine ⟨Rel.toJ hr (by simpa using h0) h1 h4 h5 h6 hh, fun l => ?_, by rw [hh]; rfl⟩
 rw [hh]; cases l <;> simp [stJ, hpOf, nth]
theorem viewGo'_at {st : St} {bad : Bool} {lo hi a b : Int} {t : Tag} (h : viewGo' st = .go bad lo hi a b t) {β : Lab} {ac : Act} {w : World} (hr : Rel β st ac w) :
  Rel β (stJ bad lo hi a b t) ac w ∧ (stJ bad lo hi a b t).heap = st.heap := by
 unfold viewGo' at h
 split at h <;> simp only [LV.go.injEq, reduceCtorEq] at h
 rename_i bad' lo' hi' a' b' t' h0 h1 h4 h5 h6 hh
 obtain ⟨rfl, rfl, rfl, rfl, rfl, rfl⟩ := h
 exact ⟨Rel.toJ hr (by simpa using h0) h1 h4 h5 h6 hh, hh.symm⟩
theorem rt_end {β0 β' : Lab} {H : SHeap} {w0 w w' : World} {st : St} {a' : Act} {n : Int} {c : Bool} {R : Ending → World → Prop} (hrt : viewRt st = .rt n c) (hrel : Rel β' st a' w') (hb : Below w0.heap.size w0 w')
  (hR : ∀ w', Below w0.heap.size w0 w' → Rg .i64 n → R (.returned (.tuple #[.int .i64 n, .bool c])) w') : bodyPost Go.Proofs.Tryz.prog Tryz.f231 R .ret a' w' := by
 obtain ⟨sn, sc, h1, rfl, rfl⟩ := viewRt_at hrt
 obtain ⟨v, h2, h3⟩ := results_sound hrel h1
 simp only [resultV, SV.rel, relL] at h3
 obtain ⟨_, ⟨_, _, ⟨rfl, hg⟩, ⟨_, _, rfl, rfl, rfl⟩, rfl⟩, rfl⟩ := h3
 exact ⟨hrel.defers, _, h2, hR w' hb hg⟩
theorem tdiv2 (x : Int) (h : 0 ≤ x) : x.tdiv 2 = x / 2 := Int.tdiv_eq_ediv_of_nonneg h
theorem mid_eq {lo hi : Int} (h0 : 0 ≤ lo) (h1 : lo ≤ hi) (h2 : hi ≤ 288230376151711744) : midE lo hi = hi - (hi - lo) / 2 := by
 have hw : ∀ n : Int, -9223372036854775808 ≤ n → n < 9223372036854775808 → IntKind.i64.wrap n = n := fun n a b => (rg_iff (k := .i64)).2 ⟨a, by simp only [hiK]; omega⟩
 unfold midE
 rw [hw (hi - lo) (by omega) (by omega), tdiv2 _ (by omega), hw ((hi - lo) / 2) (by omega) (by omega), hw _ (by omega) (by omega)]
noncomputable def muW (a : Act) : Nat := (intOf (a.tmps.getD 6 undef) - intOf (a.tmps.getD 5 undef)).toNat
theorem muW_J {β : Lab} {bad : Bool} {lo hi a b : Int} {t : Tag} {ac : Act} {w : World} (h : Rel β (stJ bad lo hi a b t) ac w) : muW ac = (hi - lo).toNat := by
 obtain ⟨y5, e5, r5⟩ := h.fact 5 _ rfl
 obtain ⟨y6, e6, r6⟩ := h.fact 6 _ rfl
 simp only [SV.rel, SI.val] at r5 r6
 simp [muW, Array.getD_eq_getD_getElem?, e5, e6, r5.1, r6.1, intOf]
noncomputable def JW (h l : Int) (w : World) (ac : Act) (w' : World) : Prop :=
 ∃ β bad lo hi a b t k, Rel β (stJ bad lo hi a b t) ac w' ∧ Ext noLab [] w β (stJ bad lo hi a b t).heap w' ∧ 0 ≤ lo ∧ lo ≤ hi ∧ hi ≤ 288230376151711744 ∧ hi - lo < 2 ^ k ∧ rootOf bad a b (bs a b k lo hi) = f231 h l
theorem rel0 (h l : Int) (hh : Rg .i64 h) (hl : Rg .i64 l) (w : World) : Rel noLab (st0 h l) { tmps := #[.agg #[.int .i64 h, .int .i64 l]] ++ Array.replicate 52 undef, defers := [] } w := by
 refine ⟨by simp [st0], fun x e he => ?_, ⟨fun l o h => by simp [st0, hpOf, nth] at h, fun l l' b _ _ h => by simp [noLab] at h, fun l b _ h => by simp [noLab] at h, fun b c h => by simp [noLab] at h⟩, fun _ _ => rfl, rfl⟩
 simp only [st0, nth_append] at he
 split at he
 ·rename_i hx
  match x, hx with
  | 0, _ =>
   simp only [nth, Option.some.injEq] at he; subst he
   refine ⟨.agg #[.int .i64 h, .int .i64 l], by simp, ?_⟩
   simp only [SV.rel, relL, SI.val]
   exact ⟨_, ⟨_, _, ⟨rfl, hh⟩, ⟨_, _, ⟨rfl, hl⟩, rfl, rfl⟩, rfl⟩, rfl⟩
  | x + 1, hx => exact absurd hx (by simp)
 ·rename_i hx
  rw [nth_eq, List.getElem?_replicate] at he
  split at he <;> simp only [Option.some.injEq, reduceCtorEq] at he
  rename_i hx2; subst he
  refine ⟨undef, ?_, by simp [undefS, SV.rel, undef, relL_nil]⟩
  rw [Array.getElem?_append_right (by simp at hx ⊢; omega), Array.getElem?_replicate, if_pos (by simp at hx hx2 ⊢; omega)]
theorem go_holds (h l : Int) (w : World) (R : Ending → World → Prop) (N : Nat) (bad : Bool) (a b : Int) (t : Tag) (hN : N = 59) (he : rootOf bad a b (bs a b (N + 1) 0 288230376151711744) = f231 h l) :
  (goE bad a b t).Holds (KV w (fun _ _ _ _ _ _ => True) R noLab [] w (JW h l w)) := by
 rw [bs_next a b N (by omega)] at he
 rw [show (288230376151711744 - (288230376151711744 - 0) / 2 : Int) = 144115188075855872 by omega, show (144115188075855872 - 1 : Int) = 144115188075855871 by omega] at he
 have hp : (288230376151711744 : Int) ≤ 2 ^ N := by rw [hN]; decide
 refine ⟨fun e => ⟨trivial, fun β' a' w' hx hr => ?_⟩, fun e => ⟨trivial, fun β' a' w' hx hr => ?_⟩⟩
 ·rw [e] at he; exact ⟨β', bad, _, _, a, b, t, N, hr, hx, by omega, by omega, by omega, by omega, he⟩
 ·rw [e] at he; exact ⟨β', bad, _, _, a, b, t, N, hr, hx, by omega, by omega, by omega, by omega, he⟩
theorem first_holds (h l : Int) (w : World) (R : Ending → World → Prop) (hR : ∀ n c, (n, c) = f231 h l → ∀ w', Below w.heap.size w w' → Rg .i64 n → R (.returned (.tuple #[.int .i64 n, .bool c])) w') :
  Hd (T.mapV view (symCode Ew (symCall Ew 20) (400 + 1) (.seq codeA codeB) (st0 h l))) (KV w (fun _ _ _ _ _ _ => True) R noLab [] w (JW h l w)) := by
 rw [firstE]
 refine ⟨⟨fun e => go_holds h l w R 59 _ _ _ _ rfl ?_, fun e => ⟨fun e' => ?_, fun e' => go_holds h l w R 59 _ _ _ _ rfl ?_⟩⟩⟩
 ·have e1 : f282 h l = false := by simpa using e
  unfold f231; rw [e1]; rfl
 ·have e1 : f282 h l = true := by simpa using e
  exact hR 0 true (by unfold f231; rw [e1, e']; rfl)
 ·have e1 : f282 h l = true := by simpa using e
  unfold f231; rw [e1, e']; rfl
theorem pass_holds (h l : Int) (w : World) (R : Ending → World → Prop) (hR : ∀ n c, (n, c) = f231 h l → ∀ w', Below w.heap.size w w' → Rg .i64 n → R (.returned (.tuple #[.int .i64 n, .bool c])) w')
  {β : Lab} {bad : Bool} {lo hi a b : Int} {t : Tag} {k : Nat} {ac : Act} {w1 : World} (hr : Rel β (stJ bad lo hi a b t) ac w1) (he : Ext noLab [] w β (stJ bad lo hi a b t).heap w1) (h0 : 0 ≤ lo) (h1 : lo ≤ hi) (h2 : hi ≤ 288230376151711744) (h3 : hi - lo < 2 ^ k)
  (h4 : rootOf bad a b (bs a b k lo hi) = f231 h l) :
  Hd (T.mapV view' (symCode Ew (symCall Ew 20) 400 codeR (stJ bad lo hi a b t))) (KV w (fun _ _ _ _ _ _ => True) R β (stJ bad lo hi a b t).heap w1 (fun a' w' => JW h l w a' w' ∧ muW a' < muW ac)) := by
 rw [passE]
 refine ⟨⟨fun e => ?_, fun e => ?_⟩⟩
 ·have hlt : lo < hi := of_decide_eq_true e
  obtain ⟨k, rfl⟩ : ∃ k', k = k' + 1 := by
   cases k with
   | zero => exfalso; rw [Int.pow_zero] at h3; omega
   | succ k => exact ⟨k, rfl⟩
  rw [bs_next a b k hlt] at h4
  rw [Int.pow_succ] at h3
  have hm := mid_eq h0 h1 h2
  have hw : IntKind.i64.wrap (hi - (hi - lo) / 2 - 1) = hi - (hi - lo) / 2 - 1 := (rg_iff (k := .i64)).2 ⟨by simp only [loK]; omega, by simp only [hiK]; omega⟩
  rw [hm, hw]
  refine ⟨fun e' => ⟨trivial, fun β' a' w' hx hr' => ⟨?_, ?_⟩⟩, fun e' => ⟨trivial, fun β' a' w' hx hr' => ⟨?_, ?_⟩⟩⟩
  ·rw [e'] at h4
   exact ⟨β', bad, _, _, a, b, t, k, hr', Ext.trans (fun _ _ => rfl) hr.free he hx, by omega, by omega, by omega, by omega, h4⟩
  ·rw [muW_J hr, muW_J hr']; omega
  ·rw [e'] at h4
   exact ⟨β', bad, _, _, a, b, t, k, hr', Ext.trans (fun _ _ => rfl) hr.free he hx, by omega, by omega, by omega, by omega, h4⟩
  ·rw [muW_J hr, muW_J hr']; omega
 ·have hlt : ¬ lo < hi := of_decide_eq_false e
  rw [bs_end a b k hlt] at h4
  unfold rootOf at h4
  refine ⟨fun e' => ?_, fun e' => ?_⟩
  ·rw [e'] at h4; exact hR _ _ h4
  ·rw [e'] at h4; exact hR _ _ h4
theorem view'_leaf {w0 : World} {R : Ending → World → Prop} {β : Lab} {H : SHeap} {w1 : World} {J : Act → World → Prop} (hE : Ext noLab [] w0 β H w1) (hf : ∀ l, H.length ≤ l → β l = none) (r : Ex × St) (h : KV w0 (fun _ _ _ _ _ _ => True) R β H w1 J (view' r)) :
  ∀ β' a' w', Ext β H w1 β' r.2.heap w' → Rel β' r.2 a' w' → Exit.jump 0 J (bodyPost Go.Proofs.Tryz.prog Tryz.f231 R) r.1.toExit a' w' := by
 intro β' a' w' hx hr
 obtain ⟨e, st⟩ := r
 cases e with
 | normal => exact h.elim
 | exit id => exact h.elim
 | ret =>
  have h' : KV w0 (fun _ _ _ _ _ _ => True) R β H w1 J (viewRt st) := h
  cases hv : viewRt st with
  | go => unfold viewRt at hv; split at hv <;> simp at hv
  | none => rw [hv] at h'; exact h'.elim
  | rt n c =>
   rw [hv] at h'
   exact rt_end (H := H) (β0 := β) (w := w1) hv hr ((Ext.trans (fun _ _ => rfl) hf hE hx).below (fun _ => rfl)) h'
 | goto l =>
  match l with
  | 0 =>
   have h' : KV w0 (fun _ _ _ _ _ _ => True) R β H w1 J (viewGo' st) := h
   cases hv : viewGo' st with
   | rt => unfold viewGo' at hv; split at hv <;> simp at hv
   | none => rw [hv] at h'; exact h'.elim
   | go bad lo hi a b t =>
    rw [hv] at h'
    obtain ⟨k1, k2⟩ := viewGo'_at hv hr
    exact ⟨rfl, h'.2 β' a' w' (by rw [k2]; exact hx) k1⟩
  | l + 1 => exact h.elim
theorem view_leaf {w0 : World} {R : Ending → World → Prop} {β : Lab} {H : SHeap} {w1 : World} {J : Act → World → Prop} (hE : Ext noLab [] w0 β H w1) (hf : ∀ l, H.length ≤ l → β l = none) (r : Ex × St) (h : KV w0 (fun _ _ _ _ _ _ => True) R noLab [] w0 J (view r)) :
  ∀ β' a' w', Ext β H w1 β' r.2.heap w' → Rel β' r.2 a' w' → Exit.jump 0 J (bodyPost Go.Proofs.Tryz.prog Tryz.f231 R) r.1.toExit a' w' := by
 intro β' a' w' hx hr
 obtain ⟨e, st⟩ := r
 have hx0 := Ext.trans (fun _ _ => rfl) hf hE hx
 cases e with
 | normal => exact h.elim
 | exit id => exact h.elim
 | ret =>
  have h' : KV w0 (fun _ _ _ _ _ _ => True) R noLab [] w0 J (viewRt st) := h
  cases hv : viewRt st with
  | go => unfold viewRt at hv; split at hv <;> simp at hv
  | none => rw [hv] at h'; exact h'.elim
  | rt n c =>
   rw [hv] at h'
   exact rt_end (H := H) (β0 := β) (w := w1) hv hr (hx0.below (fun _ => rfl)) h'
 | goto l =>
  match l with
  | 0 =>
   have h' : KV w0 (fun _ _ _ _ _ _ => True) R noLab [] w0 J (viewGo st) := h
   cases hv : viewGo st with
   | rt => unfold viewGo at hv; split at hv <;> simp at hv
   | none => rw [hv] at h'; exact h'.elim
   | go bad lo hi a b t =>
    rw [hv] at h'
    obtain ⟨k1, k2, k3⟩ := viewGo_at hv hr
    refine ⟨rfl, h'.2 β' a' w' ⟨hx0.ext, fun l b hb => ?_, Nat.zero_le _, fun l o hl => absurd hl (Nat.not_lt_zero _), fun b hb _ => hx0.frame b hb (fun l hl => by simp [noLab] at hl), hx0.size, hx0.os, hx0.tape, hx0.output, fun b c h => (hx0.fzn b c h).imp (fun h => h) (Or.imp (fun h => h) fun ⟨l, o, h1, _⟩ => by simp [noLab] at h1)⟩ k1⟩
    rcases hx0.new l b hb with h1 | ⟨h1, h2 | ⟨l0, o, h2, _⟩ | h2⟩
    ·exact .inl h1
    ·exact .inr ⟨h1, .inl h2⟩
    ·simp [noLab] at h2
    ·exact .inr ⟨h1, .inr (.inr ((k2 l).2 h2))⟩
  | l + 1 => exact h.elim
theorem codeA_normal (h l : Int) : T.mapV (fun r : Ex × St => match r.1 with | .normal => true | _ => false) (symCode Ew (symCall Ew 20) 400 codeA (st0 h l)) = .ret true := by kernel_rfl
theorem symCode_seq (E : Env) (call : CallF) (n : Nat) (x y : Code) (s : St) : symCode E call (n + 1) (.seq x y) s = (symCode E call n x s).bind fun r => match r.1 with | .normal => symCode E call n y r.2 | e => .ret (e, r.2) := rfl
noncomputable def bindB (r : Ex × St) : T (Ex × St) := match r.1 with | .normal => symCode Ew (symCall Ew 20) 400 codeB r.2 | e => .ret (e, r.2)
theorem seqAB (h l : Int) : symCode Ew (symCall Ew 20) (400 + 1) (.seq codeA codeB) (st0 h l) = (symCode Ew (symCall Ew 20) 400 codeA (st0 h l)).bind bindB := symCode_seq _ _ _ _ _ _
theorem A_normal (h l : Int) : Hd (symCode Ew (symCall Ew 20) 400 codeA (st0 h l)) (fun r => (match r.1 with | .normal => true | _ => false) = true) := by
 have h1 : Hd (T.mapV (fun r : Ex × St => match r.1 with | .normal => true | _ => false) (symCode Ew (symCall Ew 20) 400 codeA (st0 h l))) (fun x => x = true) := by
  rw [codeA_normal]; exact ⟨rfl⟩
 exact h1.mapV
set_option maxRecDepth 100000 in
theorem wide91 (h l : Int) (hh : Rg .i64 h) (hl : Rg .i64 l) (w : World) :
  Calls Go.Proofs.Tryz.prog 231 #[.agg #[.int .i64 h, .int .i64 l]] w fun e w' => (e = .returned (.tuple #[.int .i64 (f231 h l).1, .bool (f231 h l).2]) ∧ Rg .i64 (f231 h l).1) ∧ Below w.heap.size w w' := by
 obtain ⟨R, hRd⟩ : ∃ R : Ending → World → Prop, R = fun e w' => (e = .returned (.tuple #[.int .i64 (f231 h l).1, .bool (f231 h l).2]) ∧ Rg .i64 (f231 h l).1) ∧ Below w.heap.size w w' := ⟨_, rfl⟩
 rw [← hRd]
 have hR : ∀ n c, (n, c) = f231 h l → ∀ w', Below w.heap.size w w' → Rg .i64 n → R (.returned (.tuple #[.int .i64 n, .bool c])) w' := fun n c e w' hb hg => by
  rw [hRd]; rw [← e]; exact ⟨⟨rfl, hg⟩, hb⟩
 clear hRd
 refine calls_of_wp Tryz.func231 (c := .seq codeA (.scope codeB)) (by kernel_rfl) (wp_seq ?_)
 have hn : Tryz.f231.ntmps - (#[Value.agg #[.int .i64 h, .int .i64 l]] : Array Value).size = 52 := by kernel_rfl
 rw [hn]
 have hrel0 := rel0 h l hh hl w
 have h1 := first_holds h l w R hR
 rw [seqAB] at h1
 have hA := h1.mapV.bind.and (A_normal h l)
 refine Hd.code Ew_ok (symCall_sound Ew_ok 20) 400 codeA hrel0 (hA.mono ?_)
 rintro ⟨e, st1⟩ ⟨hB, hnorm⟩ β1 a1 w1 he1 hr1
 cases e <;> simp only [Bool.false_eq_true] at hnorm
 refine wp_scope_jumps 0 (JW h l w) (fun a _ => muW a) (rest := codeR) (by kernel_rfl) ?_ ?_
 ·refine Hd.code Ew_ok (symCall_sound Ew_ok 20) 400 codeB hr1 (Hd.mono hB ?_)
  intro r hr β' a' w' hx hrr
  exact view_leaf he1 hr1.free r hr β' a' w' hx hrr
 ·rintro ac w2 ⟨β, bad, lo, hi, a, b, t, k, hr, he, h0, h1, h2, h3, h4⟩
  refine Hd.code Ew_ok (symCall_sound Ew_ok 20) 400 codeR hr ((pass_holds h l w R hR hr he h0 h1 h2 h3 h4).mapV.mono ?_)
  intro r hr' β' a' w' hx hrr
  exact view'_leaf he hr.free r hr' β' a' w' hx hrr
noncomputable def g231 (p : Int × Bool) : SV := .tuple [iv p.1, bv p.2]
noncomputable def S231 : Summ
 | [.v (.agg [.int .i64 I0, .int .i64 I1])] => some (g231 (f231 I0.val I1.val))
 | _ => none
theorem S231_ok : SummFn Go.Proofs.Tryz.prog 231 S231 := by
 intro fs r h w vs hv
 unfold S231 at h
 split at h
 ·rename_i a0 a1
  cases h
  simp only [SArels, SArel, SV.rel, relL] at hv
  obtain ⟨_, _, ⟨_, ⟨_, _, ⟨rfl, r0⟩, ⟨_, _, ⟨rfl, r1⟩, rfl, rfl⟩, rfl⟩, rfl⟩, rfl, rfl⟩ := hv
  refine (wide91 a0.val a1.val r0 r1 w).mono ?_
  rintro e w' ⟨⟨rfl, hg⟩, hb⟩
  refine ⟨⟨_, rfl, ?_⟩, hb⟩
  simp only [g231, SV.rel, relL]
  exact ⟨_, ⟨_, _, ⟨rfl, hg⟩, ⟨_, _, rfl, rfl, rfl⟩, rfl⟩, rfl⟩
 ·cases h
end Go.Proofs.YtdchdajjhofmnaaGreat
