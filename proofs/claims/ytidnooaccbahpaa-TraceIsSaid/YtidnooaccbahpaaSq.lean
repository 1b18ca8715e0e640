/- The own symbolic executor of this claim, its last part: values as data, bodies statement by statement. -/
import Derived.Test.YtidnooaccbahpaaSx
set_option linter.unusedVariables false
set_option linter.unusedSimpArgs false
namespace Go.Sx
open Go.RowKit Go.Proofs

/-! # values as data: their one form -/
def trN (r : List Tr) (j : Nat) : Tr := match nth r j with
  | some t => t
  | none => .int 0
theorem cellT_of {β : Lab} {g : Nat → Tr} {j : Nat} {k : CK} {u : Value} (h : relT β.fz (g j) k u) : SV.rel β (cellT g j k) u := cellT_rel h
theorem cellsT_canon {β : Lab} {g : Nat → Tr} : ∀ {ks : List CK} {vs : List Value} {j : Nat}, vs.length = ks.length → (∀ i k, ks[i]? = some k → ∃ u, vs[i]? = some u ∧ relT β.fz (g (j + i)) k u) → relL β (cellsT g j ks) vs
  | [], vs, j, hl, _ => by
    have : vs = [] := List.eq_nil_of_length_eq_zero hl
    subst this; simp [cellsT, relL_nil]
  | k :: ks, [], j, hl, _ => by simp at hl
  | k :: ks, v :: vs, j, hl, h => by
    simp only [cellsT]; rw [relL_cons']
    obtain ⟨u, h1, h2⟩ := h 0 k rfl
    simp only [List.getElem?_cons_zero, Option.some.injEq] at h1; subst h1
    refine ⟨cellT_of h2, cellsT_canon (by simpa using hl) fun i k' hk => ?_⟩
    obtain ⟨u, h3, h4⟩ := h (i + 1) k' (by simpa using hk)
    exact ⟨u, by simpa using h3, by rw [show j + 1 + i = j + (i + 1) by omega]; exact h4⟩
/-- a struct's cells as one row: all of them -/
def asAll (ks : List CK) (xs : List SV) : Option (List Tr) := match asRow ks xs with
  | some (r, []) => some r
  | _ => none
theorem asAll_rel {β : Lab} {ks : List CK} {xs : List SV} {r : List Tr} {vs : List Value} (h : asAll ks xs = some r) (hr : relL β xs vs) : relL β (cellsT (trN r) 0 ks) vs := by
  unfold asAll at h
  split at h <;> simp only [Option.some.injEq, reduceCtorEq] at h
  rename_i r' hr'; subst h
  obtain ⟨h1, h2, h3⟩ := asRow_rel hr' hr
  rw [relL_nil] at h2
  have hlen : vs.length = ks.length := by
    have := congrArg List.length h2
    simp only [List.length_drop, List.length_nil] at this; omega
  refine cellsT_canon hlen fun i k hk => ?_
  obtain ⟨u, t, h4, h5, h6⟩ := h3 i k hk
  exact ⟨u, h4, by rw [Nat.zero_add]; simp only [trN, h5]; exact h6⟩
theorem asAll_agg {β : Lab} {ks : List CK} {xs : List SV} {r : List Tr} {v : Value} (h : asAll ks xs = some r) (hr : SV.rel β (.agg xs) v) : SV.rel β (.agg (cellsT (trN r) 0 ks)) v := by
  simp only [SV.rel] at hr ⊢; obtain ⟨vs, h1, h2⟩ := hr; exact ⟨vs, asAll_rel h h1, h2⟩
mutual
/-- values of data alone bear no label -/
theorem asTr_free {k : CK} {s : SV} {t : Tr} (h : asTr k s = some t) : s.deep = [] := by
  unfold asTr at h
  split at h <;> first | rfl | (simp at h; done)
end
theorem asRow_free : ∀ {ks : List CK} {xs : List SV} {r : List Tr × List SV}, asRow ks xs = some r → deepL r.2 = [] → deepL xs = []
  | [], xs, r, h, h2 => by simp only [asRow, Option.some.injEq] at h; subst h; exact h2
  | k :: ks, [], r, h, _ => rfl
  | k :: ks, s :: xs, r, h, h2 => by
    simp only [asRow] at h
    split at h <;> simp only [Option.some.injEq, reduceCtorEq] at h
    rename_i t r' h3 h4; subst h
    simp only [deepL, asTr_free h3, List.nil_append]; exact asRow_free h4 h2
theorem asAll_free {ks : List CK} {xs : List SV} {r : List Tr} (h : asAll ks xs = some r) : deepL xs = [] := by
  unfold asAll at h
  split at h <;> simp only [Option.some.injEq, reduceCtorEq] at h
  rename_i r' hr'; exact asRow_free hr' rfl
/-- one datum as well as another, where they agree row by row -/
theorem relT_ext {fz : FZ} {ks : List CK} {n : Nat} {f g : Nat → Nat → Tr} {v : Value} (h : ∀ i j k, i < n → ks[j]? = some k → ∀ u, relT fz (f i j) k u → relT fz (g i j) k u) (hr : relT fz (.sl n f) (.sl ks) v) : relT fz (.sl n g) (.sl ks) v := by
  simp only [relT] at hr ⊢
  refine ⟨hr.1, hr.2.imp id ?_⟩
  rintro ⟨a, cap, e, hc, hh⟩
  exact ⟨a, cap, e, hc, fun i j k hi hk => let ⟨u, h1, h2⟩ := hh i j k hi hk; ⟨u, h1, h i j k hi hk u h2⟩⟩
theorem says_tsl {ks : List CK} {n : Nat} {f g : Nat → Nat → Tr} (h : ∀ i j, i < n → j < ks.length → f i j = g i j) : Says (.tsl ks n f) (.tsl ks n g) := by
  intro β v hr
  simp only [SV.rel] at hr ⊢
  exact relT_ext (fun i j k hi hk u hu => by rw [← h i j hi (List.getElem?_eq_some_iff.1 hk).1]; exact hu) hr
theorem says_agg {xs ys : List SV} (h : ∀ β vs, relL β xs vs → relL β ys vs) : Says (.agg xs) (.agg ys) := by
  intro β v hr
  simp only [SV.rel] at hr ⊢; obtain ⟨vs, h1, h2⟩ := hr; exact ⟨vs, h β vs h1, h2⟩
theorem says_tuple {xs ys : List SV} (h : ∀ β vs, relL β xs vs → relL β ys vs) : Says (.tuple xs) (.tuple ys) := by
  intro β v hr
  simp only [SV.rel] at hr ⊢; obtain ⟨vs, h1, h2⟩ := hr; exact ⟨vs, h β vs h1, h2⟩
theorem says_cons {x y : SV} {xs ys : List SV} (h : Says x y) (hs : ∀ β vs, relL β xs vs → relL β ys vs) : ∀ β vs, relL β (x :: xs) vs → relL β (y :: ys) vs := by
  intro β vs hr
  rw [relL_cons] at hr ⊢; obtain ⟨v, vs', h1, h2, e⟩ := hr; exact ⟨v, vs', h β v h1, hs β vs' h2, e⟩
/-- a list of records as data -/
def lstV {α : Type} (ks : List CK) (row : α → Nat → Tr) (d : α) (l : List α) : SV := .tsl ks l.length fun i j => row (l.getD i d) j
/-- rows that are read back -/
def rdL {α : Type} (rd : (Nat → Tr) → α) (n : Nat) (f : Nat → Nat → Tr) : List α := (List.range n).map fun i => rd (f i)
theorem rdL_length {α : Type} (rd : (Nat → Tr) → α) (n : Nat) (f : Nat → Nat → Tr) : (rdL rd n f).length = n := by simp [rdL]
theorem rdL_getD {α : Type} (rd : (Nat → Tr) → α) (n : Nat) (f : Nat → Nat → Tr) (d : α) {i : Nat} (hi : i < n) : (rdL rd n f).getD i d = rd (f i) := by
  simp [rdL, List.getD_eq_getElem?_getD, hi]
theorem rdL_lst {α : Type} {row : α → Nat → Tr} {rd : (Nat → Tr) → α} (h : ∀ x, rd (row x) = x) (d : α) (l : List α) : rdL rd l.length (fun i => row (l.getD i d)) = l := by
  apply List.ext_getElem?
  intro i
  simp only [rdL, List.getElem?_map]
  by_cases hi : i < l.length
  · rw [List.getElem?_range hi]; simp [h, hi]
  · rw [List.getElem?_eq_none (by simpa using hi), List.getElem?_eq_none (by omega)]; rfl
/-- a list appended to, as data -/
theorem catF_lst {α : Type} {row : α → Nat → Tr} {d : α} {l l' : List α} {g : Nat → Nat → Tr} {s : Nat} (hg : ∀ i j, i < l'.length → j < s → g i j = row (l'.getD i d) j) : ∀ i j, i < l.length + l'.length → j < s → catF l.length (fun i j => row (l.getD i d) j) g i j = row ((l ++ l').getD i d) j := by
  intro i j hi hj
  unfold catF
  by_cases h : i < l.length
  · have hb : Nat.blt i l.length = true := by simpa [Nat.blt_eq] using h
    rw [hb]; simp only [cond_true]
    simp [List.getD_eq_getElem?_getD, List.getElem?_append_left h]
  · have hb : Nat.blt i l.length = false := by
      cases hh : Nat.blt i l.length with
      | false => rfl
      | true => exact absurd (by simpa [Nat.blt_eq] using hh) h
    rw [hb]; simp only [cond_false]
    rw [hg _ j (by omega) hj]
    simp [List.getD_eq_getElem?_getD, List.getElem?_append_right (by omega : l.length ≤ i)]
theorem holds_chk {b : Bool} {α : Type} {t : T α} {K : α → Prop} (hb : b = true) (h : t.Holds K) : (T.ite b t .fail).Holds K := ⟨fun _ => h, fun e => by rw [hb] at e; cases e⟩
/-! # a body as its statements, one behind the other -/
def flatC : Code → List Code
  | .seq x y => flatC x ++ flatC y
  | c => [c]
def kont (P : Program) : List Code → (Exit → Act → World → Prop) → Act → World → Prop
  | [], Q, a, w => Q .normal a w
  | k :: ks, Q, a, w => k.wp P (Exit.then (kont P ks Q) Q) a w
theorem kont_app {P : Program} {y : Code} {Ly : List Code} {Q : Exit → Act → World → Prop} (hy : ∀ a w, kont P Ly Q a w → y.wp P Q a w) : ∀ (Lx : List Code) {a : Act} {w : World}, kont P (Lx ++ Ly) Q a w → kont P Lx (Exit.then (y.wp P Q) Q) a w
  | [], a, w, h => hy a w h
  | k :: Lx, a, w, h => by
    simp only [List.cons_append, kont] at h ⊢
    refine Go.Code.wp_mono (fun e a' w' he => ?_) h
    cases e with
    | normal => exact kont_app hy Lx he
    | _ => exact he
theorem wp_flat {P : Program} : ∀ (c : Code) {Q : Exit → Act → World → Prop} {a : Act} {w : World}, kont P (flatC c) Q a w → c.wp P Q a w
  | .seq x y, Q, a, w, h => wp_seq (wp_flat x (kont_app (fun a w h => wp_flat y h) _ h))
  | .skip, Q, a, w, h | .region _ _ _, Q, a, w, h | .cond _ _ _, Q, a, w, h | .loop _, Q, a, w, h | .block _ _, Q, a, w, h | .scope _, Q, a, w, h | .exit _, Q, a, w, h | .goto _, Q, a, w, h | .label _, Q, a, w, h | .ret, Q, a, w, h | .rangeFunc _ _ _ _, Q, a, w, h | .refuse _, Q, a, w, h => by
    refine Go.Code.wp_mono (fun e a' w' he => ?_) h
    cases e <;> exact he
def symL (E : Env) (call : CallF) (n : Nat) : List Code → St → T (Ex × St)
  | [], st => .ret (.normal, st)
  | k :: ks, st => (symCode E call n k st).bind fun r => match r.1 with
    | .normal => symL E call n ks r.2
    | e => .ret (e, r.2)
section
variable {E : Env} {β0 : Lab} {w0 : World}
/-- statements ahead of others, told by what is behind them -/
theorem symL_sound (hE : E.Ok) {call : CallF} (hcall : CallOk E.P call) (h0 : ∀ l, β0 l = none) {n : Nat} {ys : List Code} {Q : Exit → Act → World → Prop} : ∀ (xs : List Code) {st : St} {β : Lab} {a : Act} {w : World}, Rel β st a w → Since β0 w0 β st.heap w →
    ((symL E call n xs st).Holds fun r => ∀ β' a' w', Since β0 w0 β' r.2.heap w' → Rel β' r.2 a' w' → match r.1 with
      | .normal => kont E.P ys Q a' w'
      | e => Q e.toExit a' w') → kont E.P (xs ++ ys) Q a w
  | [], st, β, a, w, h, hs, hK => hK β a w hs h
  | x :: xs, st, β, a, w, h, hs, hK => by
    simp only [List.cons_append, kont]
    simp only [symL] at hK
    refine symCode_sound hE hcall n x h (T.Holds.mono ?_ (T.Holds.bind hK))
    rintro ⟨e, st1⟩ hr β1 a1 w1 he1 hr1
    have hs1 := Ext.trans (fun l _ => h0 l) h.free hs he1
    cases e with
    | normal => exact symL_sound hE hcall h0 xs hr1 hs1 hr
    | ret => exact hr β1 a1 w1 hs1 hr1
    | exit id => exact hr β1 a1 w1 hs1 hr1
    | goto l => exact hr β1 a1 w1 hs1 hr1
def runL (E : Env) (call : CallF) (n : Nat) (keep : List Nat) (xs : List Code) (st : St) : T (Ex × St) := T.mapX (fun r => (r.1, nrm keep r.2)) (symL E call n xs st)
theorem runL_sound (hE : E.Ok) {call : CallF} (hcall : CallOk E.P call) (h0 : ∀ l, β0 l = none) {n : Nat} {keep : List Nat} {xs ys : List Code} {Q : Exit → Act → World → Prop} {st : St} {β : Lab} {a : Act} {w : World} (h : Rel β st a w) (hs : Since β0 w0 β st.heap w)
    (hK : (runL E call n keep xs st).Holds fun r => ∀ β' a' w', Since β0 w0 β' r.2.heap w' → Rel β' r.2 a' w' → match r.1 with
      | .normal => kont E.P ys Q a' w'
      | e => Q e.toExit a' w') : kont E.P (xs ++ ys) Q a w := by
  refine symL_sound hE hcall h0 xs h hs (T.Holds.mono ?_ (T.mapX_holds hK))
  intro r hr β' a' w' h1 h2
  exact hr _ a' w' (nrm_since h0 h1) (nrm_rel h2)
/-- what a body's last statements hand back -/
def symEndL (E : Env) (call : CallF) (fuel : Nat) (xs : List Code) (fn : Func) (st : St) : T (SV × SHeap) := (symL E call fuel xs st).bind fun r => match r.1 with
  | .exit _ => .fail
  | .goto _ => .fail
  | _ => match resultS E.P r.2 fn.results.toList with
    | some vs => .ret (resultV vs, r.2.heap)
    | none => .fail
theorem endL (hE : E.Ok) {call : CallF} (hcall : CallOk E.P call) (h0 : ∀ l, β0 l = none) {fn : Func} {fuel : Nat} {xs : List Code} {st : St} {β : Lab} {a : Act} {w : World} {R : Ending → World → Prop} (h : Rel β st a w) (hs : Since β0 w0 β st.heap w)
    (hK : (symEndL E call fuel xs fn st).Holds fun q => ∀ β' w' val, Since β0 w0 β' q.2 w' → HR β' (hpOf q.2) w' → SV.rel β' q.1 val → R (.returned val) w') : kont E.P xs (bodyPost E.P fn R) a w := by
  unfold symEndL at hK
  have key : ∀ (st1 : St) (β1 : Lab) (a1 : Act) (w1 : World), Since β0 w0 β1 st1.heap w1 → Rel β1 st1 a1 w1 → (match resultS E.P st1 fn.results.toList with | some vs => T.ret (resultV vs, st1.heap) | none => .fail : T (SV × SHeap)).Holds (fun q => ∀ β' w' val, Since β0 w0 β' q.2 w' → HR β' (hpOf q.2) w' → SV.rel β' q.1 val → R (.returned val) w') →
      a1.defers = [] ∧ ∃ v, (results fn a1.tmps).run E.P w1 = .ok v w1 ∧ R (.returned v) w1 := by
    intro st1 β1 a1 w1 hs1 hrel1 hh
    split at hh
    · rename_i vs' hvs
      obtain ⟨v, h1, h2⟩ := results_sound hrel1 hvs
      exact ⟨hrel1.defers, v, h1, hh β1 w1 v hs1 hrel1.hr h2⟩
    · exact hh.elim
  have := symL_sound (ys := []) (Q := bodyPost E.P fn R) hE hcall h0 (n := fuel) xs h hs (T.Holds.mono ?_ (T.Holds.bind hK))
  · simpa using this
  rintro ⟨e, st1⟩ hr1 β1 a1 w1 he1 hrel1
  cases e with
  | normal => exact key st1 β1 a1 w1 he1 hrel1 hr1
  | ret => exact key st1 β1 a1 w1 he1 hrel1 hr1
  | exit id => exact hr1.elim
  | goto l => exact hr1.elim
/-- a call whose body is walked statement by statement -/
theorem callsL {f : FuncId} {fn : Func} (hf : E.P.funcs[f]? = some fn) {c : Code} (hb : fn.body = some c) {L : List Code} (hL : flatC c = L) {vs : List SV} {vals : List Value} {R : Ending → World → Prop} (hv : relL β0 vs vals) (h0 : ∀ l, β0 l = none) {hp : HP} (hr0 : HR β0 hp w0)
    (hK : ∀ a, Rel β0 (startS fn vs) a w0 → kont E.P L (bodyPost E.P fn R) a w0) : Calls E.P f vals.toArray w0 R :=
  callsY hf hb hv h0 hr0 fun a h => wp_flat c (by rw [hL]; exact hK a h)
end
end Go.Sx
