/- The own symbolic executor of this claim, its second part: states, lists that grow, lists laid down for good, with their soundness. -/
import Derived.ArgAppend
import Derived.Test.YtidnooaccbahpaaSw
set_option linter.unusedVariables false
set_option linter.unusedSimpArgs false
namespace Go.Sx
open Go.RowKit Go.Proofs

structure St where
  slots : List Ent
  heap : SHeap
def Ent.noRef (d : Nat) : Ent → Bool
  | .gd t _ _ => !(Nat.beq t d)
  | _ => true
def putE (s : List Ent) : Option Tmp → Ent → Option (List Ent)
  | none, .val _ => some s
  | none, _ => none
  | some d, e => if s.all (Ent.noRef d) && e.noRef d then some (upd s d e) else none
def applyUp (H : SHeap) : Option (Nat × Obj') → SHeap
  | none => H
  | some (l, o) => if Nat.beq l H.length then H ++ [some o] else upd H l (some o)
abbrev CallF := FuncId → List SV → SHeap → T (SV × SHeap)
def guardAs (ops : List Oper) (s : List Ent) (o : Oper) : Option (List (Nat × Bool)) :=
  match guardSlot ops o with
  | some none => some []
  | some (some (t, w)) => match nth s t with
    | some (.val (.bool (.lit b))) => if b == w then some [(t, w)] else none
    | _ => none
  | none => none
/-- what is appended: its label, where it begins, how many elements -/
def srcOf : SV → Option (Nat × Nat × Nat)
  | .slice l off m _ => some (l, off, m)
  | .own l _ m => some (l, 0, m)
  | _ => none
/-- what it is appended to: its label, its capacity's, how many elements -/
inductive Old where
  | nil
  | own (l lc n : Nat)
  | sl (l off n c : Nat)
/-- an own list may have room; a slice must have none -/
def Old.full (m : Nat) : Old → Bool
  | .sl _ _ n c => Nat.blt c (n + m)
  | _ => true
def oldOf : SV → Option Old
  | .raw (.slice none 0 0) => some .nil
  | .own l lc n => some (.own l lc n)
  | .slice l off n c => some (.sl l off n c)
  | _ => none
def elemOk (P : Program) (t : TypeId) : Option (TypeId × Nat × Nat) := match P.underlying t with
  | some (.slice e) => match P.info? e with
    | some i => match i.zero with
      | some z => if Nat.beq z.cells.size i.size && Nat.ble 1 i.size then some (e, i.size, i.bytes) else none
      | none => none
    | none => none
  | _ => none
def oldCells (H : SHeap) (e sz : Nat) : Old → Option (List SV × SHeap × Nat)
  | .nil => some ([], H, 0)
  | .own l lc n => match hpOf H l with
    | some (cs, ⟨e', some (lc', sz'), _, _, none⟩) => if Nat.beq e' e && Nat.beq lc' lc && Nat.beq sz' sz && Nat.beq cs.length (n * sz) then some (cs, upd H l none, n) else none
    | _ => none
  | .sl l off n _ => match hpOf H l with
    | some (cs, _) => (takeN (n * sz) (dropN off cs)).map fun x => (x, H, n)
    | none => none
def appVal (E : Env) (t : TypeId) (H : SHeap) (s x : SV) : Option (SV × SHeap) :=
  match elemOk E.P t, oldOf s, srcOf x with
  | some (e, sz, bytes), some old, some (l2, off2, m) => match hpOf H l2, oldCells H e sz old with
    | some (cs2, _), some (olds, H1, n) => match takeN (m * sz) (dropN off2 cs2) with
      | some news => if news.all SV.scal && Nat.ble ((n + m) * bytes) 140737488355328 && Nat.ble (n + m) 4294967296 && Nat.ble 1 m && old.full m then
          some (.own H.length (H.length + 1) (n + m), H1 ++ [some (olds ++ news, ⟨e, some (H.length + 1, sz), 0, [], none⟩), none])
        else none
      | none => none
    | _, _ => none
  | _, _, _ => none
def appStep (E : Env) (ops : List Oper) (st : St) (o : Oper) : Option (SV × SHeap) :=
  match o.op with
  | .call { callee := .builtin .append, args, argTypes } => match guardAs ops st.slots o with
    | some fs => match looks (lookE fs st.slots) args.toList, argTypes.toList with
      | some [s, x], [t, t'] => if Nat.beq t t' then appVal E t st.heap s x else none
      | _, _ => none
    | none => none
  | _ => none
def hsStep (E : Env) (ops : List Oper) (st : St) (o : Oper) : Option SV :=
  match o.op with
  | .call { callee := .value f, args, argTypes := _ } => match guardAs ops st.slots o with
    | some fs => match callArgs (lookE fs st.slots) f args with
      | some (g, vs) => if E.enters g then match HSumms.get E.H g with
          | some h => h vs st.heap
          | none => none
        else none
      | none => none
    | none => none
  | _ => none
def inlStep (E : Env) (call : CallF) (ops : List Oper) (st : St) (o : Oper) : T St :=
  match o.op with
  | .call { callee := .value f, args, argTypes := _ } => match guardAs ops st.slots o with
    | some fs => match callArgs (lookE fs st.slots) f args with
      | some (g, vs) => if E.enters g then (call g vs st.heap).bind fun r => match putE st.slots o.dst (.val r.1) with
          | some s => .ret ⟨s, r.2⟩
          | none => .fail
        else .fail
      | none => .fail
    | none => .fail
  | _ => .fail
/-- a condition ahead of a tree -/
def chk {α : Type} (c : Option Bool) (t : T α) : T α := match c with
  | none => t
  | some b => .ite b t .fail
def chkAll {α : Type} : List Bool → T α → T α
  | [], t => t
  | b :: l, t => .ite b (chkAll l t) .fail
def Ent.settle : Ent → Ent
  | .gd _ _ _ => .none
  | e => e
def St.settle (st : St) : St := ⟨st.slots.map Ent.settle, st.heap⟩

/-! ## trees -/
def T.Holds {α : Type} (K : α → Prop) : T α → Prop
  | .ret a => K a
  | .ite b x y => (b = true → x.Holds K) ∧ (b = false → y.Holds K)
  | .both x y => x.Holds K ∧ y.Holds K
  | .fail => False
theorem T.Holds.bind {α γ : Type} {K : γ → Prop} : ∀ {t : T α} {f : α → T γ}, (t.bind f).Holds K → t.Holds (fun a => (f a).Holds K)
  | .ret _, _, h => h
  | .ite _ _ _, _, h => ⟨fun e => T.Holds.bind (h.1 e), fun e => T.Holds.bind (h.2 e)⟩
  | .both _ _, _, h => ⟨T.Holds.bind h.1, T.Holds.bind h.2⟩
  | .fail, _, h => h
theorem T.Holds.mono {α : Type} {K K' : α → Prop} (hk : ∀ a, K a → K' a) : ∀ {t : T α}, t.Holds K → t.Holds K'
  | .ret a, h => hk a h
  | .ite _ _ _, h => ⟨fun e => T.Holds.mono hk (h.1 e), fun e => T.Holds.mono hk (h.2 e)⟩
  | .both _ _, h => ⟨T.Holds.mono hk h.1, T.Holds.mono hk h.2⟩
  | .fail, h => h
/-- a tree is one of its leaves, whatever the tests come to -/
theorem T.Holds.leaf {α : Type} {K : α → Prop} : ∀ {t : T α}, t.Holds K → ∃ a, K a
  | .ret a, h => ⟨a, h⟩
  | .ite b _ _, h => by
    cases b
    · exact T.Holds.leaf (h.2 rfl)
    · exact T.Holds.leaf (h.1 rfl)
  | .both _ _, h => T.Holds.leaf h.1

/-! ## states and worlds -/
structure Rel (β : Lab) (st : St) (a : Act) (w : World) : Prop where
  size : a.tmps.size = st.slots.length
  fact : ∀ x e, nth st.slots x = some e → EntFact β a x e
  hr : HR β (hpOf st.heap) w
  free : ∀ l, st.heap.length ≤ l → β l = none
  defers : a.defers = []
structure Ext (β : Lab) (H : SHeap) (w : World) (β' : Lab) (H' : SHeap) (w' : World) : Prop where
  ext : Lab.le β β'
  new : ∀ l b, β' l = some b → β l = some b ∨ (H.length ≤ l ∧ (w.heap.size ≤ b ∨ (∃ l0 o, β l0 = some b ∧ hpOf H l0 = some o ∧ hpOf H' l0 = none) ∨ hpOf H' l = none))
  len : H.length ≤ H'.length
  live : ∀ l o, l < H.length → hpOf H' l = some o → ∃ o', hpOf H l = some o' ∧ (o' = o ∨ o'.2.stamp < o.2.stamp)
  frame : ∀ b, b < w.heap.size → (∀ l, β l = some b → hpOf H' l = hpOf H l) → w'.heap[b]? = w.heap[b]?
  size : w.heap.size ≤ w'.heap.size
  os : w'.os = w.os
  tape : w'.tape = w.tape
  output : w'.output = w.output
  fzn : ∀ b c, β'.fz b = some c → β.fz b = some c ∨ w.heap.size ≤ b ∨ ∃ l o, β l = some b ∧ hpOf H l = some o
theorem Ext.refl (β : Lab) (H : SHeap) (w : World) : Ext β H w β H w :=
  ⟨Lab.le.refl _, fun _ _ h => .inl h, Nat.le_refl _, fun _ o _ h => ⟨o, h, .inl rfl⟩, fun _ _ _ => rfl, Nat.le_refl _, rfl, rfl, rfl, fun _ _ h => .inl h⟩
theorem Ext.trans {β β1 β2 : Lab} {H H1 H2 : SHeap} {w w1 w2 : World} (hf : ∀ l, H.length ≤ l → β l = none) (hf1 : ∀ l, H1.length ≤ l → β1 l = none) (h : Ext β H w β1 H1 w1) (h' : Ext β1 H1 w1 β2 H2 w2) : Ext β H w β2 H2 w2 := by
  have lt0 : ∀ {l b}, β l = some b → l < H.length := fun {l b} hb => by
    rcases Nat.lt_or_ge l H.length with h | h
    · exact h
    · rw [hf l h] at hb; simp at hb
  have lt1 : ∀ {l b}, β1 l = some b → l < H1.length := fun {l b} hb => by
    rcases Nat.lt_or_ge l H1.length with h | h
    · exact h
    · rw [hf1 l h] at hb; simp at hb
  have dead2 : ∀ {l}, l < H1.length → hpOf H1 l = none → hpOf H2 l = none := fun {l} hl hn => by
    cases ho : hpOf H2 l with
    | none => rfl
    | some o => obtain ⟨o', ho', _⟩ := h'.live l o hl ho; rw [hn] at ho'; simp at ho'
  refine ⟨h.ext.trans h'.ext, fun l b hb => ?_, Nat.le_trans h.len h'.len, fun l o hl ho => ?_, fun b hb hn => ?_, Nat.le_trans h.size h'.size, h'.os.trans h.os, h'.tape.trans h.tape, h'.output.trans h.output, fun b c hb => ?_⟩
  · rcases h'.new l b hb with hb1 | ⟨h1, h2 | ⟨l0, o, h2, h3, h3'⟩ | h2⟩
    · rcases h.new l b hb1 with h2 | ⟨h2, h3 | ⟨l0, o, h3, h4, h5⟩ | h3⟩
      · exact .inl h2
      · exact .inr ⟨h2, .inl h3⟩
      · exact .inr ⟨h2, .inr (.inl ⟨l0, o, h3, h4, dead2 (Nat.lt_of_lt_of_le (lt0 h3) h.len) h5⟩)⟩
      · exact .inr ⟨h2, .inr (.inr (dead2 (lt1 hb1) h3))⟩
    · exact .inr ⟨Nat.le_trans h.len h1, .inl (Nat.le_trans h.size h2)⟩
    · refine .inr ⟨Nat.le_trans h.len h1, ?_⟩
      rcases h.new l0 b h2 with h4 | ⟨h4, h5 | ⟨l1, o1, h5, h6, h7⟩ | h5⟩
      · obtain ⟨o', ho', _⟩ := h.live l0 o (lt0 h4) h3
        exact .inr (.inl ⟨l0, o', h4, ho', h3'⟩)
      · exact .inl h5
      · exact .inr (.inl ⟨l1, o1, h5, h6, dead2 (Nat.lt_of_lt_of_le (lt0 h5) h.len) h7⟩)
      · rw [h5] at h3; simp at h3
    · exact .inr ⟨Nat.le_trans h.len h1, .inr (.inr h2)⟩
  · obtain ⟨o', ho', h1⟩ := h'.live l o (Nat.lt_of_lt_of_le hl h.len) ho
    obtain ⟨o2, ho2, h2⟩ := h.live l o' hl ho'
    refine ⟨o2, ho2, ?_⟩
    rcases h1 with rfl | h1
    · exact h2
    · rcases h2 with rfl | h2
      · exact .inr h1
      · exact .inr (Nat.lt_trans h2 h1)
  · have hmid : ∀ l, β l = some b → hpOf H1 l = hpOf H l := fun l hl => by
      cases ho : hpOf H l with
      | none =>
        cases ho1 : hpOf H1 l with
        | none => rfl
        | some o1 => obtain ⟨o', ho', _⟩ := h.live l o1 (lt0 hl) ho1; rw [ho] at ho'; simp at ho'
      | some o =>
        have h2 := hn l hl; rw [ho] at h2
        obtain ⟨o1, ho1, hs1⟩ := h'.live l o (Nat.lt_of_lt_of_le (lt0 hl) h.len) h2
        obtain ⟨o', ho', hs⟩ := h.live l o1 (lt0 hl) ho1
        rw [ho] at ho'; simp only [Option.some.injEq] at ho'; subst ho'
        rw [ho1]
        rcases hs with rfl | hs
        · rfl
        · rcases hs1 with rfl | hs1
          · rfl
          · omega
    rw [h'.frame b (Nat.lt_of_lt_of_le hb h.size) (fun l hl => ?_), h.frame b hb hmid]
    rcases h.new l b hl with hl' | ⟨_, h2 | ⟨l0, o, h2, h3, h4⟩ | h2⟩
    · rw [hn l hl', hmid l hl']
    · omega
    · have h5 := hn l0 h2
      rw [h3, dead2 (Nat.lt_of_lt_of_le (lt0 h2) h.len) h4] at h5; simp at h5
    · rw [h2, dead2 (lt1 hl) h2]
  · rcases h'.fzn b c hb with h1 | h1 | ⟨l, o, h1, h2⟩
    · exact h.fzn b c h1
    · exact .inr (.inl (Nat.le_trans h.size h1))
    · rcases h.new l b h1 with h3 | ⟨_, h3 | ⟨l0, o0, h3, h4, _⟩ | h3⟩
      · obtain ⟨o', ho', _⟩ := h.live l o (lt0 h3) h2
        exact .inr (.inr ⟨l, o', h3, ho'⟩)
      · exact .inr (.inl h3)
      · exact .inr (.inr ⟨l0, o0, h3, h4⟩)
      · rw [h3] at h2; simp at h2
theorem Ext.below {β β' : Lab} {H' : SHeap} {w w' : World} (h : Ext β [] w β' H' w') (hf : ∀ l, β l = none) : Below w.heap.size w w' :=
  ⟨h.os, h.tape, h.output, h.size, fun b hb => h.frame b hb (fun l hl => by rw [hf l] at hl; simp at hl)⟩
/-- where no object that was known has been written: all that lay lies as it lay -/
def sameH : SHeap → SHeap → Bool
  | [], _ => true
  | some o :: H, some o' :: H' => Nat.beq o'.2.stamp o.2.stamp && sameH H H'
  | none :: H, _ :: H' => sameH H H'
  | _ :: _, _ => false
theorem sameH_at : ∀ {H H' : SHeap} {l : Nat} {o : Obj'}, sameH H H' = true → hpOf H l = some o → ∃ o', hpOf H' l = some o' ∧ o'.2.stamp = o.2.stamp
  | [], _, l, o, _, h => by simp [hpOf, nth] at h
  | x :: H, [], l, o, hs, h => by cases x <;> simp [sameH] at hs
  | some x :: H, none :: H', l, o, hs, h => by simp [sameH] at hs
  | some x :: H, some y :: H', 0, o, hs, h => by
    simp only [sameH, Bool.and_eq_true, Nat.beq_eq] at hs
    simp only [hpOf, nth, Option.some.injEq] at h; subst h
    exact ⟨y, rfl, hs.1⟩
  | some x :: H, some y :: H', l + 1, o, hs, h => by
    simp only [sameH, Bool.and_eq_true, Nat.beq_eq] at hs
    exact sameH_at (H := H) (H' := H') hs.2 h
  | none :: H, y :: H', 0, o, hs, h => by simp [hpOf, nth] at h
  | none :: H, y :: H', l + 1, o, hs, h => by
    simp only [sameH] at hs
    exact sameH_at (H := H) (H' := H') hs h
theorem Ext.below_same {β β' : Lab} {H H' : SHeap} {w w' : World} (h : Ext β H w β' H' w') (hf : ∀ l, H.length ≤ l → β l = none) (hs : sameH H H' = true) : Below w.heap.size w w' := by
  refine ⟨h.os, h.tape, h.output, h.size, fun b hb => h.frame b hb fun l hl => ?_⟩
  have hlt : l < H.length := by
    rcases Nat.lt_or_ge l H.length with h | h
    · exact h
    · rw [hf l h] at hl; simp at hl
  cases ho : hpOf H l with
  | none =>
    cases ho' : hpOf H' l with
    | none => rfl
    | some o' => obtain ⟨o2, h2, _⟩ := h.live l o' hlt ho'; rw [ho] at h2; simp at h2
  | some o =>
    obtain ⟨o', h1, h2⟩ := sameH_at hs ho
    obtain ⟨o2, h3, h4⟩ := h.live l o' hlt h1
    rw [ho] at h3; simp only [Option.some.injEq] at h3; subst h3
    rw [h1]
    rcases h4 with rfl | h4
    · rfl
    · omega

theorem nth_upd {α : Type} (l : List α) (i : Nat) (x : α) (j : Nat) : nth (upd l i x) j = if i = j ∧ j < l.length then some x else nth l j := by
  rw [nth_eq, nth_eq]
  have : ∀ (l : List α) (i : Nat), upd l i x = l.set i x := fun l => by
    induction l with
    | nil => intro i; cases i <;> simp [upd]
    | cons a l ih => intro i; cases i <;> simp [upd, ih]
  rw [this, List.getElem?_set]
  by_cases h : i = j
  · subst h; by_cases h2 : i < l.length <;> simp [h2]
  · simp [h]
theorem upd_length {α : Type} : ∀ (l : List α) (i : Nat) (x : α), (upd l i x).length = l.length
  | [], i, _ => by cases i <;> simp [upd]
  | _ :: l, 0, _ => by simp [upd]
  | _ :: l, i + 1, x => by simp [upd, upd_length l i x]
theorem nth_append_new {α : Type} (l : List α) (x : α) (j : Nat) : nth (l ++ [x]) j = if j = l.length then some x else nth l j := by
  rw [nth_eq, nth_eq, List.getElem?_append]
  by_cases h : j = l.length
  · subst h; simp
  · by_cases h2 : j < l.length
    · simp [h2, h]
    · simp [h2, h]; omega
theorem hpOf_lt {H : SHeap} {l : Nat} {o : Obj'} (h : hpOf H l = some o) : l < H.length := by
  unfold hpOf at h
  rcases Nat.lt_or_ge l H.length with h2 | h2
  · exact h2
  · rw [nth_eq, List.getElem?_eq_none h2] at h; simp at h
def upAt (up : Option (Nat × Obj')) (l : Nat) (x : Option Obj') : Option Obj' := match up with
  | some (l', o) => if l' = l then some o else x
  | none => x
theorem hpOf_applyUp {H : SHeap} {up : Option (Nat × Obj')} (hu : ∀ l o, up = some (l, o) → l = H.length ∨ ∃ o', hpOf H l = some o') (l : Nat) :
    hpOf (applyUp H up) l = upAt up l (hpOf H l) := by
  cases up with
  | none => rfl
  | some p =>
    obtain ⟨l', o⟩ := p
    simp only [applyUp, upAt]
    by_cases h : l' = H.length
    · rw [if_pos (by simpa using h)]
      simp only [hpOf, nth_append_new, h]
      by_cases h2 : l = H.length
      · simp [h2]
      · rw [if_neg h2, if_neg (fun e => h2 e.symm)]
    · rw [if_neg (by simpa using h)]
      simp only [hpOf, nth_upd]
      obtain ⟨o', ho'⟩ := (hu l' o rfl).resolve_left h
      have := hpOf_lt ho'
      by_cases h2 : l' = l
      · subst h2; simp [this]
      · simp [h2]
theorem applyUp_length {H : SHeap} {up : Option (Nat × Obj')} : H.length ≤ (applyUp H up).length := by
  cases up with
  | none => exact Nat.le_refl _
  | some p =>
    simp only [applyUp]; split
    · simp
    · rw [upd_length]; exact Nat.le_refl _

/-- the heap behind one step -/
theorem Stp.next {β β' : Lab} {H : SHeap} {w w' : World} {hp' : HP} {up : Option (Nat × Obj')} (hr : HR β (hpOf H) w) (hfree : ∀ l, H.length ≤ l → β l = none) (hsub : ∀ l o, hp' l = some o → hpOf H l = some o) (h : Stp β hp' w β' w' H.length up) :
    HR β' (hpOf (applyUp H up)) w' ∧ Ext β H w β' (applyUp H up) w' ∧ ∀ l, (applyUp H up).length ≤ l → β' l = none := by
  have hus : ∀ l o, up = some (l, o) → l = H.length ∨ ∃ o', hpOf H l = some o' ∧ o'.2.stamp < o.2.stamp := fun l o e => (h.upok l o e).imp id fun ⟨o', ho', hst⟩ => ⟨o', hsub l o' ho', hst⟩
  have hu : ∀ l o, up = some (l, o) → l = H.length ∨ ∃ o', hpOf H l = some o' := fun l o e => (hus l o e).imp id fun ⟨o', ho', _⟩ => ⟨o', ho'⟩
  have hup := hpOf_applyUp hu
  refine ⟨⟨fun l o ho => ?_, h.inj, h.lt, h.fz⟩, ⟨h.ext, fun l b hb => ?_, applyUp_length, fun l o hl ho => ?_, fun b hb hn => ?_, h.size, h.os, h.tape, h.output, fun b c hb => (h.fzn b c hb).imp id .inl⟩, fun l hl => ?_⟩
  · rw [hup] at ho
    have old : hpOf H l = some o → (∀ l' o', up = some (l', o') → l' ≠ l) → objAt β' w' l o := fun ho hne => by
      have hal := (hr.obj l o ho).alive
      obtain ⟨b, vs, rest, h1, h2, h3, _, h5⟩ := hr.obj l o ho
      refine ⟨b, vs, rest, h.ext _ _ h1, relL_mono h.ext _ _ h2, ?_, h.dead _ hal, h5.mono h.ext⟩
      rw [h.frame b (hr.lt _ _ hal h1) (fun l' o' e hb => ?_), h3]
      have hal' : β.dead l' = false := by
        rcases hu l' o' e with h6 | ⟨o2, h6⟩
        · rw [hfree l' (by omega)] at hb; simp at hb
        · exact (hr.obj _ _ h6).alive
      exact hne l' o' e (hr.inj _ _ _ hal' hal hb h1)
    cases up with
    | none => exact old ho (fun _ _ e => by cases e)
    | some p =>
      obtain ⟨l', o'⟩ := p
      simp only [upAt] at ho
      split at ho
      · rename_i e; subst e; simp only [Option.some.injEq] at ho; subst ho; exact h.obj _ _ rfl
      · rename_i e; exact old ho (fun l2 o2 e2 => by simp only [Option.some.injEq, Prod.mk.injEq] at e2; rw [← e2.1]; exact e)
  · rcases h.new l b hb with h1 | ⟨h1, h2, _⟩
    · exact .inl h1
    · exact .inr ⟨by omega, .inl h2⟩
  · rw [hup] at ho
    cases up with
    | none => exact ⟨o, ho, .inl rfl⟩
    | some p =>
      obtain ⟨l', o'⟩ := p
      simp only [upAt] at ho
      split at ho
      · rename_i e; subst e
        simp only [Option.some.injEq] at ho; subst ho
        rcases hus l' o' rfl with h1 | ⟨o2, h1, h2⟩
        · omega
        · exact ⟨o2, h1, .inr h2⟩
      · exact ⟨o, ho, .inl rfl⟩
  · refine h.frame b hb fun l o e hb' => ?_
    rcases hus l o e with h1 | ⟨o', h1, h2⟩
    · rw [hfree l (by omega)] at hb'; simp at hb'
    · have h3 := hn l hb'
      rw [hup, e, h1] at h3
      simp only [upAt, if_true, Option.some.injEq] at h3
      subst h3; omega
  · cases hb : β' l with
    | none => rfl
    | some b =>
      have hl' : H.length ≤ l := Nat.le_trans applyUp_length hl
      rcases h.new l b hb with h1 | ⟨h1, _, o, h2⟩
      · rw [hfree l hl'] at h1; simp at h1
      · subst h1; subst h2; simp [applyUp] at hl; omega

theorem put_size (a : Act) (d : Option Tmp) (v : Value) : (a.put d v).tmps.size = a.tmps.size := by cases d <;> simp [Act.put]
theorem put_defers (a : Act) (d : Option Tmp) (v : Value) : (a.put d v).defers = a.defers := by cases d <;> rfl
theorem tb_put_ne {a : Act} {d t : Nat} {v : Value} (h : d ≠ t) : tb (a.put (some d) v) t = tb a t := by
  simp [tb, Act.put, Array.getElem?_setIfInBounds_ne h]
theorem EntFact.mono {β β' : Lab} {a : Act} {x : Nat} {e : Ent} (h : EntFact β a x e) (hm : Lab.le β β') : EntFact β' a x e := by
  cases e with
  | none => trivial
  | val v => obtain ⟨y, h1, h2⟩ := h; exact ⟨y, h1, SV.rel_mono hm _ _ h2⟩
  | gd t v s => exact ⟨fun hh => by obtain ⟨y, h1, h2⟩ := h.1 hh; exact ⟨y, h1, SV.rel_mono hm _ _ h2⟩, h.2⟩
theorem EntFact.other {β : Lab} {a : Act} {x d : Nat} {e : Ent} {val : Value} (h : EntFact β a x e) (hx : d ≠ x) (hr : e.noRef d = true) : EntFact β (a.put (some d) val) x e := by
  cases e with
  | none => trivial
  | val v => obtain ⟨y, h1, h2⟩ := h; exact ⟨y, by simp [Act.put, Array.getElem?_setIfInBounds_ne hx, h1], h2⟩
  | gd t v s =>
    have ht : d ≠ t := fun e => by subst e; simp [Ent.noRef] at hr
    simp only [EntFact, tb_put_ne ht]
    exact ⟨fun hh => by obtain ⟨y, h1, h2⟩ := h.1 hh; exact ⟨y, by simp [Act.put, Array.getElem?_setIfInBounds_ne hx, h1], h2⟩, fun hh => by simp [Act.put, Array.getElem?_setIfInBounds_ne hx, h.2 hh]⟩
theorem EntFact.same {β : Lab} {a : Act} {d : Nat} {e : Ent} {val : Value} (hd : d < a.tmps.size) (h : DFact β a val e) (hr : e.noRef d = true) : EntFact β (a.put (some d) val) d e := by
  have hv : (a.put (some d) val).tmps[d]? = some val := by simp [Act.put, hd]
  cases e with
  | none => trivial
  | val v => exact ⟨val, hv, h⟩
  | gd t v s =>
    have ht : d ≠ t := fun e => by subst e; simp [Ent.noRef] at hr
    simp only [EntFact, tb_put_ne ht]
    exact ⟨fun hh => ⟨val, hv, h.1 hh⟩, fun hh => by rw [hv, h.2 hh]⟩
theorem putE_facts {β β' : Lab} {a : Act} {s s' : List Ent} {d : Option Tmp} {e : Ent} {val : Value} (hm : Lab.le β β') (hsize : a.tmps.size = s.length) (hf : ∀ x e, nth s x = some e → EntFact β a x e)
    (hd : DFact β' a val e) (h : putE s d e = some s') : (a.put d val).tmps.size = s'.length ∧ ∀ x e, nth s' x = some e → EntFact β' (a.put d val) x e := by
  cases d with
  | none =>
    cases e <;> simp only [putE, Option.some.injEq, reduceCtorEq] at h
    subst h
    exact ⟨hsize, fun x e hx => (hf x e hx).mono hm⟩
  | some d =>
    simp only [putE] at h
    split at h <;> simp only [Option.some.injEq, reduceCtorEq] at h
    rename_i hc; subst h
    simp only [Bool.and_eq_true, List.all_eq_true] at hc
    refine ⟨by rw [put_size, upd_length]; exact hsize, fun x e' hx => ?_⟩
    rw [nth_upd] at hx
    split at hx
    · rename_i hh; obtain ⟨rfl, hlt⟩ := hh
      simp only [Option.some.injEq] at hx; subst hx
      exact EntFact.same (by omega) hd hc.2
    · rename_i hh
      have hlt : x < s.length := by
        rcases Nat.lt_or_ge x s.length with h | h
        · exact h
        · rw [nth_eq, List.getElem?_eq_none h] at hx; simp at hx
      have hne : d ≠ x := fun e => hh ⟨e, hlt⟩
      exact ((hf x e' hx).mono hm).other hne (hc.1 e' (by rw [nth_eq] at hx; exact List.mem_of_getElem? hx))

/-- a call that is walked into -/
def CallOk (P : Program) (call : CallF) : Prop := ∀ (f : FuncId) (vs : List SV) (H : SHeap) (β : Lab) (w : World) (vals : List Value) (R : Ending → World → Prop),
  relL β vs vals → HR β (hpOf H) w → (∀ l, H.length ≤ l → β l = none) →
  (call f vs H).Holds (fun r => ∀ β' w' val, Ext β H w β' r.2 w' → HR β' (hpOf r.2) w' → (∀ l, r.2.length ≤ l → β' l = none) → SV.rel β' r.1 val → R (.returned val) w') → Calls P f vals.toArray w R

theorem known_true {β : Lab} {st : St} {a : Act} {w : World} (h : Rel β st a w) : Known β a st.slots (fun _ => True) := ⟨fun x _ e he => h.fact x e he, fun _ _ _ _ _ _ => trivial⟩

theorem guardAs_sound {ops : List Oper} {s : List Ent} {o : Oper} {fs : List (Nat × Bool)} {β : Lab} {a : Act} (hf : ∀ x e, nth s x = some e → EntFact β a x e) (h : guardAs ops s o = some fs) :
    Region.wanted o (yielded ops.toArray a.tmps) = true ∧ Facts a fs := by
  unfold guardAs at h
  split at h <;> (try simp only [reduceCtorEq] at h)
  · rename_i hg; simp only [Option.some.injEq] at h; subst h
    exact ⟨wanted_none hg, fun p hp => by simp at hp⟩
  · rename_i t v hg
    split at h <;> (try simp only [reduceCtorEq] at h)
    rename_i b hb
    split at h <;> simp only [Option.some.injEq, reduceCtorEq] at h
    rename_i hbv; subst h
    obtain ⟨y, hy, hyr⟩ := hf t _ hb
    simp only [SV.rel, SB.val] at hyr; subst hyr
    have htb : tb a t = some b := by simp [tb, hy]
    have : b = v := by simpa using hbv
    subst this
    refine ⟨by rw [wanted_guard hg, htb]; simp, fun p hp => ?_⟩
    simp only [List.mem_singleton] at hp; subst hp; exact htb

theorem maxLen_le : (4294967296 : Nat) ≤ maxLen := by decide
theorem run_append_room (P : Program) (w : World) (t ty e : TypeId) (i : TypeInfo) (ht : P.underlying t = some (.slice e)) (hi : P.info? e = some i)
    (b n cap : Nat) (a : Addr) (m c : Nat) (vs news rest : List Value) (hvs : vs.length = n * i.size) (hl : news.length = m * i.size) (hnews : ∀ j u, news[j]? = some u → w.cell? (a.add j) = some u) (h1 : ∀ u ∈ news, u.oneCell' = true)
    (hroom : n + m ≤ cap) (hw : w.heap[b]? = some (.cells (vs ++ rest).toArray e (0, 0))) (hrest : vs.length + rest.length = cap * i.size) :
    (Builtin.append_ #[t, t] ty #[.slice (some ⟨b, 0, none⟩) n cap, .slice (some a) m c]).run P w = .ok (.slice (some ⟨b, 0, none⟩) (n + m) cap) (w.setRow b (vs ++ news ++ rest.drop news.length).toArray) := by
  have hfc := run_firstCells_some (P := P) w i.size m a m c news hl hnews
  have hle : vs.length + news.length ≤ (vs ++ rest).length := by
    have : (n + m) * i.size ≤ cap * i.size := Nat.mul_le_mul_right _ hroom
    rw [Nat.add_mul] at this
    simp; omega
  have hst := run_storeCells_at (P := P) b e news 0 vs.length (vs ++ rest) w hw (by omega) h1
  have e1 : (vs ++ rest).take (vs.length + 0) ++ news ++ (vs ++ rest).drop (vs.length + 0 + news.length) = vs ++ news ++ rest.drop news.length := by
    simp [List.drop_append]
  rw [e1] at hst
  have e2 : (⟨b, 0, none⟩ : Addr).add (n * i.size) = ⟨b, vs.length, none⟩ := by rw [addr_add, Nat.zero_add, hvs]
  simp [Builtin.append_, run_underlying ht, sizeOf, typeInfo, hi, Builtin.lenOf, hroom, hfc, e2, hst]
theorem run_append_nil (P : Program) (w : World) (t ty e : TypeId) (i : TypeInfo) (z : Value) (ht : P.underlying t = some (.slice e)) (hi : P.info? e = some i) (hz : i.zero = some z) (hzs : z.cells.size = i.size) (hsz : 0 < i.size)
    (a : Addr) (m c : Nat) (news : List Value) (hl : news.length = m * i.size) (hnews : ∀ j u, news[j]? = some u → w.cell? (a.add j) = some u) (h1 : ∀ u ∈ news, u.oneCell' = true)
    (h63 : m ≤ maxLen) (hbytes : m * i.bytes ≤ 140737488355328) (_hm : 1 ≤ m) :
    ∃ v' w', (Builtin.append_ #[t, t] ty #[.slice none 0 0, .slice (some a) m c]).run P w = .ok v' w' ∧ w'.ownsRow w.heap.size e i.size v' m news ∧ w.grownBy w' none := by
  obtain ⟨v', w', h2, h3, h4, _⟩ := run_append_own (P := P) w w.heap.size t ty e i z i.size i.bytes ht hi hz rfl rfl hzs hsz (.slice none 0 0) 0 [] (World.ownsRow_nil w _ e i.size) a m c news hl hnews h1 (by omega) (by simpa using hbytes) (Nat.le_refl _)
  exact ⟨v', w', h2, by simpa using h3, h4⟩
theorem relL_all {β β' : Lab} (h : Lab.le β β') {s : List SV} {v : List Value} (hr : relL β s v) : relL β' s v := relL_mono h s v hr
/-- two new labels: a block, a capacity -/
def Lab.put2 (β : Lab) (m g cap : Nat) (d : Nat → Bool) : Lab := ⟨fun l => if l = m then some g else if l = m + 1 then some cap else β.blk l, fun l => if l = m then false else if l = m + 1 then true else d l || β.dead l, β.fz⟩
theorem Lab.put2_blk (β : Lab) (m g cap : Nat) (d : Nat → Bool) (l : Nat) : (Lab.put2 β m g cap d) l = if l = m then some g else if l = m + 1 then some cap else β l := rfl
theorem Lab.put2_dead (β : Lab) (m g cap : Nat) (d : Nat → Bool) (l : Nat) : (Lab.put2 β m g cap d).dead l = if l = m then false else if l = m + 1 then true else d l || β.dead l := rfl
theorem hpOf_append2 (H : SHeap) (x : Option Obj') (l : Nat) : hpOf (H ++ [x, none]) l = if l = H.length then x else hpOf H l := by
  simp only [hpOf, nth_eq, List.getElem?_append]
  by_cases h : l = H.length
  · subst h; simp
  · by_cases h2 : l < H.length
    · simp [h2, h]
    · rw [if_neg h2, if_neg h, List.getElem?_eq_none (l := H) (by omega)]
      obtain ⟨k, hk⟩ : ∃ k, l - H.length = k + 1 := ⟨l - H.length - 1, by omega⟩
      rw [hk]
      cases k <;> simp
/-- behind an append: a state in which the block g bears the old cells and the new ones -/
theorem app_next {β : Lab} {H H1 : SHeap} {w w' : World} {m g cap e sz : Nat} {olds news : List SV} {vo vn rest : List Value} {d : Nat → Bool} (hr : HR β (hpOf H) w) (hfree : ∀ l, H.length ≤ l → β l = none) (hm : m = H.length)
    (hlen1 : H1.length = H.length) (hH1 : ∀ l o, hpOf H1 l = some o → hpOf H l = some o ∧ d l = false) (ho : relL β olds vo) (hn : relL β news vn) (hg : w'.heap[g]? = some (.cells (vo ++ vn ++ rest).toArray e (0, 0)))
    (hcap : cap ≤ maxLen) (hsz : (vo ++ vn).length + rest.length = cap * sz) (hsize : w.heap.size ≤ w'.heap.size) (hos : w'.os = w.os) (htape : w'.tape = w.tape) (hout : w'.output = w.output)
    (hblk : ∀ k, k < w.heap.size → k ≠ g → w'.heap[k]? = w.heap[k]?)
    (hkind : w.heap.size ≤ g ∨ ∃ l o, β l = some g ∧ hpOf H l = some o ∧ d l = true) :
    Ext β H w (Lab.put2 β m g cap d) (H1 ++ [some (olds ++ news, ⟨e, some (m + 1, sz), 0, [], none⟩), none]) w' ∧ HR (Lab.put2 β m g cap d) (hpOf (H1 ++ [some (olds ++ news, ⟨e, some (m + 1, sz), 0, [], none⟩), none])) w' ∧
    ∀ l, (H1 ++ [some (olds ++ news, (⟨e, some (m + 1, sz), 0, [], none⟩ : Tag)), none]).length ≤ l → (Lab.put2 β m g cap d) l = none := by
  have lt0 : ∀ {l b}, β l = some b → l < H.length := fun {l b} hb => by
    rcases Nat.lt_or_ge l H.length with h | h
    · exact h
    · rw [hfree l h] at hb; simp at hb
  have hext : Lab.le β (Lab.put2 β m g cap d) := ⟨fun l b hb => by
    have := lt0 hb
    rw [Lab.put2_blk, if_neg (by omega), if_neg (by omega)]; exact hb, fun _ _ h => h⟩
  have hhp : ∀ l, hpOf (H1 ++ [some (olds ++ news, (⟨e, some (m + 1, sz), 0, [], none⟩ : Tag)), none]) l = if l = m then some (olds ++ news, ⟨e, some (m + 1, sz), 0, [], none⟩) else hpOf H1 l := fun l => by
    rw [hpOf_append2, hlen1, hm]
  -- who is alive at g is m
  have halive : ∀ l, β.dead l = false → d l = false → β l ≠ some g := fun l h1 h2 h3 => by
    rcases hkind with h | ⟨l0, o, h4, h5, h6⟩
    · have := hr.lt l g h1 h3; omega
    · have := hr.inj l l0 g h1 (hr.obj _ _ h5).alive h3 h4
      subst this; rw [h6] at h2; simp at h2
  have hglt : g < w'.heap.size := (Array.getElem?_eq_some_iff.1 hg).1
  have hkilled : ∀ l, d l = true → hpOf H1 l = none := fun l hd => by
    cases h : hpOf H1 l with
    | none => rfl
    | some o => have := (hH1 l o h).2; rw [hd] at this; simp at this
  refine ⟨⟨hext, fun l b hb => ?_, by simp [hlen1], fun l o hl hlo => ?_, fun b hb hnone => ?_, hsize, hos, htape, hout, fun _ _ h => .inl h⟩, ⟨fun l o hlo => ?_, fun l l' b d1 d2 h1 h2 => ?_, fun l b d1 h1 => ?_, fun b c hb => ?_⟩, fun l hl => ?_⟩
  · rw [Lab.put2_blk] at hb
    split at hb
    · rename_i e1; simp only [Option.some.injEq] at hb; subst hb
      refine .inr ⟨by omega, ?_⟩
      rcases hkind with h | ⟨l0, o, h4, h5, h6⟩
      · exact .inl h
      · refine .inr (.inl ⟨l0, o, h4, h5, ?_⟩)
        rw [hhp, if_neg (by have := lt0 h4; omega)]
        exact hkilled l0 h6
    · split at hb
      · rename_i e1 e2
        refine .inr ⟨by omega, .inr (.inr ?_)⟩
        rw [hhp, if_neg e1]
        cases h : hpOf H1 l with
        | none => rfl
        | some o => have := hpOf_lt h; omega
      · exact .inl hb
  · rw [hhp, if_neg (by omega)] at hlo
    exact ⟨o, (hH1 l o hlo).1, .inl rfl⟩
  · refine hblk b hb fun e1 => ?_
    subst e1
    rcases hkind with h | ⟨l0, o, h4, h5, h6⟩
    · omega
    · have h7 := hnone l0 h4
      rw [h5, hhp, if_neg (by have := lt0 h4; omega), hkilled l0 h6] at h7; simp at h7
  · rw [hhp] at hlo
    split at hlo
    · rename_i e1; subst e1; simp only [Option.some.injEq] at hlo; subst hlo
      refine ⟨g, vo ++ vn, rest, by rw [Lab.put2_blk, if_pos rfl], relL_append (relL_mono hext _ _ ho) (relL_mono hext _ _ hn), hg, by rw [Lab.put2_dead, if_pos rfl], ⟨fun lc sz' e2 => ?_, fun ks m' f' e2 => by simp at e2⟩⟩
      simp only [Option.some.injEq, Prod.mk.injEq] at e2; obtain ⟨rfl, rfl⟩ := e2
      exact ⟨cap, by rw [Lab.put2_blk, if_neg (by omega), if_pos rfl], hcap, hsz⟩
    · obtain ⟨h1, h2⟩ := hH1 l o hlo
      have hal := (hr.obj l o h1).alive
      obtain ⟨b, vs, rest', a1, a2, a3, _, a5⟩ := hr.obj l o h1
      have := lt0 a1
      refine ⟨b, vs, rest', hext _ _ a1, relL_mono hext _ _ a2, ?_, by rw [Lab.put2_dead, if_neg (by omega), if_neg (by omega), h2, hal]; rfl, a5.mono hext⟩
      rw [hblk b (hr.lt _ _ hal a1) (fun e1 => halive l hal h2 (e1 ▸ a1)), a3]
  · rw [Lab.put2_blk] at h1 h2
    rw [Lab.put2_dead] at d1 d2
    by_cases c1 : l = m
    · by_cases c2 : l' = m
      · omega
      · rw [if_neg c2] at d2 h2
        rw [if_pos c1] at h1; simp only [Option.some.injEq] at h1; subst h1
        split at d2
        · simp at d2
        · rename_i c3; rw [if_neg c3] at h2
          simp only [Bool.or_eq_false_iff] at d2
          exact absurd h2 (halive l' d2.2 d2.1)
    · rw [if_neg c1] at d1 h1
      split at d1
      · simp at d1
      · rename_i c3; rw [if_neg c3] at h1
        simp only [Bool.or_eq_false_iff] at d1
        by_cases c2 : l' = m
        · rw [if_pos c2] at h2; simp only [Option.some.injEq] at h2; subst h2
          exact absurd h1 (halive l d1.2 d1.1)
        · rw [if_neg c2] at d2 h2
          split at d2
          · simp at d2
          · rename_i c4; rw [if_neg c4] at h2
            simp only [Bool.or_eq_false_iff] at d2
            exact hr.inj l l' b d1.2 d2.2 h1 h2
  · rw [Lab.put2_blk] at h1
    rw [Lab.put2_dead] at d1
    by_cases c1 : l = m
    · rw [if_pos c1] at h1; simp only [Option.some.injEq] at h1; omega
    · rw [if_neg c1] at d1 h1
      split at d1
      · simp at d1
      · rename_i c3; rw [if_neg c3] at h1
        simp only [Bool.or_eq_false_iff] at d1
        exact Nat.lt_of_lt_of_le (hr.lt l b d1.2 h1) hsize
  · have hlt := hr.flt hb
    have hne : b ≠ g := fun e => by
      subst e
      rcases hkind with h | ⟨l0, o, h4, h5, h6⟩
      · omega
      · exact (hr.fz b c hb).2 l0 (hr.obj _ _ h5).alive h4
    refine ⟨by rw [hblk b hlt hne]; exact (hr.fz b c hb).1, fun l d1 h1 => ?_⟩
    rw [Lab.put2_blk] at h1
    rw [Lab.put2_dead] at d1
    by_cases c1 : l = m
    · rw [if_pos c1] at h1; simp only [Option.some.injEq] at h1; exact hne h1.symm
    · rw [if_neg c1] at d1 h1
      split at d1
      · simp at d1
      · rename_i c3; rw [if_neg c3] at h1
        simp only [Bool.or_eq_false_iff] at d1
        exact (hr.fz b c hb).2 l d1.2 h1
  · simp only [List.length_append, List.length_cons, List.length_nil, hlen1] at hl
    rw [Lab.put2_blk, if_neg (by omega), if_neg (by omega)]
    exact hfree l (by omega)
theorem appStep_sound {E : Env} (_hE : E.Ok) {ops : List Oper} {st : St} {o : Oper} {r : SV × SHeap} {β : Lab} {a : Act} {w : World} (h : Rel β st a w) (hr : appStep E ops st o = some r) {K : Act → World → Prop} {Q : Exit → Act → World → Prop}
    (hK : ∀ β' w' val, Ext β st.heap w β' r.2 w' → HR β' (hpOf r.2) w' → (∀ l, r.2.length ≤ l → β' l = none) → SV.rel β' r.1 val → K (a.put o.dst val) w') :
    if Region.wanted o (yielded ops.toArray a.tmps) then o.wp E.P a w K Q else K (a.put o.dst undef) w := by
  unfold appStep at hr
  split at hr <;> (try simp only [reduceCtorEq] at hr)
  rename_i args argTypes ho
  split at hr <;> (try simp only [reduceCtorEq] at hr)
  rename_i fs hg
  obtain ⟨hw, hfs⟩ := guardAs_sound h.fact hg
  rw [if_pos hw]
  split at hr <;> (try simp only [reduceCtorEq] at hr)
  rename_i s x t t' hlk hat
  split at hr <;> (try simp only [reduceCtorEq] at hr)
  rename_i htt
  have htt' : t = t' := by simpa using htt
  subst htt'
  have hvals := looks_rel (β := β) (ρ := a.eval) (fun x _ v hv => lookE_sound (known_true h) hfs (fun _ _ => trivial) hv) hlk
  rw [relL_cons] at hvals; obtain ⟨vs, l1, hs, hvals, e1⟩ := hvals
  rw [relL_cons] at hvals; obtain ⟨vx, l2, hx, hvals, e2⟩ := hvals
  rw [relL_nil] at hvals; subst hvals; subst e2
  have hargs : (args.map a.eval) = #[vs, vx] := by apply Array.ext'; simpa using e1
  have hats : argTypes = #[t, t] := by apply Array.ext'; simpa using hat
  subst hats
  -- it is enough that the builtin runs so
  suffices hrun : ∃ val w' β', (Builtin.append_ #[t, t] o.type #[vs, vx]).run E.P w = .ok val w' ∧ Ext β st.heap w β' r.2 w' ∧ HR β' (hpOf r.2) w' ∧ (∀ l, r.2.length ≤ l → β' l = none) ∧ SV.rel β' r.1 val by
    obtain ⟨val, w', β', h1, h2, h3, h4, h5⟩ := hrun
    have := hK β' w' val h2 h3 h4 h5
    unfold Oper.wp execOp
    simp [ho, resolve, invoke, builtin, hargs, h1]
    exact this
  unfold appVal at hr
  split at hr <;> (try simp only [reduceCtorEq] at hr)
  rename_i e sz bytes old l2' off2 m hel hold hsrc
  split at hr <;> (try simp only [reduceCtorEq] at hr)
  rename_i cs2 tg2 olds H1 n ho2 holds
  split at hr <;> (try simp only [reduceCtorEq] at hr)
  rename_i news htk
  split at hr <;> simp only [Option.some.injEq, reduceCtorEq] at hr
  rename_i hc
  subst hr
  simp only [Bool.and_eq_true, Nat.ble_eq] at hc
  obtain ⟨⟨⟨⟨hscal, hb⟩, hnm⟩, hm1⟩, hfull⟩ := hc
  -- the type
  unfold elemOk at hel
  split at hel <;> (try simp only [reduceCtorEq] at hel)
  rename_i e0 hu
  split at hel <;> (try simp only [reduceCtorEq] at hel)
  rename_i i hi
  split at hel <;> (try simp only [reduceCtorEq] at hel)
  rename_i z hz
  split at hel <;> simp only [Option.some.injEq, Prod.mk.injEq, reduceCtorEq] at hel
  rename_i hzz
  obtain ⟨rfl, rfl, rfl⟩ := hel
  simp only [Bool.and_eq_true, Nat.beq_eq, Nat.ble_eq] at hzz
  -- what is appended
  obtain ⟨b2, c2, hb2, hvx⟩ : ∃ b2 c2, β l2' = some b2 ∧ vx = .slice (some ⟨b2, off2, none⟩) m c2 := by
    unfold srcOf at hsrc
    split at hsrc <;> simp only [Option.some.injEq, Prod.mk.injEq, reduceCtorEq] at hsrc
    · obtain ⟨rfl, rfl, rfl⟩ := hsrc
      simp only [SV.rel] at hx; obtain ⟨b, h1, h2⟩ := hx; exact ⟨b, _, h1, h2⟩
    · obtain ⟨rfl, rfl, rfl⟩ := hsrc
      simp only [SV.rel] at hx; obtain ⟨b, c, h1, _, h2⟩ := hx; exact ⟨b, c, h1, h2⟩
  subst hvx
  obtain ⟨b2', vs2, rest2, hb2', hrel2, hw2, _, _⟩ := h.hr.obj _ _ ho2
  obtain rfl : b2 = b2' := by rw [hb2] at hb2'; simpa using hb2'
  obtain ⟨hn1, hn2⟩ := relL_takeN (relL_dropN off2 hrel2) htk
  have hn3 := relL_length hn1
  have hnl : ((vs2.drop off2).take (m * i.size)).length = m * i.size := by rw [hn3, hn2]
  have hnews : ∀ j u, ((vs2.drop off2).take (m * i.size))[j]? = some u → w.cell? ((⟨b2, off2, none⟩ : Addr).add j) = some u := fun j u hj => by
    rw [addr_add, cell_block w hw2]
    rw [List.getElem?_take] at hj
    split at hj
    · rw [List.getElem?_drop] at hj
      rw [List.getElem?_append_left (List.getElem?_eq_some_iff.1 hj).1]; exact hj
    · simp at hj
  have hone := relL_scal hn1 hscal
  obtain ⟨vn, hvn⟩ : ∃ vn, vn = (vs2.drop off2).take (m * i.size) := ⟨_, rfl⟩
  rw [← hvn] at hn1 hnl hnews hone
  have hml := maxLen_le
  cases old with
  | nil =>
    simp only [oldCells, Option.some.injEq, Prod.mk.injEq] at holds
    obtain ⟨rfl, rfl, rfl⟩ := holds
    have hvs : vs = .slice none 0 0 := by
      unfold oldOf at hold
      split at hold <;> simp only [Option.some.injEq, reduceCtorEq] at hold
      simp only [SV.rel] at hs; exact hs.1
    subst hvs
    simp only [Nat.zero_add] at hnm hb ⊢
    obtain ⟨v', w', h1, h2, h3⟩ := run_append_nil E.P w t o.type e0 i z hu hi hz hzz.1 hzz.2 ⟨b2, off2, none⟩ m c2 vn hnl hnews hone (by omega) hb hm1
    obtain ⟨_, ⟨_, h4⟩ | ⟨g, cap, cur, rfl, hg, hcur, hnc, hcm, hcs, hct⟩⟩ := h2
    · omega
    obtain ⟨k1, k2, k3⟩ := app_next (m := st.heap.length) (g := g) (cap := cap) (e := e0) (sz := i.size) (olds := []) (news := news) (vo := []) (vn := vn) (rest := cur.toList.drop (m * i.size)) (d := fun _ => false) h.hr h.free rfl rfl (fun l o ho => ⟨ho, rfl⟩) (relL_nil.2 rfl) hn1
      (by rw [hcur, List.nil_append, ← hct, List.take_append_drop]) hcm (by
        have e3 : m * i.size ≤ cap * i.size := Nat.mul_le_mul_right _ hnc
        have e4 : cur.toList.length = cap * i.size := by simpa using hcs
        simp only [List.nil_append, List.length_drop, e4, hnl]; omega) h3.size h3.os h3.tape h3.output (fun k hk _ => h3.block k hk (by simp)) (.inl hg)
    refine ⟨_, w', _, h1, k1, k2, k3, ?_⟩
    simp only [SV.rel]
    exact ⟨g, cap, by rw [Lab.put2_blk, if_pos rfl], by rw [Lab.put2_blk, if_neg (by omega), if_pos rfl], rfl⟩
  | own l lc n0 =>
    simp only [oldCells] at holds
    split at holds <;> (try simp only [reduceCtorEq] at holds)
    rename_i cs e' lc' sz' stp vrp hol
    split at holds <;> simp only [Option.some.injEq, Prod.mk.injEq, reduceCtorEq] at holds
    rename_i hc2
    simp only [Bool.and_eq_true, Nat.beq_eq] at hc2
    obtain ⟨⟨⟨rfl, rfl⟩, rfl⟩, hcl⟩ := hc2
    obtain ⟨rfl, rfl, rfl⟩ := holds
    have hs' : SV.rel β (.own l lc' n0) vs := by
      unfold oldOf at hold
      split at hold <;> simp only [Option.some.injEq, reduceCtorEq, Old.own.injEq] at hold
      obtain ⟨rfl, rfl, rfl⟩ := hold; exact hs
    simp only [SV.rel] at hs'
    obtain ⟨b, cap, hbl, hlc, rfl⟩ := hs'
    have hobj := h.hr.obj _ _ hol
    obtain ⟨b', vo, rest, hb', hrel, hwb, hal, htag⟩ := hobj
    obtain rfl : b = b' := by rw [hbl] at hb'; simpa using hb'
    obtain ⟨cap', hc1, hc3, hc4⟩ := htag.own _ _ rfl
    obtain rfl : cap = cap' := by rw [hlc] at hc1; simpa using hc1
    have hvl : vo.length = n0 * i.size := by rw [relL_length hrel]; exact hcl
    have hH1 : ∀ l' o', hpOf (upd st.heap l none) l' = some o' → hpOf st.heap l' = some o' ∧ (decide (l' = l)) = false := fun l' o' h1 => by
      simp only [hpOf, nth_upd] at h1
      split at h1
      · rename_i x hx
        split at hx
        · simp only [Option.some.injEq] at hx; subst hx; simp at h1
        · rename_i hne
          refine ⟨by simp only [hpOf, hx]; exact h1, ?_⟩
          have : l' ≠ l := fun e => hne ⟨e.symm, by
            rcases Nat.lt_or_ge l' st.heap.length with h | h
            · exact h
            · rw [nth_eq, List.getElem?_eq_none h] at hx; simp at hx⟩
          simpa using this
      · simp at h1
    by_cases hroom : n0 + m ≤ cap
    · have h1 := run_append_room E.P w t o.type e' i hu hi b n0 cap ⟨b2, off2, none⟩ m c2 vo vn rest hvl hnl hnews hone hroom hwb hc4
      have hle : vn.length ≤ rest.length := by
        have : (n0 + m) * i.size ≤ cap * i.size := Nat.mul_le_mul_right _ hroom
        rw [Nat.add_mul] at this; omega
      obtain ⟨k1, k2, k3⟩ := app_next (w' := w.setRow b (vo ++ vn ++ rest.drop vn.length).toArray) (m := st.heap.length) (g := b) (cap := cap) (e := e') (sz := i.size) (olds := cs) (news := news) (vo := vo) (vn := vn) (rest := rest.drop vn.length) (d := fun l' => decide (l' = l)) h.hr h.free rfl (upd_length _ _ _) hH1 hrel hn1
        (setRow_heap _ _ _ _ _ _ hwb) hc3 (by simp only [List.length_append, List.length_drop]; omega) (by rw [setRow_size]; exact Nat.le_refl _) rfl rfl rfl (fun k _ hk => setRow_other _ _ _ _ hk) (.inr ⟨l, _, hbl, hol, by simp⟩)
      refine ⟨_, _, _, h1, k1, k2, k3, ?_⟩
      simp only [SV.rel]
      exact ⟨b, cap, by rw [Lab.put2_blk, if_pos rfl], by rw [Lab.put2_blk, if_neg (by omega), if_pos rfl], rfl⟩
    · obtain ⟨v', w', h1, h2, h3⟩ := run_append_arg_grows (P := E.P) w t o.type e' i z i.size i.bytes hu hi hz rfl rfl hzz.1 hzz.2 ⟨b, 0, none⟩ n0 cap vo hvl (fun j u hj => by
        rw [addr_add, cell_block w hwb, Nat.zero_add, List.getElem?_append_left (List.getElem?_eq_some_iff.1 hj).1]; exact hj) ⟨b2, off2, none⟩ m c2 vn hnl hnews (by omega) (by omega) hb
      obtain ⟨h5, ⟨_, h4⟩ | ⟨g, cap2, cur, rfl, hg, hcur, hnc, hcm, hcs, hct⟩⟩ := h2
      · omega
      obtain ⟨k1, k2, k3⟩ := app_next (m := st.heap.length) (g := g) (cap := cap2) (e := e') (sz := i.size) (olds := cs) (news := news) (vo := vo) (vn := vn) (rest := cur.toList.drop ((n0 + m) * i.size)) (d := fun l' => decide (l' = l)) h.hr h.free rfl (upd_length _ _ _) hH1 hrel hn1
        (by rw [hcur, ← hct, List.take_append_drop]) hcm (by
          have e3 : (n0 + m) * i.size ≤ cap2 * i.size := Nat.mul_le_mul_right _ hnc
          have e4 : cur.toList.length = cap2 * i.size := by simpa using hcs
          rw [h5]
          simp only [List.length_drop, e4]; omega) h3.size h3.os h3.tape h3.output (fun k hk _ => h3.block k hk (by simp)) (.inl hg)
      refine ⟨_, w', _, h1, k1, k2, k3, ?_⟩
      simp only [SV.rel]
      exact ⟨g, cap2, by rw [Lab.put2_blk, if_pos rfl], by rw [Lab.put2_blk, if_neg (by omega), if_pos rfl], rfl⟩
  | sl l off n0 c0 =>
    simp only [Old.full, Nat.blt_eq] at hfull
    simp only [oldCells] at holds
    split at holds <;> (try simp only [reduceCtorEq] at holds)
    rename_i cs tg hol
    simp only [Option.map_eq_some_iff, Prod.mk.injEq] at holds
    obtain ⟨x, hx0, rfl, rfl, rfl⟩ := holds
    have hs' : SV.rel β (.slice l off n0 c0) vs := by
      unfold oldOf at hold
      split at hold <;> simp only [Option.some.injEq, reduceCtorEq, Old.sl.injEq] at hold
      obtain ⟨rfl, rfl, rfl, rfl⟩ := hold; exact hs
    simp only [SV.rel] at hs'
    obtain ⟨b, hbl, rfl⟩ := hs'
    obtain ⟨b', vo, rest, hb', hrel, hwb, _, _⟩ := h.hr.obj _ _ hol
    obtain rfl : b = b' := by rw [hbl] at hb'; simpa using hb'
    obtain ⟨ho1, ho3⟩ := relL_takeN (relL_dropN off hrel) hx0
    have hvl : ((vo.drop off).take (n0 * i.size)).length = n0 * i.size := by rw [relL_length ho1, ho3]
    obtain ⟨v', w', h1, h2, h3⟩ := run_append_arg_grows (P := E.P) w t o.type e0 i z i.size i.bytes hu hi hz rfl rfl hzz.1 hzz.2 ⟨b, off, none⟩ n0 c0 ((vo.drop off).take (n0 * i.size)) hvl (fun j u hj => by
        rw [addr_add, cell_block w hwb]
        rw [List.getElem?_take] at hj
        split at hj
        · rw [List.getElem?_drop] at hj
          rw [List.getElem?_append_left (List.getElem?_eq_some_iff.1 hj).1]; exact hj
        · simp at hj) ⟨b2, off2, none⟩ m c2 vn hnl hnews (by omega) (by omega) hb
    obtain ⟨h5, ⟨_, h4⟩ | ⟨g, cap2, cur, rfl, hg, hcur, hnc, hcm, hcs, hct⟩⟩ := h2
    · omega
    obtain ⟨k1, k2, k3⟩ := app_next (m := st.heap.length) (g := g) (cap := cap2) (e := e0) (sz := i.size) (olds := x) (news := news) (vo := (vo.drop off).take (n0 * i.size)) (vn := vn) (rest := cur.toList.drop ((n0 + m) * i.size)) (d := fun _ => false) h.hr h.free rfl rfl (fun l' o' h1 => ⟨h1, rfl⟩) ho1 hn1
      (by rw [hcur, ← hct, List.take_append_drop]) hcm (by
        have e3 : (n0 + m) * i.size ≤ cap2 * i.size := Nat.mul_le_mul_right _ hnc
        have e4 : cur.toList.length = cap2 * i.size := by simpa using hcs
        rw [h5]
        simp only [List.length_drop, e4]; omega) h3.size h3.os h3.tape h3.output (fun k hk _ => h3.block k hk (by simp)) (.inl hg)
    refine ⟨_, w', _, h1, k1, k2, k3, ?_⟩
    simp only [SV.rel]
    exact ⟨g, cap2, by rw [Lab.put2_blk, if_pos rfl], by rw [Lab.put2_blk, if_neg (by omega), if_pos rfl], rfl⟩

theorem hsStep_sound {E : Env} (hE : E.Ok) {ops : List Oper} {st : St} {o : Oper} {r : SV} {β : Lab} {a : Act} {w : World} (h : Rel β st a w) (hr : hsStep E ops st o = some r) {K : Act → World → Prop} {Q : Exit → Act → World → Prop}
    (hK : ∀ β' w' val, Ext β st.heap w β' st.heap w' → HR β' (hpOf st.heap) w' → (∀ l, st.heap.length ≤ l → β' l = none) → SV.rel β' r val → K (a.put o.dst val) w') :
    if Region.wanted o (yielded ops.toArray a.tmps) then o.wp E.P a w K Q else K (a.put o.dst undef) w := by
  unfold hsStep at hr
  split at hr <;> (try simp only [reduceCtorEq] at hr)
  rename_i f args at' ho
  split at hr <;> (try simp only [reduceCtorEq] at hr)
  rename_i fs hg
  split at hr <;> (try simp only [reduceCtorEq] at hr)
  rename_i g vs hca
  split at hr <;> (try simp only [reduceCtorEq] at hr)
  rename_i hen
  split at hr <;> (try simp only [reduceCtorEq] at hr)
  rename_i hs hget
  obtain ⟨hw, hfs⟩ := guardAs_sound h.fact hg
  rw [if_pos hw]
  obtain ⟨first, cap, h1, h2⟩ := callArgs_sound (β := β) (ρ := a.eval) (fun x _ v hv => lookE_sound (known_true h) hfs (fun _ _ => trivial) hv) hca
  refine wp_call ho h1 (hE.enter hen) ?_
  have h3 := (hE.hsumms.get hget) vs st.heap r hr β w _ h2 h.hr h.free
  simp only [Array.toArray_toList] at h3
  refine h3.mono ?_
  rintro e' w' ⟨⟨v, rfl, hv⟩, hb⟩
  obtain ⟨k1, k2, k3⟩ := Stp.next h.hr h.free (fun _ _ h => h) (Stp.below (m := st.heap.length) h.hr hb)
  exact hK _ w' v k2 k1 k3 (SV.rel_mono (Lab.after_le β w w') _ _ hv)
theorem chk_holds {α : Type} {c : Option Bool} {t : T α} {K : α → Prop} (h : (chk c t).Holds K) : CondOk c ∧ t.Holds K := by
  unfold chk at h
  split at h
  · exact ⟨fun b hb => by simp at hb, h⟩
  · rename_i b
    cases b with
    | true => exact ⟨fun b hb => by simpa using hb.symm, h.1 rfl⟩
    | false => exact (h.2 rfl).elim
theorem chkAll_holds {α : Type} {t : T α} {K : α → Prop} : ∀ {l : List Bool}, (chkAll l t).Holds K → (∀ b ∈ l, b = true) ∧ t.Holds K
  | [], h => ⟨fun b hb => by simp at hb, h⟩
  | b :: l, h => by
    simp only [chkAll] at h
    cases b with
    | true => obtain ⟨h1, h2⟩ := chkAll_holds (h.1 rfl); exact ⟨fun b hb => by rcases List.mem_cons.1 hb with rfl | hb; rfl; exact h1 b hb, h2⟩
    | false => exact (h.2 rfl).elim
theorem Rel.settle {β : Lab} {st : St} {a : Act} {w : World} (h : Rel β st a w) : Rel β st.settle a w := by
  refine ⟨by simp [St.settle, h.size], fun x e he => ?_, h.hr, h.free, h.defers⟩
  simp only [St.settle, nth_eq, List.getElem?_map, Option.map_eq_some_iff] at he
  obtain ⟨e', he', rfl⟩ := he
  have := h.fact x e' (by rw [nth_eq]; exact he')
  cases e' <;> first | exact this | trivial
end Go.Sx

namespace Go.Sx
open Go.RowKit Go.Proofs

/-! # lists that grow, and data: kinds, rows -/
mutual
def CK.beq : CK → CK → Bool
  | .int k, .int k' => decide (k = k')
  | .bool, .bool => true
  | .sl a, .sl b => CK.beqL a b
  | _, _ => false
def CK.beqL : List CK → List CK → Bool
  | [], [] => true
  | a :: l, b :: m => a.beq b && CK.beqL l m
  | _, _ => false
end
mutual
theorem CK.beq_eq : ∀ (a b : CK), a.beq b = true → a = b
  | .int k, b, h => by cases b <;> simp only [CK.beq, decide_eq_true_eq, Bool.false_eq_true] at h; rw [h]
  | .bool, b, h => by cases b <;> simp only [CK.beq, Bool.false_eq_true] at h; rfl
  | .sl a, b, h => by cases b <;> simp only [CK.beq, Bool.false_eq_true] at h; rw [CK.beqL_eq a _ h]
theorem CK.beqL_eq : ∀ (a b : List CK), CK.beqL a b = true → a = b
  | [], b, h => by cases b <;> simp only [CK.beqL, Bool.false_eq_true] at h; rfl
  | a :: l, b, h => by
    cases b <;> simp only [CK.beqL, Bool.false_eq_true, Bool.and_eq_true] at h
    rw [CK.beq_eq a _ h.1, CK.beqL_eq l _ h.2]
end
/-- a cell as a datum -/
def asTr : CK → SV → Option Tr
  | .int k, .int k' n => if k = k' then some (.int n.val) else none
  | .bool, .bool b => some (.bool b.val)
  | .sl ks, .tsl ks' n f => if CK.beqL ks ks' then some (.sl n f) else none
  | .sl _, .tz _ => some (.sl 0 fun _ _ => .int 0)
  | .sl _, .raw (.slice none 0 0) => some (.sl 0 fun _ _ => .int 0)
  | _, _ => none
theorem asTr_rel {β : Lab} {k : CK} {s : SV} {t : Tr} {v : Value} (h : asTr k s = some t) (hr : SV.rel β s v) : relT β.fz t k v := by
  unfold asTr at h
  split at h <;> (try simp only [reduceCtorEq] at h)
  · split at h <;> simp only [Option.some.injEq, reduceCtorEq] at h
    rename_i hk; subst hk; subst h; simp only [SV.rel] at hr; simp only [relT]; exact hr
  · simp only [Option.some.injEq] at h; subst h; simp only [SV.rel] at hr; simp only [relT]; exact hr
  · split at h <;> simp only [Option.some.injEq, reduceCtorEq] at h
    rename_i hk; subst h
    rw [CK.beqL_eq _ _ hk]; simp only [SV.rel] at hr; exact hr
  · simp only [Option.some.injEq] at h; subst h
    simp only [SV.rel] at hr; simp only [relT]
    refine ⟨by simp, ?_⟩
    rcases hr with rfl | ⟨a, rfl⟩
    · exact .inl ⟨rfl, trivial⟩
    · exact .inr ⟨a, 0, rfl, Nat.le_refl _, fun i j k hi => absurd hi (Nat.not_lt_zero _)⟩
  · simp only [Option.some.injEq] at h; subst h
    simp only [SV.rel] at hr; simp only [relT]
    exact ⟨by simp, .inl ⟨hr.1, trivial⟩⟩
theorem relT_one {fz : FZ} {t : Tr} {k : CK} {v : Value} (h : relT fz t k v) : v.oneCell' = true := by
  cases t <;> cases k <;> simp only [relT] at h
  · rw [h.1]; rfl
  · rw [h]; rfl
  · rcases h.2 with ⟨e, _⟩ | ⟨a, cap, e, _⟩ <;> rw [e] <;> rfl
def asRow : List CK → List SV → Option (List Tr × List SV)
  | [], l => some ([], l)
  | k :: ks, s :: l => match asTr k s, asRow ks l with
    | some t, some r => some (t :: r.1, r.2)
    | _, _ => none
  | _ :: _, [] => none
def asRows (ks : List CK) : Nat → List SV → Option (List (List Tr))
  | 0, _ => some []
  | n + 1, l => match asRow ks l with
    | some r => match asRows ks n r.2 with
      | some rs => some (r.1 :: rs)
      | none => none
    | none => none
def rowAt (rs : List (List Tr)) (i j : Nat) : Tr := match nth rs i with
  | some r => match nth r j with
    | some t => t
    | none => .int 0
  | none => .int 0
theorem asRow_rel {β : Lab} : ∀ {ks : List CK} {l : List SV} {r : List Tr × List SV} {vs : List Value}, asRow ks l = some r → relL β l vs →
    ks.length ≤ vs.length ∧ relL β r.2 (vs.drop ks.length) ∧ ∀ j k, ks[j]? = some k → ∃ u t, vs[j]? = some u ∧ nth r.1 j = some t ∧ relT β.fz t k u
  | [], l, r, vs, h, hr => by
    simp only [asRow, Option.some.injEq] at h; subst h
    exact ⟨Nat.zero_le _, by simpa using hr, fun j k hk => by simp at hk⟩
  | k :: ks, [], r, vs, h, hr => by simp [asRow] at h
  | k :: ks, s :: l, r, vs, h, hr => by
    simp only [asRow] at h
    split at h <;> simp only [Option.some.injEq, reduceCtorEq] at h
    rename_i t r' h1 h2; subst h
    rw [relL_cons] at hr; obtain ⟨v, vs', h3, h4, rfl⟩ := hr
    obtain ⟨h5, h6, h7⟩ := asRow_rel h2 h4
    refine ⟨by simp only [List.length_cons]; omega, by simpa using h6, fun j k' hk => ?_⟩
    cases j with
    | zero => simp only [List.getElem?_cons_zero, Option.some.injEq] at hk; subst hk; exact ⟨v, t, rfl, rfl, asTr_rel h1 h3⟩
    | succ j => simp only [List.getElem?_cons_succ] at hk; obtain ⟨u, t', a, b, c⟩ := h7 j k' hk; exact ⟨u, t', by simpa using a, by simpa [nth] using b, c⟩
theorem asRows_rel {β : Lab} {ks : List CK} : ∀ {n : Nat} {l : List SV} {rs : List (List Tr)} {vs : List Value}, asRows ks n l = some rs → relL β l vs → rowsT β.fz ks n (rowAt rs) vs
  | 0, l, rs, vs, h, hr => ⟨by simp, fun i j k hi => absurd hi (Nat.not_lt_zero _)⟩
  | n + 1, l, rs, vs, h, hr => by
    simp only [asRows] at h
    split at h <;> (try simp only [reduceCtorEq] at h)
    rename_i r h1
    split at h <;> simp only [Option.some.injEq, reduceCtorEq] at h
    rename_i rs' h2; subst h
    obtain ⟨h3, h4, h5⟩ := asRow_rel h1 hr
    obtain ⟨h6, h7⟩ := asRows_rel h2 h4
    simp only [List.length_drop] at h6
    refine ⟨by rw [Nat.add_mul]; omega, fun i j k hi hk => ?_⟩
    cases i with
    | zero => obtain ⟨u, t, a, b, c⟩ := h5 j k hk; exact ⟨u, by simpa using a, by simp only [rowAt, nth, b]; exact c⟩
    | succ i =>
      obtain ⟨u, a, b⟩ := h7 i j k (by omega) hk
      refine ⟨u, ?_, b⟩
      rw [List.getElem?_drop] at a
      rw [← a]; congr 1; rw [Nat.add_mul]; omega
/-- rows behind rows -/
def catF (n : Nat) (f g : Nat → Nat → Tr) : Nat → Nat → Tr := fun i j => bif Nat.blt i n then f i j else g (i - n) j
theorem rowsT_take {fz : FZ} {ks : List CK} {n : Nat} {f : Nat → Nat → Tr} {vs : List Value} (h : rowsT fz ks n f vs) : rowsT fz ks n f (vs.take (n * ks.length)) := by
  refine ⟨by rw [List.length_take]; exact Nat.le_min.2 ⟨Nat.le_refl _, h.1⟩, fun i j k hi hk => ?_⟩
  obtain ⟨u, a, b⟩ := h.2 i j k hi hk
  refine ⟨u, ?_, b⟩
  have hj : j < ks.length := (List.getElem?_eq_some_iff.1 hk).1
  have : i * ks.length + j < n * ks.length := by
    have : (i + 1) * ks.length ≤ n * ks.length := Nat.mul_le_mul_right _ hi
    rw [Nat.add_mul] at this; omega
  rw [List.getElem?_take, if_pos this]; exact a
theorem rowsT_le {fz : FZ} {ks : List CK} {n m : Nat} {f : Nat → Nat → Tr} {vs : List Value} (h : rowsT fz ks m f vs) (hn : n ≤ m) : rowsT fz ks n f vs :=
  ⟨Nat.le_trans (Nat.mul_le_mul_right _ hn) h.1, fun i j k hi hk => h.2 i j k (by omega) hk⟩
theorem rowsT_cat {fz : FZ} {ks : List CK} {n m : Nat} {f g : Nat → Nat → Tr} {vs ws rest : List Value} (h : rowsT fz ks n f vs) (hl : vs.length = n * ks.length) (h' : rowsT fz ks m g ws) (hl' : ws.length = m * ks.length) : rowsT fz ks (n + m) (catF n f g) (vs ++ ws ++ rest) := by
  refine ⟨by simp only [List.length_append, hl, hl', Nat.add_mul]; omega, fun i j k hi hk => ?_⟩
  have hj : j < ks.length := (List.getElem?_eq_some_iff.1 hk).1
  by_cases hin : i < n
  · obtain ⟨u, a, b⟩ := h.2 i j k hin hk
    have hlt := (List.getElem?_eq_some_iff.1 a).1
    have hb : Nat.blt i n = true := by simpa [Nat.blt_eq] using hin
    refine ⟨u, ?_, by simp only [catF, hb, cond_true]; exact b⟩
    rw [List.append_assoc, List.getElem?_append_left hlt]; exact a
  · obtain ⟨u, a, b⟩ := h'.2 (i - n) j k (by omega) hk
    have hlt := (List.getElem?_eq_some_iff.1 a).1
    have hb : Nat.blt i n = false := by
      cases hh : Nat.blt i n with
      | false => rfl
      | true => exact absurd (by simpa [Nat.blt_eq] using hh) hin
    have e : i * ks.length + j = vs.length + ((i - n) * ks.length + j) := by
      rw [hl, ← Nat.add_assoc, ← Nat.add_mul]; congr 2; omega
    refine ⟨u, ?_, by simp only [catF, hb, cond_false]; exact b⟩
    rw [e, List.append_assoc, List.getElem?_append_right (by omega), Nat.add_sub_cancel_left, List.getElem?_append_left hlt]; exact a
/-- the kinds of a type's cells -/
def repK : Nat → List CK → List CK
  | 0, _ => []
  | n + 1, l => l ++ repK n l
def kindsF (k : TypeId → Option (List CK)) : List Field → Option (List CK)
  | [] => some []
  | f :: fs => match k f.type, kindsF k fs with
    | some a, some b => some (a ++ b)
    | _, _ => none
def kindsT (P : Program) : Nat → TypeId → Option (List CK)
  | 0, _ => none
  | d + 1, t => match P.underlying t with
    | some .bool => some [.bool]
    | some (.int k) => some [.int k]
    | some (.slice e) => (kindsT P d e).map fun ks => [.sl ks]
    | some (.struct fs) => kindsF (kindsT P d) fs.toList
    | some (.array n e) => (kindsT P d e).map fun ks => repK n ks
    | _ => none

/-! ## what is known of a list, wherever it lies: how many rows, the rows, what must hold -/
def srcRows (H : SHeap) (ks : List CK) : SV → Option (Nat × (Nat → Nat → Tr) × Bool)
  | .slice l off m cap => match hpOf H l with
    | some (cs, _) => if Nat.ble m cap then (asRows ks m (dropN off cs)).map fun rs => (m, rowAt rs, true) else none
    | none => none
  | .own l lc m => match hpOf H l with
    | some (cs, ⟨_, some (lc', sz), _, _, none⟩) => if Nat.beq lc' lc && (Nat.beq sz ks.length && (Nat.blt 0 sz && Nat.beq cs.length (m * sz))) then (asRows ks m cs).map fun rs => (m, rowAt rs, true) else none
    | _ => none
  | .gro l lc n => match hpOf H l with
    | some (_, ⟨_, some (lc', sz), _, _, some (ks', m, f)⟩) => if Nat.beq lc' lc && (Nat.beq sz ks.length && (Nat.blt 0 sz && CK.beqL ks' ks)) then some (n, f, Nat.ble n m) else none
    | _ => none
  | .tsl ks' n f => if CK.beqL ks' ks then some (n, f, true) else none
  | .tz _ => some (0, fun _ _ => .int 0, true)
  | .raw (.slice none 0 0) => some (0, fun _ _ => .int 0, true)
  | _ => none
/-- a list of n rows that lies somewhere -/
def ListAt (fz : FZ) (w : World) (ks : List CK) (n : Nat) (f : Nat → Nat → Tr) (v : Value) : Prop :=
  (v = .slice none 0 0 ∧ n = 0) ∨ ∃ a cap news, v = .slice (some a) n cap ∧ n ≤ cap ∧ news.length = n * ks.length ∧ (∀ j u, news[j]? = some u → w.cell? (a.add j) = some u) ∧ rowsT fz ks n f news
theorem div_mod_lt {p n s : Nat} (h : p < n * s) : p / s < n ∧ p % s < s ∧ p / s * s + p % s = p := by
  have hs : 0 < s := by
    rcases Nat.eq_zero_or_pos s with h0 | h0
    · subst h0; simp at h
    · exact h0
  exact ⟨(Nat.div_lt_iff_lt_mul hs).2 h, Nat.mod_lt _ hs, by rw [Nat.mul_comm]; exact Nat.div_add_mod p s⟩
theorem news_of {fz : FZ} {ks : List CK} {n : Nat} {f : Nat → Nat → Tr} {w : World} {a : Addr} (h : ∀ i j k, i < n → ks[j]? = some k → ∃ u, w.cell? (a.add (i * ks.length + j)) = some u ∧ relT fz (f i j) k u) :
    ∃ news : List Value, news.length = n * ks.length ∧ (∀ j u, news[j]? = some u → w.cell? (a.add j) = some u) ∧ rowsT fz ks n f news := by
  have hex : ∀ p, p < n * ks.length → ∃ u, w.cell? (a.add p) = some u := fun p hp => by
    obtain ⟨h1, h2, h3⟩ := div_mod_lt hp
    obtain ⟨u, hu, _⟩ := h (p / ks.length) (p % ks.length) _ h1 (List.getElem?_eq_getElem h2)
    exact ⟨u, by rw [h3] at hu; exact hu⟩
  refine ⟨(List.range (n * ks.length)).map fun p => (w.cell? (a.add p)).getD undef, by simp, fun j u hj => ?_, by simp, fun i j k hi hk => ?_⟩
  · rw [List.getElem?_map, Option.map_eq_some_iff] at hj
    obtain ⟨p, hp, rfl⟩ := hj
    obtain ⟨hlt, rfl⟩ : j < n * ks.length ∧ j = p := by
      have := (List.getElem?_eq_some_iff.1 hp)
      obtain ⟨h1, h2⟩ := this
      simp at h1 h2; exact ⟨h1, h2⟩
    obtain ⟨u, hu⟩ := hex j hlt
    rw [hu]; rfl
  · obtain ⟨u, hu, hr⟩ := h i j k hi hk
    have hj : j < ks.length := (List.getElem?_eq_some_iff.1 hk).1
    have hlt : i * ks.length + j < n * ks.length := by
      have : (i + 1) * ks.length ≤ n * ks.length := Nat.mul_le_mul_right _ hi
      rw [Nat.add_mul] at this; omega
    refine ⟨u, ?_, hr⟩
    rw [List.getElem?_map, List.getElem?_range hlt]
    simp [hu]
theorem cells_at {w : World} {b off : Nat} {vs : List Value} {t : TypeId} {fr : Nat × Nat} (h : w.heap[b]? = some (.cells vs.toArray t fr)) (j : Nat) : w.cell? ((⟨b, off, none⟩ : Addr).add j) = vs[off + j]? := by
  rw [addr_add, cell_block w h]
theorem listAt_rows {fz : FZ} {w : World} {ks : List CK} {n : Nat} {f : Nat → Nat → Tr} {b off cap : Nat} {all : List Value} {t : TypeId} {fr : Nat × Nat} (hw : w.heap[b]? = some (.cells all.toArray t fr)) (hn : n ≤ cap) (hr : rowsT fz ks n f (all.drop off)) :
    ListAt fz w ks n f (.slice (some ⟨b, off, none⟩) n cap) := by
  refine .inr ⟨_, _, (all.drop off).take (n * ks.length), rfl, hn, by rw [List.length_take]; exact Nat.min_eq_left hr.1, fun j u hj => ?_, rowsT_take hr⟩
  rw [List.getElem?_take] at hj
  split at hj
  · rw [List.getElem?_drop] at hj; rw [cells_at hw]; exact hj
  · simp at hj
theorem srcRows_sound {H : SHeap} {ks : List CK} {x : SV} {n : Nat} {f : Nat → Nat → Tr} {c : Bool} (h : srcRows H ks x = some (n, f, c)) (hc : c = true) {β : Lab} {w : World} {v : Value} (hr : HR β (hpOf H) w) (hx : SV.rel β x v) : ListAt β.fz w ks n f v := by
  subst hc
  unfold srcRows at h
  split at h <;> (try simp only [reduceCtorEq] at h)
  · split at h <;> (try simp only [reduceCtorEq] at h)
    rename_i cs tg ho
    split at h <;> (try simp only [reduceCtorEq] at h)
    rename_i hcap
    simp only [Option.map_eq_some_iff, Prod.mk.injEq] at h
    obtain ⟨rs, hrs, rfl, rfl, _⟩ := h
    simp only [SV.rel] at hx; obtain ⟨b, hb, rfl⟩ := hx
    obtain ⟨b', vs, rest, hb', hrel, hw, _, _⟩ := hr.obj _ _ ho
    obtain rfl : b = b' := by rw [hb] at hb'; simpa using hb'
    have h1 := asRows_rel hrs (relL_dropN _ hrel)
    refine listAt_rows hw (Nat.le_of_ble_eq_true hcap) ⟨?_, fun i j k hi hk => ?_⟩
    · have := h1.1; simp only [List.length_drop, List.length_append] at this ⊢; omega
    · obtain ⟨u, a, e⟩ := h1.2 i j k hi hk
      refine ⟨u, ?_, e⟩
      rw [List.getElem?_drop] at a ⊢
      rw [List.getElem?_append_left (List.getElem?_eq_some_iff.1 a).1]; exact a
  · rename_i l lc n'
    split at h <;> (try simp only [reduceCtorEq] at h)
    rename_i cs ty lc' sz st vr ho
    split at h <;> (try simp only [reduceCtorEq] at h)
    rename_i hcc
    simp only [Bool.and_eq_true, Nat.beq_eq, Nat.blt_eq] at hcc
    obtain ⟨c1, c2, c3, c4⟩ := hcc
    simp only [Option.map_eq_some_iff, Prod.mk.injEq] at h
    obtain ⟨rs, hrs, rfl, rfl, _⟩ := h
    simp only [SV.rel] at hx; obtain ⟨b, cap, hb, hlc, rfl⟩ := hx
    obtain ⟨b', vs, rest, hb', hrel, hw, _, htag⟩ := hr.obj _ _ ho
    obtain rfl : b = b' := by rw [hb] at hb'; simpa using hb'
    obtain ⟨cap', d1, _, d3⟩ := htag.own _ _ rfl
    rw [c1, hlc] at d1; simp only [Option.some.injEq] at d1; subst d1
    have hl : vs.length = cs.length := relL_length hrel
    have h1 := asRows_rel hrs hrel
    refine listAt_rows hw ?_ ⟨?_, fun i j k hi hk => ?_⟩
    · have h2 : n' * sz ≤ cap * sz := by omega
      exact Nat.le_of_mul_le_mul_right h2 c3
    · have := h1.1; simp only [List.drop_zero, List.length_append] at this ⊢; omega
    · obtain ⟨u, a, e⟩ := h1.2 i j k hi hk
      refine ⟨u, ?_, e⟩
      rw [List.drop_zero, List.getElem?_append_left (List.getElem?_eq_some_iff.1 a).1]; exact a
  · rename_i l lc n'
    split at h <;> (try simp only [reduceCtorEq] at h)
    rename_i cs ty lc' sz st vr ks' m f' ho
    split at h <;> simp only [Option.some.injEq, Prod.mk.injEq, reduceCtorEq] at h
    rename_i hcc
    obtain ⟨rfl, rfl, hnm⟩ := h
    simp only [Bool.and_eq_true, Nat.beq_eq, Nat.blt_eq] at hcc
    obtain ⟨c1, c2, c3, c4⟩ := hcc
    have c4 := CK.beqL_eq _ _ c4
    subst c4
    simp only [SV.rel] at hx; obtain ⟨b, cap, hb, hlc, rfl, _⟩ := hx
    obtain ⟨b', vs, rest, hb', hrel, hw, _, htag⟩ := hr.obj _ _ ho
    obtain rfl : b = b' := by rw [hb] at hb'; simpa using hb'
    obtain ⟨cap', d1, _, d3⟩ := htag.own _ _ rfl
    rw [c1, hlc] at d1; simp only [Option.some.injEq] at d1; subst d1
    obtain ⟨h0, hrows⟩ := htag.lst _ _ _ rfl
    have hvs : vs = [] := List.eq_nil_of_length_eq_zero h0
    subst hvs
    have hrows := rowsT_le hrows (Nat.le_of_ble_eq_true hnm)
    refine listAt_rows hw ?_ (by simpa using hrows)
    have h2 : n' * sz ≤ cap * sz := by have := hrows.1; simp only [List.length_nil, Nat.zero_add] at d3; rw [← c2] at this; omega
    exact Nat.le_of_mul_le_mul_right h2 c3
  · rename_i ks' n' f'
    split at h <;> simp only [Option.some.injEq, Prod.mk.injEq, reduceCtorEq] at h
    rename_i hk; obtain ⟨rfl, rfl, _⟩ := h
    have hk := CK.beqL_eq _ _ hk
    subst hk
    simp only [SV.rel, relT] at hx
    obtain ⟨_, ⟨rfl, h0⟩ | ⟨a, cap, rfl, hcap, hh⟩⟩ := hx
    · exact .inl ⟨rfl, h0⟩
    · obtain ⟨news, h1, h2, h3⟩ := news_of (w := w) (a := a) (fz := β.fz) (ks := ks') (n := n') (f := f') (fun i j k hi hk => let ⟨u, e1, e2⟩ := hh i j k hi hk; ⟨u, fzc_cell hr e1, e2⟩)
      exact .inr ⟨a, cap, news, rfl, hcap, h1, h2, h3⟩
  · simp only [Option.some.injEq, Prod.mk.injEq] at h; obtain ⟨rfl, rfl, _⟩ := h
    simp only [SV.rel] at hx
    rcases hx with rfl | ⟨a, rfl⟩
    · exact .inl ⟨rfl, rfl⟩
    · exact .inr ⟨a, 0, [], rfl, Nat.le_refl _, by simp, fun j u hj => by simp at hj, by simp, fun i j k hi => absurd hi (Nat.not_lt_zero _)⟩
  · simp only [Option.some.injEq, Prod.mk.injEq] at h; obtain ⟨rfl, rfl, _⟩ := h
    simp only [SV.rel] at hx
    exact .inl ⟨hx.1, rfl⟩
end Go.Sx

namespace Go.Sx
open Go.RowKit Go.Proofs

/-! # appending to lists, of unknown length -/
/-- behind an append: a state in which the block g bears the new object -/
theorem app_nextG {β : Lab} {H H1 : SHeap} {w w' : World} {m g cap : Nat} {ob : Obj'} {d : Nat → Bool} (hr : HR β (hpOf H) w) (hfree : ∀ l, H.length ≤ l → β l = none) (hm : m = H.length)
    (hlen1 : H1.length = H.length) (hH1 : ∀ l o, hpOf H1 l = some o → hpOf H l = some o ∧ d l = false) (hg : g < w'.heap.size) (hob : Lab.le β (Lab.put2 β m g cap d) → objAt (Lab.put2 β m g cap d) w' m ob)
    (hsize : w.heap.size ≤ w'.heap.size) (hos : w'.os = w.os) (htape : w'.tape = w.tape) (hout : w'.output = w.output)
    (hblk : ∀ k, k < w.heap.size → k ≠ g → w'.heap[k]? = w.heap[k]?)
    (hkind : w.heap.size ≤ g ∨ ∃ l o, β l = some g ∧ hpOf H l = some o ∧ d l = true) :
    Ext β H w (Lab.put2 β m g cap d) (H1 ++ [some ob, none]) w' ∧ HR (Lab.put2 β m g cap d) (hpOf (H1 ++ [some ob, none])) w' ∧
    ∀ l, (H1 ++ [some ob, none]).length ≤ l → (Lab.put2 β m g cap d) l = none := by
  have lt0 : ∀ {l b}, β l = some b → l < H.length := fun {l b} hb => by
    rcases Nat.lt_or_ge l H.length with h | h
    · exact h
    · rw [hfree l h] at hb; simp at hb
  have hext : Lab.le β (Lab.put2 β m g cap d) := ⟨fun l b hb => by
    have := lt0 hb
    rw [Lab.put2_blk, if_neg (by omega), if_neg (by omega)]; exact hb, fun _ _ h => h⟩
  have hhp : ∀ l, hpOf (H1 ++ [some ob, none]) l = if l = m then some ob else hpOf H1 l := fun l => by
    rw [hpOf_append2, hlen1, hm]
  have halive : ∀ l, β.dead l = false → d l = false → β l ≠ some g := fun l h1 h2 h3 => by
    rcases hkind with h | ⟨l0, o, h4, h5, h6⟩
    · have := hr.lt l g h1 h3; omega
    · have := hr.inj l l0 g h1 (hr.obj _ _ h5).alive h3 h4
      subst this; rw [h6] at h2; simp at h2
  have hkilled : ∀ l, d l = true → hpOf H1 l = none := fun l hd => by
    cases h : hpOf H1 l with
    | none => rfl
    | some o => have := (hH1 l o h).2; rw [hd] at this; simp at this
  refine ⟨⟨hext, fun l b hb => ?_, by simp [hlen1], fun l o hl hlo => ?_, fun b hb hnone => ?_, hsize, hos, htape, hout, fun _ _ h => .inl h⟩, ⟨fun l o hlo => ?_, fun l l' b d1 d2 h1 h2 => ?_, fun l b d1 h1 => ?_, fun b c hb => ?_⟩, fun l hl => ?_⟩
  · rw [Lab.put2_blk] at hb
    split at hb
    · rename_i e1; simp only [Option.some.injEq] at hb; subst hb
      refine .inr ⟨by omega, ?_⟩
      rcases hkind with h | ⟨l0, o, h4, h5, h6⟩
      · exact .inl h
      · refine .inr (.inl ⟨l0, o, h4, h5, ?_⟩)
        rw [hhp, if_neg (by have := lt0 h4; omega)]
        exact hkilled l0 h6
    · split at hb
      · rename_i e1 e2
        refine .inr ⟨by omega, .inr (.inr ?_)⟩
        rw [hhp, if_neg e1]
        cases h : hpOf H1 l with
        | none => rfl
        | some o => have := hpOf_lt h; omega
      · exact .inl hb
  · rw [hhp, if_neg (by omega)] at hlo
    exact ⟨o, (hH1 l o hlo).1, .inl rfl⟩
  · refine hblk b hb fun e1 => ?_
    subst e1
    rcases hkind with h | ⟨l0, o, h4, h5, h6⟩
    · omega
    · have h7 := hnone l0 h4
      rw [h5, hhp, if_neg (by have := lt0 h4; omega), hkilled l0 h6] at h7; simp at h7
  · rw [hhp] at hlo
    split at hlo
    · rename_i e1; subst e1; simp only [Option.some.injEq] at hlo; subst hlo
      exact hob hext
    · obtain ⟨h1, h2⟩ := hH1 l o hlo
      have hal := (hr.obj l o h1).alive
      obtain ⟨b, vs, rest', a1, a2, a3, _, a5⟩ := hr.obj l o h1
      have := lt0 a1
      refine ⟨b, vs, rest', hext _ _ a1, relL_mono hext _ _ a2, ?_, by rw [Lab.put2_dead, if_neg (by omega), if_neg (by omega), h2, hal]; rfl, a5.mono hext⟩
      rw [hblk b (hr.lt _ _ hal a1) (fun e1 => halive l hal h2 (e1 ▸ a1)), a3]
  · rw [Lab.put2_blk] at h1 h2
    rw [Lab.put2_dead] at d1 d2
    by_cases c1 : l = m
    · by_cases c2 : l' = m
      · omega
      · rw [if_neg c2] at d2 h2
        rw [if_pos c1] at h1; simp only [Option.some.injEq] at h1; subst h1
        split at d2
        · simp at d2
        · rename_i c3; rw [if_neg c3] at h2
          simp only [Bool.or_eq_false_iff] at d2
          exact absurd h2 (halive l' d2.2 d2.1)
    · rw [if_neg c1] at d1 h1
      split at d1
      · simp at d1
      · rename_i c3; rw [if_neg c3] at h1
        simp only [Bool.or_eq_false_iff] at d1
        by_cases c2 : l' = m
        · rw [if_pos c2] at h2; simp only [Option.some.injEq] at h2; subst h2
          exact absurd h1 (halive l d1.2 d1.1)
        · rw [if_neg c2] at d2 h2
          split at d2
          · simp at d2
          · rename_i c4; rw [if_neg c4] at h2
            simp only [Bool.or_eq_false_iff] at d2
            exact hr.inj l l' b d1.2 d2.2 h1 h2
  · rw [Lab.put2_blk] at h1
    rw [Lab.put2_dead] at d1
    by_cases c1 : l = m
    · rw [if_pos c1] at h1; simp only [Option.some.injEq] at h1; omega
    · rw [if_neg c1] at d1 h1
      split at d1
      · simp at d1
      · rename_i c3; rw [if_neg c3] at h1
        simp only [Bool.or_eq_false_iff] at d1
        exact Nat.lt_of_lt_of_le (hr.lt l b d1.2 h1) hsize
  · have hlt := hr.flt hb
    have hne : b ≠ g := fun e => by
      subst e
      rcases hkind with h | ⟨l0, o, h4, h5, h6⟩
      · omega
      · exact (hr.fz b c hb).2 l0 (hr.obj _ _ h5).alive h4
    refine ⟨by rw [hblk b hlt hne]; exact (hr.fz b c hb).1, fun l d1 h1 => ?_⟩
    rw [Lab.put2_blk] at h1
    rw [Lab.put2_dead] at d1
    by_cases c1 : l = m
    · rw [if_pos c1] at h1; simp only [Option.some.injEq] at h1; exact hne h1.symm
    · rw [if_neg c1] at d1 h1
      split at d1
      · simp at d1
      · rename_i c3; rw [if_neg c3] at h1
        simp only [Bool.or_eq_false_iff] at d1
        exact (hr.fz b c hb).2 l d1.2 h1
  · simp only [List.length_append, List.length_cons, List.length_nil, hlen1] at hl
    rw [Lab.put2_blk, if_neg (by omega), if_neg (by omega)]
    exact hfree l (by omega)

/-- what is appended to: its label and its capacity's, if it has memory of its own -/
def dstRows (H : SHeap) (e sz : Nat) (ks : List CK) : SV → Option (Nat × (Nat → Nat → Tr) × Option Nat × Bool)
  | .raw (.slice none 0 0) => some (0, fun _ _ => .int 0, none, true)
  | .tz _ => some (0, fun _ _ => .int 0, none, true)
  | .own l lc n => match hpOf H l with
    | some (cs, ⟨e', some (lc', sz'), _, _, none⟩) => if Nat.beq e' e && (Nat.beq lc' lc && (Nat.beq sz' sz && Nat.beq cs.length (n * sz))) then (asRows ks n cs).map fun rs => (n, rowAt rs, some l, true) else none
    | _ => none
  | .gro l lc n => match hpOf H l with
    | some (_, ⟨e', some (lc', sz'), _, _, some (ks', m, f)⟩) => if Nat.beq e' e && (Nat.beq lc' lc && (Nat.beq sz' sz && CK.beqL ks' ks)) then some (n, f, some l, Nat.ble n m) else none
    | _ => none
  | _ => none
def killL (H : SHeap) : Option Nat → SHeap
  | none => H
  | some l => upd H l none
def litSrc : SV → Bool
  | .slice _ _ _ _ => true
  | .own _ _ _ => true
  | _ => false
def growT (E : Env) (t : TypeId) (H : SHeap) (s x : SV) : Option (T (SV × SHeap)) :=
  match elemOk E.P t with
  | some (e, sz, bytes) => match kindsT E.P 9 e with
    | some ks => if Nat.beq ks.length sz then match dstRows H e sz ks s, srcRows H ks x with
        | some (n, f, l, c1), some (m, g, c2) =>
          let r : T (SV × SHeap) := .ite (c1 && (c2 && (Nat.ble ((n + m) * bytes) 140737488355328 && Nat.ble (n + m) 4294967296))) (.ret (.gro H.length (H.length + 1) (n + m), killL H l ++ [some ([], ⟨e, some (H.length + 1, sz), 0, [], some (ks, n + m, catF n f g)⟩), none])) .fail
          if litSrc x then (if Nat.ble 1 m then some r else none) else some (.ite (Nat.beq m 0) (chk (some (c1 && c2)) (.ret (s, H))) r)
        | _, _ => none
      else none
    | none => none
  | none => none
def growStep (E : Env) (ops : List Oper) (st : St) (o : Oper) : Option (T (SV × SHeap)) :=
  match o.op with
  | .call { callee := .builtin .append, args, argTypes } => match guardAs ops st.slots o with
    | some fs => match looks (lookE fs st.slots) args.toList, argTypes.toList with
      | some [s, x], [t, t'] => if Nat.beq t t' then growT E t st.heap s x else none
      | _, _ => none
    | none => none
  | _ => none
/-- what is appended to, as it lies -/
def DstAt (β : Lab) (H : SHeap) (w : World) (e sz : Nat) (ks : List CK) (n : Nat) (f : Nat → Nat → Tr) (l : Option Nat) (v : Value) : Prop :=
  (l = none ∧ n = 0 ∧ (v = .slice none 0 0 ∨ ∃ a, v = .slice (some a) 0 0)) ∨
  ∃ l0 b cap all o, l = some l0 ∧ β l0 = some b ∧ hpOf H l0 = some o ∧ v = .slice (some ⟨b, 0, none⟩) n cap ∧ w.heap[b]? = some (.cells all.toArray e (0, 0)) ∧ all.length = cap * sz ∧ cap ≤ maxLen ∧ n * sz ≤ all.length ∧ rowsT β.fz ks n f all
theorem dstRows_sound {H : SHeap} {e sz : Nat} {ks : List CK} (hks : ks.length = sz) {x : SV} {n : Nat} {f : Nat → Nat → Tr} {l : Option Nat} {c : Bool} (h : dstRows H e sz ks x = some (n, f, l, c)) (hc : c = true) {β : Lab} {w : World} {v : Value} (hr : HR β (hpOf H) w) (hx : SV.rel β x v) :
    DstAt β H w e sz ks n f l v := by
  subst hc
  unfold dstRows at h
  split at h <;> (try simp only [reduceCtorEq] at h)
  · simp only [Option.some.injEq, Prod.mk.injEq] at h; obtain ⟨rfl, rfl, rfl, _⟩ := h
    simp only [SV.rel] at hx; exact .inl ⟨rfl, rfl, .inl hx.1⟩
  · simp only [Option.some.injEq, Prod.mk.injEq] at h; obtain ⟨rfl, rfl, rfl, _⟩ := h
    simp only [SV.rel] at hx; exact .inl ⟨rfl, rfl, hx⟩
  · rename_i l1 lc n'
    split at h <;> (try simp only [reduceCtorEq] at h)
    rename_i cs e' lc' sz' st vr ho
    split at h <;> (try simp only [reduceCtorEq] at h)
    rename_i hcc
    simp only [Bool.and_eq_true, Nat.beq_eq] at hcc
    obtain ⟨rfl, c1, rfl, c4⟩ := hcc
    simp only [Option.map_eq_some_iff, Prod.mk.injEq] at h
    obtain ⟨rs, hrs, rfl, rfl, rfl, _⟩ := h
    simp only [SV.rel] at hx; obtain ⟨b, cap, hb, hlc, rfl⟩ := hx
    obtain ⟨b', vs, rest, hb', hrel, hw, _, htag⟩ := hr.obj _ _ ho
    obtain rfl : b = b' := by rw [hb] at hb'; simpa using hb'
    obtain ⟨cap', d1, d2, d3⟩ := htag.own _ _ rfl
    rw [c1, hlc] at d1; simp only [Option.some.injEq] at d1; subst d1
    have hl : vs.length = cs.length := relL_length hrel
    have h1 := asRows_rel hrs hrel
    refine .inr ⟨l1, b, cap, vs ++ rest, _, rfl, hb, ho, rfl, hw, by simp; omega, d2, by simp; omega, ?_⟩
    refine ⟨by have := h1.1; simp only [List.length_append]; omega, fun i j k hi hk => ?_⟩
    obtain ⟨u, a, e⟩ := h1.2 i j k hi hk
    exact ⟨u, by rw [List.getElem?_append_left (List.getElem?_eq_some_iff.1 a).1]; exact a, e⟩
  · rename_i l1 lc n'
    split at h <;> (try simp only [reduceCtorEq] at h)
    rename_i cs e' lc' sz' st vr ks' m f' ho
    split at h <;> simp only [Option.some.injEq, Prod.mk.injEq, reduceCtorEq] at h
    rename_i hcc
    obtain ⟨rfl, rfl, rfl, hnm⟩ := h
    simp only [Bool.and_eq_true, Nat.beq_eq] at hcc
    obtain ⟨rfl, c1, rfl, c4⟩ := hcc
    have c4 := CK.beqL_eq _ _ c4
    subst c4
    simp only [SV.rel] at hx; obtain ⟨b, cap, hb, hlc, rfl, _⟩ := hx
    obtain ⟨b', vs, rest, hb', hrel, hw, _, htag⟩ := hr.obj _ _ ho
    obtain rfl : b = b' := by rw [hb] at hb'; simpa using hb'
    obtain ⟨cap', d1, d2, d3⟩ := htag.own _ _ rfl
    rw [c1, hlc] at d1; simp only [Option.some.injEq] at d1; subst d1
    obtain ⟨h0, hrows⟩ := htag.lst _ _ _ rfl
    have hvs : vs = [] := List.eq_nil_of_length_eq_zero h0
    subst hvs
    have hrows := rowsT_le hrows (Nat.le_of_ble_eq_true hnm)
    refine .inr ⟨l1, b, cap, rest, _, rfl, hb, ho, rfl, by simpa using hw, by simpa using d3, d2, ?_, hrows⟩
    have := hrows.1; rw [hks] at this; exact this
theorem run_append_none (P : Program) (w : World) (t ty e : TypeId) (i : TypeInfo) (ht : P.underlying t = some (.slice e)) (hi : P.info? e = some i) (base : Option Addr) (k cap : Nat) (hk : k ≤ cap) {vx : Value} (hx : vx = .slice none 0 0 ∨ ∃ a c, vx = .slice (some a) 0 c) :
    (Builtin.append_ #[t, t] ty #[.slice base k cap, vx]).run P w = .ok (.slice base k cap) w := by
  rcases hx with rfl | ⟨a, c, rfl⟩
  · cases base <;> simp [Builtin.append_, run_underlying ht, sizeOf, typeInfo, hi, Builtin.lenOf, hk, Builtin.firstCells, storeCells]
  · have hfc := run_firstCells_some (P := P) w i.size 0 a 0 c [] (by simp) (fun j u hj => by simp at hj)
    cases base <;> simp [Builtin.append_, run_underlying ht, sizeOf, typeInfo, hi, Builtin.lenOf, hk, hfc, storeCells]
theorem growT_sound {E : Env} {t : TypeId} {H : SHeap} {s x : SV} {r : T (SV × SHeap)} (h : growT E t H s x = some r) {β : Lab} {w : World} {vs vx : Value} (hr : HR β (hpOf H) w) (hfree : ∀ l, H.length ≤ l → β l = none) (hs : SV.rel β s vs) (hx : SV.rel β x vx) {ty : TypeId} {K : SV × SHeap → Prop} (hK : r.Holds K) :
    ∃ q val w' β', K q ∧ (Builtin.append_ #[t, t] ty #[vs, vx]).run E.P w = .ok val w' ∧ Ext β H w β' q.2 w' ∧ HR β' (hpOf q.2) w' ∧ (∀ l, q.2.length ≤ l → β' l = none) ∧ SV.rel β' q.1 val := by
  unfold growT at h
  split at h <;> (try simp only [reduceCtorEq] at h)
  rename_i e sz bytes hel
  split at h <;> (try simp only [reduceCtorEq] at h)
  rename_i ks hks
  split at h <;> (try simp only [reduceCtorEq] at h)
  rename_i hksl
  have hksl : ks.length = sz := by simpa using hksl
  split at h <;> (try simp only [reduceCtorEq] at h)
  rename_i n f l c1 m g c2 hdst hsrc
  -- the type
  unfold elemOk at hel
  split at hel <;> (try simp only [reduceCtorEq] at hel)
  rename_i e0 hu
  split at hel <;> (try simp only [reduceCtorEq] at hel)
  rename_i i hi
  split at hel <;> (try simp only [reduceCtorEq] at hel)
  rename_i z hz
  split at hel <;> simp only [Option.some.injEq, Prod.mk.injEq, reduceCtorEq] at hel
  rename_i hzz
  obtain ⟨rfl, rfl, rfl⟩ := hel
  simp only [Bool.and_eq_true, Nat.beq_eq, Nat.ble_eq] at hzz
  have hml := maxLen_le
  -- where something is appended
  have grow : 1 ≤ m → (T.ite (c1 && (c2 && (Nat.ble ((n + m) * i.bytes) 140737488355328 && Nat.ble (n + m) 4294967296))) (.ret (.gro H.length (H.length + 1) (n + m), killL H l ++ [some ([], ⟨e0, some (H.length + 1, i.size), 0, [], some (ks, n + m, catF n f g)⟩), none])) .fail : T (SV × SHeap)).Holds K →
      ∃ q val w' β', K q ∧ (Builtin.append_ #[t, t] ty #[vs, vx]).run E.P w = .ok val w' ∧ Ext β H w β' q.2 w' ∧ HR β' (hpOf q.2) w' ∧ (∀ l, q.2.length ≤ l → β' l = none) ∧ SV.rel β' q.1 val := by
    intro hm1 hK
    obtain ⟨hcond, hKr⟩ : (c1 && (c2 && (Nat.ble ((n + m) * i.bytes) 140737488355328 && Nat.ble (n + m) 4294967296))) = true ∧ K _ := by
      cases hb : (c1 && (c2 && (Nat.ble ((n + m) * i.bytes) 140737488355328 && Nat.ble (n + m) 4294967296))) with
      | true => exact ⟨rfl, hK.1 hb⟩
      | false => exact (hK.2 hb).elim
    simp only [Bool.and_eq_true, Nat.ble_eq] at hcond
    obtain ⟨hc1, hc2, hbytes, hnm⟩ := hcond
    have hd := dstRows_sound hksl hdst hc1 hr hs
    have hsr := srcRows_sound hsrc hc2 hr hx
    rcases hsr with ⟨_, h0⟩ | ⟨a, capx, news, rfl, hcapx, hnl, hnews, hnr⟩
    · omega
    have hone : ∀ u ∈ news, u.oneCell' = true := fun u hu => by
      obtain ⟨p, hp⟩ := List.getElem?_of_mem hu
      have hlt := (List.getElem?_eq_some_iff.1 hp).1
      rw [hnl] at hlt
      obtain ⟨h1, h2, h3⟩ := div_mod_lt hlt
      obtain ⟨u', hu', hr'⟩ := hnr.2 (p / ks.length) (p % ks.length) _ h1 (List.getElem?_eq_getElem h2)
      rw [h3, hp] at hu'; simp only [Option.some.injEq] at hu'; subst hu'
      exact relT_one hr'
    rw [hksl] at hnl
    have hnewobj : ∀ {β' : Lab} {w' : World} {gb cap : Nat} {olds rest : List Value}, Lab.le β β' → β' H.length = some gb → β' (H.length + 1) = some cap → β'.dead H.length = false → cap ≤ maxLen → w'.heap[gb]? = some (.cells (olds ++ news ++ rest).toArray e0 (0, 0)) →
        (olds ++ news ++ rest).length = cap * i.size → rowsT β.fz ks n f olds → olds.length = n * i.size → objAt β' w' H.length ([], ⟨e0, some (H.length + 1, i.size), 0, [], some (ks, n + m, catF n f g)⟩) := by
      intro β' w' gb cap olds rest hle e1 e2 e3 hcap hcells hlen hro hol
      refine ⟨gb, [], olds ++ news ++ rest, e1, relL_nil.2 rfl, by simpa using hcells, e3, ⟨fun lc sz' e => ?_, fun ks' m' f' e => ?_⟩⟩
      · simp only [Option.some.injEq, Prod.mk.injEq] at e; obtain ⟨rfl, rfl⟩ := e
        exact ⟨cap, e2, hcap, by simpa using hlen⟩
      · simp only [Option.some.injEq, Prod.mk.injEq] at e; obtain ⟨rfl, rfl, rfl⟩ := e
        exact ⟨rfl, rowsT_mono hle.fz (rowsT_cat hro (by rw [hksl]; exact hol) hnr (by rw [hksl]; exact hnl))⟩
    have hput : ∀ (gb cap : Nat) (d : Nat → Bool), (Lab.put2 β H.length gb cap d) H.length = some gb ∧ (Lab.put2 β H.length gb cap d) (H.length + 1) = some cap ∧ (Lab.put2 β H.length gb cap d).dead H.length = false := fun gb cap d =>
      ⟨by rw [Lab.put2_blk, if_pos rfl], by rw [Lab.put2_blk, if_neg (by omega), if_pos rfl], by rw [Lab.put2_dead, if_pos rfl]⟩
    have fin : ∀ {gb cap : Nat} {d : Nat → Bool} {w' : World} {val : Value}, val = .slice (some ⟨gb, 0, none⟩) (n + m) cap → SV.rel (Lab.put2 β H.length gb cap d) (.gro H.length (H.length + 1) (n + m)) val := by
      intro gb cap d w' val e
      simp only [SV.rel]; exact ⟨gb, cap, (hput gb cap d).1, (hput gb cap d).2.1, e, by omega⟩
    -- a new row
    have fresh : ∀ {olds : List Value} {d : Nat → Bool} {H1 : SHeap} {val : Value} {w' : World}, H1 = killL H l → H1.length = H.length → (∀ l o, hpOf H1 l = some o → hpOf H l = some o ∧ d l = false) → (Builtin.append_ #[t, t] ty #[vs, .slice (some a) m capx]).run E.P w = .ok val w' → w'.ownsRow w.heap.size e0 i.size val (n + m) (olds ++ news) → w.grownBy w' none →
        rowsT β.fz ks n f olds → olds.length = n * i.size →
        ∃ q val w' β', K q ∧ (Builtin.append_ #[t, t] ty #[vs, .slice (some a) m capx]).run E.P w = .ok val w' ∧ Ext β H w β' q.2 w' ∧ HR β' (hpOf q.2) w' ∧ (∀ l, q.2.length ≤ l → β' l = none) ∧ SV.rel β' q.1 val := by
      intro olds d H1 val w' hH1e hH1l hH1 hrun hown hgr hro hol
      obtain ⟨h5, ⟨_, h4⟩ | ⟨gb, cap, cur, rfl, hg, hcur, hnc, hcm, hcs, hct⟩⟩ := hown
      · omega
      have e4 : cur.toList.length = cap * i.size := by simpa using hcs
      have e5 : (olds ++ news ++ cur.toList.drop ((n + m) * i.size)) = cur.toList := by rw [← hct, List.take_append_drop]
      obtain ⟨k1, k2, k3⟩ := app_nextG (m := H.length) (g := gb) (cap := cap) (ob := ([], ⟨e0, some (H.length + 1, i.size), 0, [], some (ks, n + m, catF n f g)⟩)) (d := d) hr hfree rfl hH1l hH1 (Array.getElem?_eq_some_iff.1 hcur).1 (fun hle =>
        hnewobj hle (hput gb cap d).1 (hput gb cap d).2.1 (hput gb cap d).2.2 hcm (rest := cur.toList.drop ((n + m) * i.size)) (by rw [e5]; simpa using hcur) (by rw [e5]; exact e4) hro hol)
        hgr.size hgr.os hgr.tape hgr.output (fun k hk _ => hgr.block k hk (by simp)) (.inl hg)
      subst hH1e
      exact ⟨_, _, w', _, hKr, hrun, k1, k2, k3, fin (w' := w') rfl⟩
    rcases hd with ⟨rfl, rfl, hv | ⟨a0, hv⟩⟩ | ⟨l0, b, cap, all, o0, rfl, hbl, ho0, rfl, hwb, hall, hcapm, hnall, hrows⟩
    · subst hv
      obtain ⟨v', w', h1, h2, h3⟩ := run_append_nil E.P w t ty e0 i z hu hi hz hzz.1 hzz.2 a m capx news hnl hnews hone (by omega) (by simpa using hbytes) hm1
      exact fresh (d := fun _ => false) (olds := []) rfl rfl (fun l o ho => ⟨ho, rfl⟩) h1 (by simpa using h2) h3 ⟨by simp, fun i j k hi => absurd hi (Nat.not_lt_zero _)⟩ (by simp)
    · subst hv
      obtain ⟨v', w', h1, h2, h3⟩ := run_append_arg_grows (P := E.P) w t ty e0 i z i.size i.bytes hu hi hz rfl rfl hzz.1 hzz.2 a0 0 0 [] (by simp) (fun j u hj => by simp at hj) a m capx news hnl hnews (by omega) (by omega) hbytes
      exact fresh (d := fun _ => false) (olds := []) rfl rfl (fun l o ho => ⟨ho, rfl⟩) h1 h2 h3 ⟨by simp, fun i j k hi => absurd hi (Nat.not_lt_zero _)⟩ (by simp)
    · have hH1 : ∀ l' o', hpOf (upd H l0 none) l' = some o' → hpOf H l' = some o' ∧ (decide (l' = l0)) = false := fun l' o' h1 => by
        simp only [hpOf, nth_upd] at h1
        split at h1
        · rename_i x hx
          split at hx
          · simp only [Option.some.injEq] at hx; subst hx; simp at h1
          · rename_i hne
            refine ⟨by simp only [hpOf, hx]; exact h1, ?_⟩
            have : l' ≠ l0 := fun e => hne ⟨e.symm, by
              rcases Nat.lt_or_ge l' H.length with h | h
              · exact h
              · rw [nth_eq, List.getElem?_eq_none h] at hx; simp at hx⟩
            simpa using this
        · simp at h1
      have hol : (all.take (n * i.size)).length = n * i.size := by rw [List.length_take]; exact Nat.min_eq_left hnall
      have hro : rowsT β.fz ks n f (all.take (n * i.size)) := by have := rowsT_take hrows; rwa [hksl] at this
      by_cases hroom : n + m ≤ cap
      · have hsplit : all.take (n * i.size) ++ all.drop (n * i.size) = all := List.take_append_drop _ _
        have h1 := run_append_room E.P w t ty e0 i hu hi b n cap a m capx (all.take (n * i.size)) news (all.drop (n * i.size)) hol hnl hnews hone hroom (by rw [hsplit]; exact hwb) (by rw [← List.length_append, hsplit]; exact hall)
        obtain ⟨k1, k2, k3⟩ := app_nextG (w' := w.setRow b (all.take (n * i.size) ++ news ++ (all.drop (n * i.size)).drop news.length).toArray) (m := H.length) (g := b) (cap := cap) (ob := ([], ⟨e0, some (H.length + 1, i.size), 0, [], some (ks, n + m, catF n f g)⟩)) (d := fun l' => decide (l' = l0)) (H1 := upd H l0 none) hr hfree rfl (upd_length _ _ _) hH1
          (by rw [setRow_size]; exact (Array.getElem?_eq_some_iff.1 hwb).1) (fun hle => hnewobj hle (hput b cap _).1 (hput b cap _).2.1 (hput b cap _).2.2 hcapm (setRow_heap _ _ _ _ _ _ hwb) (by
            have : (n + m) * i.size ≤ cap * i.size := Nat.mul_le_mul_right _ hroom
            rw [Nat.add_mul] at this
            simp only [List.length_append, List.length_drop, hol, hnl]; omega) hro hol)
          (by rw [setRow_size]; exact Nat.le_refl _) rfl rfl rfl (fun k _ hk => setRow_other _ _ _ _ hk) (.inr ⟨l0, _, hbl, ho0, by simp⟩)
        exact ⟨_, _, _, _, hKr, h1, k1, k2, k3, fin (w' := w) rfl⟩
      · obtain ⟨v', w', h1, h2, h3⟩ := run_append_arg_grows (P := E.P) w t ty e0 i z i.size i.bytes hu hi hz rfl rfl hzz.1 hzz.2 ⟨b, 0, none⟩ n cap (all.take (n * i.size)) hol (fun j u hj => by
          rw [cells_at hwb, Nat.zero_add]
          rw [List.getElem?_take] at hj
          split at hj
          · exact hj
          · simp at hj) a m capx news hnl hnews (by omega) (by omega) hbytes
        exact fresh (d := fun l' => decide (l' = l0)) rfl (upd_length _ _ _) hH1 h1 h2 h3 hro hol
  -- what is appended may be nothing
  split at h
  · split at h <;> simp only [Option.some.injEq, reduceCtorEq] at h
    rename_i hm1; subst h
    exact grow (Nat.le_of_ble_eq_true hm1) hK
  · simp only [Option.some.injEq] at h; subst h
    cases hm0 : Nat.beq m 0 with
    | false =>
      have hm1 : m ≠ 0 := fun e => by subst e; simp at hm0
      exact grow (by omega) (hK.2 hm0)
    | true =>
      have hm0' : m = 0 := by simpa using hm0
      subst hm0'
      obtain ⟨hcc, hKs⟩ := chk_holds (hK.1 hm0)
      have hcc := hcc _ rfl
      simp only [Bool.and_eq_true] at hcc
      have hd := dstRows_sound hksl hdst hcc.1 hr hs
      have hsr := srcRows_sound hsrc hcc.2 hr hx
      have hrun : (Builtin.append_ #[t, t] ty #[vs, vx]).run E.P w = .ok vs w := by
        have hvx : vx = .slice none 0 0 ∨ ∃ a c, vx = .slice (some a) 0 c := by
          rcases hsr with ⟨h1, _⟩ | ⟨a, c, _, h1, _⟩
          · exact .inl h1
          · exact .inr ⟨a, c, h1⟩
        have hvs : ∃ base k cap, vs = .slice base k cap ∧ k ≤ cap := by
          rcases hd with ⟨_, _, h1 | ⟨a, h1⟩⟩ | ⟨l0, b, cap, all, o0, _, _, _, h1, _, h2, _, h3, _⟩
          · exact ⟨_, _, _, h1, Nat.le_refl _⟩
          · exact ⟨_, _, _, h1, Nat.le_refl _⟩
          · refine ⟨_, _, _, h1, ?_⟩
            rw [h2] at h3
            exact Nat.le_of_mul_le_mul_right h3 (by omega)
        obtain ⟨base, k, cap, rfl, hk⟩ := hvs
        exact run_append_none E.P w t ty e0 i hu hi base k cap hk hvx
      exact ⟨_, _, w, β, hKs, hrun, Ext.refl _ _ _, hr, hfree, hs⟩
end Go.Sx

namespace Go.Sx
open Go.RowKit Go.Proofs

/-! # lists laid down for good -/
/-- the label of a list that lies in memory of its own -/
def labList : SV → Option Nat
  | .slice l _ _ _ => some l
  | .own l _ _ => some l
  | .gro l _ _ => some l
  | _ => none
theorem srcRows_lab {H : SHeap} {ks : List CK} {x : SV} {n l : Nat} {f : Nat → Nat → Tr} {c : Bool} (h : srcRows H ks x = some (n, f, c)) (hl : labList x = some l) {β : Lab} {v : Value} (hx : SV.rel β x v) : ∃ b off cap o, β l = some b ∧ hpOf H l = some o ∧ v = .slice (some ⟨b, off, none⟩) n cap := by
  cases x <;> simp only [labList, Option.some.injEq, reduceCtorEq] at hl <;> subst hl <;> simp only [srcRows] at h
  · split at h <;> (try simp only [reduceCtorEq] at h)
    rename_i ho
    split at h <;> (try simp only [reduceCtorEq] at h)
    simp only [Option.map_eq_some_iff, Prod.mk.injEq] at h
    obtain ⟨rs, _, rfl, _⟩ := h
    simp only [SV.rel] at hx; obtain ⟨b, hb, rfl⟩ := hx
    exact ⟨b, _, _, _, hb, ho, rfl⟩
  · split at h <;> (try simp only [reduceCtorEq] at h)
    rename_i ho
    split at h <;> (try simp only [reduceCtorEq] at h)
    simp only [Option.map_eq_some_iff, Prod.mk.injEq] at h
    obtain ⟨rs, _, rfl, _⟩ := h
    simp only [SV.rel] at hx; obtain ⟨b, cap, hb, _, rfl⟩ := hx
    exact ⟨b, _, _, _, hb, ho, rfl⟩
  · split at h <;> (try simp only [reduceCtorEq] at h)
    rename_i ho
    split at h <;> simp only [Option.some.injEq, Prod.mk.injEq, reduceCtorEq] at h
    obtain ⟨rfl, _⟩ := h
    simp only [SV.rel] at hx; obtain ⟨b, cap, hb, _, rfl, _⟩ := hx
    exact ⟨b, _, _, _, hb, ho, rfl⟩
/-- a list whose block is known whole is a datum -/
theorem listAt_tsl {fz : FZ} {w : World} {ks : List CK} {n : Nat} {f : Nat → Nat → Tr} {v : Value} (h : ListAt fz w ks n f v) (hn : n ≤ maxLen) {fz' : FZ} (hle : ∀ b c, fz b = some c → fz' b = some c) (hb : ∀ b off cap, v = .slice (some ⟨b, off, none⟩) n cap → fz' b = w.heap[b]?) (hv : ∃ b off cap, v = .slice (some ⟨b, off, none⟩) n cap) :
    relT fz' (.sl n f) (.sl ks) v := by
  simp only [relT]
  refine ⟨hn, ?_⟩
  rcases h with h | ⟨a, cap, news, rfl, hc, hl, hnews, hrows⟩
  · exact .inl h
  · obtain ⟨b, off, cap', e⟩ := hv
    simp only [Value.slice.injEq, Option.some.injEq, true_and] at e
    obtain ⟨rfl, rfl⟩ := e
    have hfz := hb b off cap rfl
    refine .inr ⟨_, cap, rfl, hc, fun i j k hi hk => ?_⟩
    obtain ⟨u, h1, h2⟩ := hrows.2 i j k hi hk
    refine ⟨u, ?_, relT_mono hle _ _ _ h2⟩
    have h3 := hnews _ u h1
    unfold fzc
    have hblk : ((⟨b, off, none⟩ : Addr).add (i * ks.length + j)).block = b := by rw [addr_add]
    rw [hblk, hfz]
    unfold World.cell? at h3
    rw [hblk] at h3
    exact h3
def freeV (v : SV) : Bool := match v.deep with
  | [] => true
  | _ => false
mutual
theorem rel_fz {β β' : Lab} (hle : ∀ b c, β.fz b = some c → β'.fz b = some c) : ∀ (s : SV) (v : Value), s.deep = [] → SV.rel β s v → SV.rel β' s v
  | .int _ _, _, _, h => by simpa [SV.rel] using h
  | .bool _, _, _, h => by simpa [SV.rel] using h
  | .nilp, _, _, h => by simpa [SV.rel] using h
  | .raw _, _, _, h => by simpa [SV.rel] using h
  | .tsl _ _ _, _, _, h => by simp only [SV.rel] at h ⊢; exact relT_mono hle _ _ _ h
  | .tptr _ _ _, _, _, h => by simp only [SV.rel] at h ⊢; obtain ⟨a, e, h1⟩ := h; exact ⟨a, e, rowT_mono hle h1⟩
  | .tz _, _, _, h => by simpa [SV.rel] using h
  | .ptr _ _, _, hd, _ => by simp [SV.deep] at hd
  | .slice _ _ _ _, _, hd, _ => by simp [SV.deep] at hd
  | .own _ _ _, _, hd, _ => by simp [SV.deep] at hd
  | .gro _ _ _, _, hd, _ => by simp [SV.deep] at hd
  | .func _ a c, _, hd, h => by
    simp only [SV.deep, List.append_eq_nil_iff] at hd
    simp only [SV.rel] at h ⊢; obtain ⟨x, y, h1, h2, e⟩ := h
    exact ⟨x, y, relL_fz hle a x hd.1 h1, relL_fz hle c y hd.2 h2, e⟩
  | .agg cs, _, hd, h => by simp only [SV.deep] at hd; simp only [SV.rel] at h ⊢; obtain ⟨x, h1, e⟩ := h; exact ⟨x, relL_fz hle cs x hd h1, e⟩
  | .tuple cs, _, hd, h => by simp only [SV.deep] at hd; simp only [SV.rel] at h ⊢; obtain ⟨x, h1, e⟩ := h; exact ⟨x, relL_fz hle cs x hd h1, e⟩
theorem relL_fz {β β' : Lab} (hle : ∀ b c, β.fz b = some c → β'.fz b = some c) : ∀ (s : List SV) (v : List Value), deepL s = [] → relL β s v → relL β' s v
  | [], _, _, h => by simpa [relL] using h
  | c :: cs, _, hd, h => by
    simp only [deepL, List.append_eq_nil_iff] at hd
    rw [relL_cons] at h ⊢; obtain ⟨v, vs, h1, h2, e⟩ := h
    exact ⟨v, vs, rel_fz hle c v hd.1 h1, relL_fz hle cs vs hd.2 h2, e⟩
end
theorem freeV_deep {v : SV} (h : freeV v = true) : v.deep = [] := by
  unfold freeV at h; split at h
  · assumption
  · simp at h
/-! ## frozen at a call -/
def frzV (E : Env) (H : SHeap) (v : SV) : Option (SV × Bool × SHeap) := match labList v with
  | some l => match hpOf H l with
    | some (_, tg) => match kindsT E.P 9 tg.ty with
      | some ks => match srcRows H ks v with
        | some (n, f, c) => some (.tsl ks n f, c && Nat.ble n 4294967296, upd H l none)
        | none => none
      | none => none
    | none => none
  | none => if freeV v then some (v, true, H) else none
def frzL (E : Env) : SHeap → List SV → Option (List SV × Bool × SHeap)
  | H, [] => some ([], true, H)
  | H, v :: vs => match frzV E H v with
    | some (v', c, H1) => match frzL E H1 vs with
      | some (vs', c', H2) => some (v' :: vs', c && c', H2)
      | none => none
    | none => none
/-- a block that is no more written -/
def Lab.frz (β : Lab) (w : World) (l0 b0 : Nat) : Lab := ⟨β.blk, fun l => if l = l0 then true else β.dead l, fun b => if b = b0 then w.heap[b]? else β.fz b⟩
theorem hpOf_kill {H : SHeap} {l l' : Nat} {o : Obj'} (h : hpOf (upd H l none) l' = some o) : hpOf H l' = some o ∧ l' ≠ l := by
  simp only [hpOf, nth_upd] at h
  split at h
  · rename_i x hx
    split at hx
    · simp only [Option.some.injEq] at hx; subst hx; simp at h
    · rename_i hne
      refine ⟨by simp only [hpOf, hx]; exact h, fun e => hne ⟨e.symm, by
        rcases Nat.lt_or_ge l' H.length with h | h
        · exact h
        · rw [nth_eq, List.getElem?_eq_none h] at hx; simp at hx⟩⟩
  · simp at h
structure Frz (β : Lab) (H : SHeap) (w : World) (β' : Lab) (H' : SHeap) : Prop where
  le : Lab.le β β'
  hr : HR β' (hpOf H') w
  ext : Ext β H w β' H' w
  blk : β'.blk = β.blk
  len : H'.length = H.length
theorem Frz.refl {β : Lab} {H : SHeap} {w : World} (hr : HR β (hpOf H) w) : Frz β H w β H := ⟨Lab.le.refl _, hr, Ext.refl _ _ _, rfl, rfl⟩
theorem Frz.kill {β : Lab} {H : SHeap} {w : World} (hr : HR β (hpOf H) w) {l b : Nat} {o : Obj'} (hb : β l = some b) (ho : hpOf H l = some o) : Frz β H w (β.frz w l b) (upd H l none) := by
  have hal := (hr.obj _ _ ho).alive
  have hlt := (hr.obj _ _ ho).lt hb
  have hle : Lab.le β (β.frz w l b) := ⟨fun _ _ h => h, fun b' c h => by
    show (if b' = b then w.heap[b']? else β.fz b') = some c
    split
    · rename_i e; subst e; exact absurd hb ((hr.fz b' c h).2 l hal)
    · exact h⟩
  have hdead : ∀ l', (β.frz w l b).dead l' = false → l' ≠ l ∧ β.dead l' = false := fun l' h => by
    change (if l' = l then true else β.dead l') = false at h
    split at h
    · simp at h
    · rename_i e; exact ⟨e, h⟩
  have hlen : (upd H l none).length = H.length := upd_length _ _ _
  refine ⟨hle, ⟨fun l' o' h => ?_, fun l1 l2 b' d1 d2 h1 h2 => hr.inj l1 l2 b' (hdead _ d1).2 (hdead _ d2).2 h1 h2, fun l1 b' d1 h1 => hr.lt l1 b' (hdead _ d1).2 h1, fun b' c h => ?_⟩, ⟨hle, fun _ _ h => .inl h, by rw [hlen]; exact Nat.le_refl _, fun l' o' _ h => ⟨o', (hpOf_kill h).1, .inl rfl⟩, fun _ _ _ => rfl, Nat.le_refl _, rfl, rfl, rfl, fun b' c h => ?_⟩, rfl, hlen⟩
  · obtain ⟨h1, h2⟩ := hpOf_kill h
    exact (hr.obj l' o' h1).mono hle (by show (if l' = l then true else β.dead l') = false; rw [if_neg h2]; exact (hr.obj l' o' h1).alive)
  · change (if b' = b then w.heap[b']? else β.fz b') = some c at h
    split at h
    · rename_i e; subst e
      exact ⟨h, fun l' d e => (hdead _ d).1 (hr.inj l' l b' (hdead _ d).2 hal e hb)⟩
    · exact ⟨(hr.fz b' c h).1, fun l' d e => (hr.fz b' c h).2 l' (hdead _ d).2 e⟩
  · change (if b' = b then w.heap[b']? else β.fz b') = some c at h
    split at h
    · rename_i e; subst e; exact .inr (.inr ⟨l, o, hb, ho⟩)
    · exact .inl h
theorem Frz.trans {β β1 β2 : Lab} {H H1 H2 : SHeap} {w : World} (hf : ∀ l, H.length ≤ l → β l = none) (h : Frz β H w β1 H1) (h' : Frz β1 H1 w β2 H2) : Frz β H w β2 H2 :=
  ⟨h.le.trans h'.le, h'.hr, Ext.trans hf (fun l hl => by rw [h.blk]; exact hf l (by rw [← h.len]; exact hl)) h.ext h'.ext, h'.blk.trans h.blk, h'.len.trans h.len⟩
theorem frzV_sound {E : Env} {H : SHeap} {v v' : SV} {c : Bool} {H' : SHeap} (h : frzV E H v = some (v', c, H')) (hc : c = true) {β : Lab} {w : World} {x : Value} (hr : HR β (hpOf H) w) (hx : SV.rel β v x) : ∃ β', Frz β H w β' H' ∧ SV.rel β' v' x := by
  unfold frzV at h
  split at h
  · rename_i l hl
    split at h <;> (try simp only [reduceCtorEq] at h)
    rename_i cs tg ho
    split at h <;> (try simp only [reduceCtorEq] at h)
    rename_i ks hks
    split at h <;> simp only [Option.some.injEq, Prod.mk.injEq, reduceCtorEq] at h
    rename_i n f c0 hsrc
    obtain ⟨rfl, hcc, rfl⟩ := h
    rw [hc] at hcc
    simp only [Bool.and_eq_true, Nat.ble_eq] at hcc
    obtain ⟨b, off, cap, o, hb, ho', hv⟩ := srcRows_lab hsrc hl hx
    have hla := srcRows_sound hsrc hcc.1 hr hx
    refine ⟨β.frz w l b, Frz.kill hr hb ho', ?_⟩
    simp only [SV.rel]
    have hml := maxLen_le
    refine listAt_tsl hla (by omega) (Frz.kill hr hb ho').le.fz (fun b' off' cap' e => ?_) ⟨b, off, cap, hv⟩
    rw [hv] at e; simp only [Value.slice.injEq, Option.some.injEq, Addr.mk.injEq] at e
    show (if b' = b then w.heap[b']? else β.fz b') = w.heap[b']?
    rw [if_pos e.1.1.symm]
  · split at h <;> simp only [Option.some.injEq, Prod.mk.injEq, reduceCtorEq] at h
    obtain ⟨rfl, _, rfl⟩ := h
    exact ⟨β, Frz.refl hr, hx⟩
theorem frzL_sound {E : Env} : ∀ {vs : List SV} {H : SHeap} {vs' : List SV} {c : Bool} {H' : SHeap}, frzL E H vs = some (vs', c, H') → c = true → ∀ {β : Lab} {w : World} {xs : List Value}, HR β (hpOf H) w → (∀ l, H.length ≤ l → β l = none) → relL β vs xs → ∃ β', Frz β H w β' H' ∧ relL β' vs' xs
  | [], H, vs', c, H', h, _, β, w, xs, hr, _, hx => by
    simp only [frzL, Option.some.injEq, Prod.mk.injEq] at h; obtain ⟨rfl, _, rfl⟩ := h
    exact ⟨β, Frz.refl hr, by rw [relL_nil] at hx ⊢; exact hx⟩
  | v :: vs, H, vs', c, H', h, hc, β, w, xs, hr, hf, hx => by
    simp only [frzL] at h
    split at h <;> (try simp only [reduceCtorEq] at h)
    rename_i v1 c1 H1 h1
    split at h <;> simp only [Option.some.injEq, Prod.mk.injEq, reduceCtorEq] at h
    rename_i vs2 c2 H2 h2
    obtain ⟨rfl, hcc, rfl⟩ := h
    rw [hc] at hcc; simp only [Bool.and_eq_true] at hcc
    rw [relL_cons] at hx; obtain ⟨x, xs', hx1, hx2, rfl⟩ := hx
    obtain ⟨β1, k1, k2⟩ := frzV_sound h1 hcc.1 hr hx1
    have hf1 : ∀ l, H1.length ≤ l → β1 l = none := fun l hl => by rw [k1.blk]; exact hf l (by rw [← k1.len]; exact hl)
    obtain ⟨β2, k3, k4⟩ := frzL_sound h2 hcc.2 k1.hr hf1 (relL_mono k1.le _ _ hx2)
    exact ⟨β2, Frz.trans hf k1 k3, by rw [relL_cons']; exact ⟨SV.rel_mono k3.le _ _ k2, k4⟩⟩
/-- a call of a function told by data: what it is told of is laid down for good -/
def frzStep (E : Env) (ops : List Oper) (st : St) (o : Oper) : Option (Bool × SV × SHeap) :=
  match o.op with
  | .call { callee := .value f, args, argTypes := _ } => match guardAs ops st.slots o with
    | some fs => match callArgs (lookE fs st.slots) f args with
      | some (g, vs) => if E.enters g then match RSumms.get E.R g with
          | some h => match frzL E st.heap vs with
            | some (vs', c, H') => match h vs' with
              | some (c', r) => some (c && c', r, if r.flat then st.heap else H')
              | none => none
            | none => none
          | none => none
        else none
      | none => none
    | none => none
  | _ => none
theorem frzStep_sound {E : Env} (hE : E.Ok) {ops : List Oper} {st : St} {o : Oper} {c : Bool} {r : SV} {H' : SHeap} {β : Lab} {a : Act} {w : World} (h : Rel β st a w) (hr : frzStep E ops st o = some (c, r, H')) (hc : c = true) {K : Act → World → Prop} {Q : Exit → Act → World → Prop}
    (hK : ∀ β' w' val, Ext β st.heap w β' H' w' → HR β' (hpOf H') w' → (∀ l, H'.length ≤ l → β' l = none) → SV.rel β' r val → K (a.put o.dst val) w') :
    if Region.wanted o (yielded ops.toArray a.tmps) then o.wp E.P a w K Q else K (a.put o.dst undef) w := by
  unfold frzStep at hr
  split at hr <;> (try simp only [reduceCtorEq] at hr)
  rename_i f args at' ho
  split at hr <;> (try simp only [reduceCtorEq] at hr)
  rename_i fs hg
  split at hr <;> (try simp only [reduceCtorEq] at hr)
  rename_i g vs hca
  split at hr <;> (try simp only [reduceCtorEq] at hr)
  rename_i hen
  split at hr <;> (try simp only [reduceCtorEq] at hr)
  rename_i rs hget
  split at hr <;> (try simp only [reduceCtorEq] at hr)
  rename_i vs' c1 H1 hfrz
  split at hr <;> simp only [Option.some.injEq, Prod.mk.injEq, reduceCtorEq] at hr
  rename_i c2 r' hrs
  obtain ⟨hcc, rfl, hH⟩ := hr
  rw [hc] at hcc; simp only [Bool.and_eq_true] at hcc
  obtain ⟨hw, hfs⟩ := guardAs_sound h.fact hg
  rw [if_pos hw]
  obtain ⟨first, cap, h1, h2⟩ := callArgs_sound (β := β) (ρ := a.eval) (fun x _ v hv => lookE_sound (known_true h) hfs (fun _ _ => trivial) hv) hca
  obtain ⟨β1, k1, k2⟩ := frzL_sound hfrz hcc.1 h.hr h.free h2
  refine wp_call ho h1 (hE.enter hen) ?_
  have h3 := (hE.rsumms.get hget) vs' c2 r' hrs hcc.2 β1 _ w _ k2 k1.hr
  simp only [Array.toArray_toList] at h3
  refine h3.mono ?_
  rintro e' w' ⟨⟨v, rfl, hv⟩, hb⟩
  split at hH
  · rename_i hflat
    subst hH
    obtain ⟨q1, q2, q3⟩ := Stp.next h.hr h.free (fun _ _ h => h) (Stp.below (m := st.heap.length) h.hr hb)
    exact hK _ w' v q2 q1 q3 (flat_rel _ _ hflat hv)
  · subst hH
    have hf1 : ∀ l, H1.length ≤ l → β1 l = none := fun l hl => by rw [k1.blk]; exact h.free l (by rw [← k1.len]; exact hl)
    obtain ⟨q1, q2, q3⟩ := Stp.next k1.hr hf1 (fun _ _ h => h) (Stp.below (m := H1.length) k1.hr hb)
    exact hK _ w' v (Ext.trans h.free hf1 k1.ext q2) q1 q3 (SV.rel_mono (Lab.after_le β1 w w') _ _ hv)
/-! ## what a call hands back, as data -/
mutual
def outV (E : Env) (H : SHeap) : SV → Option (SV × Bool)
  | .agg cs => match outL E H cs with | some (r, c) => some (.agg r, c) | none => none
  | .tuple cs => match outL E H cs with | some (r, c) => some (.tuple r, c) | none => none
  | .slice l off m cap => match frzV E H (.slice l off m cap) with | some (r, c, _) => some (r, c) | none => none
  | .own l lc m => match frzV E H (.own l lc m) with | some (r, c, _) => some (r, c) | none => none
  | .gro l lc m => match frzV E H (.gro l lc m) with | some (r, c, _) => some (r, c) | none => none
  | v => if freeV v then some (v, true) else none
def outL (E : Env) (H : SHeap) : List SV → Option (List SV × Bool)
  | [] => some ([], true)
  | v :: vs => match outV E H v, outL E H vs with
    | some (r, c), some (rs, c') => some (r :: rs, c && c')
    | _, _ => none
end
structure OutAt (β0 : Lab) (w : World) (β' : Lab) (H' : SHeap) (w' : World) : Prop where
  hr : HR β' (hpOf H') w'
  fz : ∀ b c, β'.fz b = some c → fzNew β0.fz w w' b = some c
  new : ∀ l b o, β' l = some b → hpOf H' l = some o → w.heap.size ≤ b
theorem OutAt.of {β0 : Lab} {w : World} (h0 : ∀ l, β0 l = none) {hp : HP} (hr0 : HR β0 hp w) {β' : Lab} {H' : SHeap} {w' : World} (he : Ext β0 [] w β' H' w') (hr : HR β' (hpOf H') w') : OutAt β0 w β' H' w' := by
  refine ⟨hr, fun b c h => ?_, fun l b o hb ho => ?_⟩
  · unfold fzNew
    rcases he.fzn b c h with h1 | h1 | ⟨l, o, h1, _⟩
    · rw [if_pos (hr0.flt h1)]; exact h1
    · rw [if_neg (by omega)]; exact (hr.fz b c h).1
    · rw [h0] at h1; simp at h1
  · rcases he.new l b hb with h1 | ⟨_, h1 | ⟨l0, o0, h1, _⟩ | h1⟩
    · rw [h0] at h1; simp at h1
    · exact h1
    · rw [h0] at h1; simp at h1
    · rw [h1] at ho; simp at ho
theorem frz_out {E : Env} {β0 : Lab} {w : World} {β' : Lab} {H' : SHeap} {w' : World} (ho : OutAt β0 w β' H' w') {v r : SV} {c : Bool} {Hx : SHeap} (h : frzV E H' v = some (r, c, Hx)) (hc : c = true) {x : Value} (hx : SV.rel β' v x) : SV.rel (β0.after w w') r x := by
  unfold frzV at h
  split at h
  · rename_i l hl
    split at h <;> (try simp only [reduceCtorEq] at h)
    rename_i cs tg ho'
    split at h <;> (try simp only [reduceCtorEq] at h)
    rename_i ks hks
    split at h <;> simp only [Option.some.injEq, Prod.mk.injEq, reduceCtorEq] at h
    rename_i n f c0 hsrc
    obtain ⟨rfl, hcc, _⟩ := h
    rw [hc] at hcc
    simp only [Bool.and_eq_true, Nat.ble_eq] at hcc
    obtain ⟨b, off, cap, o, hb, ho'', hv⟩ := srcRows_lab hsrc hl hx
    have hla := srcRows_sound hsrc hcc.1 ho.hr hx
    simp only [SV.rel]
    have hml := maxLen_le
    refine listAt_tsl hla (by omega) ho.fz (fun b' off' cap' e => ?_) ⟨b, off, cap, hv⟩
    rw [hv] at e; simp only [Value.slice.injEq, Option.some.injEq, Addr.mk.injEq] at e
    have := ho.new l b o hb ho''
    show fzNew β0.fz w w' b' = _
    unfold fzNew
    rw [if_neg (by omega)]
  · split at h <;> simp only [Option.some.injEq, Prod.mk.injEq, reduceCtorEq] at h
    rename_i hfr
    obtain ⟨rfl, _, _⟩ := h
    exact rel_fz ho.fz _ _ (freeV_deep hfr) hx
mutual
theorem outV_sound {E : Env} {β0 : Lab} {w : World} {β' : Lab} {H' : SHeap} {w' : World} (ho : OutAt β0 w β' H' w') : ∀ (v : SV) {r : SV} {c : Bool}, outV E H' v = some (r, c) → c = true → ∀ {x : Value}, SV.rel β' v x → SV.rel (β0.after w w') r x
  | .agg cs, r, c, h, hc, x, hx => by
    simp only [outV] at h
    split at h <;> simp only [Option.some.injEq, Prod.mk.injEq, reduceCtorEq] at h
    rename_i rs c' hrs; obtain ⟨rfl, rfl⟩ := h
    simp only [SV.rel] at hx ⊢; obtain ⟨xs, h1, h2⟩ := hx
    exact ⟨xs, outL_sound ho cs hrs hc h1, h2⟩
  | .tuple cs, r, c, h, hc, x, hx => by
    simp only [outV] at h
    split at h <;> simp only [Option.some.injEq, Prod.mk.injEq, reduceCtorEq] at h
    rename_i rs c' hrs; obtain ⟨rfl, rfl⟩ := h
    simp only [SV.rel] at hx ⊢; obtain ⟨xs, h1, h2⟩ := hx
    exact ⟨xs, outL_sound ho cs hrs hc h1, h2⟩
  | .slice _ _ _ _, r, c, h, hc, x, hx => by
    simp only [outV] at h
    split at h <;> simp only [Option.some.injEq, Prod.mk.injEq, reduceCtorEq] at h
    rename_i hf; obtain ⟨rfl, rfl⟩ := h; exact frz_out ho hf hc hx
  | .own _ _ _, r, c, h, hc, x, hx => by
    simp only [outV] at h
    split at h <;> simp only [Option.some.injEq, Prod.mk.injEq, reduceCtorEq] at h
    rename_i hf; obtain ⟨rfl, rfl⟩ := h; exact frz_out ho hf hc hx
  | .gro _ _ _, r, c, h, hc, x, hx => by
    simp only [outV] at h
    split at h <;> simp only [Option.some.injEq, Prod.mk.injEq, reduceCtorEq] at h
    rename_i hf; obtain ⟨rfl, rfl⟩ := h; exact frz_out ho hf hc hx
  | .int _ _, r, c, h, _, x, hx => by simp only [outV] at h; exact outF ho h hx
  | .bool _, r, c, h, _, x, hx => by simp only [outV] at h; exact outF ho h hx
  | .ptr _ _, r, c, h, _, x, hx => by simp only [outV] at h; exact outF ho h hx
  | .nilp, r, c, h, _, x, hx => by simp only [outV] at h; exact outF ho h hx
  | .func _ _ _, r, c, h, _, x, hx => by simp only [outV] at h; exact outF ho h hx
  | .raw _, r, c, h, _, x, hx => by simp only [outV] at h; exact outF ho h hx
  | .tsl _ _ _, r, c, h, _, x, hx => by simp only [outV] at h; exact outF ho h hx
  | .tptr _ _ _, r, c, h, _, x, hx => by simp only [outV] at h; exact outF ho h hx
  | .tz _, r, c, h, _, x, hx => by simp only [outV] at h; exact outF ho h hx
theorem outF {β0 : Lab} {w : World} {β' : Lab} {H' : SHeap} {w' : World} (ho : OutAt β0 w β' H' w') {v r : SV} {c : Bool} (h : (if freeV v then some (v, true) else none) = some (r, c)) {x : Value} (hx : SV.rel β' v x) : SV.rel (β0.after w w') r x := by
  split at h <;> simp only [Option.some.injEq, Prod.mk.injEq, reduceCtorEq] at h
  rename_i hf; obtain ⟨rfl, _⟩ := h
  exact rel_fz ho.fz _ _ (freeV_deep hf) hx
theorem outL_sound {E : Env} {β0 : Lab} {w : World} {β' : Lab} {H' : SHeap} {w' : World} (ho : OutAt β0 w β' H' w') : ∀ (v : List SV) {r : List SV} {c : Bool}, outL E H' v = some (r, c) → c = true → ∀ {x : List Value}, relL β' v x → relL (β0.after w w') r x
  | [], r, c, h, _, x, hx => by
    simp only [outL, Option.some.injEq, Prod.mk.injEq] at h; obtain ⟨rfl, _⟩ := h
    rw [relL_nil] at hx ⊢; exact hx
  | v :: vs, r, c, h, hc, x, hx => by
    simp only [outL] at h
    split at h <;> simp only [Option.some.injEq, Prod.mk.injEq, reduceCtorEq] at h
    rename_i r1 c1 rs c2 h1 h2
    obtain ⟨rfl, rfl⟩ := h
    simp only [Bool.and_eq_true] at hc
    rw [relL_cons] at hx ⊢; obtain ⟨y, ys, h3, h4, e⟩ := hx
    exact ⟨y, ys, outV_sound ho v h1 hc.1 h3, outL_sound ho vs h2 hc.2 h4, e⟩
end
end Go.Sx

namespace Go.Sx
open Go.RowKit Go.Proofs
def symOper (E : Env) (call : CallF) (ops : List Oper) (st : St) (o : Oper) : T St :=
  match softStep E ops st.slots (hpOf st.heap) st.heap.length o with
  | some d => match putE st.slots o.dst d.ent with
    | some s => chk (softCond E ops st.slots o) (.ret ⟨s, applyUp st.heap d.up⟩)
    | none => .fail
  | none => match appStep E ops st o with
    | some r => match putE st.slots o.dst (.val r.1) with
      | some s => .ret ⟨s, r.2⟩
      | none => .fail
    | none => match growStep E ops st o with
      | some t => t.bind fun r => match putE st.slots o.dst (.val r.1) with
        | some s => .ret ⟨s, r.2⟩
        | none => .fail
      | none => match frzStep E ops st o with
        | some r => match putE st.slots o.dst (.val r.2.1) with
          | some s => chk (some r.1) (.ret ⟨s, r.2.2⟩)
          | none => .fail
        | none => match hsStep E ops st o with
          | some r => match putE st.slots o.dst (.val r) with
            | some s => .ret ⟨s, st.heap⟩
            | none => .fail
          | none => inlStep E call ops st o
/-- the test that a guard hangs on at last -/
def rootG (s : List Ent) : Nat → Nat → Option (Nat × Bool)
  | 0, _ => none
  | n + 1, t => match nth s t with
    | some (.val (.bool (.sym b))) => some (t, b)
    | some (.gd t' _ _) => rootG s n t'
    | _ => none
def Ent.res (t : Nat) (b : Bool) : Ent → Ent
  | .gd t' w v => bif Nat.beq t' t then (bif w == b then .val v else .val undefS) else .gd t' w v
  | e => e
def St.setR (st : St) (t : Nat) (b : Bool) : St := ⟨upd (st.slots.map (Ent.res t b)) t (.val (.bool (.lit b))), st.heap⟩
def splitX (E : Env) (ops : List Oper) (st : St) (o : Oper) : Option (Nat × Bool) :=
  match guardSlot ops o with
  | some (some (t, _)) => match softStep E ops st.slots (hpOf st.heap) st.heap.length o with
    | some _ => none
    | none => rootG st.slots 12 t
  | _ => none
def unwantedX (ops : List Oper) (st : St) (o : Oper) : Bool :=
  match guardSlot ops o with
  | some (some (t, _)) => match nth st.slots t with
    | some (.val (.tuple [])) => true
    | _ => false
  | _ => false
/-- an operation that is no mere value, under guards that hang on tests: their ways apart -/
def symOperX (E : Env) (call : CallF) (ops : List Oper) (o : Oper) : Nat → St → T St
  | 0, st => symOper E call ops st o
  | n + 1, st => bif unwantedX ops st o then (match putE st.slots o.dst (.val undefS) with
      | some s => .ret ⟨s, st.heap⟩
      | none => .fail)
    else match splitX E ops st o with
      | some (t, b) => .ite b (symOperX E call ops o n (st.setR t true)) (symOperX E call ops o n (st.setR t false))
      | none => symOper E call ops st o
/-- an operation under a guard that is not known, which is no mere value: the guard's two ways apart -/
def guardSplit (E : Env) (ops : List Oper) (st : St) (o : Oper) : Option (Nat × Bool) :=
  match guardSlot ops o with
  | some (some (t, _)) => match nth st.slots t with
    | some (.val (.bool (.sym b))) => match softStep E ops st.slots (hpOf st.heap) st.heap.length o with
      | some _ => none
      | none => some (t, b)
    | _ => none
  | _ => none
def St.setB (st : St) (t : Nat) (b : Bool) : St := ⟨upd st.slots t (.val (.bool (.lit b))), st.heap⟩
def symOperS (E : Env) (call : CallF) (ops : List Oper) (st : St) (o : Oper) : T St :=
  match guardSplit E ops st o with
  | some (t, b) => .ite b (symOper E call ops (st.setB t true) o) (symOper E call ops (st.setB t false) o)
  | none => symOperX E call ops o 8 st
def symOps (E : Env) (call : CallF) (ops : List Oper) : List Oper → St → T St
  | [], st => .ret st
  | o :: l, st => (symOperS E call ops st o).bind (symOps E call ops l)
theorem growStep_sound {E : Env} (_hE : E.Ok) {ops : List Oper} {st : St} {o : Oper} {t : T (SV × SHeap)} {β : Lab} {a : Act} {w : World} (h : Rel β st a w) (ht : growStep E ops st o = some t) {K : Act → World → Prop} {Q : Exit → Act → World → Prop}
    (hK : t.Holds fun r => ∀ β' w' val, Ext β st.heap w β' r.2 w' → HR β' (hpOf r.2) w' → (∀ l, r.2.length ≤ l → β' l = none) → SV.rel β' r.1 val → K (a.put o.dst val) w') :
    if Region.wanted o (yielded ops.toArray a.tmps) then o.wp E.P a w K Q else K (a.put o.dst undef) w := by
  unfold growStep at ht
  split at ht <;> (try simp only [reduceCtorEq] at ht)
  rename_i args argTypes ho
  split at ht <;> (try simp only [reduceCtorEq] at ht)
  rename_i fs hg
  obtain ⟨hw, hfs⟩ := guardAs_sound h.fact hg
  rw [if_pos hw]
  split at ht <;> (try simp only [reduceCtorEq] at ht)
  rename_i s x t0 t' hlk hat
  split at ht <;> (try simp only [reduceCtorEq] at ht)
  rename_i htt
  have htt' : t0 = t' := by simpa using htt
  subst htt'
  have hvals := looks_rel (β := β) (ρ := a.eval) (fun x _ v hv => lookE_sound (known_true h) hfs (fun _ _ => trivial) hv) hlk
  rw [relL_cons] at hvals; obtain ⟨vs, l1, hs, hvals, e1⟩ := hvals
  rw [relL_cons] at hvals; obtain ⟨vx, l2, hx, hvals, e2⟩ := hvals
  rw [relL_nil] at hvals; subst hvals; subst e2
  have hargs : (args.map a.eval) = #[vs, vx] := by apply Array.ext'; simpa using e1
  have hats : argTypes = #[t0, t0] := by apply Array.ext'; simpa using hat
  subst hats
  obtain ⟨q, val, w', β', hq, hrun, k1, k2, k3, k4⟩ := growT_sound ht h.hr h.free hs hx (ty := o.type) hK
  have := hq β' w' val k1 k2 k3 k4
  unfold Oper.wp execOp
  simp [ho, resolve, invoke, builtin, hargs, hrun]
  exact this
theorem symOper_sound {E : Env} (hE : E.Ok) {call : CallF} (hcall : CallOk E.P call) {ops : List Oper} {st : St} {o : Oper} {β : Lab} {a : Act} {w : World} (h : Rel β st a w) {K : Act → World → Prop} {Q : Exit → Act → World → Prop}
    (hK : (symOper E call ops st o).Holds fun st' => ∀ β' a' w', Ext β st.heap w β' st'.heap w' → Rel β' st' a' w' → K a' w') :
    if Region.wanted o (yielded ops.toArray a.tmps) then o.wp E.P a w K Q else K (a.put o.dst undef) w := by
  unfold symOper at hK
  split at hK
  · rename_i d hd
    split at hK
    · rename_i s hs
      obtain ⟨hcc, hK⟩ := chk_holds hK
      refine softStep_sound hE (known_true h) (fun fs => h.hr.restrict _) (h.free _ (Nat.le_refl _)) (fun _ _ => trivial) (fun _ _ _ => trivial) hcc hd fun w' β' val hv ⟨hp', hsub, _, hst⟩ => ?_
      obtain ⟨h1, h2, h3⟩ := Stp.next h.hr h.free hsub hst
      obtain ⟨h4, h5⟩ := putE_facts hst.ext h.size h.fact hv hs
      exact hK β' _ w' h2 ⟨h4, h5, h1, h3, by rw [put_defers]; exact h.defers⟩
    · exact hK.elim
  · split at hK
    · rename_i r hr
      split at hK
      · rename_i s hs
        refine appStep_sound hE h hr fun β' w' val he hhr hfree hv => ?_
        obtain ⟨h4, h5⟩ := putE_facts he.ext h.size h.fact (show DFact β' a val (.val r.1) from hv) hs
        exact hK β' _ w' he ⟨h4, h5, hhr, hfree, by rw [put_defers]; exact h.defers⟩
      · exact hK.elim
    split at hK
    · rename_i t ht
      refine growStep_sound hE h ht (T.Holds.mono ?_ (T.Holds.bind hK))
      intro r hr β' w' val he hhr hfree hv
      split at hr
      · rename_i s hs
        obtain ⟨h4, h5⟩ := putE_facts he.ext h.size h.fact (show DFact β' a val (.val r.1) from hv) hs
        exact hr β' _ w' he ⟨h4, h5, hhr, hfree, by rw [put_defers]; exact h.defers⟩
      · exact hr.elim
    split at hK
    · rename_i r hr
      split at hK
      · rename_i s hs
        obtain ⟨hc, hK⟩ := chk_holds hK
        refine frzStep_sound (c := r.1) (r := r.2.1) (H' := r.2.2) hE h hr (hc _ rfl) fun β' w' val he hhr hfree hv => ?_
        obtain ⟨h4, h5⟩ := putE_facts he.ext h.size h.fact (show DFact β' a val (.val r.2.1) from hv) hs
        exact hK β' _ w' he ⟨h4, h5, hhr, hfree, by rw [put_defers]; exact h.defers⟩
      · exact hK.elim
    split at hK
    · rename_i r hr
      split at hK
      · rename_i s hs
        refine hsStep_sound hE h hr fun β' w' val he hhr hfree hv => ?_
        obtain ⟨h4, h5⟩ := putE_facts he.ext h.size h.fact (show DFact β' a val (.val r) from hv) hs
        exact hK β' _ w' he ⟨h4, h5, hhr, hfree, by rw [put_defers]; exact h.defers⟩
      · exact hK.elim
    unfold inlStep at hK
    split at hK
    · rename_i f args at' ho
      split at hK
      · rename_i fs hg
        split at hK
        · rename_i g vs hca
          split at hK
          · rename_i hen
            obtain ⟨hw, hfs⟩ := guardAs_sound h.fact hg
            rw [if_pos hw]
            obtain ⟨first, cap, h1, h2⟩ := callArgs_sound (β := β) (ρ := a.eval) (fun x _ v hv => lookE_sound (known_true h) hfs (fun _ _ => trivial) hv) hca
            refine wp_call ho h1 (hE.enter hen) ?_
            have h3 := hcall g vs st.heap β w _ (fun | .returned v, w'' => K (a.put o.dst v) w'' | .panicked chain, w'' => Q (.panic chain) a w'' | .outgrown, _ => LetsOut Q) h2 h.hr h.free ?_
            · rw [Array.toArray_toList] at h3; exact h3
            · refine T.Holds.mono ?_ (T.Holds.bind hK)
              intro r hr β' w' val he hhr hfree hv
              dsimp only at hr ⊢
              split at hr
              · rename_i s hs
                obtain ⟨h4, h5⟩ := putE_facts he.ext h.size h.fact (show DFact β' a val (.val r.1) from hv) hs
                exact hr β' _ w' he ⟨h4, h5, hhr, hfree, by rw [put_defers]; exact h.defers⟩
              · exact hr.elim
          · exact hK.elim
        · exact hK.elim
      · exact hK.elim
    · exact hK.elim

theorem Rel.setB {β : Lab} {st : St} {a : Act} {w : World} (h : Rel β st a w) {t : Nat} {b : Bool} (ht : nth st.slots t = some (.val (.bool (.sym b)))) : Rel β (st.setB t b) a w := by
  refine ⟨by simp only [St.setB, upd_length]; exact h.size, fun x e he => ?_, h.hr, h.free, h.defers⟩
  simp only [St.setB, nth_upd] at he
  split at he
  · rename_i hx; obtain ⟨rfl, _⟩ := hx
    simp only [Option.some.injEq] at he; subst he
    obtain ⟨y, h1, h2⟩ := h.fact t _ ht
    exact ⟨y, h1, by simpa [SV.rel, SB.val] using h2⟩
  · exact h.fact x e he
theorem rootG_at {s : List Ent} : ∀ {n t t' : Nat} {b : Bool}, rootG s n t = some (t', b) → nth s t' = some (.val (.bool (.sym b)))
  | 0, _, _, _, h => by simp [rootG] at h
  | n + 1, t, t', b, h => by
    simp only [rootG] at h
    split at h <;> (try simp only [reduceCtorEq] at h)
    · rename_i hh; simp only [Option.some.injEq, Prod.mk.injEq] at h; obtain ⟨rfl, rfl⟩ := h; exact hh
    · exact rootG_at h
theorem nth_map {α γ : Type} (f : α → γ) : ∀ (l : List α) (i : Nat), nth (l.map f) i = (nth l i).map f
  | [], _ => rfl
  | _ :: _, 0 => rfl
  | _ :: l, i + 1 => nth_map f l i
theorem Rel.setR {β : Lab} {st : St} {a : Act} {w : World} (h : Rel β st a w) {t : Nat} {b : Bool} (ht : nth st.slots t = some (.val (.bool (.sym b)))) : Rel β (st.setR t b) a w := by
  obtain ⟨y, h1, h2⟩ := h.fact t _ ht
  simp only [SV.rel, SB.val] at h2; subst h2
  have htb : tb a t = some b := by simp [tb, h1]
  refine ⟨by simp only [St.setR, upd_length, List.length_map]; exact h.size, fun x e he => ?_, h.hr, h.free, h.defers⟩
  simp only [St.setR, nth_upd] at he
  split at he
  · rename_i hx; obtain ⟨rfl, _⟩ := hx
    simp only [Option.some.injEq] at he; subst he
    exact ⟨_, h1, by simp [SV.rel, SB.val]⟩
  · rw [nth_map, Option.map_eq_some_iff] at he
    obtain ⟨e0, he0, rfl⟩ := he
    have hf := h.fact x e0 he0
    cases e0 with
    | none => exact hf
    | val v => exact hf
    | gd t' w' v =>
      simp only [Ent.res]
      cases hb : Nat.beq t' t with
      | false => exact hf
      | true =>
        have : t' = t := Nat.eq_of_beq_eq_true hb
        subst this
        cases hw : (w' == b) with
        | true => have : w' = b := by simpa using hw
                  subst this; exact hf.1 htb
        | false =>
          have : w' ≠ b := by simpa using hw
          refine ⟨undef, hf.2 (by rw [htb]; exact fun e => this (by simpa using e.symm)), by simp [undefS, SV.rel, undef, relL_nil]⟩
theorem symOperX_sound {E : Env} (hE : E.Ok) {call : CallF} (hcall : CallOk E.P call) {ops : List Oper} {o : Oper} {β : Lab} {a : Act} {w : World} {K : Act → World → Prop} {Q : Exit → Act → World → Prop} : ∀ (n : Nat) {st : St}, Rel β st a w →
    ((symOperX E call ops o n st).Holds fun st' => ∀ β' a' w', Ext β st.heap w β' st'.heap w' → Rel β' st' a' w' → K a' w') →
    if Region.wanted o (yielded ops.toArray a.tmps) then o.wp E.P a w K Q else K (a.put o.dst undef) w
  | 0, st, h, hK => symOper_sound hE hcall h hK
  | n + 1, st, h, hK => by
    simp only [symOperX] at hK
    cases hu : unwantedX ops st o with
    | true =>
      rw [hu] at hK; simp only [cond_true] at hK
      have hw : Region.wanted o (yielded ops.toArray a.tmps) = false := by
        unfold unwantedX at hu
        split at hu <;> (try simp only [Bool.false_eq_true] at hu)
        rename_i t v hg
        split at hu <;> (try simp only [Bool.false_eq_true] at hu)
        rename_i hn
        obtain ⟨y, h1, h2⟩ := h.fact t _ hn
        simp only [SV.rel] at h2; obtain ⟨xs, _, rfl⟩ := h2
        rw [wanted_guard hg]; simp [tb, h1]
      rw [hw]
      simp only [Bool.false_eq_true, if_false]
      split at hK
      · rename_i s hs
        obtain ⟨h4, h5⟩ := putE_facts (Lab.le.refl _) h.size h.fact (show DFact β a undef (.val undefS) from by simp [DFact, undefS, SV.rel, undef, relL_nil]) hs
        exact hK β _ w (Ext.refl _ _ _) ⟨h4, h5, h.hr, h.free, by rw [put_defers]; exact h.defers⟩
      · exact hK.elim
    | false =>
      rw [hu] at hK; simp only [cond_false] at hK
      split at hK
      · rename_i t b hg
        have ht : nth st.slots t = some (.val (.bool (.sym b))) := by
          unfold splitX at hg
          split at hg <;> (try simp only [reduceCtorEq] at hg)
          split at hg <;> (try simp only [reduceCtorEq] at hg)
          exact rootG_at hg
        cases b
        · exact symOperX_sound hE hcall n (h.setR ht) (hK.2 rfl)
        · exact symOperX_sound hE hcall n (h.setR ht) (hK.1 rfl)
      · exact symOper_sound hE hcall h hK
theorem symOperS_sound {E : Env} (hE : E.Ok) {call : CallF} (hcall : CallOk E.P call) {ops : List Oper} {st : St} {o : Oper} {β : Lab} {a : Act} {w : World} (h : Rel β st a w) {K : Act → World → Prop} {Q : Exit → Act → World → Prop}
    (hK : (symOperS E call ops st o).Holds fun st' => ∀ β' a' w', Ext β st.heap w β' st'.heap w' → Rel β' st' a' w' → K a' w') :
    if Region.wanted o (yielded ops.toArray a.tmps) then o.wp E.P a w K Q else K (a.put o.dst undef) w := by
  unfold symOperS at hK
  split at hK
  · rename_i t b hg
    have ht : nth st.slots t = some (.val (.bool (.sym b))) := by
      unfold guardSplit at hg
      split at hg <;> (try simp only [reduceCtorEq] at hg)
      split at hg <;> (try simp only [reduceCtorEq] at hg)
      rename_i hh
      split at hg <;> simp only [Option.some.injEq, Prod.mk.injEq, reduceCtorEq] at hg
      obtain ⟨rfl, rfl⟩ := hg; exact hh
    cases b
    · exact symOper_sound hE hcall (h.setB ht) (hK.2 rfl)
    · exact symOper_sound hE hcall (h.setB ht) (hK.1 rfl)
  · exact symOperX_sound hE hcall 8 h hK
theorem symOps_sound {E : Env} (hE : E.Ok) {call : CallF} (hcall : CallOk E.P call) {ops : List Oper} {Q : Exit → Act → World → Prop} : ∀ (l : List Oper) {st : St} {β : Lab} {a : Act} {w : World}, Rel β st a w →
    ((symOps E call ops l st).Holds fun st' => ∀ β' a' w', Ext β st.heap w β' st'.heap w' → Rel β' st' a' w' → Q .normal a' w') → wpList E.P ops.toArray Q l a w
  | [], st, β, a, w, h, hK => hK β a w (Ext.refl _ _ _) h
  | o :: l, st, β, a, w, h, hK => by
    refine wpList_step fun K hKK => ?_
    refine symOperS_sound hE hcall h (T.Holds.mono ?_ (T.Holds.bind hK))
    intro st1 hst1 β1 a1 w1 he1 hr1
    refine hKK a1 w1 (symOps_sound hE hcall l hr1 (T.Holds.mono ?_ hst1))
    intro st2 hst2 β2 a2 w2 he2 hr2
    exact hst2 β2 a2 w2 (Ext.trans h.free hr1.free he1 he2) hr2


end Go.Sx
