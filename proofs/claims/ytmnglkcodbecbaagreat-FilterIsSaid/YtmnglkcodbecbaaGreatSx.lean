/- The own symbolic executor of this claim, its second half: regions, code, calls, with their soundness: what a Go function comes to, told by evaluation. -/
import Derived.ArgAppend
import Derived.LoopN
import Derived.ScopeJumps
import Derived.Test.YtmnglkcodbecbaaGreatSw
namespace Go.Sx
open Go.RowKit Go.Proofs

structure St where
  slots : List Ent
  heap : SHeap
def Ent.noRef (d : Nat) : Ent → Bool
  | .gd t _ _ => !(Nat.beq t d)
  | _ => true
def putE (s : List Ent) : Option Tmp → Ent → Option (List Ent)
  | none, .val _ => some s
  | none, _ => none
  | some d, e => if s.all (Ent.noRef d) && e.noRef d then some (upd s d e) else none
def applyUp (H : SHeap) : Option (Nat × Obj') → SHeap
  | none => H
  | some (l, o) => if Nat.beq l H.length then H ++ [some o] else upd H l (some o)
abbrev CallF := FuncId → List SV → SHeap → T (SV × SHeap)
def guardAs (ops : List Oper) (s : List Ent) (o : Oper) : Option (List (Nat × Bool)) :=
  match guardSlot ops o with
  | some none => some []
  | some (some (t, w)) => match nth s t with
    | some (.val (.bool (.lit b))) => if b == w then some [(t, w)] else none
    | _ => none
  | none => none
/-- what is appended: its label, where it begins, how many elements -/
def srcOf : SV → Option (Nat × Nat × Nat)
  | .slice l off m _ => some (l, off, m)
  | .own l _ m => some (l, 0, m)
  | _ => none
/-- what it is appended to: its label, its capacity's, how many elements -/
inductive Old where
  | nil
  | own (l lc n : Nat)
def oldOf : SV → Option Old
  | .raw (.slice none 0 0) => some .nil
  | .own l lc n => some (.own l lc n)
  | _ => none
def elemOk (P : Program) (t : TypeId) : Option (TypeId × Nat × Nat) := match P.underlying t with
  | some (.slice e) => match P.info? e with
    | some i => match i.zero with
      | some z => if Nat.beq z.cells.size i.size && Nat.ble 1 i.size then some (e, i.size, i.bytes) else none
      | none => none
    | none => none
  | _ => none
def oldCells (H : SHeap) (e sz : Nat) : Old → Option (List SV × SHeap × Nat)
  | .nil => some ([], H, 0)
  | .own l lc n => match hpOf H l with
    | some (cs, ⟨e', some (lc', sz'), _, _⟩) => if Nat.beq e' e && Nat.beq lc' lc && Nat.beq sz' sz && Nat.beq cs.length (n * sz) then some (cs, upd H l none, n) else none
    | _ => none
def appVal (E : Env) (t : TypeId) (H : SHeap) (s x : SV) : Option (SV × SHeap) :=
  match elemOk E.P t, oldOf s, srcOf x with
  | some (e, sz, bytes), some old, some (l2, off2, m) => match hpOf H l2, oldCells H e sz old with
    | some (cs2, _), some (olds, H1, n) => match takeN (m * sz) (dropN off2 cs2) with
      | some news => if news.all SV.scal && Nat.ble ((n + m) * bytes) 140737488355328 && Nat.ble (n + m) 4294967296 && Nat.ble 1 m then
          some (.own H.length (H.length + 1) (n + m), H1 ++ [some (olds ++ news, ⟨e, some (H.length + 1, sz), 0, []⟩), none])
        else none
      | none => none
    | _, _ => none
  | _, _, _ => none
def appStep (E : Env) (ops : List Oper) (st : St) (o : Oper) : Option (SV × SHeap) :=
  match o.op with
  | .call { callee := .builtin .append, args, argTypes } => match guardAs ops st.slots o with
    | some fs => match looks (lookE fs st.slots) args.toList, argTypes.toList with
      | some [s, x], [t, t'] => if Nat.beq t t' then appVal E t st.heap s x else none
      | _, _ => none
    | none => none
  | _ => none
def hsStep (E : Env) (ops : List Oper) (st : St) (o : Oper) : Option SV :=
  match o.op with
  | .call { callee := .value f, args, argTypes := _ } => match guardAs ops st.slots o with
    | some fs => match callArgs (lookE fs st.slots) f args with
      | some (g, vs) => if E.enters g then match HSumms.get E.H g with
          | some h => h vs st.heap
          | none => none
        else none
      | none => none
    | none => none
  | _ => none
def inlStep (E : Env) (call : CallF) (ops : List Oper) (st : St) (o : Oper) : T St :=
  match o.op with
  | .call { callee := .value f, args, argTypes := _ } => match guardAs ops st.slots o with
    | some fs => match callArgs (lookE fs st.slots) f args with
      | some (g, vs) => if E.enters g then (call g vs st.heap).bind fun r => match putE st.slots o.dst (.val r.1) with
          | some s => .ret ⟨s, r.2⟩
          | none => .fail
        else .fail
      | none => .fail
    | none => .fail
  | _ => .fail
def symOper (E : Env) (call : CallF) (ops : List Oper) (st : St) (o : Oper) : T St :=
  match softStep E ops st.slots (hpOf st.heap) st.heap.length o with
  | some d => match putE st.slots o.dst d.ent with
    | some s => .ret ⟨s, applyUp st.heap d.up⟩
    | none => .fail
  | none => match appStep E ops st o with
    | some r => match putE st.slots o.dst (.val r.1) with
      | some s => .ret ⟨s, r.2⟩
      | none => .fail
    | none => match hsStep E ops st o with
      | some r => match putE st.slots o.dst (.val r) with
        | some s => .ret ⟨s, st.heap⟩
        | none => .fail
      | none => inlStep E call ops st o
/-- an operation under a guard that is not known, which is no mere value: the guard's two ways apart -/
def guardSplit (E : Env) (ops : List Oper) (st : St) (o : Oper) : Option (Nat × Bool) :=
  match guardSlot ops o with
  | some (some (t, _)) => match nth st.slots t with
    | some (.val (.bool (.sym b))) => match softStep E ops st.slots (hpOf st.heap) st.heap.length o with
      | some _ => none
      | none => some (t, b)
    | _ => none
  | _ => none
def St.setB (st : St) (t : Nat) (b : Bool) : St := ⟨upd st.slots t (.val (.bool (.lit b))), st.heap⟩
def symOperS (E : Env) (call : CallF) (ops : List Oper) (st : St) (o : Oper) : T St :=
  match guardSplit E ops st o with
  | some (t, b) => .ite b (symOper E call ops (st.setB t true) o) (symOper E call ops (st.setB t false) o)
  | none => symOper E call ops st o
def symOps (E : Env) (call : CallF) (ops : List Oper) : List Oper → St → T St
  | [], st => .ret st
  | o :: l, st => (symOperS E call ops st o).bind (symOps E call ops l)
def Ent.settle : Ent → Ent
  | .gd _ _ _ => .none
  | e => e
def St.settle (st : St) : St := ⟨st.slots.map Ent.settle, st.heap⟩

/-! ## trees -/
def T.Holds {α : Type} (K : α → Prop) : T α → Prop
  | .ret a => K a
  | .ite b x y => (b = true → x.Holds K) ∧ (b = false → y.Holds K)
  | .fail => False
theorem T.Holds.bind {α γ : Type} {K : γ → Prop} : ∀ {t : T α} {f : α → T γ}, (t.bind f).Holds K → t.Holds (fun a => (f a).Holds K)
  | .ret _, _, h => h
  | .ite _ _ _, _, h => ⟨fun e => T.Holds.bind (h.1 e), fun e => T.Holds.bind (h.2 e)⟩
  | .fail, _, h => h
theorem T.Holds.mono {α : Type} {K K' : α → Prop} (hk : ∀ a, K a → K' a) : ∀ {t : T α}, t.Holds K → t.Holds K'
  | .ret a, h => hk a h
  | .ite _ _ _, h => ⟨fun e => T.Holds.mono hk (h.1 e), fun e => T.Holds.mono hk (h.2 e)⟩
  | .fail, h => h
/-- a tree is one of its leaves, whatever the tests come to -/
theorem T.Holds.leaf {α : Type} {K : α → Prop} : ∀ {t : T α}, t.Holds K → ∃ a, K a
  | .ret a, h => ⟨a, h⟩
  | .ite b _ _, h => by
    cases b
    · exact T.Holds.leaf (h.2 rfl)
    · exact T.Holds.leaf (h.1 rfl)

/-! ## states and worlds -/
structure Rel (β : Lab) (st : St) (a : Act) (w : World) : Prop where
  size : a.tmps.size = st.slots.length
  fact : ∀ x e, nth st.slots x = some e → EntFact β a x e
  hr : HR β (hpOf st.heap) w
  free : ∀ l, st.heap.length ≤ l → β l = none
  defers : a.defers = []
structure Ext (β : Lab) (H : SHeap) (w : World) (β' : Lab) (H' : SHeap) (w' : World) : Prop where
  ext : ∀ l b, β l = some b → β' l = some b
  new : ∀ l b, β' l = some b → β l = some b ∨ (H.length ≤ l ∧ (w.heap.size ≤ b ∨ (∃ l0 o, β l0 = some b ∧ hpOf H l0 = some o ∧ hpOf H' l0 = none) ∨ hpOf H' l = none))
  len : H.length ≤ H'.length
  live : ∀ l o, l < H.length → hpOf H' l = some o → ∃ o', hpOf H l = some o' ∧ (o' = o ∨ o'.2.stamp < o.2.stamp)
  frame : ∀ b, b < w.heap.size → (∀ l, β l = some b → hpOf H' l = hpOf H l) → w'.heap[b]? = w.heap[b]?
  size : w.heap.size ≤ w'.heap.size
  os : w'.os = w.os
  tape : w'.tape = w.tape
  output : w'.output = w.output
theorem Ext.refl (β : Lab) (H : SHeap) (w : World) : Ext β H w β H w :=
  ⟨fun _ _ h => h, fun _ _ h => .inl h, Nat.le_refl _, fun _ o _ h => ⟨o, h, .inl rfl⟩, fun _ _ _ => rfl, Nat.le_refl _, rfl, rfl, rfl⟩
theorem Ext.trans {β β1 β2 : Lab} {H H1 H2 : SHeap} {w w1 w2 : World} (hf : ∀ l, H.length ≤ l → β l = none) (hf1 : ∀ l, H1.length ≤ l → β1 l = none) (h : Ext β H w β1 H1 w1) (h' : Ext β1 H1 w1 β2 H2 w2) : Ext β H w β2 H2 w2 := by
  have lt0 : ∀ {l b}, β l = some b → l < H.length := fun {l b} hb => by
    rcases Nat.lt_or_ge l H.length with h | h
    · exact h
    · rw [hf l h] at hb; simp at hb
  have lt1 : ∀ {l b}, β1 l = some b → l < H1.length := fun {l b} hb => by
    rcases Nat.lt_or_ge l H1.length with h | h
    · exact h
    · rw [hf1 l h] at hb; simp at hb
  have dead2 : ∀ {l}, l < H1.length → hpOf H1 l = none → hpOf H2 l = none := fun {l} hl hn => by
    cases ho : hpOf H2 l with
    | none => rfl
    | some o => obtain ⟨o', ho', _⟩ := h'.live l o hl ho; rw [hn] at ho'; simp at ho'
  refine ⟨fun l b hb => h'.ext l b (h.ext l b hb), fun l b hb => ?_, Nat.le_trans h.len h'.len, fun l o hl ho => ?_, fun b hb hn => ?_, Nat.le_trans h.size h'.size, h'.os.trans h.os, h'.tape.trans h.tape, h'.output.trans h.output⟩
  · rcases h'.new l b hb with hb1 | ⟨h1, h2 | ⟨l0, o, h2, h3, h3'⟩ | h2⟩
    · rcases h.new l b hb1 with h2 | ⟨h2, h3 | ⟨l0, o, h3, h4, h5⟩ | h3⟩
      · exact .inl h2
      · exact .inr ⟨h2, .inl h3⟩
      · exact .inr ⟨h2, .inr (.inl ⟨l0, o, h3, h4, dead2 (Nat.lt_of_lt_of_le (lt0 h3) h.len) h5⟩)⟩
      · exact .inr ⟨h2, .inr (.inr (dead2 (lt1 hb1) h3))⟩
    · exact .inr ⟨Nat.le_trans h.len h1, .inl (Nat.le_trans h.size h2)⟩
    · refine .inr ⟨Nat.le_trans h.len h1, ?_⟩
      rcases h.new l0 b h2 with h4 | ⟨h4, h5 | ⟨l1, o1, h5, h6, h7⟩ | h5⟩
      · obtain ⟨o', ho', _⟩ := h.live l0 o (lt0 h4) h3
        exact .inr (.inl ⟨l0, o', h4, ho', h3'⟩)
      · exact .inl h5
      · exact .inr (.inl ⟨l1, o1, h5, h6, dead2 (Nat.lt_of_lt_of_le (lt0 h5) h.len) h7⟩)
      · rw [h5] at h3; simp at h3
    · exact .inr ⟨Nat.le_trans h.len h1, .inr (.inr h2)⟩
  · obtain ⟨o', ho', h1⟩ := h'.live l o (Nat.lt_of_lt_of_le hl h.len) ho
    obtain ⟨o2, ho2, h2⟩ := h.live l o' hl ho'
    refine ⟨o2, ho2, ?_⟩
    rcases h1 with rfl | h1
    · exact h2
    · rcases h2 with rfl | h2
      · exact .inr h1
      · exact .inr (Nat.lt_trans h2 h1)
  · have hmid : ∀ l, β l = some b → hpOf H1 l = hpOf H l := fun l hl => by
      cases ho : hpOf H l with
      | none =>
        cases ho1 : hpOf H1 l with
        | none => rfl
        | some o1 => obtain ⟨o', ho', _⟩ := h.live l o1 (lt0 hl) ho1; rw [ho] at ho'; simp at ho'
      | some o =>
        have h2 := hn l hl; rw [ho] at h2
        obtain ⟨o1, ho1, hs1⟩ := h'.live l o (Nat.lt_of_lt_of_le (lt0 hl) h.len) h2
        obtain ⟨o', ho', hs⟩ := h.live l o1 (lt0 hl) ho1
        rw [ho] at ho'; simp only [Option.some.injEq] at ho'; subst ho'
        rw [ho1]
        rcases hs with rfl | hs
        · rfl
        · rcases hs1 with rfl | hs1
          · rfl
          · omega
    rw [h'.frame b (Nat.lt_of_lt_of_le hb h.size) (fun l hl => ?_), h.frame b hb hmid]
    rcases h.new l b hl with hl' | ⟨_, h2 | ⟨l0, o, h2, h3, h4⟩ | h2⟩
    · rw [hn l hl', hmid l hl']
    · omega
    · have h5 := hn l0 h2
      rw [h3, dead2 (Nat.lt_of_lt_of_le (lt0 h2) h.len) h4] at h5; simp at h5
    · rw [h2, dead2 (lt1 hl) h2]
theorem Ext.below {β β' : Lab} {H' : SHeap} {w w' : World} (h : Ext β [] w β' H' w') (hf : ∀ l, β l = none) : Below w.heap.size w w' :=
  ⟨h.os, h.tape, h.output, h.size, fun b hb => h.frame b hb (fun l hl => by rw [hf l] at hl; simp at hl)⟩
/-- where no object that was known has been written: all that lay lies as it lay -/
def sameH : SHeap → SHeap → Bool
  | [], _ => true
  | some o :: H, some o' :: H' => Nat.beq o'.2.stamp o.2.stamp && sameH H H'
  | none :: H, _ :: H' => sameH H H'
  | _ :: _, _ => false
theorem sameH_at : ∀ {H H' : SHeap} {l : Nat} {o : Obj'}, sameH H H' = true → hpOf H l = some o → ∃ o', hpOf H' l = some o' ∧ o'.2.stamp = o.2.stamp
  | [], _, l, o, _, h => by simp [hpOf, nth] at h
  | x :: H, [], l, o, hs, h => by cases x <;> simp [sameH] at hs
  | some x :: H, none :: H', l, o, hs, h => by simp [sameH] at hs
  | some x :: H, some y :: H', 0, o, hs, h => by
    simp only [sameH, Bool.and_eq_true, Nat.beq_eq] at hs
    simp only [hpOf, nth, Option.some.injEq] at h; subst h
    exact ⟨y, rfl, hs.1⟩
  | some x :: H, some y :: H', l + 1, o, hs, h => by
    simp only [sameH, Bool.and_eq_true, Nat.beq_eq] at hs
    exact sameH_at (H := H) (H' := H') hs.2 h
  | none :: H, y :: H', 0, o, hs, h => by simp [hpOf, nth] at h
  | none :: H, y :: H', l + 1, o, hs, h => by
    simp only [sameH] at hs
    exact sameH_at (H := H) (H' := H') hs h
theorem Ext.below_same {β β' : Lab} {H H' : SHeap} {w w' : World} (h : Ext β H w β' H' w') (hf : ∀ l, H.length ≤ l → β l = none) (hs : sameH H H' = true) : Below w.heap.size w w' := by
  refine ⟨h.os, h.tape, h.output, h.size, fun b hb => h.frame b hb fun l hl => ?_⟩
  have hlt : l < H.length := by
    rcases Nat.lt_or_ge l H.length with h | h
    · exact h
    · rw [hf l h] at hl; simp at hl
  cases ho : hpOf H l with
  | none =>
    cases ho' : hpOf H' l with
    | none => rfl
    | some o' => obtain ⟨o2, h2, _⟩ := h.live l o' hlt ho'; rw [ho] at h2; simp at h2
  | some o =>
    obtain ⟨o', h1, h2⟩ := sameH_at hs ho
    obtain ⟨o2, h3, h4⟩ := h.live l o' hlt h1
    rw [ho] at h3; simp only [Option.some.injEq] at h3; subst h3
    rw [h1]
    rcases h4 with rfl | h4
    · rfl
    · omega

theorem nth_upd {α : Type} (l : List α) (i : Nat) (x : α) (j : Nat) : nth (upd l i x) j = if i = j ∧ j < l.length then some x else nth l j := by
  rw [nth_eq, nth_eq]
  have : ∀ (l : List α) (i : Nat), upd l i x = l.set i x := fun l => by
    induction l with
    | nil => intro i; cases i <;> simp [upd]
    | cons a l ih => intro i; cases i <;> simp [upd, ih]
  rw [this, List.getElem?_set]
  by_cases h : i = j
  · subst h; by_cases h2 : i < l.length <;> simp [h2]
  · simp [h]
theorem upd_length {α : Type} : ∀ (l : List α) (i : Nat) (x : α), (upd l i x).length = l.length
  | [], i, _ => by cases i <;> simp [upd]
  | _ :: l, 0, _ => by simp [upd]
  | _ :: l, i + 1, x => by simp [upd, upd_length l i x]
theorem nth_append_new {α : Type} (l : List α) (x : α) (j : Nat) : nth (l ++ [x]) j = if j = l.length then some x else nth l j := by
  rw [nth_eq, nth_eq, List.getElem?_append]
  by_cases h : j = l.length
  · subst h; simp
  · by_cases h2 : j < l.length
    · simp [h2, h]
    · simp [h2, h]; omega
theorem hpOf_lt {H : SHeap} {l : Nat} {o : Obj'} (h : hpOf H l = some o) : l < H.length := by
  unfold hpOf at h
  rcases Nat.lt_or_ge l H.length with h2 | h2
  · exact h2
  · rw [nth_eq, List.getElem?_eq_none h2] at h; simp at h
def upAt (up : Option (Nat × Obj')) (l : Nat) (x : Option Obj') : Option Obj' := match up with
  | some (l', o) => if l' = l then some o else x
  | none => x
theorem hpOf_applyUp {H : SHeap} {up : Option (Nat × Obj')} (hu : ∀ l o, up = some (l, o) → l = H.length ∨ ∃ o', hpOf H l = some o') (l : Nat) :
    hpOf (applyUp H up) l = upAt up l (hpOf H l) := by
  cases up with
  | none => rfl
  | some p =>
    obtain ⟨l', o⟩ := p
    simp only [applyUp, upAt]
    by_cases h : l' = H.length
    · rw [if_pos (by simpa using h)]
      simp only [hpOf, nth_append_new, h]
      by_cases h2 : l = H.length
      · simp [h2]
      · rw [if_neg h2, if_neg (fun e => h2 e.symm)]
    · rw [if_neg (by simpa using h)]
      simp only [hpOf, nth_upd]
      obtain ⟨o', ho'⟩ := (hu l' o rfl).resolve_left h
      have := hpOf_lt ho'
      by_cases h2 : l' = l
      · subst h2; simp [this]
      · simp [h2]
theorem applyUp_length {H : SHeap} {up : Option (Nat × Obj')} : H.length ≤ (applyUp H up).length := by
  cases up with
  | none => exact Nat.le_refl _
  | some p =>
    simp only [applyUp]; split
    · simp
    · rw [upd_length]; exact Nat.le_refl _

/-- the heap behind one step -/
theorem Stp.next {β β' : Lab} {H : SHeap} {w w' : World} {hp' : HP} {up : Option (Nat × Obj')} (hr : HR β (hpOf H) w) (hfree : ∀ l, H.length ≤ l → β l = none) (hsub : ∀ l o, hp' l = some o → hpOf H l = some o) (h : Stp β hp' w β' w' H.length up) :
    HR β' (hpOf (applyUp H up)) w' ∧ Ext β H w β' (applyUp H up) w' ∧ ∀ l, (applyUp H up).length ≤ l → β' l = none := by
  have hus : ∀ l o, up = some (l, o) → l = H.length ∨ ∃ o', hpOf H l = some o' ∧ o'.2.stamp < o.2.stamp := fun l o e => (h.upok l o e).imp id fun ⟨o', ho', hst⟩ => ⟨o', hsub l o' ho', hst⟩
  have hu : ∀ l o, up = some (l, o) → l = H.length ∨ ∃ o', hpOf H l = some o' := fun l o e => (hus l o e).imp id fun ⟨o', ho', _⟩ => ⟨o', ho'⟩
  have hup := hpOf_applyUp hu
  refine ⟨⟨fun l o ho => ?_, h.inj, h.lt⟩, ⟨h.ext, fun l b hb => ?_, applyUp_length, fun l o hl ho => ?_, fun b hb hn => ?_, h.size, h.os, h.tape, h.output⟩, fun l hl => ?_⟩
  · rw [hup] at ho
    have old : hpOf H l = some o → (∀ l' o', up = some (l', o') → l' ≠ l) → objAt β' w' l o := fun ho hne => by
      have hal := (hr.obj l o ho).alive
      obtain ⟨b, vs, rest, h1, h2, h3, _, h5⟩ := hr.obj l o ho
      refine ⟨b, vs, rest, h.ext _ _ h1, relL_mono h.ext _ _ h2, ?_, h.dead _ hal, h5.mono h.ext⟩
      rw [h.frame b (hr.lt _ _ hal h1) (fun l' o' e hb => ?_), h3]
      have hal' : β.dead l' = false := by
        rcases hu l' o' e with h6 | ⟨o2, h6⟩
        · rw [hfree l' (by omega)] at hb; simp at hb
        · exact (hr.obj _ _ h6).alive
      exact hne l' o' e (hr.inj _ _ _ hal' hal hb h1)
    cases up with
    | none => exact old ho (fun _ _ e => by cases e)
    | some p =>
      obtain ⟨l', o'⟩ := p
      simp only [upAt] at ho
      split at ho
      · rename_i e; subst e; simp only [Option.some.injEq] at ho; subst ho; exact h.obj _ _ rfl
      · rename_i e; exact old ho (fun l2 o2 e2 => by simp only [Option.some.injEq, Prod.mk.injEq] at e2; rw [← e2.1]; exact e)
  · rcases h.new l b hb with h1 | ⟨h1, h2, _⟩
    · exact .inl h1
    · exact .inr ⟨by omega, .inl h2⟩
  · rw [hup] at ho
    cases up with
    | none => exact ⟨o, ho, .inl rfl⟩
    | some p =>
      obtain ⟨l', o'⟩ := p
      simp only [upAt] at ho
      split at ho
      · rename_i e; subst e
        simp only [Option.some.injEq] at ho; subst ho
        rcases hus l' o' rfl with h1 | ⟨o2, h1, h2⟩
        · omega
        · exact ⟨o2, h1, .inr h2⟩
      · exact ⟨o, ho, .inl rfl⟩
  · refine h.frame b hb fun l o e hb' => ?_
    rcases hus l o e with h1 | ⟨o', h1, h2⟩
    · rw [hfree l (by omega)] at hb'; simp at hb'
    · have h3 := hn l hb'
      rw [hup, e, h1] at h3
      simp only [upAt, if_true, Option.some.injEq] at h3
      subst h3; omega
  · cases hb : β' l with
    | none => rfl
    | some b =>
      have hl' : H.length ≤ l := Nat.le_trans applyUp_length hl
      rcases h.new l b hb with h1 | ⟨h1, _, o, h2⟩
      · rw [hfree l hl'] at h1; simp at h1
      · subst h1; subst h2; simp [applyUp] at hl; omega

theorem put_size (a : Act) (d : Option Tmp) (v : Value) : (a.put d v).tmps.size = a.tmps.size := by cases d <;> simp [Act.put]
theorem put_defers (a : Act) (d : Option Tmp) (v : Value) : (a.put d v).defers = a.defers := by cases d <;> rfl
theorem tb_put_ne {a : Act} {d t : Nat} {v : Value} (h : d ≠ t) : tb (a.put (some d) v) t = tb a t := by
  simp [tb, Act.put, Array.getElem?_setIfInBounds_ne h]
theorem EntFact.mono {β β' : Lab} {a : Act} {x : Nat} {e : Ent} (h : EntFact β a x e) (hm : ∀ l b, β l = some b → β' l = some b) : EntFact β' a x e := by
  cases e with
  | none => trivial
  | val v => obtain ⟨y, h1, h2⟩ := h; exact ⟨y, h1, SV.rel_mono hm _ _ h2⟩
  | gd t v s => exact ⟨fun hh => by obtain ⟨y, h1, h2⟩ := h.1 hh; exact ⟨y, h1, SV.rel_mono hm _ _ h2⟩, h.2⟩
theorem EntFact.other {β : Lab} {a : Act} {x d : Nat} {e : Ent} {val : Value} (h : EntFact β a x e) (hx : d ≠ x) (hr : e.noRef d = true) : EntFact β (a.put (some d) val) x e := by
  cases e with
  | none => trivial
  | val v => obtain ⟨y, h1, h2⟩ := h; exact ⟨y, by simp [Act.put, Array.getElem?_setIfInBounds_ne hx, h1], h2⟩
  | gd t v s =>
    have ht : d ≠ t := fun e => by subst e; simp [Ent.noRef] at hr
    simp only [EntFact, tb_put_ne ht]
    exact ⟨fun hh => by obtain ⟨y, h1, h2⟩ := h.1 hh; exact ⟨y, by simp [Act.put, Array.getElem?_setIfInBounds_ne hx, h1], h2⟩, fun hh => by simp [Act.put, Array.getElem?_setIfInBounds_ne hx, h.2 hh]⟩
theorem EntFact.same {β : Lab} {a : Act} {d : Nat} {e : Ent} {val : Value} (hd : d < a.tmps.size) (h : DFact β a val e) (hr : e.noRef d = true) : EntFact β (a.put (some d) val) d e := by
  have hv : (a.put (some d) val).tmps[d]? = some val := by simp [Act.put, hd]
  cases e with
  | none => trivial
  | val v => exact ⟨val, hv, h⟩
  | gd t v s =>
    have ht : d ≠ t := fun e => by subst e; simp [Ent.noRef] at hr
    simp only [EntFact, tb_put_ne ht]
    exact ⟨fun hh => ⟨val, hv, h.1 hh⟩, fun hh => by rw [hv, h.2 hh]⟩
theorem putE_facts {β β' : Lab} {a : Act} {s s' : List Ent} {d : Option Tmp} {e : Ent} {val : Value} (hm : ∀ l b, β l = some b → β' l = some b) (hsize : a.tmps.size = s.length) (hf : ∀ x e, nth s x = some e → EntFact β a x e)
    (hd : DFact β' a val e) (h : putE s d e = some s') : (a.put d val).tmps.size = s'.length ∧ ∀ x e, nth s' x = some e → EntFact β' (a.put d val) x e := by
  cases d with
  | none =>
    cases e <;> simp only [putE, Option.some.injEq, reduceCtorEq] at h
    subst h
    exact ⟨hsize, fun x e hx => (hf x e hx).mono hm⟩
  | some d =>
    simp only [putE] at h
    split at h <;> simp only [Option.some.injEq, reduceCtorEq] at h
    rename_i hc; subst h
    simp only [Bool.and_eq_true, List.all_eq_true] at hc
    refine ⟨by rw [put_size, upd_length]; exact hsize, fun x e' hx => ?_⟩
    rw [nth_upd] at hx
    split at hx
    · rename_i hh; obtain ⟨rfl, hlt⟩ := hh
      simp only [Option.some.injEq] at hx; subst hx
      exact EntFact.same (by omega) hd hc.2
    · rename_i hh
      have hlt : x < s.length := by
        rcases Nat.lt_or_ge x s.length with h | h
        · exact h
        · rw [nth_eq, List.getElem?_eq_none h] at hx; simp at hx
      have hne : d ≠ x := fun e => hh ⟨e, hlt⟩
      exact ((hf x e' hx).mono hm).other hne (hc.1 e' (by rw [nth_eq] at hx; exact List.mem_of_getElem? hx))

/-- a call that is walked into -/
def CallOk (P : Program) (call : CallF) : Prop := ∀ (f : FuncId) (vs : List SV) (H : SHeap) (β : Lab) (w : World) (vals : List Value) (R : Ending → World → Prop),
  relL β vs vals → HR β (hpOf H) w → (∀ l, H.length ≤ l → β l = none) →
  (call f vs H).Holds (fun r => ∀ β' w' val, Ext β H w β' r.2 w' → HR β' (hpOf r.2) w' → (∀ l, r.2.length ≤ l → β' l = none) → SV.rel β' r.1 val → R (.returned val) w') → Calls P f vals.toArray w R

theorem known_true {β : Lab} {st : St} {a : Act} {w : World} (h : Rel β st a w) : Known β a st.slots (fun _ => True) := ⟨fun x _ e he => h.fact x e he, fun _ _ _ _ _ _ => trivial⟩

theorem guardAs_sound {ops : List Oper} {s : List Ent} {o : Oper} {fs : List (Nat × Bool)} {β : Lab} {a : Act} (hf : ∀ x e, nth s x = some e → EntFact β a x e) (h : guardAs ops s o = some fs) :
    Region.wanted o (yielded ops.toArray a.tmps) = true ∧ Facts a fs := by
  unfold guardAs at h
  split at h <;> (try simp only [reduceCtorEq] at h)
  · rename_i hg; simp only [Option.some.injEq] at h; subst h
    exact ⟨wanted_none hg, fun p hp => by simp at hp⟩
  · rename_i t v hg
    split at h <;> (try simp only [reduceCtorEq] at h)
    rename_i b hb
    split at h <;> simp only [Option.some.injEq, reduceCtorEq] at h
    rename_i hbv; subst h
    obtain ⟨y, hy, hyr⟩ := hf t _ hb
    simp only [SV.rel, SB.val] at hyr; subst hyr
    have htb : tb a t = some b := by simp [tb, hy]
    have : b = v := by simpa using hbv
    subst this
    refine ⟨by rw [wanted_guard hg, htb]; simp, fun p hp => ?_⟩
    simp only [List.mem_singleton] at hp; subst hp; exact htb

theorem maxLen_le : (4294967296 : Nat) ≤ maxLen := by decide
theorem run_append_room (P : Program) (w : World) (t ty e : TypeId) (i : TypeInfo) (ht : P.underlying t = some (.slice e)) (hi : P.info? e = some i)
    (b n cap : Nat) (a : Addr) (m c : Nat) (vs news rest : List Value) (hvs : vs.length = n * i.size) (hl : news.length = m * i.size) (hnews : ∀ j u, news[j]? = some u → w.cell? (a.add j) = some u) (h1 : ∀ u ∈ news, u.oneCell' = true)
    (hroom : n + m ≤ cap) (hw : w.heap[b]? = some (.cells (vs ++ rest).toArray e (0, 0))) (hrest : vs.length + rest.length = cap * i.size) :
    (Builtin.append_ #[t, t] ty #[.slice (some ⟨b, 0, none⟩) n cap, .slice (some a) m c]).run P w = .ok (.slice (some ⟨b, 0, none⟩) (n + m) cap) (w.setRow b (vs ++ news ++ rest.drop news.length).toArray) := by
  have hfc := run_firstCells_some (P := P) w i.size m a m c news hl hnews
  have hle : vs.length + news.length ≤ (vs ++ rest).length := by
    have : (n + m) * i.size ≤ cap * i.size := Nat.mul_le_mul_right _ hroom
    rw [Nat.add_mul] at this
    simp; omega
  have hst := run_storeCells_at (P := P) b e news 0 vs.length (vs ++ rest) w hw (by omega) h1
  have e1 : (vs ++ rest).take (vs.length + 0) ++ news ++ (vs ++ rest).drop (vs.length + 0 + news.length) = vs ++ news ++ rest.drop news.length := by
    simp [List.drop_append]
  rw [e1] at hst
  have e2 : (⟨b, 0, none⟩ : Addr).add (n * i.size) = ⟨b, vs.length, none⟩ := by rw [addr_add, Nat.zero_add, hvs]
  simp [Builtin.append_, run_underlying ht, sizeOf, typeInfo, hi, Builtin.lenOf, hroom, hfc, e2, hst]
theorem run_append_nil (P : Program) (w : World) (t ty e : TypeId) (i : TypeInfo) (z : Value) (ht : P.underlying t = some (.slice e)) (hi : P.info? e = some i) (hz : i.zero = some z) (hzs : z.cells.size = i.size) (hsz : 0 < i.size)
    (a : Addr) (m c : Nat) (news : List Value) (hl : news.length = m * i.size) (hnews : ∀ j u, news[j]? = some u → w.cell? (a.add j) = some u) (h1 : ∀ u ∈ news, u.oneCell' = true)
    (h63 : m ≤ maxLen) (hbytes : m * i.bytes ≤ 140737488355328) (_hm : 1 ≤ m) :
    ∃ v' w', (Builtin.append_ #[t, t] ty #[.slice none 0 0, .slice (some a) m c]).run P w = .ok v' w' ∧ w'.ownsRow w.heap.size e i.size v' m news ∧ w.grownBy w' none := by
  obtain ⟨v', w', h2, h3, h4, _⟩ := run_append_own (P := P) w w.heap.size t ty e i z i.size i.bytes ht hi hz rfl rfl hzs hsz (.slice none 0 0) 0 [] (World.ownsRow_nil w _ e i.size) a m c news hl hnews h1 (by omega) (by simpa using hbytes) (Nat.le_refl _)
  exact ⟨v', w', h2, by simpa using h3, h4⟩
theorem relL_all {β β' : Lab} (h : ∀ l b, β l = some b → β' l = some b) {s : List SV} {v : List Value} (hr : relL β s v) : relL β' s v := relL_mono h s v hr
/-- two new labels: a block, a capacity -/
def Lab.put2 (β : Lab) (m g cap : Nat) (d : Nat → Bool) : Lab := ⟨fun l => if l = m then some g else if l = m + 1 then some cap else β.blk l, fun l => if l = m then false else if l = m + 1 then true else d l || β.dead l⟩
theorem Lab.put2_blk (β : Lab) (m g cap : Nat) (d : Nat → Bool) (l : Nat) : (Lab.put2 β m g cap d) l = if l = m then some g else if l = m + 1 then some cap else β l := rfl
theorem Lab.put2_dead (β : Lab) (m g cap : Nat) (d : Nat → Bool) (l : Nat) : (Lab.put2 β m g cap d).dead l = if l = m then false else if l = m + 1 then true else d l || β.dead l := rfl
theorem hpOf_append2 (H : SHeap) (x : Option Obj') (l : Nat) : hpOf (H ++ [x, none]) l = if l = H.length then x else hpOf H l := by
  simp only [hpOf, nth_eq, List.getElem?_append]
  by_cases h : l = H.length
  · subst h; simp
  · by_cases h2 : l < H.length
    · simp [h2, h]
    · rw [if_neg h2, if_neg h, List.getElem?_eq_none (l := H) (by omega)]
      obtain ⟨k, hk⟩ : ∃ k, l - H.length = k + 1 := ⟨l - H.length - 1, by omega⟩
      rw [hk]
      cases k <;> simp
/-- behind an append: a state in which the block g bears the old cells and the new ones -/
theorem app_next {β : Lab} {H H1 : SHeap} {w w' : World} {m g cap e sz : Nat} {olds news : List SV} {vo vn rest : List Value} {d : Nat → Bool} (hr : HR β (hpOf H) w) (hfree : ∀ l, H.length ≤ l → β l = none) (hm : m = H.length)
    (hlen1 : H1.length = H.length) (hH1 : ∀ l o, hpOf H1 l = some o → hpOf H l = some o ∧ d l = false) (ho : relL β olds vo) (hn : relL β news vn) (hg : w'.heap[g]? = some (.cells (vo ++ vn ++ rest).toArray e (0, 0)))
    (hcap : cap ≤ maxLen) (hsz : (vo ++ vn).length + rest.length = cap * sz) (hsize : w.heap.size ≤ w'.heap.size) (hos : w'.os = w.os) (htape : w'.tape = w.tape) (hout : w'.output = w.output)
    (hblk : ∀ k, k < w.heap.size → k ≠ g → w'.heap[k]? = w.heap[k]?)
    (hkind : w.heap.size ≤ g ∨ ∃ l o, β l = some g ∧ hpOf H l = some o ∧ d l = true) :
    Ext β H w (Lab.put2 β m g cap d) (H1 ++ [some (olds ++ news, ⟨e, some (m + 1, sz), 0, []⟩), none]) w' ∧ HR (Lab.put2 β m g cap d) (hpOf (H1 ++ [some (olds ++ news, ⟨e, some (m + 1, sz), 0, []⟩), none])) w' ∧
    ∀ l, (H1 ++ [some (olds ++ news, (⟨e, some (m + 1, sz), 0, []⟩ : Tag)), none]).length ≤ l → (Lab.put2 β m g cap d) l = none := by
  have lt0 : ∀ {l b}, β l = some b → l < H.length := fun {l b} hb => by
    rcases Nat.lt_or_ge l H.length with h | h
    · exact h
    · rw [hfree l h] at hb; simp at hb
  have hext : ∀ l b, β l = some b → Lab.put2 β m g cap d l = some b := fun l b hb => by
    have := lt0 hb
    rw [Lab.put2_blk, if_neg (by omega), if_neg (by omega)]; exact hb
  have hhp : ∀ l, hpOf (H1 ++ [some (olds ++ news, (⟨e, some (m + 1, sz), 0, []⟩ : Tag)), none]) l = if l = m then some (olds ++ news, ⟨e, some (m + 1, sz), 0, []⟩) else hpOf H1 l := fun l => by
    rw [hpOf_append2, hlen1, hm]
  -- who is alive at g is m
  have halive : ∀ l, β.dead l = false → d l = false → β l ≠ some g := fun l h1 h2 h3 => by
    rcases hkind with h | ⟨l0, o, h4, h5, h6⟩
    · have := hr.lt l g h1 h3; omega
    · have := hr.inj l l0 g h1 (hr.obj _ _ h5).alive h3 h4
      subst this; rw [h6] at h2; simp at h2
  have hglt : g < w'.heap.size := (Array.getElem?_eq_some_iff.1 hg).1
  have hkilled : ∀ l, d l = true → hpOf H1 l = none := fun l hd => by
    cases h : hpOf H1 l with
    | none => rfl
    | some o => have := (hH1 l o h).2; rw [hd] at this; simp at this
  refine ⟨⟨hext, fun l b hb => ?_, by simp [hlen1], fun l o hl hlo => ?_, fun b hb hnone => ?_, hsize, hos, htape, hout⟩, ⟨fun l o hlo => ?_, fun l l' b d1 d2 h1 h2 => ?_, fun l b d1 h1 => ?_⟩, fun l hl => ?_⟩
  · rw [Lab.put2_blk] at hb
    split at hb
    · rename_i e1; simp only [Option.some.injEq] at hb; subst hb
      refine .inr ⟨by omega, ?_⟩
      rcases hkind with h | ⟨l0, o, h4, h5, h6⟩
      · exact .inl h
      · refine .inr (.inl ⟨l0, o, h4, h5, ?_⟩)
        rw [hhp, if_neg (by have := lt0 h4; omega)]
        exact hkilled l0 h6
    · split at hb
      · rename_i e1 e2
        refine .inr ⟨by omega, .inr (.inr ?_)⟩
        rw [hhp, if_neg e1]
        cases h : hpOf H1 l with
        | none => rfl
        | some o => have := hpOf_lt h; omega
      · exact .inl hb
  · rw [hhp, if_neg (by omega)] at hlo
    exact ⟨o, (hH1 l o hlo).1, .inl rfl⟩
  · refine hblk b hb fun e1 => ?_
    subst e1
    rcases hkind with h | ⟨l0, o, h4, h5, h6⟩
    · omega
    · have h7 := hnone l0 h4
      rw [h5, hhp, if_neg (by have := lt0 h4; omega), hkilled l0 h6] at h7; simp at h7
  · rw [hhp] at hlo
    split at hlo
    · rename_i e1; subst e1; simp only [Option.some.injEq] at hlo; subst hlo
      refine ⟨g, vo ++ vn, rest, by rw [Lab.put2_blk, if_pos rfl], relL_append (relL_mono hext _ _ ho) (relL_mono hext _ _ hn), hg, by rw [Lab.put2_dead, if_pos rfl], fun lc sz' e2 => ?_⟩
      simp only [Option.some.injEq, Prod.mk.injEq] at e2; obtain ⟨rfl, rfl⟩ := e2
      exact ⟨cap, by rw [Lab.put2_blk, if_neg (by omega), if_pos rfl], hcap, hsz⟩
    · obtain ⟨h1, h2⟩ := hH1 l o hlo
      have hal := (hr.obj l o h1).alive
      obtain ⟨b, vs, rest', a1, a2, a3, _, a5⟩ := hr.obj l o h1
      have := lt0 a1
      refine ⟨b, vs, rest', hext _ _ a1, relL_mono hext _ _ a2, ?_, by rw [Lab.put2_dead, if_neg (by omega), if_neg (by omega), h2, hal]; rfl, a5.mono hext⟩
      rw [hblk b (hr.lt _ _ hal a1) (fun e1 => halive l hal h2 (e1 ▸ a1)), a3]
  · rw [Lab.put2_blk] at h1 h2
    rw [Lab.put2_dead] at d1 d2
    by_cases c1 : l = m
    · by_cases c2 : l' = m
      · omega
      · rw [if_neg c2] at d2 h2
        rw [if_pos c1] at h1; simp only [Option.some.injEq] at h1; subst h1
        split at d2
        · simp at d2
        · rename_i c3; rw [if_neg c3] at h2
          simp only [Bool.or_eq_false_iff] at d2
          exact absurd h2 (halive l' d2.2 d2.1)
    · rw [if_neg c1] at d1 h1
      split at d1
      · simp at d1
      · rename_i c3; rw [if_neg c3] at h1
        simp only [Bool.or_eq_false_iff] at d1
        by_cases c2 : l' = m
        · rw [if_pos c2] at h2; simp only [Option.some.injEq] at h2; subst h2
          exact absurd h1 (halive l d1.2 d1.1)
        · rw [if_neg c2] at d2 h2
          split at d2
          · simp at d2
          · rename_i c4; rw [if_neg c4] at h2
            simp only [Bool.or_eq_false_iff] at d2
            exact hr.inj l l' b d1.2 d2.2 h1 h2
  · rw [Lab.put2_blk] at h1
    rw [Lab.put2_dead] at d1
    by_cases c1 : l = m
    · rw [if_pos c1] at h1; simp only [Option.some.injEq] at h1; omega
    · rw [if_neg c1] at d1 h1
      split at d1
      · simp at d1
      · rename_i c3; rw [if_neg c3] at h1
        simp only [Bool.or_eq_false_iff] at d1
        exact Nat.lt_of_lt_of_le (hr.lt l b d1.2 h1) hsize
  · simp only [List.length_append, List.length_cons, List.length_nil, hlen1] at hl
    rw [Lab.put2_blk, if_neg (by omega), if_neg (by omega)]
    exact hfree l (by omega)
theorem appStep_sound {E : Env} (_hE : E.Ok) {ops : List Oper} {st : St} {o : Oper} {r : SV × SHeap} {β : Lab} {a : Act} {w : World} (h : Rel β st a w) (hr : appStep E ops st o = some r) {K : Act → World → Prop} {Q : Exit → Act → World → Prop}
    (hK : ∀ β' w' val, Ext β st.heap w β' r.2 w' → HR β' (hpOf r.2) w' → (∀ l, r.2.length ≤ l → β' l = none) → SV.rel β' r.1 val → K (a.put o.dst val) w') :
    if Region.wanted o (yielded ops.toArray a.tmps) then o.wp E.P a w K Q else K (a.put o.dst undef) w := by
  unfold appStep at hr
  split at hr <;> (try simp only [reduceCtorEq] at hr)
  rename_i args argTypes ho
  split at hr <;> (try simp only [reduceCtorEq] at hr)
  rename_i fs hg
  obtain ⟨hw, hfs⟩ := guardAs_sound h.fact hg
  rw [if_pos hw]
  split at hr <;> (try simp only [reduceCtorEq] at hr)
  rename_i s x t t' hlk hat
  split at hr <;> (try simp only [reduceCtorEq] at hr)
  rename_i htt
  have htt' : t = t' := by simpa using htt
  subst htt'
  have hvals := looks_rel (β := β) (ρ := a.eval) (fun x _ v hv => lookE_sound (known_true h) hfs (fun _ _ => trivial) hv) hlk
  rw [relL_cons] at hvals; obtain ⟨vs, l1, hs, hvals, e1⟩ := hvals
  rw [relL_cons] at hvals; obtain ⟨vx, l2, hx, hvals, e2⟩ := hvals
  rw [relL_nil] at hvals; subst hvals; subst e2
  have hargs : (args.map a.eval) = #[vs, vx] := by apply Array.ext'; simpa using e1
  have hats : argTypes = #[t, t] := by apply Array.ext'; simpa using hat
  subst hats
  -- it is enough that the builtin runs so
  suffices hrun : ∃ val w' β', (Builtin.append_ #[t, t] o.type #[vs, vx]).run E.P w = .ok val w' ∧ Ext β st.heap w β' r.2 w' ∧ HR β' (hpOf r.2) w' ∧ (∀ l, r.2.length ≤ l → β' l = none) ∧ SV.rel β' r.1 val by
    obtain ⟨val, w', β', h1, h2, h3, h4, h5⟩ := hrun
    have := hK β' w' val h2 h3 h4 h5
    unfold Oper.wp execOp
    simp [ho, resolve, invoke, builtin, hargs, h1]
    exact this
  unfold appVal at hr
  split at hr <;> (try simp only [reduceCtorEq] at hr)
  rename_i e sz bytes old l2' off2 m hel hold hsrc
  split at hr <;> (try simp only [reduceCtorEq] at hr)
  rename_i cs2 tg2 olds H1 n ho2 holds
  split at hr <;> (try simp only [reduceCtorEq] at hr)
  rename_i news htk
  split at hr <;> simp only [Option.some.injEq, reduceCtorEq] at hr
  rename_i hc
  subst hr
  simp only [Bool.and_eq_true, Nat.ble_eq] at hc
  obtain ⟨⟨⟨hscal, hb⟩, hnm⟩, hm1⟩ := hc
  -- the type
  unfold elemOk at hel
  split at hel <;> (try simp only [reduceCtorEq] at hel)
  rename_i e0 hu
  split at hel <;> (try simp only [reduceCtorEq] at hel)
  rename_i i hi
  split at hel <;> (try simp only [reduceCtorEq] at hel)
  rename_i z hz
  split at hel <;> simp only [Option.some.injEq, Prod.mk.injEq, reduceCtorEq] at hel
  rename_i hzz
  obtain ⟨rfl, rfl, rfl⟩ := hel
  simp only [Bool.and_eq_true, Nat.beq_eq, Nat.ble_eq] at hzz
  -- what is appended
  obtain ⟨b2, c2, hb2, hvx⟩ : ∃ b2 c2, β l2' = some b2 ∧ vx = .slice (some ⟨b2, off2, none⟩) m c2 := by
    unfold srcOf at hsrc
    split at hsrc <;> simp only [Option.some.injEq, Prod.mk.injEq, reduceCtorEq] at hsrc
    · obtain ⟨rfl, rfl, rfl⟩ := hsrc
      simp only [SV.rel] at hx; obtain ⟨b, h1, h2⟩ := hx; exact ⟨b, _, h1, h2⟩
    · obtain ⟨rfl, rfl, rfl⟩ := hsrc
      simp only [SV.rel] at hx; obtain ⟨b, c, h1, _, h2⟩ := hx; exact ⟨b, c, h1, h2⟩
  subst hvx
  obtain ⟨b2', vs2, rest2, hb2', hrel2, hw2, _, _⟩ := h.hr.obj _ _ ho2
  obtain rfl : b2 = b2' := by rw [hb2] at hb2'; simpa using hb2'
  obtain ⟨hn1, hn2⟩ := relL_takeN (relL_dropN off2 hrel2) htk
  have hn3 := relL_length hn1
  have hnl : ((vs2.drop off2).take (m * i.size)).length = m * i.size := by rw [hn3, hn2]
  have hnews : ∀ j u, ((vs2.drop off2).take (m * i.size))[j]? = some u → w.cell? ((⟨b2, off2, none⟩ : Addr).add j) = some u := fun j u hj => by
    rw [addr_add, cell_block w hw2]
    rw [List.getElem?_take] at hj
    split at hj
    · rw [List.getElem?_drop] at hj
      rw [List.getElem?_append_left (List.getElem?_eq_some_iff.1 hj).1]; exact hj
    · simp at hj
  have hone := relL_scal hn1 hscal
  obtain ⟨vn, hvn⟩ : ∃ vn, vn = (vs2.drop off2).take (m * i.size) := ⟨_, rfl⟩
  rw [← hvn] at hn1 hnl hnews hone
  have hml := maxLen_le
  cases old with
  | nil =>
    simp only [oldCells, Option.some.injEq, Prod.mk.injEq] at holds
    obtain ⟨rfl, rfl, rfl⟩ := holds
    have hvs : vs = .slice none 0 0 := by
      unfold oldOf at hold
      split at hold <;> simp only [Option.some.injEq, reduceCtorEq] at hold
      simp only [SV.rel] at hs; exact hs.1
    subst hvs
    simp only [Nat.zero_add] at hnm hb ⊢
    obtain ⟨v', w', h1, h2, h3⟩ := run_append_nil E.P w t o.type e0 i z hu hi hz hzz.1 hzz.2 ⟨b2, off2, none⟩ m c2 vn hnl hnews hone (by omega) hb hm1
    obtain ⟨_, ⟨_, h4⟩ | ⟨g, cap, cur, rfl, hg, hcur, hnc, hcm, hcs, hct⟩⟩ := h2
    · omega
    obtain ⟨k1, k2, k3⟩ := app_next (m := st.heap.length) (g := g) (cap := cap) (e := e0) (sz := i.size) (olds := []) (news := news) (vo := []) (vn := vn) (rest := cur.toList.drop (m * i.size)) (d := fun _ => false) h.hr h.free rfl rfl (fun l o ho => ⟨ho, rfl⟩) (relL_nil.2 rfl) hn1
      (by rw [hcur, List.nil_append, ← hct, List.take_append_drop]) hcm (by
        have e3 : m * i.size ≤ cap * i.size := Nat.mul_le_mul_right _ hnc
        have e4 : cur.toList.length = cap * i.size := by simpa using hcs
        simp only [List.nil_append, List.length_drop, e4, hnl]; omega) h3.size h3.os h3.tape h3.output (fun k hk _ => h3.block k hk (by simp)) (.inl hg)
    refine ⟨_, w', _, h1, k1, k2, k3, ?_⟩
    simp only [SV.rel]
    exact ⟨g, cap, by rw [Lab.put2_blk, if_pos rfl], by rw [Lab.put2_blk, if_neg (by omega), if_pos rfl], rfl⟩
  | own l lc n0 =>
    simp only [oldCells] at holds
    split at holds <;> (try simp only [reduceCtorEq] at holds)
    rename_i cs e' lc' sz' stp vrp hol
    split at holds <;> simp only [Option.some.injEq, Prod.mk.injEq, reduceCtorEq] at holds
    rename_i hc2
    simp only [Bool.and_eq_true, Nat.beq_eq] at hc2
    obtain ⟨⟨⟨rfl, rfl⟩, rfl⟩, hcl⟩ := hc2
    obtain ⟨rfl, rfl, rfl⟩ := holds
    have hs' : SV.rel β (.own l lc' n0) vs := by
      unfold oldOf at hold
      split at hold <;> simp only [Option.some.injEq, reduceCtorEq, Old.own.injEq] at hold
      obtain ⟨rfl, rfl, rfl⟩ := hold; exact hs
    simp only [SV.rel] at hs'
    obtain ⟨b, cap, hbl, hlc, rfl⟩ := hs'
    have hobj := h.hr.obj _ _ hol
    obtain ⟨b', vo, rest, hb', hrel, hwb, hal, htag⟩ := hobj
    obtain rfl : b = b' := by rw [hbl] at hb'; simpa using hb'
    obtain ⟨cap', hc1, hc3, hc4⟩ := htag _ _ rfl
    obtain rfl : cap = cap' := by rw [hlc] at hc1; simpa using hc1
    have hvl : vo.length = n0 * i.size := by rw [relL_length hrel]; exact hcl
    have hH1 : ∀ l' o', hpOf (upd st.heap l none) l' = some o' → hpOf st.heap l' = some o' ∧ (decide (l' = l)) = false := fun l' o' h1 => by
      simp only [hpOf, nth_upd] at h1
      split at h1
      · rename_i x hx
        split at hx
        · simp only [Option.some.injEq] at hx; subst hx; simp at h1
        · rename_i hne
          refine ⟨by simp only [hpOf, hx]; exact h1, ?_⟩
          have : l' ≠ l := fun e => hne ⟨e.symm, by
            rcases Nat.lt_or_ge l' st.heap.length with h | h
            · exact h
            · rw [nth_eq, List.getElem?_eq_none h] at hx; simp at hx⟩
          simpa using this
      · simp at h1
    by_cases hroom : n0 + m ≤ cap
    · have h1 := run_append_room E.P w t o.type e' i hu hi b n0 cap ⟨b2, off2, none⟩ m c2 vo vn rest hvl hnl hnews hone hroom hwb hc4
      have hle : vn.length ≤ rest.length := by
        have : (n0 + m) * i.size ≤ cap * i.size := Nat.mul_le_mul_right _ hroom
        rw [Nat.add_mul] at this; omega
      obtain ⟨k1, k2, k3⟩ := app_next (w' := w.setRow b (vo ++ vn ++ rest.drop vn.length).toArray) (m := st.heap.length) (g := b) (cap := cap) (e := e') (sz := i.size) (olds := cs) (news := news) (vo := vo) (vn := vn) (rest := rest.drop vn.length) (d := fun l' => decide (l' = l)) h.hr h.free rfl (upd_length _ _ _) hH1 hrel hn1
        (setRow_heap _ _ _ _ _ _ hwb) hc3 (by simp only [List.length_append, List.length_drop]; omega) (by rw [setRow_size]; exact Nat.le_refl _) rfl rfl rfl (fun k _ hk => setRow_other _ _ _ _ hk) (.inr ⟨l, _, hbl, hol, by simp⟩)
      refine ⟨_, _, _, h1, k1, k2, k3, ?_⟩
      simp only [SV.rel]
      exact ⟨b, cap, by rw [Lab.put2_blk, if_pos rfl], by rw [Lab.put2_blk, if_neg (by omega), if_pos rfl], rfl⟩
    · obtain ⟨v', w', h1, h2, h3⟩ := run_append_arg_grows (P := E.P) w t o.type e' i z i.size i.bytes hu hi hz rfl rfl hzz.1 hzz.2 ⟨b, 0, none⟩ n0 cap vo hvl (fun j u hj => by
        rw [addr_add, cell_block w hwb, Nat.zero_add, List.getElem?_append_left (List.getElem?_eq_some_iff.1 hj).1]; exact hj) ⟨b2, off2, none⟩ m c2 vn hnl hnews (by omega) (by omega) hb
      obtain ⟨h5, ⟨_, h4⟩ | ⟨g, cap2, cur, rfl, hg, hcur, hnc, hcm, hcs, hct⟩⟩ := h2
      · omega
      obtain ⟨k1, k2, k3⟩ := app_next (m := st.heap.length) (g := g) (cap := cap2) (e := e') (sz := i.size) (olds := cs) (news := news) (vo := vo) (vn := vn) (rest := cur.toList.drop ((n0 + m) * i.size)) (d := fun l' => decide (l' = l)) h.hr h.free rfl (upd_length _ _ _) hH1 hrel hn1
        (by rw [hcur, ← hct, List.take_append_drop]) hcm (by
          have e3 : (n0 + m) * i.size ≤ cap2 * i.size := Nat.mul_le_mul_right _ hnc
          have e4 : cur.toList.length = cap2 * i.size := by simpa using hcs
          rw [h5]
          simp only [List.length_drop, e4]; omega) h3.size h3.os h3.tape h3.output (fun k hk _ => h3.block k hk (by simp)) (.inl hg)
      refine ⟨_, w', _, h1, k1, k2, k3, ?_⟩
      simp only [SV.rel]
      exact ⟨g, cap2, by rw [Lab.put2_blk, if_pos rfl], by rw [Lab.put2_blk, if_neg (by omega), if_pos rfl], rfl⟩

theorem hsStep_sound {E : Env} (hE : E.Ok) {ops : List Oper} {st : St} {o : Oper} {r : SV} {β : Lab} {a : Act} {w : World} (h : Rel β st a w) (hr : hsStep E ops st o = some r) {K : Act → World → Prop} {Q : Exit → Act → World → Prop}
    (hK : ∀ β' w' val, Ext β st.heap w β' st.heap w' → HR β' (hpOf st.heap) w' → (∀ l, st.heap.length ≤ l → β' l = none) → SV.rel β' r val → K (a.put o.dst val) w') :
    if Region.wanted o (yielded ops.toArray a.tmps) then o.wp E.P a w K Q else K (a.put o.dst undef) w := by
  unfold hsStep at hr
  split at hr <;> (try simp only [reduceCtorEq] at hr)
  rename_i f args at' ho
  split at hr <;> (try simp only [reduceCtorEq] at hr)
  rename_i fs hg
  split at hr <;> (try simp only [reduceCtorEq] at hr)
  rename_i g vs hca
  split at hr <;> (try simp only [reduceCtorEq] at hr)
  rename_i hen
  split at hr <;> (try simp only [reduceCtorEq] at hr)
  rename_i hs hget
  obtain ⟨hw, hfs⟩ := guardAs_sound h.fact hg
  rw [if_pos hw]
  obtain ⟨first, cap, h1, h2⟩ := callArgs_sound (β := β) (ρ := a.eval) (fun x _ v hv => lookE_sound (known_true h) hfs (fun _ _ => trivial) hv) hca
  refine wp_call ho h1 (hE.enter hen) ?_
  have h3 := (hE.hsumms.get hget) vs st.heap r hr β w _ h2 h.hr h.free
  simp only [Array.toArray_toList] at h3
  refine h3.mono ?_
  rintro e' w' ⟨⟨v, rfl, hv⟩, hb⟩
  obtain ⟨k1, k2, k3⟩ := Stp.next h.hr h.free (fun _ _ h => h) (Stp.below (m := st.heap.length) h.hr hb)
  exact hK β w' v k2 k1 k3 (noLab_rel hv)
theorem symOper_sound {E : Env} (hE : E.Ok) {call : CallF} (hcall : CallOk E.P call) {ops : List Oper} {st : St} {o : Oper} {β : Lab} {a : Act} {w : World} (h : Rel β st a w) {K : Act → World → Prop} {Q : Exit → Act → World → Prop}
    (hK : (symOper E call ops st o).Holds fun st' => ∀ β' a' w', Ext β st.heap w β' st'.heap w' → Rel β' st' a' w' → K a' w') :
    if Region.wanted o (yielded ops.toArray a.tmps) then o.wp E.P a w K Q else K (a.put o.dst undef) w := by
  unfold symOper at hK
  split at hK
  · rename_i d hd
    split at hK
    · rename_i s hs
      refine softStep_sound hE (known_true h) (fun fs => h.hr.restrict _) (h.free _ (Nat.le_refl _)) (fun _ _ => trivial) (fun _ _ _ => trivial) hd fun w' β' val hv ⟨hp', hsub, _, hst⟩ => ?_
      obtain ⟨h1, h2, h3⟩ := Stp.next h.hr h.free hsub hst
      obtain ⟨h4, h5⟩ := putE_facts hst.ext h.size h.fact hv hs
      exact hK β' _ w' h2 ⟨h4, h5, h1, h3, by rw [put_defers]; exact h.defers⟩
    · exact hK.elim
  · split at hK
    · rename_i r hr
      split at hK
      · rename_i s hs
        refine appStep_sound hE h hr fun β' w' val he hhr hfree hv => ?_
        obtain ⟨h4, h5⟩ := putE_facts he.ext h.size h.fact (show DFact β' a val (.val r.1) from hv) hs
        exact hK β' _ w' he ⟨h4, h5, hhr, hfree, by rw [put_defers]; exact h.defers⟩
      · exact hK.elim
    split at hK
    · rename_i r hr
      split at hK
      · rename_i s hs
        refine hsStep_sound hE h hr fun β' w' val he hhr hfree hv => ?_
        obtain ⟨h4, h5⟩ := putE_facts he.ext h.size h.fact (show DFact β' a val (.val r) from hv) hs
        exact hK β' _ w' he ⟨h4, h5, hhr, hfree, by rw [put_defers]; exact h.defers⟩
      · exact hK.elim
    unfold inlStep at hK
    split at hK
    · rename_i f args at' ho
      split at hK
      · rename_i fs hg
        split at hK
        · rename_i g vs hca
          split at hK
          · rename_i hen
            obtain ⟨hw, hfs⟩ := guardAs_sound h.fact hg
            rw [if_pos hw]
            obtain ⟨first, cap, h1, h2⟩ := callArgs_sound (β := β) (ρ := a.eval) (fun x _ v hv => lookE_sound (known_true h) hfs (fun _ _ => trivial) hv) hca
            refine wp_call ho h1 (hE.enter hen) ?_
            have h3 := hcall g vs st.heap β w _ (fun | .returned v, w'' => K (a.put o.dst v) w'' | .panicked chain, w'' => Q (.panic chain) a w'' | .outgrown, _ => LetsOut Q) h2 h.hr h.free ?_
            · rw [Array.toArray_toList] at h3; exact h3
            · refine T.Holds.mono ?_ (T.Holds.bind hK)
              intro r hr β' w' val he hhr hfree hv
              dsimp only at hr ⊢
              split at hr
              · rename_i s hs
                obtain ⟨h4, h5⟩ := putE_facts he.ext h.size h.fact (show DFact β' a val (.val r.1) from hv) hs
                exact hr β' _ w' he ⟨h4, h5, hhr, hfree, by rw [put_defers]; exact h.defers⟩
              · exact hr.elim
          · exact hK.elim
        · exact hK.elim
      · exact hK.elim
    · exact hK.elim

theorem Rel.setB {β : Lab} {st : St} {a : Act} {w : World} (h : Rel β st a w) {t : Nat} {b : Bool} (ht : nth st.slots t = some (.val (.bool (.sym b)))) : Rel β (st.setB t b) a w := by
  refine ⟨by simp only [St.setB, upd_length]; exact h.size, fun x e he => ?_, h.hr, h.free, h.defers⟩
  simp only [St.setB, nth_upd] at he
  split at he
  · rename_i hx; obtain ⟨rfl, _⟩ := hx
    simp only [Option.some.injEq] at he; subst he
    obtain ⟨y, h1, h2⟩ := h.fact t _ ht
    exact ⟨y, h1, by simpa [SV.rel, SB.val] using h2⟩
  · exact h.fact x e he
theorem symOperS_sound {E : Env} (hE : E.Ok) {call : CallF} (hcall : CallOk E.P call) {ops : List Oper} {st : St} {o : Oper} {β : Lab} {a : Act} {w : World} (h : Rel β st a w) {K : Act → World → Prop} {Q : Exit → Act → World → Prop}
    (hK : (symOperS E call ops st o).Holds fun st' => ∀ β' a' w', Ext β st.heap w β' st'.heap w' → Rel β' st' a' w' → K a' w') :
    if Region.wanted o (yielded ops.toArray a.tmps) then o.wp E.P a w K Q else K (a.put o.dst undef) w := by
  unfold symOperS at hK
  split at hK
  · rename_i t b hg
    have ht : nth st.slots t = some (.val (.bool (.sym b))) := by
      unfold guardSplit at hg
      split at hg <;> (try simp only [reduceCtorEq] at hg)
      split at hg <;> (try simp only [reduceCtorEq] at hg)
      rename_i hh
      split at hg <;> simp only [Option.some.injEq, Prod.mk.injEq, reduceCtorEq] at hg
      obtain ⟨rfl, rfl⟩ := hg; exact hh
    cases b
    · exact symOper_sound hE hcall (h.setB ht) (hK.2 rfl)
    · exact symOper_sound hE hcall (h.setB ht) (hK.1 rfl)
  · exact symOper_sound hE hcall h hK
theorem symOps_sound {E : Env} (hE : E.Ok) {call : CallF} (hcall : CallOk E.P call) {ops : List Oper} {Q : Exit → Act → World → Prop} : ∀ (l : List Oper) {st : St} {β : Lab} {a : Act} {w : World}, Rel β st a w →
    ((symOps E call ops l st).Holds fun st' => ∀ β' a' w', Ext β st.heap w β' st'.heap w' → Rel β' st' a' w' → Q .normal a' w') → wpList E.P ops.toArray Q l a w
  | [], st, β, a, w, h, hK => hK β a w (Ext.refl _ _ _) h
  | o :: l, st, β, a, w, h, hK => by
    refine wpList_step fun K hKK => ?_
    refine symOperS_sound hE hcall h (T.Holds.mono ?_ (T.Holds.bind hK))
    intro st1 hst1 β1 a1 w1 he1 hr1
    refine hKK a1 w1 (symOps_sound hE hcall l hr1 (T.Holds.mono ?_ hst1))
    intro st2 hst2 β2 a2 w2 he2 hr2
    exact hst2 β2 a2 w2 (Ext.trans h.free hr1.free he1 he2) hr2

theorem Rel.settle {β : Lab} {st : St} {a : Act} {w : World} (h : Rel β st a w) : Rel β st.settle a w := by
  refine ⟨by simp [St.settle, h.size], fun x e he => ?_, h.hr, h.free, h.defers⟩
  simp only [St.settle, nth_eq, List.getElem?_map, Option.map_eq_some_iff] at he
  obtain ⟨e', he', rfl⟩ := he
  have := h.fact x e' (by rw [nth_eq]; exact he')
  cases e' <;> first | exact this | trivial
end Go.Sx

namespace Go.Sx
open Go.RowKit Go.Proofs

/-! # regions that draw their order -/
structure PI where
  idx : Nat
  dst : Option Nat
  looks : List Nat
  labs : List Nat
  up : Option Nat
  anc : Nat
  rd : Option (Nat × Nat × Nat)
  vo : Option (List Nat)
  vn : List Nat
def labsE : Ent → List Nat
  | .val v => labsV v
  | .gd _ _ v => labsV v
  | .none => []
def labsAll (s : List Ent) : List Operand → List Nat
  | [] => []
  | .tmp t :: xs => (match nth s t with | some e => labsE e | none => []) ++ labsAll s xs
  | _ :: xs => labsAll s xs
def tmpsOf : List Operand → List Nat
  | [] => []
  | .tmp t :: xs => t :: tmpsOf xs
  | _ :: xs => tmpsOf xs
def mem (x : Nat) (l : List Nat) : Bool := l.any (Nat.beq x)
def memO (x : Option Nat) (l : List Nat) : Bool := match x with | some d => mem d l | none => false
def sameO (x y : Option Nat) : Bool := match x, y with | some a, some b => Nat.beq a b | _, _ => false
def findPI : List PI → Nat → Nat
  | [], _ => 0
  | p :: l, i => if Nat.beq p.idx i then p.anc else findPI l i
def ancOf (prev : List PI) : List Edge → Nat
  | [] => 0
  | e :: es => if Region.binds .any e then (2 ^ e.on ||| findPI prev e.on) ||| ancOf prev es else ancOf prev es
/-- what a load reads: an object's label, the first cell, how many -/
def rdOf (E : Env) (ops : List Oper) (s : List Ent) (o : Oper) : Option (Nat × Nat × Nat) := match guardSlot ops o, o.op with
  | some none, .load t a => match lookE [] s a with
    | some (.ptr l off) => match isAggT E.P t with
      | some true => match sizeT E.P t with
        | some n => some (l, off, n)
        | none => none
      | some false => some (l, off, 1)
      | none => none
    | _ => none
  | _, _ => none
def voOf (H : SHeap) : Option (Nat × Obj') → Option (List Nat)
  | some (l, _) => match hpOf H l with
    | some o => some o.2.ver
    | none => none
  | none => none
def vnOf : Option (Nat × Obj') → List Nat
  | some (_, o) => o.2.ver
  | none => []
def rngSame (vo vn : List Nat) (off : Nat) : Nat → Bool
  | 0 => true
  | n + 1 => Nat.beq (verAt vo (off + n)) (verAt vn (off + n)) && rngSame vo vn off n
def mkPI (E : Env) (ops : List Oper) (prev : List PI) (j : Nat) (o : Oper) (st : St) (d : Delta) : PI :=
  ⟨j, o.dst, (match guardSlot ops o with | some (some (t, _)) => [t] | _ => []) ++ tmpsOf o.op.operands.toList, labsR (hpOf st.heap) o.op (labsAll st.slots (labOps o.op)), d.up.map (·.1), ancOf prev o.after.toList, rdOf E ops st.slots o, voOf st.heap d.up, vnOf d.up⟩
/-- does the first write nothing of what the second loads? -/
def PI.tol (p q : PI) : Bool := match p.up, q.rd, p.vo with
  | some l, some (l', off, n), some vo => Nat.beq l l' && rngSame vo p.vn off n
  | _, _, _ => false
def PI.clash (p q : PI) : Bool := memO p.up q.labs && !p.tol q
def PI.indep (p q : PI) : Bool := !memO p.dst q.looks && !memO q.dst p.looks && !p.clash q && !q.clash p && !sameO p.up q.up
def PI.pair (p q : PI) : Bool := !sameO p.dst q.dst && (q.anc.testBit p.idx || p.indep q)
def back (j : Nat) (o : Oper) (m : Nat) : Bool :=
  (o.after.toList.all fun e => !Region.binds .any e || Nat.blt e.on j) && (match o.guard with | some (g, _) => m.testBit g && Nat.blt g j | none => true)
def drawRun (E : Env) (ops : List Oper) : List Oper → Nat → List PI → St → Option St
  | [], _, _, st => some st
  | o :: l, j, prev, st => match softStep E ops st.slots (hpOf st.heap) st.heap.length o with
    | some d => match putE st.slots o.dst d.ent with
      | some s =>
        let q := mkPI E ops prev j o st d
        if back j o q.anc && prev.all (fun p => p.pair q) then drawRun E ops l (j + 1) (q :: prev) ⟨s, applyUp st.heap d.up⟩ else none
      | none => none
    | none => none

/-! ## an operation's value does not hang on the label that a new block would get -/
theorem symOp_m {P : Program} {look : Operand → Option SV} {hp : HP} {m : Nat} {o : Oper} {e : Eff} (h : symOp P look hp m o = some e) :
    (∃ ob, e.up = some (m, ob)) ∨ ((∀ l ob, e.up = some (l, ob) → ∃ o', hp l = some o' ∧ o'.2.stamp < ob.2.stamp) ∧ ∀ m', symOp P look hp m' o = some e) := by
  obtain ⟨dst, op, type, pos, after, guard⟩ := o
  have pure : ∀ {v : Option SV}, pureEff v = some e → ∀ l ob, e.up = some (l, ob) → ∃ o', hp l = some o' ∧ o'.2.stamp < ob.2.stamp := fun hv l ob hu => by
    obtain ⟨s, _, rfl⟩ := pureEff_some hv; cases hu
  cases op
  case alloc t =>
    left; simp only [symOp] at h
    split at h <;> (try simp only [reduceCtorEq] at h)
    split at h <;> simp only [Option.some.injEq, reduceCtorEq] at h
    subst h; exact ⟨_, rfl⟩
  case box t x =>
    left; simp only [symOp] at h
    split at h <;> simp only [Option.some.injEq, reduceCtorEq] at h
    subst h; exact ⟨_, rfl⟩
  case buildSlice t n ps =>
    left; simp only [symOp] at h
    split at h <;> (try simp only [reduceCtorEq] at h)
    split at h <;> (try simp only [reduceCtorEq] at h)
    split at h <;> (try simp only [reduceCtorEq] at h)
    split at h <;> simp only [Option.some.injEq, reduceCtorEq] at h
    subst h; exact ⟨_, rfl⟩
  case store t a x =>
    right
    refine ⟨fun l ob hu => ?_, fun m' => by rw [← h]; rfl⟩
    simp only [symOp] at h
    split at h <;> (try simp only [reduceCtorEq] at h)
    split at h <;> (try simp only [reduceCtorEq] at h)
    rename_i cs e' n ho hn
    split at h <;> (try simp only [reduceCtorEq] at h)
    split at h <;> simp only [Option.some.injEq, reduceCtorEq] at h
    subst h
    simp only [Option.some.injEq, Prod.mk.injEq] at hu
    obtain ⟨rfl, rfl⟩ := hu; exact ⟨_, ho, by simp [Tag.wr]⟩
  case makeFunc fn fi ca => cases fn <;> (right; refine ⟨?_, fun m' => by rw [← h]; rfl⟩) <;> simp only [symOp, reduceCtorEq] at h <;> (split at h <;> first | exact pure h | simp at h)
  case slice t x lo hi mx =>
    right; refine ⟨?_, fun m' => by rw [← h]; cases mx <;> rfl⟩
    cases mx <;> simp only [symOp, reduceCtorEq] at h
    repeat' (split at h)
    all_goals first | exact pure h | (simp at h; done)
  case call c =>
    obtain ⟨callee, args, at'⟩ := c
    right; refine ⟨?_, fun m' => by rw [← h]; cases callee <;> rfl⟩
    cases callee <;> simp only [symOp, reduceCtorEq] at h
    repeat' (split at h)
    all_goals first | exact pure h | (simp at h; done)
  all_goals
    right; refine ⟨?_, fun m' => by rw [← h]; rfl⟩
    simp only [symOp, reduceCtorEq] at h
    try (repeat' (split at h))
    all_goals first | exact pure h | (simp at h; done)
theorem softVal0_m {E : Env} {fs : List (Nat × Bool)} {s : List Ent} {hp : HP} {m : Nat} {o : Oper} {e : Eff} (h : softVal0 E fs s hp m o = some e) :
    (∃ ob, e.up = some (m, ob)) ∨ ((∀ l ob, e.up = some (l, ob) → ∃ o', hp l = some o' ∧ o'.2.stamp < ob.2.stamp) ∧ ∀ m', softVal0 E fs s hp m' o = some e) := by
  have pure : ∀ {v : Option SV}, pureEff v = some e → ∀ l ob, e.up = some (l, ob) → ∃ o', hp l = some o' ∧ o'.2.stamp < ob.2.stamp := fun hv l ob hu => by
    obtain ⟨s, _, rfl⟩ := pureEff_some hv; cases hu
  unfold softVal0 at h ⊢
  split at h
  · exact .inr ⟨pure h, fun _ => h⟩
  · refine .inr ⟨?_, fun _ => h⟩
    repeat' (split at h)
    all_goals first | exact pure h | (simp at h; done) | skip
    rename_i o' ho' hst
    simp only [Option.some.injEq] at h; subst h
    intro l ob hu
    simp only [Option.some.injEq, Prod.mk.injEq] at hu; obtain ⟨rfl, rfl⟩ := hu
    exact ⟨o', ho', by simpa [Nat.blt_eq] using hst⟩
  · exact symOp_m h
theorem softVal_m {E : Env} {fs : List (Nat × Bool)} {s : List Ent} {hp : HP} {m : Nat} {o : Oper} {e : Eff} (h : softVal E fs s hp m o = some e) :
    (∃ ob, e.up = some (m, ob)) ∨ ((∀ l ob, e.up = some (l, ob) → ∃ o', hp l = some o' ∧ o'.2.stamp < ob.2.stamp) ∧ ∀ m', softVal E fs s hp m' o = some e) := by
  unfold softVal at h
  split at h
  · rename_i e' he
    simp only [Option.some.injEq] at h; subst h
    rcases softVal0_m he with h1 | ⟨h1, h2⟩
    · exact .inl h1
    · exact .inr ⟨h1, fun m' => by unfold softVal; rw [h2 m']⟩
  · left
    unfold nVal at h
    repeat' (split at h)
    all_goals first | (simp at h; done) | (simp only [Option.some.injEq] at h; subst h; exact ⟨_, rfl⟩)
theorem softStep_m {E : Env} {ops : List Oper} {s : List Ent} {hp : HP} {m : Nat} {o : Oper} {d : Delta} (h : softStep E ops s hp m o = some d) :
    (∃ ob, d.up = some (m, ob)) ∨ ((∀ l ob, d.up = some (l, ob) → ∃ o', hp l = some o' ∧ o'.2.stamp < ob.2.stamp) ∧ ∀ m', softStep E ops s hp m' o = some d) := by
  have hsub : ∀ L l o, restrict L hp l = some o → hp l = some o := fun L l o h => by unfold restrict at h; split at h <;> simp_all
  have eff : ∀ fs L, effVal (softVal E fs s (restrict L hp) m o) = some d → (∃ ob, d.up = some (m, ob)) ∨ ((∀ l ob, d.up = some (l, ob) → ∃ o', hp l = some o' ∧ o'.2.stamp < ob.2.stamp) ∧ ∀ m', effVal (softVal E fs s (restrict L hp) m' o) = some d) := fun fs L h => by
    unfold effVal at h
    split at h <;> simp only [Option.some.injEq, reduceCtorEq] at h
    rename_i e he; subst h
    rcases softVal_m he with h1 | ⟨h1, h2⟩
    · exact .inl h1
    · exact .inr ⟨fun l ob hu => let ⟨o', ho', hst⟩ := h1 l ob hu; ⟨o', hsub _ _ _ ho', hst⟩, fun m' => by simp [effVal, h2 m']⟩
  have sft : ∀ fs L t v, (match softVal E fs s (restrict L hp) m o with | some ⟨x, none⟩ => some ⟨.gd t v x, none⟩ | _ => none : Option Delta) = some d →
      (∃ ob, d.up = some (m, ob)) ∨ ((∀ l ob, d.up = some (l, ob) → ∃ o', hp l = some o' ∧ o'.2.stamp < ob.2.stamp) ∧ ∀ m', (match softVal E fs s (restrict L hp) m' o with | some ⟨x, none⟩ => some ⟨.gd t v x, none⟩ | _ => none : Option Delta) = some d) := fun fs L t v h => by
    split at h <;> simp only [Option.some.injEq, reduceCtorEq] at h
    rename_i x hx; subst h
    rcases softVal_m hx with ⟨ob, h1⟩ | ⟨_, h2⟩
    · simp at h1
    · exact .inr ⟨fun l ob hu => by simp at hu, fun m' => by rw [h2 m']⟩
  unfold softStep at h
  split at h
  · simp at h
  · rename_i hg
    rcases eff _ _ h with h1 | ⟨h1, h2⟩
    · exact .inl h1
    · exact .inr ⟨h1, fun m' => by unfold softStep; rw [hg]; exact h2 m'⟩
  · rename_i t v hg
    split at h
    · rename_i b hb
      split at h
      · rename_i hbv
        rcases eff _ _ h with h1 | ⟨h1, h2⟩
        · exact .inl h1
        · exact .inr ⟨h1, fun m' => by unfold softStep; rw [hg]; simp only [hb, hbv, if_true]; exact h2 m'⟩
      · rename_i hbv
        simp only [Option.some.injEq] at h; subst h
        exact .inr ⟨fun l ob hu => by simp at hu, fun m' => by unfold softStep; rw [hg]; simp only [hb, hbv]; rfl⟩
    · rename_i b hb
      rcases sft _ _ _ _ h with h1 | ⟨h1, h2⟩
      · exact .inl h1
      · exact .inr ⟨h1, fun m' => by unfold softStep; rw [hg]; simp only [hb]; exact h2 m'⟩
    · rename_i b hb
      rcases sft _ _ _ _ h with h1 | ⟨h1, h2⟩
      · exact .inl h1
      · exact .inr ⟨h1, fun m' => by unfold softStep; rw [hg]; simp only [hb]; exact h2 m'⟩
    · simp at h
theorem splice_nth : ∀ {old : List SV} {n : Nat} {new out : List SV}, splice old n new = some out → ∀ i, ¬ (n ≤ i ∧ i < n + new.length) → nth out i = nth old i
  | [], 0, [], out, h, i, _ => by simp only [splice, Option.some.injEq] at h; subst h; rfl
  | o :: old, 0, [], out, h, i, _ => by simp only [splice, Option.some.injEq] at h; subst h; rfl
  | [], 0, _ :: _, out, h, _, _ => by simp [splice] at h
  | [], n + 1, _, out, h, _, _ => by simp [splice] at h
  | o :: old, 0, v :: new, out, h, i, hi => by
    simp only [splice, Option.map_eq_some_iff] at h; obtain ⟨r, hr, rfl⟩ := h
    cases i with
    | zero => exact absurd ⟨Nat.le_refl _, by simp⟩ hi
    | succ i => simp only [nth]; exact splice_nth hr i (fun hh => hi ⟨by omega, by simp at hh ⊢; omega⟩)
  | o :: old, n + 1, new, out, h, i, hi => by
    simp only [splice, Option.map_eq_some_iff] at h; obtain ⟨r, hr, rfl⟩ := h
    cases i with
    | zero => rfl
    | succ i => simp only [nth]; exact splice_nth hr i (fun hh => hi ⟨by omega, by omega⟩)
theorem Keeps.of_splice {cs cs' new : List SV} {t : Tag} {off : Nat} (h : splice cs off new = some cs') : Keeps (cs, t) (cs', t.wr off new.length) := by
  refine ⟨fun i => ?_, fun i e => ?_⟩
  · simp only [Tag.wr, verAt_bump]; omega
  · simp only [Tag.wr, verAt_bump] at e
    exact splice_nth h i fun hh => by rw [if_pos hh] at e; omega
/-- what is written keeps what it does not write -/
def UpKeeps (hp : HP) (m : Nat) (up : Option (Nat × Obj')) : Prop := ∀ l ob, up = some (l, ob) → l = m ∨ ∃ o', hp l = some o' ∧ Keeps o' ob
theorem symOp_keeps {P : Program} {look : Operand → Option SV} {hp : HP} {m : Nat} {o : Oper} {e : Eff} (h : symOp P look hp m o = some e) : UpKeeps hp m e.up := by
  obtain ⟨dst, op, type, pos, after, guard⟩ := o
  have pure : ∀ {v : Option SV}, pureEff v = some e → UpKeeps hp m e.up := fun hv l ob hu => by
    obtain ⟨s, _, rfl⟩ := pureEff_some hv; cases hu
  cases op
  case alloc t =>
    simp only [symOp] at h
    split at h <;> (try simp only [reduceCtorEq] at h)
    split at h <;> simp only [Option.some.injEq, reduceCtorEq] at h
    subst h; intro l ob hu; simp only [Option.some.injEq, Prod.mk.injEq] at hu; exact .inl hu.1.symm
  case box t x =>
    simp only [symOp] at h
    split at h <;> simp only [Option.some.injEq, reduceCtorEq] at h
    subst h; intro l ob hu; simp only [Option.some.injEq, Prod.mk.injEq] at hu; exact .inl hu.1.symm
  case buildSlice t n ps =>
    simp only [symOp] at h
    split at h <;> (try simp only [reduceCtorEq] at h)
    split at h <;> (try simp only [reduceCtorEq] at h)
    split at h <;> (try simp only [reduceCtorEq] at h)
    split at h <;> simp only [Option.some.injEq, reduceCtorEq] at h
    subst h; intro l ob hu; simp only [Option.some.injEq, Prod.mk.injEq] at hu; exact .inl hu.1.symm
  case store t a x =>
    simp only [symOp] at h
    split at h <;> (try simp only [reduceCtorEq] at h)
    split at h <;> (try simp only [reduceCtorEq] at h)
    rename_i cs e' n ho hn
    split at h <;> (try simp only [reduceCtorEq] at h)
    rename_i hc
    split at h <;> simp only [Option.some.injEq, reduceCtorEq] at h
    rename_i cs' hsp
    subst h
    intro l ob hu
    simp only [Option.some.injEq, Prod.mk.injEq] at hu
    obtain ⟨rfl, rfl⟩ := hu
    simp only [Bool.and_eq_true, beq_iff_eq] at hc
    refine .inr ⟨_, ho, ?_⟩
    have := Keeps.of_splice (t := e') hsp
    rw [hc.1] at this; exact this
  case makeFunc fn fi ca => cases fn <;> simp only [symOp, reduceCtorEq] at h <;> (split at h <;> first | exact pure h | simp at h)
  case slice t x lo hi mx =>
    cases mx <;> simp only [symOp, reduceCtorEq] at h
    repeat' (split at h)
    all_goals first | exact pure h | (simp at h; done)
  case call c =>
    obtain ⟨callee, args, at'⟩ := c
    cases callee <;> simp only [symOp, reduceCtorEq] at h
    repeat' (split at h)
    all_goals first | exact pure h | (simp at h; done)
  all_goals
    simp only [symOp, reduceCtorEq] at h
    try (repeat' (split at h))
    all_goals first | exact pure h | (simp at h; done)
theorem softVal0_keeps {E : Env} (hE : E.Ok) {fs : List (Nat × Bool)} {s : List Ent} {hp : HP} {m : Nat} {o : Oper} {e : Eff} (h : softVal0 E fs s hp m o = some e) : UpKeeps hp m e.up := by
  have pure : ∀ {v : Option SV}, pureEff v = some e → UpKeeps hp m e.up := fun hv l ob hu => by
    obtain ⟨s, _, rfl⟩ := pureEff_some hv; cases hu
  unfold softVal0 at h
  split at h
  · exact pure h
  · repeat' (split at h)
    all_goals first | exact pure h | (simp at h; done) | skip
    rename_i hget _ v l ob hr' _ o' ho' hst
    simp only [Option.some.injEq] at h; subst h
    intro l2 ob2 hu
    simp only [Option.some.injEq, Prod.mk.injEq] at hu; obtain ⟨rfl, rfl⟩ := hu
    obtain ⟨o2, h2, hk⟩ := (hE.usumms.get hget).1 _ _ _ _ _ hr'
    refine .inr ?_
    obtain ⟨-, h3⟩ := mkH_at _ _ _ h2
    unfold flatHP at h3
    split at h3 <;> (try simp only [reduceCtorEq] at h3)
    rename_i o3 h4
    split at h3 <;> simp only [Option.some.injEq, reduceCtorEq] at h3
    subst h3
    exact ⟨o3, h4, ⟨hk.le, hk.same⟩⟩
  · exact symOp_keeps h
theorem softVal_keeps {E : Env} (hE : E.Ok) {fs : List (Nat × Bool)} {s : List Ent} {hp : HP} {m : Nat} {o : Oper} {e : Eff} (h : softVal E fs s hp m o = some e) : UpKeeps hp m e.up := by
  unfold softVal at h
  split at h
  · rename_i e' he
    simp only [Option.some.injEq] at h; subst h
    exact softVal0_keeps hE he
  · unfold nVal at h
    repeat' (split at h)
    all_goals first | (simp at h; done) | (simp only [Option.some.injEq] at h; subst h; intro l ob hu; simp only [Option.some.injEq, Prod.mk.injEq] at hu; exact .inl hu.1.symm)
theorem softStep_keeps {E : Env} (hE : E.Ok) {ops : List Oper} {s : List Ent} {hp : HP} {m : Nat} {o : Oper} {d : Delta} (h : softStep E ops s hp m o = some d) : UpKeeps hp m d.up := by
  have hsub : ∀ L l o, restrict L hp l = some o → hp l = some o := fun L l o h => by unfold restrict at h; split at h <;> simp_all
  have eff : ∀ fs L, effVal (softVal E fs s (restrict L hp) m o) = some d → UpKeeps hp m d.up := fun fs L h => by
    unfold effVal at h
    split at h <;> simp only [Option.some.injEq, reduceCtorEq] at h
    rename_i e he; subst h
    intro l ob hu
    rcases softVal_keeps hE he l ob hu with h1 | ⟨o', h1, h2⟩
    · exact .inl h1
    · exact .inr ⟨o', hsub _ _ _ h1, h2⟩
  have sft : ∀ fs L t v, (match softVal E fs s (restrict L hp) m o with | some ⟨x, none⟩ => some ⟨.gd t v x, none⟩ | _ => none : Option Delta) = some d → UpKeeps hp m d.up := fun fs L t v h => by
    split at h <;> simp only [Option.some.injEq, reduceCtorEq] at h
    subst h; intro l ob hu; simp at hu
  unfold softStep at h
  split at h
  · simp at h
  · exact eff _ _ h
  · split at h
    · split at h
      · exact eff _ _ h
      · simp only [Option.some.injEq] at h; subst h; intro l ob hu; simp at hu
    · exact sft _ _ _ _ h
    · exact sft _ _ _ _ h
    · simp at h
/-- an entry under a guard bears the guard's slot -/
theorem softStep_gd {E : Env} {ops : List Oper} {s : List Ent} {hp : HP} {m : Nat} {o : Oper} {d : Delta} (h : softStep E ops s hp m o = some d) {t : Nat} {v : Bool} {x : SV} (hd : d.ent = .gd t v x) : guardSlot ops o = some (some (t, v)) := by
  have eff : ∀ e, effVal e = some d → False := fun e he => by
    unfold effVal at he; split at he <;> simp only [Option.some.injEq, reduceCtorEq] at he
    subst he; simp at hd
  unfold softStep at h
  split at h
  · simp at h
  · exact (eff _ h).elim
  · rename_i t' v' hg
    rw [hg]
    split at h
    · split at h
      · exact (eff _ h).elim
      · simp only [Option.some.injEq] at h; subst h; simp at hd
    · split at h <;> simp only [Option.some.injEq, reduceCtorEq] at h
      subst h; simp only [Ent.gd.injEq] at hd; simp [hd.1, hd.2.1]
    · split at h <;> simp only [Option.some.injEq, reduceCtorEq] at h
      subst h; simp only [Ent.gd.injEq] at hd; simp [hd.1, hd.2.1]
    · simp at h

/-! ## what a run in the order of the text lays down -/
def Closed (ops : List Oper) (S : Nat → Prop) : Prop := ∀ j o, nth ops j = some o → S j → ∀ e ∈ o.after.toList, Region.binds .any e = true → S e.on
def AncOk (ops : List Oper) (j m : Nat) : Prop := ∀ S : Nat → Prop, Closed ops S → S j → ∀ i, m.testBit i = true → S i
structure TextRun (E : Env) (ops : List Oper) (st0 : St) (sts : Nat → St) (ds : Nat → Delta) (ps : Nat → PI) : Prop where
  zero : sts 0 = st0
  soft : ∀ j o, nth ops j = some o → softStep E ops (sts j).slots (hpOf (sts j).heap) (sts j).heap.length o = some (ds j)
  put : ∀ j o, nth ops j = some o → putE (sts j).slots o.dst (ds j).ent = some (sts (j + 1)).slots
  heap : ∀ j o, nth ops j = some o → (sts (j + 1)).heap = applyUp (sts j).heap (ds j).up
  back : ∀ j o, nth ops j = some o → back j o (ps j).anc = true
  anc : ∀ j o, nth ops j = some o → AncOk ops j (ps j).anc
  pi : ∀ j o, nth ops j = some o → (ps j).idx = j ∧ (ps j).dst = o.dst ∧ (ps j).labs = labsR (hpOf (sts j).heap) o.op (labsAll (sts j).slots (labOps o.op)) ∧ (ps j).up = (ds j).up.map (·.1) ∧
    (∀ t, .tmp t ∈ o.op.operands → t ∈ (ps j).looks) ∧ (∀ t v, guardSlot ops o = some (some (t, v)) → t ∈ (ps j).looks) ∧
    (ps j).rd = rdOf E ops (sts j).slots o ∧ (ps j).vo = voOf (sts j).heap (ds j).up ∧ (ps j).vn = vnOf (ds j).up
  pair : ∀ i j oi oj, i < j → nth ops i = some oi → nth ops j = some oj → (ps i).pair (ps j) = true
theorem tmpsOf_mem {t : Nat} : ∀ {l : List Operand}, .tmp t ∈ l → t ∈ tmpsOf l
  | [], h => by simp at h
  | x :: l, h => by
    rcases List.mem_cons.1 h with rfl | h
    · simp [tmpsOf]
    · have := tmpsOf_mem h; cases x <;> simp [tmpsOf, this]
theorem ancOf_ok {ops : List Oper} {prev : List PI} (hp : ∀ p ∈ prev, AncOk ops p.idx p.anc) {j : Nat} {o : Oper} (ho : nth ops j = some o) : AncOk ops j (ancOf prev o.after.toList) := by
  intro S hS hj i hi
  have hfind : ∀ k, S k → (findPI prev k).testBit i = true → S i := fun k hk hb => by
    have : ∀ l : List PI, (∀ p ∈ l, p ∈ prev) → (findPI l k).testBit i = true → S i := fun l => by
      induction l with
      | nil => intro _ h; simp [findPI] at h
      | cons p l ih =>
        intro hl h
        simp only [findPI] at h
        split at h
        · rename_i e
          have e' : p.idx = k := by simpa using e
          exact hp p (hl p (by simp)) S hS (by rw [e']; exact hk) i h
        · exact ih (fun q hq => hl q (by simp [hq])) h
    exact this prev (fun _ h => h) hb
  have hedge := hS j o ho hj
  clear ho
  revert hi hedge
  generalize o.after.toList = es
  intro hi hedge
  induction es with
  | nil => simp [ancOf] at hi
  | cons e es ih =>
    simp only [ancOf] at hi
    split at hi
    · rename_i hb
      have he := hedge e (by simp) hb
      simp only [Nat.testBit_or, Bool.or_eq_true] at hi
      rcases hi with (hi | hi) | hi
      · have : e.on = i := by simpa [Nat.testBit_two_pow] using hi
        exact this ▸ he
      · exact hfind _ he hi
      · exact ih hi (fun e' he' => hedge e' (by simp [he']))
    · exact ih hi (fun e' he' => hedge e' (by simp [he']))
theorem drawRun_text {E : Env} {ops : List Oper} : ∀ (l : List Oper) (j : Nat) (prev : List PI) (st stm : St), (∀ k, nth l k = nth ops (j + k)) → (∀ p ∈ prev, AncOk ops p.idx p.anc) → drawRun E ops l j prev st = some stm →
    ∃ (sts : Nat → St) (ds : Nat → Delta) (ps : Nat → PI), sts j = st ∧ sts (j + l.length) = stm ∧ ∀ k o, nth l k = some o →
      softStep E ops (sts (j + k)).slots (hpOf (sts (j + k)).heap) (sts (j + k)).heap.length o = some (ds (j + k)) ∧ putE (sts (j + k)).slots o.dst (ds (j + k)).ent = some (sts (j + k + 1)).slots ∧
      (sts (j + k + 1)).heap = applyUp (sts (j + k)).heap (ds (j + k)).up ∧ back (j + k) o (ps (j + k)).anc = true ∧ AncOk ops (j + k) (ps (j + k)).anc ∧
      (∃ pv, ps (j + k) = mkPI E ops pv (j + k) o (sts (j + k)) (ds (j + k))) ∧ (∀ p ∈ prev, p.pair (ps (j + k)) = true) ∧ ∀ k', k' < k → (ps (j + k')).pair (ps (j + k)) = true
  | [], j, prev, st, stm, _, _, h => by
    simp only [drawRun, Option.some.injEq] at h; subst h
    exact ⟨fun _ => st, fun _ => ⟨.none, none⟩, fun _ => ⟨0, none, [], [], none, 0, none, none, []⟩, rfl, rfl, fun k o hk => by simp [nth] at hk⟩
  | o :: l, j, prev, st, stm, hl, hp, h => by
    simp only [drawRun] at h
    split at h <;> (try simp only [reduceCtorEq] at h)
    rename_i d hd
    split at h <;> (try simp only [reduceCtorEq] at h)
    rename_i s hs
    split at h <;> (try simp only [reduceCtorEq] at h)
    rename_i hc
    simp only [Bool.and_eq_true, List.all_eq_true] at hc
    have ho : nth ops j = some o := by have := hl 0; simpa [nth] using this.symm
    obtain ⟨q, hq⟩ : ∃ q, q = mkPI E ops prev j o st d := ⟨_, rfl⟩
    rw [← hq] at h hc
    have hqa : AncOk ops j q.anc := by rw [hq]; exact ancOf_ok hp ho
    have hqi : q.idx = j := by rw [hq]; rfl
    obtain ⟨sts, ds, ps, h1, h2, h3⟩ := drawRun_text l (j + 1) (q :: prev) _ stm (fun k => by have := hl (k + 1); simp only [nth] at this; rw [this]; congr 1; omega)
      (fun p hp' => by rcases List.mem_cons.1 hp' with rfl | hp'
                       · rw [hqi]; exact hqa
                       · exact hp p hp') h
    refine ⟨fun i => if i = j then st else sts i, fun i => if i = j then d else ds i, fun i => if i = j then q else ps i, by simp, ?_, fun k o' hk => ?_⟩
    · show (if j + (o :: l).length = j then st else sts (j + (o :: l).length)) = stm
      rw [if_neg (by simp), ← h2]; congr 1; simp; omega
    · cases k with
      | zero =>
        simp only [nth, Option.some.injEq] at hk; subst hk
        simp only [Nat.add_zero, if_true, show ¬ (j + 1 = j) by omega, if_false, h1]
        refine ⟨hd, hs, ?_, hc.1, hqa, ⟨prev, hq⟩, fun p hp' => hc.2 p hp', fun k' hk' => by omega⟩
        first | trivial | rfl
      | succ k =>
        simp only [nth] at hk
        have := h3 k o' hk
        have e1 : j + (k + 1) = j + 1 + k := by omega
        rw [e1]
        simp only [show ¬ (j + 1 + k = j) by omega, if_false, show ¬ (j + 1 + k + 1 = j) by omega]
        obtain ⟨a1, a2, a3, a4, a5, a6, a7, a8⟩ := this
        refine ⟨a1, a2, a3, a4, a5, a6, fun p hp' => a7 p (by simp [hp']), fun k' hk' => ?_⟩
        cases k' with
        | zero => simp only [Nat.add_zero, if_true]; exact a7 q (by simp)
        | succ k' =>
          rw [show j + (k' + 1) = j + 1 + k' by omega, if_neg (by omega)]
          exact a8 k' (by omega)
theorem textRun_of {E : Env} {ops : List Oper} {st stm : St} (h : drawRun E ops ops 0 [] st = some stm) : ∃ sts ds ps, TextRun E ops st sts ds ps ∧ sts ops.length = stm := by
  obtain ⟨sts, ds, ps, h1, h2, h3⟩ := drawRun_text ops 0 [] st stm (fun k => by simp) (fun p hp => by simp at hp) h
  simp only [Nat.zero_add] at h2 h3
  refine ⟨sts, ds, ps, ⟨h1, fun j o hj => (h3 j o hj).1, fun j o hj => (h3 j o hj).2.1, fun j o hj => (h3 j o hj).2.2.1, fun j o hj => (h3 j o hj).2.2.2.1, fun j o hj => (h3 j o hj).2.2.2.2.1, fun j o hj => ?_, fun i j oi oj hij hi hj => (h3 j oj hj).2.2.2.2.2.2.2 i hij⟩, h2⟩
  obtain ⟨pv, hp⟩ := (h3 j o hj).2.2.2.2.2.1
  rw [hp]
  refine ⟨rfl, rfl, rfl, rfl, fun t ht => ?_, fun t v hg => ?_, rfl, rfl, rfl⟩
  · simp only [mkPI, List.mem_append]; exact .inr (tmpsOf_mem (by simpa using ht))
  · simp [mkPI, hg]
end Go.Sx

namespace Go.Sx
open Go.RowKit Go.Proofs
section
variable {E : Env} {ops : List Oper} {st0 : St} {sts : Nat → St} {ds : Nat → Delta} {ps : Nat → PI}
theorem TextRun.dsts (T : TextRun E ops st0 sts ds ps) {i j : Nat} {oi oj : Oper} (hij : i < j) (hi : nth ops i = some oi) (hj : nth ops j = some oj) {x : Nat} (h1 : oi.dst = some x) (h2 : oj.dst = some x) : False := by
  have hp := T.pair i j oi oj hij hi hj
  have h3 := (T.pi i oi hi).2.1; have h4 := (T.pi j oj hj).2.1
  simp [PI.pair, h3, h4, h1, h2, sameO] at hp
theorem TextRun.dst_inj (T : TextRun E ops st0 sts ds ps) {i j : Nat} {oi oj : Oper} (hi : nth ops i = some oi) (hj : nth ops j = some oj) {x : Nat} (h1 : oi.dst = some x) (h2 : oj.dst = some x) : i = j := by
  rcases Nat.lt_trichotomy i j with h | h | h
  · exact (T.dsts h hi hj h1 h2).elim
  · exact h
  · exact (T.dsts h hj hi h2 h1).elim
theorem nth_some {α : Type} {l : List α} {i : Nat} (h : i < l.length) : ∃ x, nth l i = some x := ⟨l[i], by rw [nth_eq]; simp [h]⟩
theorem nth_lt {α : Type} {l : List α} {i : Nat} {x : α} (h : nth l i = some x) : i < l.length := by
  rw [nth_eq] at h; exact (List.getElem?_eq_some_iff.1 h).1
theorem TextRun.slots (T : TextRun E ops st0 sts ds ps) : ∀ i, i ≤ ops.length → (sts i).slots.length = st0.slots.length ∧ ∀ x e, nth (sts i).slots x = some e →
    (∃ j o, j < i ∧ nth ops j = some o ∧ o.dst = some x ∧ e = (ds j).ent) ∨ ((∀ j o, j < i → nth ops j = some o → o.dst ≠ some x) ∧ nth st0.slots x = some e)
  | 0, _ => by rw [T.zero]; exact ⟨rfl, fun x e h => .inr ⟨fun j o hj => by omega, h⟩⟩
  | i + 1, hi => by
    obtain ⟨ih1, ih2⟩ := TextRun.slots T i (by omega)
    obtain ⟨o, ho⟩ := nth_some (l := ops) (i := i) (by omega)
    have hp := T.put i o ho
    cases hd : o.dst with
    | none =>
      rw [hd] at hp
      cases he : (ds i).ent <;> rw [he] at hp <;> simp only [putE, Option.some.injEq, reduceCtorEq] at hp
      rw [← hp]
      refine ⟨ih1, fun x e h => ?_⟩
      rcases ih2 x e h with ⟨j, oj, h1, h2⟩ | ⟨h1, h2⟩
      · exact .inl ⟨j, oj, by omega, h2⟩
      · refine .inr ⟨fun j oj hj hoj => ?_, h2⟩
        rcases Nat.lt_or_ge j i with h | h
        · exact h1 j oj h hoj
        · have : j = i := by omega
          subst this; rw [ho] at hoj; simp only [Option.some.injEq] at hoj; subst hoj; rw [hd]; simp
    | some d =>
      rw [hd] at hp
      simp only [putE] at hp
      split at hp <;> simp only [Option.some.injEq, reduceCtorEq] at hp
      rw [← hp]
      refine ⟨by rw [upd_length]; exact ih1, fun x e h => ?_⟩
      rw [nth_upd] at h
      split at h
      · rename_i hh; simp only [Option.some.injEq] at h; exact .inl ⟨i, o, by omega, ho, by rw [hd, hh.1], h.symm⟩
      · rename_i hh
        have hlt := nth_lt h
        have hne : d ≠ x := fun e => hh ⟨e, hlt⟩
        rcases ih2 x e h with ⟨j, oj, h1, h2⟩ | ⟨h1, h2⟩
        · exact .inl ⟨j, oj, by omega, h2⟩
        · refine .inr ⟨fun j oj hj hoj => ?_, h2⟩
          rcases Nat.lt_or_ge j i with h | h
          · exact h1 j oj h hoj
          · have : j = i := by omega
            subst this; rw [ho] at hoj; simp only [Option.some.injEq] at hoj; subst hoj; rw [hd]; simpa using hne
theorem TextRun.upok (T : TextRun E ops st0 sts ds ps) {i : Nat} {o : Oper} (ho : nth ops i = some o) : ∀ l ob, (ds i).up = some (l, ob) → l = (sts i).heap.length ∨ ∃ o', hpOf (sts i).heap l = some o' ∧ o'.2.stamp < ob.2.stamp := by
  intro l ob hu
  rcases softStep_m (T.soft i o ho) with ⟨ob', h⟩ | ⟨h, _⟩
  · rw [hu] at h; simp only [Option.some.injEq, Prod.mk.injEq] at h; exact .inl h.1
  · exact .inr (h l ob hu)
theorem TextRun.heaps (T : TextRun E ops st0 sts ds ps) : ∀ i, i ≤ ops.length → st0.heap.length ≤ (sts i).heap.length ∧ (∀ j l ob, j < i → (ds j).up = some (l, ob) → l < (sts i).heap.length) ∧ ∀ l o, hpOf (sts i).heap l = some o →
    (l < st0.heap.length → ∃ o', hpOf st0.heap l = some o' ∧ (o' = o ∨ o'.2.stamp < o.2.stamp)) ∧
    ((∃ j, j < i ∧ (ds j).up = some (l, o) ∧ (∀ j' ob, j < j' → j' < i → (ds j').up ≠ some (l, ob)) ∧ (l < st0.heap.length → ∃ o', hpOf st0.heap l = some o' ∧ o'.2.stamp < o.2.stamp)) ∨ ((∀ j ob, j < i → (ds j).up ≠ some (l, ob)) ∧ hpOf st0.heap l = some o))
  | 0, _ => by rw [T.zero]; exact ⟨Nat.le_refl _, fun j l ob hj => by omega, fun l o h => ⟨fun _ => ⟨o, h, .inl rfl⟩, .inr ⟨fun j ob hj => by omega, h⟩⟩⟩
  | i + 1, hi => by
    obtain ⟨ih1, ih2, ih3⟩ := TextRun.heaps T i (by omega)
    obtain ⟨o, ho⟩ := nth_some (l := ops) (i := i) (by omega)
    have hh := T.heap i o ho
    have hup := hpOf_applyUp (fun l ob hu => (T.upok ho l ob hu).imp id fun ⟨o', h, _⟩ => ⟨o', h⟩)
    have hlen : (sts i).heap.length ≤ (sts (i + 1)).heap.length := by rw [hh]; exact applyUp_length
    refine ⟨Nat.le_trans ih1 hlen, fun j l ob hj hu => ?_, fun l ob hl => ?_⟩
    · rcases Nat.lt_or_ge j i with h | h
      · exact Nat.lt_of_lt_of_le (ih2 j l ob h hu) hlen
      · have : j = i := by omega
        subst this
        have : hpOf (sts (j + 1)).heap l = some ob := by rw [hh, hup, hu]; simp [upAt]
        exact hpOf_lt this
    · rw [hh, hup] at hl
      cases hu : (ds i).up with
      | none =>
        rw [hu] at hl
        simp only [upAt] at hl
        obtain ⟨h1, h2⟩ := ih3 l ob hl
        refine ⟨h1, ?_⟩
        rcases h2 with ⟨j, a1, a2, a3, a4⟩ | ⟨a1, a2⟩
        · refine .inl ⟨j, by omega, a2, fun j' ob' h3 h4 => ?_, a4⟩
          rcases Nat.lt_or_ge j' i with h | h
          · exact a3 j' ob' h3 h
          · have : j' = i := by omega
            subst this; rw [hu]; simp
        · refine .inr ⟨fun j ob' hj => ?_, a2⟩
          rcases Nat.lt_or_ge j i with h | h
          · exact a1 j ob' h
          · have : j = i := by omega
            subst this; rw [hu]; simp
      | some p =>
        obtain ⟨l', o'⟩ := p
        rw [hu] at hl
        simp only [upAt] at hl
        split at hl
        · rename_i e; subst e; simp only [Option.some.injEq] at hl; subst hl
          have hstr : l' < st0.heap.length → ∃ o3, hpOf st0.heap l' = some o3 ∧ o3.2.stamp < o'.2.stamp := fun hlt => by
            rcases T.upok ho _ _ hu with h | ⟨o2, h, hst⟩
            · omega
            · obtain ⟨o3, h3, h4⟩ := (ih3 _ _ h).1 hlt
              refine ⟨o3, h3, ?_⟩
              rcases h4 with rfl | h4
              · exact hst
              · exact Nat.lt_trans h4 hst
          exact ⟨fun hlt => (let ⟨o3, h3, h4⟩ := hstr hlt; ⟨o3, h3, .inr h4⟩), .inl ⟨i, by omega, hu, (fun j' ob' h3 h4 => by omega), hstr⟩⟩
        · rename_i e
          obtain ⟨h1, h2⟩ := ih3 l ob hl
          refine ⟨h1, ?_⟩
          have hne : ∀ ob', (ds i).up ≠ some (l, ob') := fun ob' h => by rw [hu] at h; simp only [Option.some.injEq, Prod.mk.injEq] at h; exact e h.1
          rcases h2 with ⟨j, a1, a2, a3, a4⟩ | ⟨a1, a2⟩
          · refine .inl ⟨j, by omega, a2, fun j' ob' h3 h4 => ?_, a4⟩
            rcases Nat.lt_or_ge j' i with h | h
            · exact a3 j' ob' h3 h
            · have : j' = i := by omega
              subst this; exact hne ob'
          · refine .inr ⟨fun j ob' hj => ?_, a2⟩
            rcases Nat.lt_or_ge j i with h | h
            · exact a1 j ob' h
            · have : j = i := by omega
              subst this; exact hne ob'

/-- what an operation has laid stays laid to the end -/
theorem TextRun.kept (T : TextRun E ops st0 sts ds ps) (j : Nat) (o : Oper) (ho : nth ops j = some o) (l : Nat) (ob : Obj') (hu : (ds j).up = some (l, ob)) : ∀ n, j < n → n ≤ ops.length → ∃ o', hpOf (sts n).heap l = some o'
  | 0, h, _ => by omega
  | n + 1, h, hn => by
    obtain ⟨on, hon⟩ := nth_some (l := ops) (i := n) (by omega)
    have hh := T.heap n on hon
    have hup := hpOf_applyUp (fun l ob hu => (T.upok hon l ob hu).imp id fun ⟨o', h, _⟩ => ⟨o', h⟩) l
    rw [hh, hup]
    rcases Nat.lt_or_ge j n with h1 | h1
    · obtain ⟨o', ho'⟩ := TextRun.kept T j o ho l ob hu n h1 (by omega)
      cases hun : (ds n).up with
      | none => exact ⟨o', ho'⟩
      | some p =>
        obtain ⟨l', o2⟩ := p
        simp only [upAt]; split
        · exact ⟨o2, rfl⟩
        · exact ⟨o', ho'⟩
    · have : j = n := by omega
      subst this
      rw [hu]; exact ⟨ob, by simp [upAt]⟩
/-- what stands when a set S of the operations has been carried out, in whatever order -/
structure DI (ops : List Oper) (st0 : St) (ds : Nat → Delta) (β0 : Lab) (w0 : World) (S : Nat → Prop) (β : Lab) (a : Act) (w : World) : Prop where
  size : a.tmps.size = st0.slots.length
  defers : a.defers = []
  v1 : ∀ x e, nth st0.slots x = some e → (∀ j o, S j → nth ops j = some o → o.dst ≠ some x) → EntFact β a x e
  v2 : ∀ j o x, S j → nth ops j = some o → o.dst = some x → x < a.tmps.size → EntFact β a x (ds j).ent
  h1 : ∀ l o, hpOf st0.heap l = some o → (∀ j ob, S j → (ds j).up ≠ some (l, ob)) → objAt β w l o
  h2 : ∀ j l o, S j → (ds j).up = some (l, o) → (∀ j' ob, S j' → j < j' → (ds j').up ≠ some (l, ob)) → objAt β w l o
  inj : ∀ l l' b, β.dead l = false → β.dead l' = false → β l = some b → β l' = some b → l = l'
  lt : ∀ l b, β.dead l = false → β l = some b → b < w.heap.size
  h4 : ∀ l b, β l = some b → st0.heap.length ≤ l → ∃ j ob, S j ∧ (ds j).up = some (l, ob)
  ext : ∀ l b, β0 l = some b → β l = some b
  new : ∀ l b, β l = some b → β0 l = some b ∨ (st0.heap.length ≤ l ∧ w0.heap.size ≤ b)
  frame : ∀ b, b < w0.heap.size → (∀ l, β0 l = some b → ∀ j ob, S j → (ds j).up ≠ some (l, ob)) → w.heap[b]? = w0.heap[b]?
  wsize : w0.heap.size ≤ w.heap.size
  os : w.os = w0.os
  tape : w.tape = w0.tape
  output : w.output = w0.output
  sub : ∀ j, S j → j < ops.length
theorem mem_iff {x : Nat} {l : List Nat} : mem x l = true ↔ x ∈ l := by
  unfold mem; rw [List.any_eq_true]; constructor
  · rintro ⟨y, h1, h2⟩; have : x = y := by simpa using h2
    exact this ▸ h1
  · exact fun h => ⟨x, h, by simp⟩
/-- the order of two operations that touch one slot -/
theorem TextRun.ord (T : TextRun E ops st0 sts ds ps) {S : Nat → Prop} (hS : Closed ops S) {i : Nat} (hi : ¬ S i) {oi : Oper} (hoi : nth ops i = some oi) (hS' : Closed ops (fun j => S j ∨ j = i)) {j : Nat} {oj : Oper} (hoj : nth ops j = some oj)
    (hne : i < j → (ps i).indep (ps j) = false) (hne' : j < i → (ps j).indep (ps i) = false) : S j → j < i := by
  intro hj
  rcases Nat.lt_trichotomy j i with h | h | h
  · exact h
  · subst h; exact absurd hj hi
  · have hp := T.pair i j oi oj h hoi hoj
    simp only [PI.pair, hne h, Bool.or_false, Bool.and_eq_true] at hp
    rw [(T.pi i oi hoi).1] at hp
    exact absurd (T.anc j oj hoj S hS hj i hp.2) hi
theorem TextRun.ord' (T : TextRun E ops st0 sts ds ps) {S : Nat → Prop} {i : Nat} {oi : Oper} (hoi : nth ops i = some oi) (hS' : Closed ops (fun j => S j ∨ j = i)) {j : Nat} {oj : Oper} (hoj : nth ops j = some oj)
    (hne' : j < i → (ps j).indep (ps i) = false) : j < i → S j := by
  intro h
  have hp := T.pair j i oj oi h hoj hoi
  simp only [PI.pair, hne' h, Bool.or_false, Bool.and_eq_true] at hp
  rw [(T.pi j oj hoj).1] at hp
  rcases T.anc i oi hoi _ hS' (.inr rfl) j hp.2 with h1 | h1
  · exact h1
  · omega
theorem indep_look {p q : PI} {x : Nat} (h1 : p.dst = some x) (h2 : x ∈ q.looks) : p.indep q = false := by
  have := mem_iff.2 h2; simp [PI.indep, h1, memO, this]
theorem indep_look' {p q : PI} {x : Nat} (h1 : q.dst = some x) (h2 : x ∈ p.looks) : p.indep q = false := by
  have := mem_iff.2 h2; simp [PI.indep, h1, memO, this]
theorem indep_lab {p q : PI} {x : Nat} (h1 : p.up = some x) (h2 : x ∈ q.labs) (h3 : p.tol q = false) : p.indep q = false := by
  have := mem_iff.2 h2; simp [PI.indep, PI.clash, h1, memO, this, h3]
theorem indep_lab' {p q : PI} {x : Nat} (h1 : q.up = some x) (h2 : x ∈ p.labs) (h3 : q.tol p = false) : p.indep q = false := by
  have := mem_iff.2 h2; simp [PI.indep, PI.clash, h1, memO, this, h3]
theorem indep_up {p q : PI} {x : Nat} (h1 : p.up = some x) (h2 : q.up = some x) : p.indep q = false := by
  simp [PI.indep, h1, h2, sameO]
theorem labsL_sub {fs : List (Nat × Bool)} {s : List Ent} : ∀ {xs : List Operand} {l : Nat}, l ∈ labsL (lookE fs s) xs → l ∈ labsAll s xs ∨ ∃ v sv, ofVal v = some sv ∧ l ∈ labsV sv
  | [], _, h => by simp [labsL] at h
  | x :: xs, l, h => by
    simp only [labsL] at h
    split at h
    · rename_i v hv
      rcases List.mem_append.1 h with h | h
      · cases x <;> simp only [lookE, reduceCtorEq] at hv
        case tmp t =>
          left
          simp only [labsAll, List.mem_append]
          left
          split at hv <;> (try simp only [reduceCtorEq] at hv)
          · rename_i he; simp only [Option.some.injEq] at hv; subst hv; simp only [he]; exact h
          · rename_i g w' v' he
            split at hv <;> simp only [Option.some.injEq, reduceCtorEq] at hv
            subst hv; simp only [he]; exact h
        case const c => exact .inr ⟨c, v, hv, h⟩
        case func f => simp only [Option.some.injEq] at hv; subst hv; simp [labsV] at h
      · rcases labsL_sub h with h | h
        · left; cases x <;> simp only [labsAll] <;> first | exact h | exact List.mem_append_right _ h
        · exact .inr h
    · rcases labsL_sub h with h | h
      · left; cases x <;> simp only [labsAll] <;> first | exact h | exact List.mem_append_right _ h
      · exact .inr h
theorem stepLabs_mem {hp : HP} : ∀ {L : List Nat} {x : Nat}, x ∈ stepLabs hp L ↔ ∃ l ∈ L, x ∈ (match hp l with | some o => deepL o.1 | none => [] : List Nat)
  | [], x => by simp [stepLabs]
  | l :: L, x => by simp only [stepLabs, List.mem_append, stepLabs_mem (L := L), List.mem_cons, exists_eq_or_imp]; exact Iff.rfl
theorem reach_mono {hp : HP} : ∀ (n : Nat) {L L' : List Nat}, (∀ l ∈ L, l ∈ L') → ∀ x ∈ reach hp n L, x ∈ reach hp n L'
  | 0, _, _, h, x, hx => h x hx
  | n + 1, L, L', h, x, hx => by
    simp only [reach, List.mem_append] at hx ⊢
    rcases hx with hx | hx
    · exact .inl (h x hx)
    · refine .inr (reach_mono n (fun y hy => ?_) x hx)
      rw [stepLabs_mem] at hy ⊢
      obtain ⟨l, h1, h2⟩ := hy; exact ⟨l, h l h1, h2⟩
theorem labsR_mono {hp : HP} {op : Op} {L L' : List Nat} (h : ∀ l ∈ L, l ∈ L') : ∀ x ∈ labsR hp op L, x ∈ labsR hp op L' := by
  unfold labsR; split
  · exact reach_mono 2 h
  · exact h
theorem ofVal_nolab {v : Value} {s : SV} (h : ofVal v = some s) : labsV s = [] := by
  unfold ofVal at h
  split at h
  · simp only [Option.map_eq_some_iff] at h; obtain ⟨_, _, rfl⟩ := h; rfl
  · simp only [Option.map_eq_some_iff] at h; obtain ⟨_, _, rfl⟩ := h; rfl
  · unfold ofVal0 at h
    split at h
    · split at h <;> simp only [Option.some.injEq, reduceCtorEq] at h
      subst h; rfl
    all_goals simp only [Option.some.injEq, reduceCtorEq] at h
    all_goals subst h; rfl

theorem tol_rd {p q : PI} (h : q.rd = none) : p.tol q = false := by
  unfold PI.tol; rw [h]; cases p.up <;> cases p.vo <;> rfl
theorem rngSame_at {vo vn : List Nat} {off : Nat} : ∀ {n : Nat}, rngSame vo vn off n = true → ∀ r, off ≤ r → r < off + n → verAt vo r = verAt vn r
  | 0, _, r, h1, h2 => by omega
  | n + 1, h, r, h1, h2 => by
    simp only [rngSame, Bool.and_eq_true, Nat.beq_eq] at h
    by_cases e : r = off + n
    · subst e; exact h.1
    · exact rngSame_at h.2 r h1 (by omega)
theorem takeN_congr {α : Type} : ∀ (n : Nat) (l l' : List α), (∀ j, j < n → nth l j = nth l' j) → takeN n l = takeN n l'
  | 0, _, _, _ => rfl
  | n + 1, l, l', h => by
    have h0 := h 0 (by omega)
    cases l with
    | nil =>
      cases l' with
      | nil => rfl
      | cons b l' => simp [nth] at h0
    | cons a l =>
      cases l' with
      | nil => simp [nth] at h0
      | cons b l' =>
        simp only [nth, Option.some.injEq] at h0; subst h0
        simp only [takeN]
        rw [takeN_congr n l l' fun j hj => by have := h (j + 1) (by omega); simpa [nth] using this]
theorem nth_dropN {α : Type} : ∀ (n : Nat) (l : List α) (j : Nat), nth (dropN n l) j = nth l (n + j)
  | 0, l, j => by simp [dropN]
  | n + 1, [], j => by simp [dropN, nth]
  | n + 1, a :: l, j => by
    rw [show n + 1 + j = (n + j) + 1 by omega]
    simp only [dropN, nth]; exact nth_dropN n l j
/-- a load's result, from the object alone -/
def loadD (P : Program) (t : TypeId) (off : Nat) (ob : Obj') : Option Delta := (partS P t ob.1 off).map fun v => ⟨.val v, none⟩
theorem rdOf_some {E : Env} {ops : List Oper} {s : List Ent} {o : Oper} {k off n : Nat} (h : rdOf E ops s o = some (k, off, n)) :
    ∃ t a, guardSlot ops o = some none ∧ o.op = .load t a ∧ lookE [] s a = some (.ptr k off) ∧ ∀ ob ob' : Obj', (∀ r, off ≤ r → r < off + n → nth ob.1 r = nth ob'.1 r) → loadD E.P t off ob = loadD E.P t off ob' := by
  unfold rdOf at h
  split at h <;> (try simp only [reduceCtorEq] at h)
  rename_i t a hg ho
  split at h <;> (try simp only [reduceCtorEq] at h)
  rename_i l off' ha
  split at h <;> (try simp only [reduceCtorEq] at h)
  · rename_i hag
    split at h <;> simp only [Option.some.injEq, Prod.mk.injEq, reduceCtorEq] at h
    rename_i n' hn
    obtain ⟨rfl, rfl, rfl⟩ := h
    refine ⟨t, a, hg, ho, ha, fun ob ob' hh => ?_⟩
    unfold loadD partS
    rw [hag]
    simp only [hn, Option.bind_some]
    rw [takeN_congr n' (dropN off' ob.1) (dropN off' ob'.1) fun j hj => by rw [nth_dropN, nth_dropN]; exact hh _ (by omega) (by omega)]
  · rename_i hag
    simp only [Option.some.injEq, Prod.mk.injEq] at h
    obtain ⟨rfl, rfl, rfl⟩ := h
    refine ⟨t, a, hg, ho, ha, fun ob ob' hh => ?_⟩
    unfold loadD partS
    rw [hag]
    simp only
    rw [hh off' (by omega) (by omega)]
theorem load_step {E : Env} {ops : List Oper} {s : List Ent} {o : Oper} {t : TypeId} {a : Operand} {k off : Nat} (hg : guardSlot ops o = some none) (ho : o.op = .load t a) (ha : lookE [] s a = some (.ptr k off)) (hp : HP) (m : Nat) :
    softStep E ops s hp m o = (match hp k with | some ob => loadD E.P t off ob | none => none) := by
  unfold softStep
  rw [hg]
  have hL : labsR hp o.op (labsL (lookE [] s) (labOps o.op)) = [k] := by
    rw [ho]
    simp only [labsR, labOps, Op.operands, labsL, ha, labsV]; rfl
  simp only [hL]
  have hr : restrict [k] hp k = hp k := by simp [restrict]
  unfold softVal softVal0 nVal
  simp only [ho, symOp, ha, hr]
  cases hp k with
  | none => rfl
  | some ob =>
    simp only [loadD, pureEff]
    cases partS E.P t ob.1 off <;> rfl
theorem exists_last (P : Nat → Prop) : ∀ N : Nat, (∀ j, j < N → ¬ P j) ∨ ∃ j, j < N ∧ P j ∧ ∀ j', j < j' → j' < N → ¬ P j'
  | 0 => .inl fun j hj => by omega
  | N + 1 => by
    rcases Classical.em (P N) with h | h
    · exact .inr ⟨N, by omega, h, fun j' h1 h2 => by omega⟩
    · rcases exists_last P N with h1 | ⟨j, h1, h2, h3⟩
      · refine .inl fun j hj => ?_
        by_cases e : j = N
        · subst e; exact h
        · exact h1 j (by omega)
      · refine .inr ⟨j, by omega, h2, fun j' h4 h5 => ?_⟩
        by_cases e : j' = N
        · subst e; exact h
        · exact h3 j' h4 (by omega)
theorem TextRun.up_at (T : TextRun E ops st0 sts ds ps) {j : Nat} {o : Oper} (ho : nth ops j = some o) (k : Nat) : hpOf (sts (j + 1)).heap k = upAt (ds j).up k (hpOf (sts j).heap k) := by
  rw [T.heap j o ho]
  exact hpOf_applyUp (fun l ob hu => (T.upok ho l ob hu).imp id fun ⟨o', h, _⟩ => ⟨o', h⟩) k
/-- cells that are not written between two times are what they were -/
theorem TextRun.range (hE : E.Ok) (T : TextRun E ops st0 sts ds ps) {k off n a : Nat} {oa : Obj'} (ha : hpOf (sts a).heap k = some oa) : ∀ b, a ≤ b → b ≤ ops.length →
    (∀ j, a ≤ j → j < b → ∀ ob o', (ds j).up = some (k, ob) → hpOf (sts j).heap k = some o' → ∀ r, off ≤ r → r < off + n → verAt o'.2.ver r = verAt ob.2.ver r) →
    ∃ ob, hpOf (sts b).heap k = some ob ∧ ∀ r, off ≤ r → r < off + n → nth ob.1 r = nth oa.1 r
  | 0, hab, _, _ => by
    have : a = 0 := by omega
    subst this; exact ⟨oa, ha, fun _ _ _ => rfl⟩
  | b + 1, hab, hb, hw => by
    by_cases e : a = b + 1
    · subst e; exact ⟨oa, ha, fun _ _ _ => rfl⟩
    · obtain ⟨o', ho', h1⟩ := TextRun.range hE T ha b (by omega) (by omega) fun j h1 h2 => hw j h1 (by omega)
      obtain ⟨o, ho⟩ := nth_some (l := ops) (i := b) (by omega)
      rw [T.up_at ho k]
      cases hu : (ds b).up with
      | none => exact ⟨o', ho', h1⟩
      | some p =>
        obtain ⟨l, ob⟩ := p
        simp only [upAt]
        split
        · rename_i hl; subst hl
          refine ⟨ob, rfl, fun r h2 h3 => ?_⟩
          rcases softStep_keeps hE (T.soft b o ho) l ob hu with h4 | ⟨o2, h4, h5⟩
          · have := hpOf_lt ho'; omega
          · rw [ho'] at h4; simp only [Option.some.injEq] at h4; subst h4
            rw [h5.same r (hw b (by omega) (by omega) ob o' hu ho' r h2 h3)]; exact h1 r h2 h3
        · exact ⟨o', ho', h1⟩
/-- what stands at some time, where all that wrote it had found it, stood at first -/
theorem TextRun.stood (T : TextRun E ops st0 sts ds ps) {k : Nat} : ∀ b, b ≤ ops.length → (∀ j, j < b → ∀ ob, (ds j).up = some (k, ob) → ∃ o', hpOf (sts j).heap k = some o') → ∀ o, hpOf (sts b).heap k = some o → ∃ o0, hpOf st0.heap k = some o0
  | 0, _, _, o, h => by rw [T.zero] at h; exact ⟨o, h⟩
  | b + 1, hb, hw, o, h => by
    obtain ⟨op, hop⟩ := nth_some (l := ops) (i := b) (by omega)
    rw [T.up_at hop k] at h
    have ih := TextRun.stood T (k := k) b (by omega) fun j h1 => hw j (by omega)
    cases hu : (ds b).up with
    | none => rw [hu] at h; exact ih o h
    | some p =>
      obtain ⟨l, ob⟩ := p
      rw [hu] at h
      simp only [upAt] at h
      split at h
      · rename_i hl; subst hl
        obtain ⟨o', ho'⟩ := hw b (by omega) ob hu
        exact ih o' ho'
      · exact ih o h
theorem draw_step (hE : E.Ok) (T : TextRun E ops st0 sts ds ps) (hset : ∀ x t v s, nth st0.slots x ≠ some (.gd t v s)) {β0 : Lab} {w0 : World} (_hfree : ∀ l, st0.heap.length ≤ l → β0 l = none) {S : Nat → Prop} {β : Lab} {a : Act} {w : World} (D : DI ops st0 ds β0 w0 S β a w)
    (hS : Closed ops S) {i : Nat} (hi : ¬ S i) {o : Oper} (ho : nth ops i = some o) (hS' : Closed ops (fun j => S j ∨ j = i)) {K : Act → World → Prop} {Q : Exit → Act → World → Prop}
    (hK : ∀ β' a' w', DI ops st0 ds β0 w0 (fun j => S j ∨ j = i) β' a' w' → K a' w') :
    if Region.wanted o (yielded ops.toArray a.tmps) then o.wp E.P a w K Q else K (a.put o.dst undef) w := by
  have hin : i < ops.length := nth_lt ho
  obtain ⟨hslen, hsv⟩ := T.slots i (by omega)
  obtain ⟨hhlen, hhlab, hhv⟩ := T.heaps i (by omega)
  obtain ⟨hp1, hp2, hp3, hp4, hp5, hp6, hp7, -, -⟩ := T.pi i o ho
  -- a guard's slot is the slot of an operation that is over ahead
  have hguard : ∀ j oj t v, nth ops j = some oj → guardSlot ops oj = some (some (t, v)) → ∃ g og, nth ops g = some og ∧ og.dst = some t ∧ g < j ∧ (ps j).anc.testBit g = true := by
    intro j oj t v hoj hg
    have hb := T.back j oj hoj
    unfold guardSlot at hg
    split at hg
    · simp at hg
    · rename_i g v' hgg
      split at hg <;> simp only [Option.some.injEq, Prod.mk.injEq, reduceCtorEq] at hg
      rename_i t' ht'
      simp only [Option.bind_eq_some_iff] at ht'
      obtain ⟨og, hog, hdst⟩ := ht'
      simp only [back, hgg, Bool.and_eq_true, Nat.blt_eq] at hb
      exact ⟨g, og, hog, by rw [hdst, hg.1], hb.2.2, hb.2.1⟩
  have hgd : ∀ j oj t v s, nth ops j = some oj → (ds j).ent = .gd t v s → ∃ g og, nth ops g = some og ∧ og.dst = some t ∧ g < j ∧ (ps j).anc.testBit g = true := fun j oj t v s hoj hd =>
    hguard j oj t v hoj (softStep_gd (T.soft j oj hoj) hd)
  -- the class of slots that stand as they stood in the order of the text
  let C : Nat → Prop := fun x => ∀ j oj, nth ops j = some oj → oj.dst = some x → (S j ↔ j < i)
  have hCof : ∀ x, x ∈ (ps i).looks → C x := fun x hx j oj hoj hd => by
    have hpj := (T.pi j oj hoj).2.1
    constructor
    · exact T.ord hS hi ho hS' hoj (fun _ => indep_look' (by rw [hpj, hd]) hx) (fun _ => indep_look (by rw [hpj, hd]) hx)
    · exact T.ord' ho hS' hoj (fun _ => indep_look (by rw [hpj, hd]) hx)
  have hk : Known β a (sts i).slots C := by
    refine ⟨fun x hx e he => ?_, fun x t v s hx he => ?_⟩
    · have hxs : x < a.tmps.size := by rw [D.size, ← hslen]; exact nth_lt he
      rcases hsv x e he with ⟨j, oj, h1, h2, h3, rfl⟩ | ⟨h1, h2⟩
      · exact D.v2 j oj x ((hx j oj h2 h3).2 h1) h2 h3 hxs
      · exact D.v1 x e h2 fun j oj hj hoj hd => h1 j oj ((hx j oj hoj hd).1 hj) hoj hd
    · rcases hsv x _ he with ⟨j, oj, h1, h2, h3, h4⟩ | ⟨_, h2⟩
      · have hj : S j := (hx j oj h2 h3).2 h1
        obtain ⟨g, og, hog, hdst, hgj, hbit⟩ := hgd j oj t v s h2 h4.symm
        have hg : S g := T.anc j oj h2 S hS hj g hbit
        intro j' oj' hoj' hd'
        have : j' = g := T.dst_inj hoj' hog hd' hdst
        subst this
        exact ⟨fun _ => by omega, fun _ => hg⟩
      · exact absurd h2 (hset x t v s)
  have hHR0 : (ps i).rd = none → ∀ fs, HR β (restrict (labsR (hpOf (sts i).heap) o.op (labsL (lookE fs (sts i).slots) (labOps o.op))) (hpOf (sts i).heap)) w := by
    intro hrd fs
    have ntol : ∀ j, (ps j).tol (ps i) = false := fun j => tol_rd hrd
    refine ⟨fun l ob hl => ?_, D.inj, D.lt⟩
    unfold restrict at hl
    split at hl
    · rename_i hm
      have hm' : l ∈ labsR (hpOf (sts i).heap) o.op (labsL (lookE fs (sts i).slots) (labOps o.op)) := mem_iff.1 hm
      have hlab : l ∈ (ps i).labs := by
        rw [hp3]
        refine labsR_mono (fun x hx => ?_) l hm'
        rcases labsL_sub hx with h | ⟨v, sv, h1, h2⟩
        · exact h
        · rw [ofVal_nolab h1] at h2; simp at h2
      have hord : ∀ j oj ob', nth ops j = some oj → (ds j).up = some (l, ob') → (S j ↔ j < i) := fun j oj ob' hoj hu => by
        have hpj : (ps j).up = some l := by rw [(T.pi j oj hoj).2.2.2.1, hu]; rfl
        constructor
        · exact T.ord hS hi ho hS' hoj (fun _ => indep_lab' hpj hlab (ntol j)) (fun _ => indep_lab hpj hlab (ntol j))
        · exact T.ord' ho hS' hoj (fun _ => indep_lab hpj hlab (ntol j))
      rcases (hhv l ob hl).2 with ⟨j, a1, a2, a3, _⟩ | ⟨a1, a2⟩
      · obtain ⟨oj, hoj⟩ := nth_some (l := ops) (i := j) (by omega)
        refine D.h2 j l ob ((hord j oj ob hoj a2).2 a1) a2 fun j' ob' hj' hlt hu => ?_
        obtain ⟨oj', hoj'⟩ := nth_some (l := ops) (i := j') (D.sub j' hj')
        exact a3 j' ob' hlt ((hord j' oj' ob' hoj' hu).1 hj') hu
      · refine D.h1 l ob a2 fun j ob' hj hu => ?_
        obtain ⟨oj, hoj⟩ := nth_some (l := ops) (i := j) (D.sub j hj)
        exact a1 j ob' ((hord j oj ob' hoj hu).1 hj) hu
    · simp at hl
  -- the memory that is looked at: where a load may stand ahead of writes of other cells, the object as it is
  obtain ⟨hpX, hHR, hXeq⟩ : ∃ hpX : HP, (∀ fs, HR β (restrict (labsR hpX o.op (labsL (lookE fs (sts i).slots) (labOps o.op))) hpX) w) ∧ ∀ m, softStep E ops (sts i).slots hpX m o = softStep E ops (sts i).slots (hpOf (sts i).heap) m o := by
    cases hrd : (ps i).rd with
    | none => exact ⟨_, hHR0 hrd, fun _ => rfl⟩
    | some kon =>
      obtain ⟨k, off, n⟩ := kon
      obtain ⟨t, a', hg, hop, hla, hcong⟩ := rdOf_some (hp7.symm.trans hrd)
      have hsf := T.soft i o ho
      rw [load_step hg hop hla] at hsf
      split at hsf <;> (try simp only [reduceCtorEq] at hsf)
      rename_i oi hoi
      have hnup : (ds i).up = none := by
        unfold loadD at hsf
        simp only [Option.map_eq_some_iff] at hsf
        obtain ⟨v, _, hv⟩ := hsf; rw [← hv]
      have hklab : k ∈ (ps i).labs := by
        rw [hp3]
        have hx : k ∈ labsAll (sts i).slots (labOps o.op) := by
          have : k ∈ labsL (lookE [] (sts i).slots) (labOps o.op) := by
            rw [hop]; simp only [labOps, Op.operands, labsL, hla, labsV]; simp
          rcases labsL_sub this with h | ⟨v, sv, h1, h2⟩
          · exact h
          · rw [ofVal_nolab h1] at h2; simp at h2
        rw [hop] at hx ⊢
        simpa [labsR] using hx
      -- who writes it
      have hord : ∀ j oj ob', nth ops j = some oj → (ds j).up = some (k, ob') → (ps j).tol (ps i) = false → (S j ↔ j < i) := fun j oj ob' hoj hu ht => by
        have hpj : (ps j).up = some k := by rw [(T.pi j oj hoj).2.2.2.1, hu]; rfl
        constructor
        · exact T.ord hS hi ho hS' hoj (fun _ => indep_lab' hpj hklab ht) (fun _ => indep_lab hpj hklab ht)
        · exact T.ord' ho hS' hoj (fun _ => indep_lab hpj hklab ht)
      have htol : ∀ j oj ob', nth ops j = some oj → (ds j).up = some (k, ob') → (ps j).tol (ps i) = true → ∃ o', hpOf (sts j).heap k = some o' ∧ ∀ r, off ≤ r → r < off + n → verAt o'.2.ver r = verAt ob'.2.ver r := fun j oj ob' hoj hu ht => by
        have hj := T.pi j oj hoj
        have hju := hj.2.2.2.1
        obtain ⟨-, -, -, -, -, -, -, hvo, hvn⟩ := hj
        unfold PI.tol at ht
        rw [hju, hrd, hvo, hvn, hu] at ht
        simp only [voOf, Option.map_some] at ht
        cases ho' : hpOf (sts j).heap k with
        | none => rw [ho'] at ht; simp at ht
        | some o' =>
          rw [ho'] at ht
          simp only [Bool.and_eq_true, vnOf] at ht
          exact ⟨o', rfl, fun r h1 h2 => rngSame_at ht.2 r h1 h2⟩
      have hpre : ∀ j j' oj oj' ob ob', j < j' → nth ops j = some oj → nth ops j' = some oj' → (ds j).up = some (k, ob) → (ds j').up = some (k, ob') → S j' → S j := fun j j' oj oj' ob ob' hlt hoj hoj' hu hu' hSj => by
        have hpj : (ps j).up = some k := by rw [(T.pi j oj hoj).2.2.2.1, hu]; rfl
        have hpj' : (ps j').up = some k := by rw [(T.pi j' oj' hoj').2.2.2.1, hu']; rfl
        have hp := T.pair j j' oj oj' hlt hoj hoj'
        simp only [PI.pair, indep_up hpj hpj', Bool.or_false, Bool.and_eq_true] at hp
        rw [(T.pi j oj hoj).1] at hp
        exact T.anc j' oj' hoj' S hS hSj j hp.2
      obtain ⟨oS, hoS, hcells⟩ : ∃ oS, objAt β w k oS ∧ ∀ r, off ≤ r → r < off + n → nth oS.1 r = nth oi.1 r := by
        rcases exists_last (fun j => S j ∧ ∃ ob, (ds j).up = some (k, ob)) ops.length with hnone | ⟨js, hjs, ⟨hSj, obs, hus⟩, hlast⟩
        · have htl : ∀ j, j < i → ∀ ob, (ds j).up = some (k, ob) → ∃ o', hpOf (sts j).heap k = some o' ∧ ∀ r, off ≤ r → r < off + n → verAt o'.2.ver r = verAt ob.2.ver r := fun j hj ob hu => by
            obtain ⟨oj, hoj⟩ := nth_some (l := ops) (i := j) (by omega)
            cases ht : (ps j).tol (ps i) with
            | true => exact htol j oj ob hoj hu ht
            | false => exact absurd ⟨(hord j oj ob hoj hu ht).2 hj, ob, hu⟩ (hnone j (by omega))
          obtain ⟨o0, h0⟩ := T.stood i (by omega) (fun j hj ob hu => let ⟨o', h, _⟩ := htl j hj ob hu; ⟨o', h⟩) oi hoi
          obtain ⟨ob, hob, hc⟩ := T.range hE (k := k) (off := off) (n := n) (a := 0) (oa := o0) (by rw [T.zero]; exact h0) i (by omega) (by omega) (fun j _ hj ob o' hu ho' r h1 h2 => by
            obtain ⟨o2, h3, h4⟩ := htl j hj ob hu
            rw [ho'] at h3; simp only [Option.some.injEq] at h3; subst h3; exact h4 r h1 h2)
          rw [hoi] at hob; simp only [Option.some.injEq] at hob; subst hob
          exact ⟨o0, D.h1 k o0 h0 fun j ob hj hu => hnone j (D.sub j hj) ⟨hj, ob, hu⟩, fun r h1 h2 => (hc r h1 h2).symm⟩
        · obtain ⟨ojs, hojs⟩ := nth_some (l := ops) (i := js) hjs
          have hobj := D.h2 js k obs hSj hus fun j' ob' hj' hlt hu' => hlast j' hlt (D.sub j' hj') ⟨hj', ob', hu'⟩
          have hat : hpOf (sts (js + 1)).heap k = some obs := by rw [T.up_at hojs k, hus]; simp [upAt]
          have hne : js ≠ i := fun e => by subst e; exact hi hSj
          rcases Nat.lt_or_ge js i with hlt | hge
          · obtain ⟨ob, hob, hc⟩ := T.range hE (k := k) (off := off) (n := n) hat i (by omega) (by omega) (fun j h1 hj ob o' hu ho' r h2 h3 => by
              obtain ⟨oj, hoj⟩ := nth_some (l := ops) (i := j) (by omega)
              cases ht : (ps j).tol (ps i) with
              | true =>
                obtain ⟨o2, h4, h5⟩ := htol j oj ob hoj hu ht
                rw [ho'] at h4; simp only [Option.some.injEq] at h4; subst h4; exact h5 r h2 h3
              | false => exact absurd ⟨(hord j oj ob hoj hu ht).2 hj, ob, hu⟩ (hlast j (by omega) (by omega)))
            rw [hoi] at hob; simp only [Option.some.injEq] at hob; subst hob
            exact ⟨obs, hobj, fun r h1 h2 => (hc r h1 h2).symm⟩
          · obtain ⟨ob, hob, hc⟩ := T.range hE (k := k) (off := off) (n := n) hoi (js + 1) (by omega) (by omega) (fun j h1 hj ob o' hu ho' r h2 h3 => by
              obtain ⟨oj, hoj⟩ := nth_some (l := ops) (i := j) (by omega)
              have hji : j ≠ i := fun e => by subst e; rw [hnup] at hu; simp at hu
              have hSj' : S j := by
                by_cases e : j = js
                · subst e; exact hSj
                · exact hpre j js oj ojs ob obs (by omega) hoj hojs hu hus hSj
              cases ht : (ps j).tol (ps i) with
              | true =>
                obtain ⟨o2, h4, h5⟩ := htol j oj ob hoj hu ht
                rw [ho'] at h4; simp only [Option.some.injEq] at h4; subst h4; exact h5 r h2 h3
              | false => have := (hord j oj ob hoj hu ht).1 hSj'; omega)
            rw [hat] at hob; simp only [Option.some.injEq] at hob; subst hob
            exact ⟨obs, hobj, hc⟩
      refine ⟨fun l => if l = k then some oS else none, fun fs => ⟨fun l ob hl => ?_, D.inj, D.lt⟩, fun m => ?_⟩
      · unfold restrict at hl
        split at hl
        · dsimp only at hl
          split at hl
          · rename_i e; subst e; simp only [Option.some.injEq] at hl; subst hl; exact hoS
          · simp at hl
        · simp at hl
      · rw [load_step hg hop hla, load_step hg hop hla, hoi, if_pos rfl]
        exact hcong _ _ hcells
  -- a label that is free
  obtain ⟨m, hm, hsoft⟩ : ∃ m, β m = none ∧ softStep E ops (sts i).slots (hpOf (sts i).heap) m o = some (ds i) ∧ ((∃ ob, (ds i).up = some (m, ob)) → m = (sts i).heap.length) := by
    rcases softStep_m (T.soft i o ho) with ⟨ob, hu⟩ | ⟨hu, hall⟩
    · refine ⟨(sts i).heap.length, ?_, T.soft i o ho, fun _ => rfl⟩
      cases hb : β (sts i).heap.length with
      | none => rfl
      | some b =>
        obtain ⟨j, ob', hj, hu'⟩ := D.h4 _ _ hb hhlen
        obtain ⟨oj, hoj⟩ := nth_some (l := ops) (i := j) (D.sub j hj)
        have hpj : (ps j).up = some (sts i).heap.length := by rw [(T.pi j oj hoj).2.2.2.1, hu']; rfl
        have hpi : (ps i).up = some (sts i).heap.length := by rw [hp4, hu]; rfl
        have hji := T.ord hS hi ho hS' hoj (fun _ => indep_up hpi hpj) (fun _ => indep_up hpj hpi) hj
        have := hhlab j _ ob' hji hu'
        omega
    · -- any label beyond all that are in use
      obtain ⟨m, hm1, hm2⟩ : ∃ m, β m = none ∧ (sts ops.length).heap.length ≤ m := by
        refine ⟨(sts ops.length).heap.length, ?_, Nat.le_refl _⟩
        cases hb : β (sts ops.length).heap.length with
        | none => rfl
        | some b =>
          have hN := (T.heaps ops.length (Nat.le_refl _))
          obtain ⟨j, ob', hj, hu'⟩ := D.h4 _ _ hb hN.1
          have := hN.2.1 j _ ob' (D.sub j hj) hu'
          omega
      refine ⟨m, hm1, hall m, fun ⟨ob, hu'⟩ => ?_⟩
      obtain ⟨o', ho', _⟩ := hu m ob hu'
      have h5 := hpOf_lt ho'
      have hN := (T.heaps ops.length (Nat.le_refl _))
      have h6 := hN.2.1 i m ob hin hu'
      omega
  obtain ⟨hsoft, hmlen⟩ := hsoft
  rw [← hXeq m] at hsoft
  refine softStep_sound hE hk hHR hm (fun t ht => hCof t (hp5 t ht)) (fun t v hg => hCof t (hp6 t v hg)) hsoft fun w' β' val hv ⟨hp', hsub, hhr, hst⟩ => hK β' _ w' ?_
  -- what stands behind it
  have hupi : ∀ l ob, (ds i).up = some (l, ob) → (ps i).up = some l := fun l ob h => by rw [hp4, h]; rfl
  have hold : ∀ l ob, objAt β w l ob → (∀ ob', (ds i).up ≠ some (l, ob')) → objAt β' w' l ob := fun l ob hobj hne => by
    have hal := hobj.alive
    obtain ⟨b, vs, rest, h1, h2, h3, _, h5⟩ := hobj
    refine ⟨b, vs, rest, hst.ext _ _ h1, relL_mono hst.ext _ _ h2, ?_, hst.dead _ hal, h5.mono hst.ext⟩
    rw [hst.frame b (D.lt _ _ hal h1) (fun l' o' e hb => ?_), h3]
    have hal' : β.dead l' = false := by
      rcases hst.upok l' o' e with h | ⟨o2, h, _⟩
      · rw [h, hm] at hb; simp at hb
      · exact (hhr.obj _ _ h).alive
    exact hne o' (by rw [← D.inj _ _ _ hal' hal hb h1]; exact e)
  have hgne : ∀ j oj t v s, nth ops j = some oj → (S j ∨ j = i) → (ds j).ent = .gd t v s → o.dst ≠ some t := by
    intro j oj t v s hoj hj hd hdt
    obtain ⟨g, og, hog, hdst, hgj, hbit⟩ := hgd j oj t v s hoj hd
    have hgi : g = i := T.dst_inj hog ho hdst hdt
    subst hgi
    rcases hj with hj | hj
    · exact hi (T.anc j oj hoj S hS hj _ hbit)
    · omega
  have hnoref : ∀ j oj d, nth ops j = some oj → (S j ∨ j = i) → o.dst = some d → (ds j).ent.noRef d = true := by
    intro j oj d hoj hj hd
    cases he : (ds j).ent with
    | none => rfl
    | val v => rfl
    | gd t v s =>
      simp only [Ent.noRef, Bool.not_eq_true']
      have := hgne j oj t v s hoj hj he
      rw [hd] at this
      have h2 : ¬ t = d := fun e => this (by rw [e])
      cases hb : Nat.beq t d with
      | false => rfl
      | true => exact absurd (by simpa using hb) h2
  refine ⟨by rw [put_size]; exact D.size, by rw [put_defers]; exact D.defers, fun x e he hx => ?_, fun j oj x hj hoj hd hxs => ?_, fun l ob hl hne => ?_, fun j l ob hj hu hlast => ?_, hst.inj, hst.lt, fun l b hb hl => ?_, fun l b hb => hst.ext _ _ (D.ext l b hb), fun l b hb => ?_, fun b hb hn => ?_,
    Nat.le_trans D.wsize hst.size, hst.os.trans D.os, hst.tape.trans D.tape, hst.output.trans D.output, fun j hj => ?_⟩
  · have h1 := (D.v1 x e he fun j oj hj => hx j oj (.inl hj)).mono hst.ext
    cases hd : o.dst with
    | none => exact h1
    | some d =>
      refine h1.other (fun e' => hx i o (.inr rfl) ho (by rw [hd, e'])) ?_
      cases e with
      | none => rfl
      | val v => rfl
      | gd t v s => exact absurd he (hset x t v s)
  · rw [put_size] at hxs
    rcases hj with hj | hj
    · have h1 := (D.v2 j oj x hj hoj hd hxs).mono hst.ext
      cases hdd : o.dst with
      | none => exact h1
      | some d => exact h1.other (fun e' => by subst e'; have := T.dst_inj hoj ho hd hdd; subst this; exact hi hj) (hnoref j oj d hoj (.inl hj) hdd)
    · subst hj
      rw [ho] at hoj; simp only [Option.some.injEq] at hoj; subst hoj
      rw [hd]
      exact EntFact.same hxs hv (hnoref j o x ho (.inr rfl) hd)
  · exact hold l ob (D.h1 l ob hl fun j ob' hj => hne j ob' (.inl hj)) fun ob' => hne i ob' (.inr rfl)
  · rcases hj with hj | hj
    · refine hold l ob (D.h2 j l ob hj hu fun j' ob' hj' hlt => hlast j' ob' (.inl hj') hlt) fun ob' hu' => ?_
      obtain ⟨oj, hoj⟩ := nth_some (l := ops) (i := j) (D.sub j hj)
      have hpj : (ps j).up = some l := by rw [(T.pi j oj hoj).2.2.2.1, hu]; rfl
      have hji := T.ord hS hi ho hS' hoj (fun _ => indep_up (hupi l ob' hu') hpj) (fun _ => indep_up hpj (hupi l ob' hu')) hj
      exact hlast i ob' (.inr rfl) hji hu'
    · subst hj; exact hst.obj l ob hu
  · rcases hst.new l b hb with h | ⟨h, _, ob, h3⟩
    · obtain ⟨j, ob, h1, h2⟩ := D.h4 l b h hl
      exact ⟨j, ob, .inl h1, h2⟩
    · subst h; exact ⟨i, ob, .inr rfl, h3⟩
  · rcases hst.new l b hb with h | ⟨h, h2, ob, h3⟩
    · exact D.new l b h
    · have := hmlen ⟨ob, h3⟩
      exact .inr ⟨by omega, Nat.le_trans D.wsize h2⟩
  · rw [hst.frame b (Nat.lt_of_lt_of_le hb D.wsize) (fun l ob hu hb' => ?_), D.frame b hb (fun l hl j ob hj => hn l hl j ob (.inl hj))]
    rcases D.new l b hb' with h | ⟨_, h⟩
    · exact hn l h i ob (.inr rfl) hu
    · omega
  · rcases hj with hj | hj
    · exact D.sub j hj
    · omega
end

theorem filter_le {α : Type} {p p' : α → Bool} : ∀ {l : List α}, (∀ x ∈ l, p' x = true → p x = true) → (l.filter p').length ≤ (l.filter p).length
  | [], _ => by simp
  | x :: l, h => by
    have ih := filter_le (l := l) fun y hy => h y (by simp [hy])
    simp only [List.filter_cons]
    by_cases h1 : p' x = true
    · simp [h1, h x (by simp) h1, ih]
    · by_cases h2 : p x = true
      · simp [h1, h2]; omega
      · simp [h1, h2, ih]
theorem filter_lt {α : Type} {p p' : α → Bool} : ∀ {l : List α} {y : α}, (∀ x ∈ l, p' x = true → p x = true) → y ∈ l → p y = true → p' y = false → (l.filter p').length < (l.filter p).length
  | [], _, _, h, _, _ => by simp at h
  | x :: l, y, h, hy, h1, h2 => by
    have ih := filter_le (l := l) fun y hy => h y (by simp [hy])
    simp only [List.filter_cons]
    rcases List.mem_cons.1 hy with rfl | hy
    · simp [h1, h2]; omega
    · have ih' := filter_lt (l := l) (fun y hy => h y (by simp [hy])) hy h1 h2
      by_cases h3 : p' x = true
      · simp [h3, h x (by simp) h3, ih']
      · by_cases h4 : p x = true
        · simp [h3, h4]; omega
        · simp [h3, h4, ih']

theorem draw_sound {E : Env} (hE : E.Ok) {ops : List Oper} {st stm : St} (hrun : drawRun E ops ops 0 [] st = some stm) (hset : ∀ x t v s, nth st.slots x ≠ some (.gd t v s)) {β : Lab} {a : Act} {w : World} (hR : Rel β st a w) {Q : Exit → Act → World → Prop}
    (hQ : ∀ β' a' w', Ext β st.heap w β' stm.heap w' → Rel β' stm a' w' → Q .normal a' w') {id : Nat} : (Code.region id ops.toArray true).wp E.P Q a w := by
  obtain ⟨sts, ds, ps, T, hstm⟩ := textRun_of hrun
  refine wp_region_any hE.follows ?_
  obtain ⟨S0, hS0⟩ : ∃ S0 : Nat → Prop, S0 = fun _ => False := ⟨_, rfl⟩
  have hD0 : DI ops st ds β w S0 β a { w with drawn := w.drawn + 1 } := by
    subst hS0
    exact ⟨hR.size, hR.defers, fun x e he _ => hR.fact x e he, fun _ _ _ h => h.elim, fun l o hl _ => hR.hr.obj l o hl, fun _ _ _ h => h.elim, hR.hr.inj, hR.hr.lt, fun l b hb hl => by rw [hR.free l hl] at hb; simp at hb,
      fun _ _ h => h, fun _ _ h => .inl h, fun _ _ _ => rfl, Nat.le_refl _, rfl, rfl, rfl, fun _ h => h.elim⟩
  -- behind all of them
  have hend : ∀ (S : Nat → Prop) (β' : Lab) (a' : Act) (w' : World), (∀ j, j < ops.length → S j) → DI ops st ds β w S β' a' w' → Q .normal a' w' := by
    intro S β' a' w' hall D
    obtain ⟨hslen, hsv⟩ := T.slots ops.length (Nat.le_refl _)
    obtain ⟨hhlen, hhlab, hhv⟩ := T.heaps ops.length (Nat.le_refl _)
    rw [hstm] at hslen hsv hhlen hhlab hhv
    have hframe : ∀ b, b < w.heap.size → (∀ l, β l = some b → hpOf stm.heap l = hpOf st.heap l) → w'.heap[b]? = w.heap[b]? := fun b hb hn => by
      refine D.frame b hb fun l hl j ob hj hu => ?_
      have hlt : l < st.heap.length := by
        rcases Nat.lt_or_ge l st.heap.length with h | h
        · exact h
        · rw [hR.free l h] at hl; simp at hl
      have h1 := hn l hl
      obtain ⟨oj, hoj⟩ := nth_some (l := ops) (i := j) (D.sub j hj)
      have hlive : ∃ o, hpOf stm.heap l = some o := by
        cases ho : hpOf stm.heap l with
        | some o => exact ⟨o, rfl⟩
        | none =>
          obtain ⟨o0, ho0⟩ := T.kept j oj hoj l ob hu ops.length (D.sub j hj) (Nat.le_refl _)
          rw [hstm, ho] at ho0; simp at ho0
      obtain ⟨o, ho⟩ := hlive
      rcases (hhv l o ho).2 with ⟨j2, a1, a2, a3, a4⟩ | ⟨a1, a2⟩
      · obtain ⟨o0, h3, h4⟩ := a4 hlt
        rw [ho, h3] at h1; simp only [Option.some.injEq] at h1; subst h1; omega
      · exact a1 j ob (D.sub j hj) hu
    refine hQ β' a' w' ⟨D.ext, fun l b hb => (D.new l b hb).imp (fun h => h) (fun ⟨h1, h2⟩ => ⟨h1, .inl h2⟩), hhlen, fun l o hl ho => (hhv l o ho).1 hl, hframe, D.wsize, D.os, D.tape, D.output⟩ ⟨by rw [D.size, hslen], fun x e he => ?_, ⟨fun l o hl => ?_, D.inj, D.lt⟩, fun l hl => ?_, D.defers⟩
    · have hxs : x < a'.tmps.size := by rw [D.size, ← hslen]; exact nth_lt he
      rcases hsv x e he with ⟨j, oj, h1, h2, h3, rfl⟩ | ⟨h1, h2⟩
      · exact D.v2 j oj x (hall j h1) h2 h3 hxs
      · exact D.v1 x e h2 fun j oj hj hoj => h1 j oj (D.sub j hj) hoj
    · rcases (hhv l o hl).2 with ⟨j, a1, a2, a3, _⟩ | ⟨a1, a2⟩
      · exact D.h2 j l o (hall j a1) a2 fun j' ob hj' hlt => a3 j' ob hlt (D.sub j' hj')
      · exact D.h1 l o a2 fun j ob hj => a1 j ob (D.sub j hj)
    · cases hb : β' l with
      | none => rfl
      | some b =>
        obtain ⟨j, ob, h1, h2⟩ := D.h4 l b hb (Nat.le_trans hhlen hl)
        have := hhlab j l ob (D.sub j h1) h2
        omega
  have key : ∀ (fuel : Nat) (listed : Array Bool) (β' : Lab) (a' : Act) (w' : World), listed.size = ops.length → ((List.range ops.length).filter fun i => !listed.getD i true).length ≤ fuel →
      Closed ops (fun j => listed[j]? = some true) → DI ops st ds β w (fun j => listed[j]? = some true) β' a' w' → wpAny E.P .any ops.toArray Q fuel listed a' w' := by
    have hready : ∀ (listed : Array Bool), listed.size = ops.length → Region.ready .any ops.toArray listed = [] → ∀ j, j < ops.length → listed[j]? = some true := by
      intro listed hsz hnil j
      induction j using Nat.strongRecOn with
      | _ j ih =>
        intro hj
        rcases hb : listed[j]? with _ | b
        · rw [Array.getElem?_eq_none_iff] at hb; omega
        · cases b with
          | true => rfl
          | false =>
            exfalso
            obtain ⟨o, ho⟩ := nth_some (l := ops) (i := j) hj
            have hbk := T.back j o ho
            have hmem : j ∈ Region.ready .any ops.toArray listed := by
              unfold Region.ready
              rw [List.mem_filter]
              refine ⟨by simpa using hj, ?_⟩
              rw [nth_eq] at ho
              simp only [List.getElem?_toArray, ho, Option.map_some, Option.getD_some, Bool.and_eq_true, Bool.not_eq_true', Array.getD_eq_getD_getElem?, hb]
              refine ⟨by first | trivial | rfl, ?_⟩
              rw [Array.all_eq_true_iff_forall_mem]
              intro e he
              simp only [back, Bool.and_eq_true, List.all_eq_true] at hbk
              have := hbk.1 e (by simpa using he)
              by_cases hbd : Region.binds .any e = true
              · simp only [hbd, Bool.not_true, Bool.false_or, Nat.blt_eq] at this ⊢
                rw [ih e.on this (by omega)]; rfl
              · simp [hbd]
            rw [hnil] at hmem; simp at hmem
    intro fuel
    induction fuel with
    | zero =>
      intro listed β' a' w' hsz hcnt hcl D
      have hall : ∀ j, j < ops.length → listed[j]? = some true := fun j hj => by
        have hnil : ((List.range ops.length).filter fun i => !listed.getD i true) = [] := List.eq_nil_of_length_eq_zero (by omega)
        rw [List.filter_eq_nil_iff] at hnil
        have := hnil j (by simpa using hj)
        have hlt : j < listed.size := by omega
        simp only [Array.getD_eq_getD_getElem?, Array.getElem?_eq_getElem hlt, Option.getD_some, Bool.not_eq_true', Bool.not_eq_false] at this
        rw [Array.getElem?_eq_getElem hlt, this]
      simp only [wpAny]
      refine ⟨?_, hend _ β' a' w' hall D⟩
      unfold Region.ready
      rw [List.filter_eq_nil_iff]
      intro j hj
      have hj' : j < ops.length := by simpa using hj
      simp [Array.getD_eq_getD_getElem?, hall j hj']
    | succ fuel ih =>
      intro listed β' a' w' hsz hcnt hcl D
      simp only [wpAny]
      refine ⟨fun hnil => hend _ β' a' w' (hready listed hsz hnil) D, fun i hi => ?_⟩
      unfold Region.ready at hi
      rw [List.mem_filter] at hi
      obtain ⟨hi1, hi2⟩ := hi
      have hlt : i < ops.length := by simpa using hi1
      have hlt' : i < listed.size := by omega
      obtain ⟨o, ho⟩ := nth_some (l := ops) (i := i) hlt
      have ho' := ho
      rw [nth_eq] at ho'
      simp only [List.getElem?_toArray, ho', Option.map_some, Option.getD_some, Bool.and_eq_true, Bool.not_eq_true', Array.getD_eq_getD_getElem?, Array.getElem?_eq_getElem hlt'] at hi2
      obtain ⟨hun, hall⟩ := hi2
      rw [Array.all_eq_true_iff_forall_mem] at hall
      have hiS : ¬ listed[i]? = some true := by rw [Array.getElem?_eq_getElem hlt', hun]; simp
      have hset' : ∀ j, (listed.setIfInBounds i true)[j]? = some true ↔ (listed[j]? = some true ∨ j = i) := fun j => by
        rw [Array.getElem?_setIfInBounds]
        by_cases h : i = j
        · subst h; simp [hlt']
        · simp only [h, if_false]
          constructor
          · exact fun h' => .inl h'
          · rintro (h' | h')
            · exact h'
            · exact absurd h'.symm h
      have hcl' : Closed ops (fun j => listed[j]? = some true ∨ j = i) := by
        intro j oj hoj hj e he hb
        rcases hj with hj | hj
        · exact .inl (hcl j oj hoj hj e he hb)
        · subst hj
          rw [ho] at hoj; simp only [Option.some.injEq] at hoj; subst hoj
          have := hall e (by simpa using he)
          simp only [hb, Bool.not_true, Bool.false_or] at this
          left
          cases hx : listed[e.on]? with
          | none => rw [hx] at this; simp at this
          | some b => rw [hx] at this; simp at this; rw [this]
      have hcl2 : Closed ops (fun j => (listed.setIfInBounds i true)[j]? = some true) := by
        have : (fun j => (listed.setIfInBounds i true)[j]? = some true) = (fun j => listed[j]? = some true ∨ j = i) := funext fun j => propext (hset' j)
        rw [this]; exact hcl'
      have hstep := draw_step hE T hset hR.free D hcl hiS ho hcl' (K := wpAny E.P .any ops.toArray Q fuel (listed.setIfInBounds i true)) (Q := Q) (fun β2 a2 w2 D2 => by
        refine ih (listed.setIfInBounds i true) β2 a2 w2 (by simpa using hsz) ?_ hcl2 ?_
        · have := filter_lt (l := List.range ops.length) (p := fun i => !listed.getD i true) (p' := fun j => !(listed.setIfInBounds i true).getD j true) (y := i) (fun x _ hx => by
            simp only [Array.getD_eq_getD_getElem?, Bool.not_eq_true'] at hx ⊢
            rw [Array.getElem?_setIfInBounds] at hx
            split at hx
            · rename_i e; subst e; simp at hx
            · exact hx) (by simpa using hlt) (by simp [Array.getD_eq_getD_getElem?, Array.getElem?_eq_getElem hlt', hun]) (by simp [Array.getD_eq_getD_getElem?, hlt'])
          omega
        · have : (fun j => (listed.setIfInBounds i true)[j]? = some true) = (fun j => listed[j]? = some true ∨ j = i) := funext fun j => propext (hset' j)
          rw [this]; exact D2)
      unfold wpOp
      simp only [List.getElem?_toArray, ho']
      split
      · rename_i hw; rw [if_pos hw] at hstep; exact .inl hstep
      · rename_i hw; rw [if_neg hw] at hstep; exact hstep
  subst hS0
  refine key _ _ β a _ (by simp) ?_ ?_ ?_
  · simp only [List.size_toArray]
    exact Nat.le_trans (List.length_filter_le _ _) (by simp)
  · intro j o _ hj
    rw [Array.getElem?_replicate] at hj
    split at hj <;> simp at hj
  · have : (fun j => (Array.replicate ops.toArray.size false)[j]? = some true) = fun _ => False := funext fun j => propext ⟨fun h => by
      rw [Array.getElem?_replicate] at h
      split at h <;> simp at h, fun h => h.elim⟩
    rw [this]; exact hD0
end Go.Sx

namespace Go.Sx
open Go.RowKit Go.Proofs

/-! # code, calls -/
inductive Ex where
  | normal | ret
  | exit (id : Nat)
  | goto (l : Nat)
def Ex.toExit : Ex → Exit
  | .normal => .normal
  | .ret => .ret
  | .exit id => .exit id
  | .goto l => .goto l
def Ent.plain : Ent → Bool
  | .gd _ _ _ => false
  | _ => true
def symRegion (E : Env) (call : CallF) (ops : List Oper) (draw : Bool) (st : St) : T St :=
  match draw with
  | true => match drawRun E ops ops 0 [] st with
    | some st' => if st.slots.all Ent.plain then .ret st'.settle else .fail
    | none => .fail
  | false => (symOps E call ops ops st).bind fun st' => .ret st'.settle
def evalC (s : List Ent) (c : Operand) : Option SB := match lookE [] s c with
  | some (.bool b) => some b
  | _ => none
def symLoop (body : St → T (Ex × St)) : Nat → St → T (Ex × St)
  | 0, _ => .fail
  | k + 1, s => (body s).bind fun r => match r.1 with
    | .normal => symLoop body k r.2
    | e => .ret (e, r.2)
def symCode (E : Env) (call : CallF) : Nat → Code → St → T (Ex × St)
  | 0, _, _ => .fail
  | n + 1, c, s => match c with
    | .skip => .ret (.normal, s)
    | .label _ => .ret (.normal, s)
    | .ret => .ret (.ret, s)
    | .exit id => .ret (.exit id, s)
    | .goto l => .ret (.goto l, s)
    | .scope x => (symCode E call n x s).bind fun r => match r.1 with
      | .goto _ => .fail
      | e => .ret (e, r.2)
    | .seq x y => (symCode E call n x s).bind fun r => match r.1 with
      | .normal => symCode E call n y r.2
      | e => .ret (e, r.2)
    | .cond c x y => match evalC s.slots c with
      | some (.lit true) => symCode E call n x s
      | some (.lit false) => symCode E call n y s
      | some (.sym b) => .ite b (symCode E call n x s) (symCode E call n y s)
      | none => .fail
    | .block id x => (symCode E call n x s).bind fun r => match r.1 with
      | .exit id' => if Nat.beq id' id then .ret (.normal, r.2) else .ret (.exit id', r.2)
      | e => .ret (e, r.2)
    | .loop x => symLoop (symCode E call n x) n s
    | .region _ ops draw => (symRegion E call ops.toList draw s).bind fun s' => .ret (.normal, s')
    | _ => .fail
def resultS (P : Program) (st : St) : List ResultVar → Option (List SV)
  | [] => some []
  | .tmp t :: l => match lookE [] st.slots (.tmp t), resultS P st l with
    | some v, some vs => some (v :: vs)
    | _, _ => none
  | .cell a t :: l => match lookE [] st.slots (.tmp a), resultS P st l with
    | some (.ptr b off), some vs => match hpOf st.heap b with
      | some (cs, _) => (partS P t cs off).map (· :: vs)
      | none => none
    | _, _ => none
def resultV : List SV → SV
  | [v] => v
  | vs => .tuple vs
def symBody (E : Env) (call : CallF) (fn : Func) (fuel : Nat) (args : List SV) (H : SHeap) : T (SV × SHeap) := match fn.body with
  | some c => (symCode E call fuel c ⟨args.map .val ++ List.replicate (fn.ntmps - args.length) (.val undefS), H⟩).bind fun r => match r.1 with
    | .exit _ => .fail
    | .goto _ => .fail
    | _ => match resultS E.P r.2 fn.results.toList with
      | some vs => .ret (resultV vs, r.2.heap)
      | none => .fail
  | none => .fail
/-! ## a call's ways joined into one, where what it hands back bears no address -/
def mergeI (c : Bool) : SI → SI → SI
  | .lit x, .lit y => if x = y then .lit x else .sym (bif c then x else y)
  | a, b => .sym (bif c then a.val else b.val)
mutual
def mergeV (c : Bool) : SV → SV → Option SV
  | .int k a, .int k' b => if k = k' then some (.int k (mergeI c a b)) else none
  | .bool a, .bool b => some (.bool (mergeB c a b))
  | .agg xs, .agg ys => match mergeVL c xs ys with | some zs => some (.agg zs) | none => none
  | .tuple xs, .tuple ys => match mergeVL c xs ys with | some zs => some (.tuple zs) | none => none
  | _, _ => none
def mergeVL (c : Bool) : List SV → List SV → Option (List SV)
  | [], [] => some []
  | x :: xs, y :: ys => match mergeV c x y, mergeVL c xs ys with
    | some z, some zs => some (z :: zs)
    | _, _ => none
  | _, _ => none
end
def trimE : Option Obj' → Option Obj' → Option Obj'
  | some o0, some o => if Nat.beq o.2.stamp o0.2.stamp then some o0 else if flatL o.1 && o.2.own.isNone && Nat.blt o0.2.stamp o.2.stamp then some o else none
  | _, _ => none
def mergeE (c : Bool) : Option Obj' → Option Obj' → Option Obj' → Option Obj'
  | some o0, some o1, some o2 => if Nat.beq o1.2.stamp o0.2.stamp && Nat.beq o2.2.stamp o0.2.stamp then some o0
    else if flatL o1.1 && flatL o2.1 && o1.2.own.isNone && o2.2.own.isNone && Nat.beq o1.2.ty o2.2.ty then
      match mergeVL c o1.1 o2.1 with
      | some cs => some (cs, ⟨o1.2.ty, none, o0.2.stamp + o1.2.stamp + o2.2.stamp + 1, o0.2.ver⟩)
      | none => none
    else none
  | _, _, _ => none
def getO (H : SHeap) : Option Obj' := match H with | [] => none | o :: _ => o
def restO (H : SHeap) : SHeap := match H with | [] => [] | _ :: l => l
def trimH : SHeap → SHeap → SHeap
  | [], _ => []
  | o0 :: H0, H => trimE o0 (getO H) :: trimH H0 (restO H)
def mergeH (c : Bool) : SHeap → SHeap → SHeap → SHeap
  | [], _, _ => []
  | o0 :: H0, H1, H2 => mergeE c o0 (getO H1) (getO H2) :: mergeH c H0 (restO H1) (restO H2)
def jn (H0 : SHeap) : T (SV × SHeap) → Option (SV × SHeap)
  | .ret r => if r.1.flat then some (r.1, trimH H0 r.2) else none
  | .ite b x y => match jn H0 x, jn H0 y with
    | some r1, some r2 => match mergeV b r1.1 r2.1 with
      | some v => some (v, mergeH b H0 r1.2 r2.2)
      | none => none
    | _, _ => none
  | .fail => none
def joinT (H0 : SHeap) (t : T (SV × SHeap)) : T (SV × SHeap) := match t with
  | .ite b x y => match jn H0 (.ite b x y) with
    | some r => .ret r
    | none => .ite b x y
  | t => t
def symCall (E : Env) : Nat → CallF
  | 0 => fun _ _ _ => .fail
  | d + 1 => fun f args H => match E.P.funcs[f]? with
    | some fn => bif E.j then joinT H (symBody E (symCall E d) fn 2000 args H) else symBody E (symCall E d) fn 2000 args H
    | none => .fail

section
variable {E : Env}
theorem symRegion_sound (hE : E.Ok) {call : CallF} (hcall : CallOk E.P call) {ops : Array Oper} {draw : Bool} {st : St} {β : Lab} {a : Act} {w : World} (h : Rel β st a w) {id : Nat} {Q : Exit → Act → World → Prop}
    (hK : (symRegion E call ops.toList draw st).Holds fun st' => ∀ β' a' w', Ext β st.heap w β' st'.heap w' → Rel β' st' a' w' → Q .normal a' w') : (Code.region id ops draw).wp E.P Q a w := by
  cases draw with
  | true =>
    simp only [symRegion] at hK
    split at hK
    · rename_i st' hrun
      split at hK
      · rename_i hpl
        rw [List.all_eq_true] at hpl
        have := draw_sound hE hrun (fun x t v s he => by have := hpl _ (by rw [nth_eq] at he; exact List.mem_of_getElem? he); simp [Ent.plain] at this) h (Q := Q) (fun β' a' w' he hr => hK β' a' w' he hr.settle) (id := id)
        simpa using this
      · exact hK.elim
    · exact hK.elim
  | false =>
    simp only [symRegion] at hK
    refine wp_region_list (P := E.P) (ops := ops) ?_
    have := symOps_sound hE hcall (ops := ops.toList) (Q := Q) ops.toList h (T.Holds.mono (fun st' hst β' a' w' he hr => hst β' a' w' he hr.settle) (T.Holds.bind hK))
    simpa using this
theorem evalC_sound {β : Lab} {st : St} {a : Act} {w : World} (h : Rel β st a w) {c : Operand} {b : SB} (hb : evalC st.slots c = some b) : a.eval c = .bool b.val := by
  unfold evalC at hb
  split at hb <;> simp only [Option.some.injEq, reduceCtorEq] at hb
  rename_i b' hl; subst hb
  have := lookE_sound (known_true h) (fs := []) (fun p hp => by simp at hp) (fun _ _ => trivial) hl
  simpa [SV.rel] using this
theorem symCode_sound (hE : E.Ok) {call : CallF} (hcall : CallOk E.P call) : ∀ (n : Nat) (c : Code) {st : St} {β : Lab} {a : Act} {w : World} {Q : Exit → Act → World → Prop}, Rel β st a w →
    ((symCode E call n c st).Holds fun r => ∀ β' a' w', Ext β st.heap w β' r.2.heap w' → Rel β' r.2 a' w' → Q r.1.toExit a' w') → c.wp E.P Q a w
  | 0, _, _, _, _, _, _, _, hK => hK.elim
  | n + 1, c, st, β, a, w, Q, h, hK => by
    cases c <;> simp only [symCode] at hK
    case skip => exact wp_skip (hK β a w (Ext.refl _ _ _) h)
    case label l => exact wp_label (hK β a w (Ext.refl _ _ _) h)
    case ret => exact wp_ret (hK β a w (Ext.refl _ _ _) h)
    case exit id => exact wp_exit (hK β a w (Ext.refl _ _ _) h)
    case goto l => exact wp_goto (hK β a w (Ext.refl _ _ _) h)
    case scope x =>
      refine wp_scope_straight (symCode_sound hE hcall n x h (T.Holds.mono ?_ (T.Holds.bind hK)))
      rintro ⟨e, st1⟩ hr β1 a1 w1 he1 hr1
      cases e with
      | normal => exact hr β1 a1 w1 he1 hr1
      | ret => exact hr β1 a1 w1 he1 hr1
      | exit id => exact hr β1 a1 w1 he1 hr1
      | goto l => exact hr.elim
    case region id ops draw =>
      exact symRegion_sound hE hcall h (T.Holds.mono (fun st' hst β' a' w' he hr => hst β' a' w' he hr) (T.Holds.bind hK))
    case seq x y =>
      refine wp_seq (symCode_sound hE hcall n x h (T.Holds.mono ?_ (T.Holds.bind hK)))
      rintro ⟨e, st1⟩ hr β1 a1 w1 he1 hr1
      cases e with
      | normal =>
        exact symCode_sound hE hcall n y hr1 (T.Holds.mono (fun r2 h2 β2 a2 w2 he2 hr2 => h2 β2 a2 w2 (Ext.trans h.free hr1.free he1 he2) hr2) hr)
      | ret => exact hr β1 a1 w1 he1 hr1
      | exit id => exact hr β1 a1 w1 he1 hr1
      | goto l => exact hr β1 a1 w1 he1 hr1
    case cond c x y =>
      split at hK
      · rename_i hc; exact wp_cond (t := true) (evalC_sound h hc) (symCode_sound hE hcall n x h hK)
      · rename_i hc; exact wp_cond (t := false) (evalC_sound h hc) (symCode_sound hE hcall n y h hK)
      · rename_i b hc
        exact wp_cond_split (evalC_sound h hc) (fun e => symCode_sound hE hcall n x h (hK.1 e)) (fun e => symCode_sound hE hcall n y h (hK.2 e))
      · exact hK.elim
    case block id x =>
      refine wp_block (symCode_sound hE hcall n x h (T.Holds.mono ?_ (T.Holds.bind hK)))
      rintro ⟨e, st1⟩ hr β1 a1 w1 he1 hr1
      cases e with
      | normal => exact hr β1 a1 w1 he1 hr1
      | ret => exact hr β1 a1 w1 he1 hr1
      | goto l => exact hr β1 a1 w1 he1 hr1
      | exit id' =>
        simp only [Ex.toExit, Exit.inBlock]
        split
        · rename_i e; subst e
          simp only [Nat.beq_refl, if_true] at hr
          exact hr β1 a1 w1 he1 hr1
        · rename_i e
          have : Nat.beq id' id = false := by
            cases hb : Nat.beq id' id with
            | false => rfl
            | true => exact absurd (by simpa using hb) e
          simp only [this, Bool.false_eq_true, if_false] at hr
          exact hr β1 a1 w1 he1 hr1
    case loop x =>
      have key : ∀ (k : Nat) {st : St} {β : Lab} {a : Act} {w : World}, Rel β st a w → ((symLoop (symCode E call n x) k st).Holds fun r => ∀ β' a' w', Ext β st.heap w β' r.2.heap w' → Rel β' r.2 a' w' → Q r.1.toExit a' w') → Code.rounds E.P x Q k a w := by
        intro k
        induction k with
        | zero => intro st β a w _ hK; exact hK.elim
        | succ k ih =>
          intro st β a w h hK
          rw [rounds_succ]
          simp only [symLoop] at hK
          refine symCode_sound hE hcall n x h (T.Holds.mono ?_ (T.Holds.bind hK))
          rintro ⟨e, st1⟩ hr β1 a1 w1 he1 hr1
          cases e with
          | normal => exact ih hr1 (T.Holds.mono (fun r2 h2 β2 a2 w2 he2 hr2 => h2 β2 a2 w2 (Ext.trans h.free hr1.free he1 he2) hr2) hr)
          | ret => exact hr β1 a1 w1 he1 hr1
          | exit id => exact hr β1 a1 w1 he1 hr1
          | goto l => exact hr β1 a1 w1 he1 hr1
      exact wp_loop_rounds n (key n h hK)
    all_goals exact hK.elim
theorem asAddr_some (x : Addr) : asAddr (.pointer (some x)) = pure x := rfl
theorem resultS_sound {P : Program} {β : Lab} {st : St} {a : Act} {w : World} (h : Rel β st a w) : ∀ (l : List ResultVar) (vs : List SV), resultS P st l = some vs →
    ∃ vals, (l.mapM (fun | .tmp t => pure (a.tmps.getD t undef) | .cell x t => do loadVar t (← asAddr (a.tmps.getD x undef)) : ResultVar → Sem Value)).run P w = .ok vals w ∧ relL β vs vals
  | [], vs, hv => by simp only [resultS, Option.some.injEq] at hv; subst hv; exact ⟨[], by simp, relL_nil.2 rfl⟩
  | .tmp t :: l, vs, hv => by
    simp only [resultS] at hv
    split at hv <;> simp only [Option.some.injEq, reduceCtorEq] at hv
    rename_i v vs' h1 h2; subst hv
    obtain ⟨vals, h3, h4⟩ := resultS_sound h l vs' h2
    have h5 := lookE_sound (known_true h) (fs := []) (fun p hp => by simp at hp) (fun _ _ => trivial) h1
    refine ⟨a.tmps.getD t undef :: vals, ?_, by rw [relL_cons']; exact ⟨h5, h4⟩⟩
    simp only [List.mapM_cons, Sem.run_bind, Sem.run_pure, Result.andThen_ok, h3]
  | .cell x t :: l, vs, hv => by
    simp only [resultS] at hv
    split at hv <;> (try simp only [reduceCtorEq] at hv)
    rename_i b off vs' h1 h2
    split at hv <;> (try simp only [reduceCtorEq] at hv)
    rename_i cs e' hb
    simp only [Option.map_eq_some_iff] at hv; obtain ⟨s, hs, rfl⟩ := hv
    obtain ⟨vals, h3, h4⟩ := resultS_sound h l vs' h2
    have h5 := lookE_sound (known_true h) (fs := []) (fun p hp => by simp at hp) (fun _ _ => trivial) h1
    simp only [SV.rel, Act.eval] at h5; obtain ⟨bb, hbb, h5⟩ := h5
    obtain ⟨b', vs2, rest2, hb', hrel, hw, _, _⟩ := h.hr.obj _ _ hb
    obtain rfl : bb = b' := by rw [hbb] at hb'; simpa using hb'
    obtain ⟨v, h6, h7⟩ := run_loadS (P := P) w (off := off) hs hrel hw
    refine ⟨v :: vals, ?_, by rw [relL_cons']; exact ⟨h7, h4⟩⟩
    simp only [List.mapM_cons, Sem.run_bind, h5, asAddr_some, Sem.run_pure, Result.andThen_ok, h6, h3]
theorem results_sound {P : Program} {β : Lab} {st : St} {a : Act} {w : World} (h : Rel β st a w) {fn : Func} {vs : List SV} (hv : resultS P st fn.results.toList = some vs) : ∃ v, (results fn a.tmps).run P w = .ok v w ∧ SV.rel β (resultV vs) v := by
  obtain ⟨vals, h1, h2⟩ := resultS_sound h _ _ hv
  have h3 : (fn.results.mapM (fun | .tmp t => pure (a.tmps.getD t undef) | .cell x t => do loadVar t (← asAddr (a.tmps.getD x undef)) : ResultVar → Sem Value)).run P w = .ok vals.toArray w := by
    rw [Array.mapM_eq_mapM_toList]; simp only [Sem.run_map, h1, Result.andThen_ok]
  unfold results
  simp only [Sem.run_bind]
  refine ⟨if h : vals.toArray.size = 1 then vals.toArray[0] else .tuple vals.toArray, ?_, ?_⟩
  · have := congrArg (fun r => Result.andThen r fun vs w => Sem.run P (pure (if h : vs.size = 1 then vs[0] else .tuple vs) : Sem Value) w) h3
    exact this
  · have hl := relL_length h2
    match vs, h2 with
    | [], h2 => rw [relL_nil] at h2; subst h2; simp [resultV, SV.rel, relL_nil]
    | [s], h2 =>
      rw [relL_cons] at h2; obtain ⟨v, vs', h4, h5, rfl⟩ := h2
      rw [relL_nil] at h5; subst h5
      simpa [resultV] using h4
    | s :: s' :: r, h2 =>
      rw [dif_neg (by simp at hl ⊢; omega)]
      simp only [resultV, SV.rel]; exact ⟨vals, h2, rfl⟩
theorem nth_append {α : Type} (l l' : List α) (i : Nat) : nth (l ++ l') i = if i < l.length then nth l i else nth l' (i - l.length) := by
  rw [nth_eq, nth_eq, nth_eq, List.getElem?_append]
theorem symBody_sound (hE : E.Ok) {call : CallF} (hcall : CallOk E.P call) {f : FuncId} {fn : Func} (hf : E.P.funcs[f]? = some fn) {fuel : Nat} {vs : List SV} {H : SHeap} {β : Lab} {w : World} {vals : List Value} {R : Ending → World → Prop}
    (hv : relL β vs vals) (hr : HR β (hpOf H) w) (hfree : ∀ l, H.length ≤ l → β l = none)
    (hK : (symBody E call fn fuel vs H).Holds fun r => ∀ β' w' val, Ext β H w β' r.2 w' → HR β' (hpOf r.2) w' → (∀ l, r.2.length ≤ l → β' l = none) → SV.rel β' r.1 val → R (.returned val) w') : Calls E.P f vals.toArray w R := by
  unfold symBody at hK
  split at hK
  · rename_i c hb
    refine calls_of_wp hf hb ?_
    have hlen := relL_length hv
    have hrel : Rel β ⟨vs.map .val ++ List.replicate (fn.ntmps - vs.length) (.val undefS), H⟩ { tmps := vals.toArray ++ Array.replicate (fn.ntmps - vals.toArray.size) undef, defers := [] } w := by
      refine ⟨by simp [hlen], fun x e he => ?_, hr, hfree, rfl⟩
      simp only [nth_append, List.length_map] at he
      split at he
      · rename_i hx
        rw [nth_eq, List.getElem?_map, Option.map_eq_some_iff] at he
        obtain ⟨s, hs, rfl⟩ := he
        obtain ⟨y, h1, h2⟩ := relL_nth hv (by rw [nth_eq]; exact hs)
        refine ⟨y, ?_, h2⟩
        rw [Array.getElem?_append_left (by simp; omega)]; simpa using h1
      · rename_i hx
        rw [nth_eq, List.getElem?_replicate] at he
        split at he <;> simp only [Option.some.injEq, reduceCtorEq] at he
        rename_i hx2; subst he
        refine ⟨undef, ?_, by simp [undefS, SV.rel, undef, relL_nil]⟩
        rw [Array.getElem?_append_right (by simp; omega), Array.getElem?_replicate, if_pos (by simp; omega)]
    refine symCode_sound hE hcall fuel c hrel (T.Holds.mono ?_ (T.Holds.bind hK))
    rintro ⟨e, st1⟩ hr1 β1 a1 w1 he1 hrel1
    have fin : (match resultS E.P st1 fn.results.toList with | some vs => T.ret (resultV vs, st1.heap) | none => .fail : T (SV × SHeap)).Holds (fun r => ∀ β' w' val, Ext β H w β' r.2 w' → HR β' (hpOf r.2) w' → (∀ l, r.2.length ≤ l → β' l = none) → SV.rel β' r.1 val → R (.returned val) w') →
        a1.defers = [] ∧ ∃ v, (results fn a1.tmps).run E.P w1 = .ok v w1 ∧ R (.returned v) w1 := by
      intro hh
      split at hh
      · rename_i vs' hvs
        obtain ⟨v, h1, h2⟩ := results_sound hrel1 hvs
        exact ⟨hrel1.defers, v, h1, hh β1 w1 v he1 hrel1.hr hrel1.free h2⟩
      · exact hh.elim
    cases e with
    | normal => exact fin hr1
    | ret => exact fin hr1
    | exit id => exact hr1.elim
    | goto l => exact hr1.elim
  · exact hK.elim
mutual
theorem mergeV_flat {c : Bool} : ∀ (x y : SV) {z : SV}, mergeV c x y = some z → x.flat = true → y.flat = true → z.flat = true
  | .int k a, y, z, h, _, _ => by
    cases y <;> simp only [mergeV, reduceCtorEq] at h
    split at h <;> simp only [Option.some.injEq, reduceCtorEq] at h
    subst h; rfl
  | .bool a, y, z, h, _, _ => by
    cases y <;> simp only [mergeV, reduceCtorEq, Option.some.injEq] at h
    subst h; rfl
  | .agg xs, y, z, h, h1, h2 => by
    cases y <;> simp only [mergeV, reduceCtorEq] at h
    split at h <;> simp only [Option.some.injEq, reduceCtorEq] at h
    rename_i hz; subst h
    simp only [SV.flat] at h1 h2 ⊢; exact mergeVL_flat xs _ hz h1 h2
  | .tuple xs, y, z, h, h1, h2 => by
    cases y <;> simp only [mergeV, reduceCtorEq] at h
    split at h <;> simp only [Option.some.injEq, reduceCtorEq] at h
    rename_i hz; subst h
    simp only [SV.flat] at h1 h2 ⊢; exact mergeVL_flat xs _ hz h1 h2
  | .ptr _ _, _, _, h, _, _ => by simp [mergeV] at h
  | .nilp, _, _, h, _, _ => by simp [mergeV] at h
  | .slice _ _ _ _, _, _, h, _, _ => by simp [mergeV] at h
  | .own _ _ _, _, _, h, _, _ => by simp [mergeV] at h
  | .func _ _ _, _, _, h, _, _ => by simp [mergeV] at h
  | .raw _, _, _, h, _, _ => by simp [mergeV] at h
theorem mergeVL_flat {c : Bool} : ∀ (x y : List SV) {z : List SV}, mergeVL c x y = some z → flatL x = true → flatL y = true → flatL z = true
  | [], y, z, h, _, _ => by
    cases y <;> simp only [mergeVL, reduceCtorEq, Option.some.injEq] at h
    subst h; rfl
  | x :: xs, y, z, h, h1, h2 => by
    cases y <;> simp only [mergeVL, reduceCtorEq] at h
    split at h <;> simp only [Option.some.injEq, reduceCtorEq] at h
    rename_i h3 h4; subst h
    simp only [flatL, Bool.and_eq_true] at h1 h2 ⊢
    exact ⟨mergeV_flat x _ h3 h1.1 h2.1, mergeVL_flat xs _ h4 h1.2 h2.2⟩
end
theorem mergeI_val (c : Bool) (a b : SI) : (mergeI c a b).val = bif c then a.val else b.val := by
  unfold mergeI
  split
  · rename_i x y
    split
    · rename_i e; subst e; cases c <;> rfl
    · rfl
  · rfl
mutual
theorem mergeV_sound {β : Lab} {c : Bool} : ∀ (x y : SV) {z : SV} {v : Value}, mergeV c x y = some z → (c = true → SV.rel β x v) → (c = false → SV.rel β y v) → SV.rel β z v ∧ (x.flat = true → y.flat = true → z.flat = true)
  | .int k a, y, z, v, h, hx, hy => by
    cases y <;> simp only [mergeV, reduceCtorEq] at h
    rename_i k' b
    split at h <;> simp only [Option.some.injEq, reduceCtorEq] at h
    rename_i hk; subst hk; subst h
    refine ⟨?_, fun _ _ => rfl⟩
    simp only [SV.rel, mergeI_val]
    cases c
    · simpa [SV.rel] using hy rfl
    · simpa [SV.rel] using hx rfl
  | .bool a, y, z, v, h, hx, hy => by
    cases y <;> simp only [mergeV, reduceCtorEq, Option.some.injEq] at h
    subst h
    refine ⟨?_, fun _ _ => rfl⟩
    simp only [SV.rel, mergeB_val]
    cases c
    · simpa [SV.rel] using hy rfl
    · simpa [SV.rel] using hx rfl
  | .agg xs, y, z, v, h, hx, hy => by
    cases y <;> simp only [mergeV, reduceCtorEq] at h
    rename_i ys
    split at h <;> simp only [Option.some.injEq, reduceCtorEq] at h
    rename_i zs hz; subst h
    have hv : ∃ l, v = .agg l := by
      cases c
      · have := hy rfl; simp only [SV.rel] at this; obtain ⟨l, _, e⟩ := this; exact ⟨_, e⟩
      · have := hx rfl; simp only [SV.rel] at this; obtain ⟨l, _, e⟩ := this; exact ⟨_, e⟩
    obtain ⟨l, rfl⟩ := hv
    have := mergeVL_sound xs ys (l := l.toList) hz (fun e => by have := hx e; simp only [SV.rel] at this; obtain ⟨l', h1, e'⟩ := this; cases e'; exact h1) (fun e => by have := hy e; simp only [SV.rel] at this; obtain ⟨l', h1, e'⟩ := this; cases e'; exact h1)
    exact ⟨by simp only [SV.rel]; exact ⟨l.toList, this.1, by simp⟩, fun h1 h2 => by simp only [SV.flat] at h1 h2 ⊢; exact this.2 h1 h2⟩
  | .tuple xs, y, z, v, h, hx, hy => by
    cases y <;> simp only [mergeV, reduceCtorEq] at h
    rename_i ys
    split at h <;> simp only [Option.some.injEq, reduceCtorEq] at h
    rename_i zs hz; subst h
    have hv : ∃ l, v = .tuple l := by
      cases c
      · have := hy rfl; simp only [SV.rel] at this; obtain ⟨l, _, e⟩ := this; exact ⟨_, e⟩
      · have := hx rfl; simp only [SV.rel] at this; obtain ⟨l, _, e⟩ := this; exact ⟨_, e⟩
    obtain ⟨l, rfl⟩ := hv
    have := mergeVL_sound xs ys (l := l.toList) hz (fun e => by have := hx e; simp only [SV.rel] at this; obtain ⟨l', h1, e'⟩ := this; cases e'; exact h1) (fun e => by have := hy e; simp only [SV.rel] at this; obtain ⟨l', h1, e'⟩ := this; cases e'; exact h1)
    exact ⟨by simp only [SV.rel]; exact ⟨l.toList, this.1, by simp⟩, fun h1 h2 => by simp only [SV.flat] at h1 h2 ⊢; exact this.2 h1 h2⟩
  | .ptr _ _, _, _, _, h, _, _ => by simp [mergeV] at h
  | .nilp, _, _, _, h, _, _ => by simp [mergeV] at h
  | .slice _ _ _ _, _, _, _, h, _, _ => by simp [mergeV] at h
  | .own _ _ _, _, _, _, h, _, _ => by simp [mergeV] at h
  | .func _ _ _, _, _, _, h, _, _ => by simp [mergeV] at h
  | .raw _, _, _, _, h, _, _ => by simp [mergeV] at h
theorem mergeVL_sound {β : Lab} {c : Bool} : ∀ (x y : List SV) {z : List SV} {l : List Value}, mergeVL c x y = some z → (c = true → relL β x l) → (c = false → relL β y l) → relL β z l ∧ (flatL x = true → flatL y = true → flatL z = true)
  | [], y, z, l, h, hx, hy => by
    cases y <;> simp only [mergeVL, reduceCtorEq, Option.some.injEq] at h
    subst h
    refine ⟨?_, fun _ _ => rfl⟩
    cases c
    · exact hy rfl
    · exact hx rfl
  | x :: xs, y, z, l, h, hx, hy => by
    cases y <;> simp only [mergeVL, reduceCtorEq] at h
    rename_i y ys
    split at h <;> simp only [Option.some.injEq, reduceCtorEq] at h
    rename_i z1 zs h1 h2; subst h
    have hl : ∃ v vs, l = v :: vs := by
      cases c
      · have := hy rfl; rw [relL_cons] at this; obtain ⟨v, vs, _, _, e⟩ := this; exact ⟨v, vs, e⟩
      · have := hx rfl; rw [relL_cons] at this; obtain ⟨v, vs, _, _, e⟩ := this; exact ⟨v, vs, e⟩
    obtain ⟨v, vs, rfl⟩ := hl
    have a := mergeV_sound x y (v := v) h1 (fun e => (relL_cons'.1 (hx e)).1) (fun e => (relL_cons'.1 (hy e)).1)
    have b := mergeVL_sound xs ys (l := vs) h2 (fun e => (relL_cons'.1 (hx e)).2) (fun e => (relL_cons'.1 (hy e)).2)
    refine ⟨relL_cons'.2 ⟨a.1, b.1⟩, fun h3 h4 => ?_⟩
    simp only [flatL, Bool.and_eq_true] at h3 h4 ⊢
    exact ⟨a.2 h3.1 h4.1, b.2 h3.2 h4.2⟩
end
theorem hpOf_nil (l : Nat) : hpOf [] l = none := by simp [hpOf, nth]
theorem hpOf_zero (H : SHeap) : hpOf H 0 = getO H := by cases H <;> rfl
theorem hpOf_succ (H : SHeap) (l : Nat) : hpOf H (l + 1) = hpOf (restO H) l := by cases H <;> simp [hpOf, nth, restO]
theorem trimH_at : ∀ (H0 H : SHeap) (l : Nat), l < H0.length → hpOf (trimH H0 H) l = trimE (hpOf H0 l) (hpOf H l)
  | [], _, _, h => by simp at h
  | o :: H0, H, 0, _ => by rw [hpOf_zero, hpOf_zero, hpOf_zero]; rfl
  | o :: H0, H, l + 1, h => by
    rw [hpOf_succ, hpOf_succ, hpOf_succ]; exact trimH_at H0 (restO H) l (by simpa using h)
theorem trimH_len : ∀ (H0 H : SHeap), (trimH H0 H).length = H0.length
  | [], _ => rfl
  | _ :: H0, H => by simp [trimH, trimH_len H0 (restO H)]
theorem mergeH_at (c : Bool) : ∀ (H0 H1 H2 : SHeap) (l : Nat), l < H0.length → hpOf (mergeH c H0 H1 H2) l = mergeE c (hpOf H0 l) (hpOf H1 l) (hpOf H2 l)
  | [], _, _, _, h => by simp at h
  | o :: H0, H1, H2, 0, _ => by rw [hpOf_zero, hpOf_zero, hpOf_zero, hpOf_zero]; rfl
  | o :: H0, H1, H2, l + 1, h => by
    rw [hpOf_succ, hpOf_succ, hpOf_succ, hpOf_succ]; exact mergeH_at c H0 (restO H1) (restO H2) l (by simpa using h)
theorem mergeH_len (c : Bool) : ∀ (H0 H1 H2 : SHeap), (mergeH c H0 H1 H2).length = H0.length
  | [], _, _ => rfl
  | _ :: H0, H1, H2 => by simp [mergeH, mergeH_len c H0 (restO H1) (restO H2)]
/-- what stood under β and stands under β' stands under β' cut -/
theorem rel_dom {β β' β'' : Lab} (h : ∀ l b0 b, β l = some b0 → β' l = some b → β'' l = some b) : ∀ (s : SV) (v0 v : Value), SV.rel β s v0 → SV.rel β' s v → SV.rel β'' s v := by
  intro s
  refine SV.rec (motive_1 := fun s => ∀ v0 v, SV.rel β s v0 → SV.rel β' s v → SV.rel β'' s v) (motive_2 := fun l => ∀ v0 v, relL β l v0 → relL β' l v → relL β'' l v) ?_ ?_ ?_ ?_ ?_ ?_ ?_ ?_ ?_ ?_ ?_ ?_ s
  · intro k n v0 v h0 h1; simpa [SV.rel] using h1
  · intro b v0 v h0 h1; simpa [SV.rel] using h1
  · intro l off v0 v h0 h1; simp only [SV.rel] at *; obtain ⟨b0, h2, _⟩ := h0; obtain ⟨b, h3, e⟩ := h1; exact ⟨b, h _ _ _ h2 h3, e⟩
  · intro v0 v h0 h1; simpa [SV.rel] using h1
  · intro l off len cap v0 v h0 h1; simp only [SV.rel] at *; obtain ⟨b0, h2, _⟩ := h0; obtain ⟨b, h3, e⟩ := h1; exact ⟨b, h _ _ _ h2 h3, e⟩
  · intro l lc len v0 v h0 h1; simp only [SV.rel] at *; obtain ⟨b0, c0, h2, h4, _⟩ := h0; obtain ⟨b, c, h3, h5, e⟩ := h1; exact ⟨b, c, h _ _ _ h2 h3, h _ _ _ h4 h5, e⟩
  · intro f a c iha ihc v0 v h0 h1; simp only [SV.rel] at *; obtain ⟨x0, y0, h2, h3, _⟩ := h0; obtain ⟨x, y, h4, h5, e⟩ := h1; exact ⟨x, y, iha _ _ h2 h4, ihc _ _ h3 h5, e⟩
  · intro cs ih v0 v h0 h1; simp only [SV.rel] at *; obtain ⟨x0, h2, _⟩ := h0; obtain ⟨x, h3, e⟩ := h1; exact ⟨x, ih _ _ h2 h3, e⟩
  · intro cs ih v0 v h0 h1; simp only [SV.rel] at *; obtain ⟨x0, h2, _⟩ := h0; obtain ⟨x, h3, e⟩ := h1; exact ⟨x, ih _ _ h2 h3, e⟩
  · intro r v0 v h0 h1; simpa [SV.rel] using h1
  · intro v0 v h0 h1; simpa [relL] using h1
  · intro c cs ih ihs v0 v h0 h1
    rw [relL_cons] at *
    obtain ⟨x0, xs0, h2, h3, _⟩ := h0; obtain ⟨x, xs, h4, h5, e⟩ := h1
    exact ⟨x, xs, ih _ _ h2 h4, ihs _ _ h3 h5, e⟩
theorem relL_dom {β β' β'' : Lab} (h : ∀ l b0 b, β l = some b0 → β' l = some b → β'' l = some b) : ∀ (s : List SV) (v0 v : List Value), relL β s v0 → relL β' s v → relL β'' s v
  | [], _, _, _, h1 => by simpa [relL] using h1
  | c :: cs, v0, v, h0, h1 => by
    rw [relL_cons] at *
    obtain ⟨x0, xs0, h2, h3, _⟩ := h0; obtain ⟨x, xs, h4, h5, e⟩ := h1
    exact ⟨x, xs, rel_dom h _ _ _ h2 h4, relL_dom h _ _ _ h3 h5, e⟩
/-- a leaf's word to another one that knows no more of what lay at the call's begin, and nothing else -/
theorem leaf_weak {β : Lab} {H0 H1 H2 : SHeap} {w : World} (hfree : ∀ l, H0.length ≤ l → β l = none) (hr : HR β (hpOf H0) w) {β' : Lab} {w' : World} (he : Ext β H0 w β' H1 w') (hhr : HR β' (hpOf H1) w')
    (hlen : H2.length = H0.length)
    (hob : ∀ l, l < H0.length → ∀ o2, hpOf H2 l = some o2 → ∃ o0 o1, hpOf H0 l = some o0 ∧ hpOf H1 l = some o1 ∧ ((o2 = o0 ∧ o1 = o0) ∨ (o0.2.stamp < o2.2.stamp ∧ o2.2.own = none ∧ o1.2.own = none ∧ o1.2.ty = o2.2.ty ∧ flatL o2.1 = true ∧ ∀ vs, relL β' o1.1 vs → relL β' o2.1 vs))) :
    Ext β H0 w (Lab.cut β' H0.length) H2 w' ∧ HR (Lab.cut β' H0.length) (hpOf H2) w' ∧ ∀ l, H2.length ≤ l → (Lab.cut β' H0.length) l = none := by
  have lt0 : ∀ {l b}, β l = some b → l < H0.length := fun {l b} hb => by
    rcases Nat.lt_or_ge l H0.length with h | h
    · exact h
    · rw [hfree l h] at hb; simp at hb
  have hcut : ∀ {l b}, (Lab.cut β' H0.length) l = some b → l < H0.length ∧ β' l = some b := fun {l b} hb => by
    rw [Lab.cut_blk] at hb; split at hb
    · rename_i h; exact ⟨h, hb⟩
    · simp at hb
  have hdom : ∀ l b0 b, β l = some b0 → β' l = some b → (Lab.cut β' H0.length) l = some b := fun l b0 b h1 h2 => by
    rw [Lab.cut_blk, if_pos (lt0 h1)]; exact h2
  have hnone : ∀ l, H0.length ≤ l → hpOf H2 l = none := fun l hl => by
    cases h : hpOf H2 l with
    | none => rfl
    | some o => have := hpOf_lt h; omega
  refine ⟨⟨fun l b hb => hdom l b b hb (he.ext l b hb), fun l b hb => ?_, by omega, fun l o hl ho => ?_, fun b hb hn => ?_, he.size, he.os, he.tape, he.output⟩, ⟨fun l o ho => ?_, fun l l' b d1 d2 h1 h2 => ?_, fun l b d1 h1 => ?_⟩, fun l hl => ?_⟩
  · obtain ⟨h1, h2⟩ := hcut hb
    rcases he.new l b h2 with h | ⟨h, _⟩
    · exact .inl h
    · omega
  · obtain ⟨o0, o1, h0, h1, h2 | h2⟩ := hob l hl o ho
    · exact ⟨o0, h0, .inl h2.1.symm⟩
    · exact ⟨o0, h0, .inr h2.1⟩
  · refine he.frame b hb fun l hl => ?_
    have h1 := hn l hl
    cases ho : hpOf H0 l with
    | none =>
      cases ho1 : hpOf H1 l with
      | none => rfl
      | some o1 => obtain ⟨o', ho', _⟩ := he.live l o1 (lt0 hl) ho1; rw [ho] at ho'; simp at ho'
    | some o =>
      rw [ho] at h1
      obtain ⟨o0, o1, k0, k1, k2 | k2⟩ := hob l (lt0 hl) o h1
      · rw [k1, k2.2, ← k0, ho]
      · rw [ho] at k0; simp only [Option.some.injEq] at k0; subst k0; omega
  · have hl : l < H0.length := by
      rcases Nat.lt_or_ge l H0.length with h | h
      · exact h
      · rw [hnone l h] at ho; simp at ho
    obtain ⟨o0, o1, h0, h1, h2⟩ := hob l hl o ho
    obtain ⟨b, vs, rest, a1, a2, a3, a4, a5⟩ := hhr.obj l o1 h1
    obtain ⟨b0, vs0, rest0, c1, c2, c3, c4, c5⟩ := hr.obj l o0 h0
    rcases h2 with ⟨rfl, rfl⟩ | ⟨h2, h3, h3', h4, h5, h6⟩
    · refine ⟨b, vs, rest, hdom _ _ _ c1 a1, relL_dom hdom _ _ _ c2 a2, a3, a4, fun lc sz e => ?_⟩
      obtain ⟨cap, k1, k2⟩ := a5 lc sz e
      obtain ⟨cap0, k3, _⟩ := c5 lc sz e
      exact ⟨cap, hdom _ _ _ k3 k1, k2⟩
    · refine ⟨b, vs, rest, hdom _ _ _ c1 a1, flatL_rel _ _ h5 (h6 _ a2), by rw [← h4]; exact a3, a4, fun lc sz e => by rw [h3] at e; simp at e⟩
  · obtain ⟨k1, k2⟩ := hcut h1; obtain ⟨k3, k4⟩ := hcut h2
    exact hhr.inj l l' b d1 d2 k2 k4
  · obtain ⟨k1, k2⟩ := hcut h1; exact hhr.lt l b d1 k2
  · rw [Lab.cut_blk, if_neg (by omega)]
abbrev LeafK (β : Lab) (H0 : SHeap) (w : World) (R : Ending → World → Prop) (r : SV × SHeap) : Prop :=
  ∀ β' w' val, Ext β H0 w β' r.2 w' → HR β' (hpOf r.2) w' → (∀ l, r.2.length ≤ l → β' l = none) → SV.rel β' r.1 val → R (.returned val) w'
theorem jn_sound {β : Lab} {H0 : SHeap} {w : World} (hfree : ∀ l, H0.length ≤ l → β l = none) (hr : HR β (hpOf H0) w) : ∀ (t : T (SV × SHeap)) {r : SV × SHeap} {R : Ending → World → Prop}, jn H0 t = some r → LeafK β H0 w R r → t.Holds (LeafK β H0 w R) ∧ r.1.flat = true ∧ r.2.length = H0.length
  | .ret r', r, R, h, hk => by
    simp only [jn] at h
    split at h <;> simp only [Option.some.injEq, reduceCtorEq] at h
    rename_i hf; subst h
    refine ⟨fun β' w' val he hhr hfr hv => ?_, hf, trimH_len _ _⟩
    obtain ⟨h1, h2, h3⟩ := leaf_weak hfree hr he hhr (trimH_len H0 r'.2) (fun l hl o2 ho2 => by
      rw [trimH_at H0 r'.2 l hl] at ho2
      unfold trimE at ho2
      split at ho2 <;> (try simp only [reduceCtorEq] at ho2)
      rename_i o0 o h0 h1
      split at ho2
      · rename_i hs
        simp only [Option.some.injEq] at ho2; subst ho2
        obtain ⟨o', ho', hh⟩ := he.live l o hl h1
        rw [h0] at ho'; simp only [Option.some.injEq] at ho'; subst ho'
        refine ⟨o0, o, h0, h1, .inl ⟨rfl, ?_⟩⟩
        rcases hh with rfl | hh
        · rfl
        · have : o.2.stamp = o0.2.stamp := by simpa using hs
          omega
      · split at ho2 <;> simp only [Option.some.injEq, reduceCtorEq] at ho2
        rename_i hc; subst ho2
        simp only [Bool.and_eq_true, Option.isNone_iff_eq_none, Nat.blt_eq] at hc
        exact ⟨o0, o, h0, h1, .inr ⟨hc.2, hc.1.2, hc.1.2, rfl, hc.1.1, fun _ h => h⟩⟩)
    exact hk _ w' val h1 h2 h3 (flat_rel _ _ hf hv)
  | .ite b x y, r, R, h, hk => by
    simp only [jn] at h
    split at h <;> (try simp only [reduceCtorEq] at h)
    rename_i r1 r2 hx hy
    split at h <;> simp only [Option.some.injEq, reduceCtorEq] at h
    rename_i v hv; subst h
    have hf1 := (jn_sound hfree hr x (R := fun _ _ => True) hx (fun _ _ _ _ _ _ _ => trivial)).2
    have hf2 := (jn_sound hfree hr y (R := fun _ _ => True) hy (fun _ _ _ _ _ _ _ => trivial)).2
    have hflat : v.flat = true := by
      exact mergeV_flat r1.1 r2.1 hv hf1.1 hf2.1
    have hcom : ∀ (rr : SV × SHeap), (rr = r1 ∧ b = true ∨ rr = r2 ∧ b = false) → rr.1.flat = true → rr.2.length = H0.length → LeafK β H0 w R rr := by
      intro rr hrr hfl hln β' w' val he hhr hfr hvv
      obtain ⟨h1, h2, h3⟩ := leaf_weak (H2 := mergeH b H0 r1.2 r2.2) hfree hr he hhr (mergeH_len _ _ _ _) (fun l hl o2 ho2 => by
        rw [mergeH_at b H0 _ _ l hl] at ho2
        unfold mergeE at ho2
        split at ho2 <;> (try simp only [reduceCtorEq] at ho2)
        rename_i o0 o1 o1' h0 h1 h1'
        have hrr1 : ∃ o, hpOf rr.2 l = some o ∧ (o = o1 ∧ b = true ∨ o = o1' ∧ b = false) := by
          rcases hrr with ⟨rfl, hb⟩ | ⟨rfl, hb⟩
          · exact ⟨o1, h1, .inl ⟨rfl, hb⟩⟩
          · exact ⟨o1', h1', .inr ⟨rfl, hb⟩⟩
        obtain ⟨o, ho, hoo⟩ := hrr1
        split at ho2
        · rename_i hs
          simp only [Option.some.injEq] at ho2; subst ho2
          obtain ⟨o', ho', hh⟩ := he.live l o hl ho
          rw [h0] at ho'; simp only [Option.some.injEq] at ho'; subst ho'
          refine ⟨o0, o, h0, ho, .inl ⟨rfl, ?_⟩⟩
          rcases hh with rfl | hh
          · rfl
          · simp only [Bool.and_eq_true, Nat.beq_eq] at hs
            rcases hoo with ⟨rfl, _⟩ | ⟨rfl, _⟩ <;> omega
        · split at ho2 <;> (try simp only [reduceCtorEq] at ho2)
          rename_i hc
          split at ho2 <;> simp only [Option.some.injEq, reduceCtorEq] at ho2
          rename_i cs hcs; subst ho2
          simp only [Bool.and_eq_true, Option.isNone_iff_eq_none, Nat.beq_eq] at hc
          obtain ⟨⟨⟨⟨c1, c2⟩, c3⟩, c4⟩, c5⟩ := hc
          refine ⟨o0, o, h0, ho, .inr ⟨by simp only; omega, rfl, by rcases hoo with ⟨rfl, _⟩ | ⟨rfl, _⟩ <;> assumption, by rcases hoo with ⟨rfl, _⟩ | ⟨rfl, _⟩ <;> simp [c5], ?_, fun vs hvs => ?_⟩⟩
          · exact mergeVL_flat _ _ hcs c1 c2
          · refine (mergeVL_sound (c := b) o1.1 o1'.1 hcs (fun e => ?_) (fun e => ?_)).1
            · rcases hoo with ⟨rfl, hb⟩ | ⟨rfl, hb⟩
              · exact hvs
              · rw [hb] at e; simp at e
            · rcases hoo with ⟨rfl, hb⟩ | ⟨rfl, hb⟩
              · rw [hb] at e; simp at e
              · exact hvs)
      refine hk _ w' val h1 h2 h3 (flat_rel (β := β') _ _ hflat (mergeV_sound (c := b) r1.1 r2.1 hv (fun e => ?_) (fun e => ?_)).1)
      · rcases hrr with ⟨rfl, hb⟩ | ⟨rfl, hb⟩
        · exact hvv
        · rw [hb] at e; simp at e
      · rcases hrr with ⟨rfl, hb⟩ | ⟨rfl, hb⟩
        · rw [hb] at e; simp at e
        · exact hvv
    refine ⟨⟨fun e => ?_, fun e => ?_⟩, hflat, mergeH_len _ _ _ _⟩
    · exact (jn_sound hfree hr x hx (hcom r1 (.inl ⟨rfl, e⟩) hf1.1 hf1.2)).1
    · exact (jn_sound hfree hr y hy (hcom r2 (.inr ⟨rfl, e⟩) hf2.1 hf2.2)).1
  | .fail, r, R, h, hk => by simp [jn] at h
theorem joinT_sound {β : Lab} {H0 : SHeap} {w : World} (hfree : ∀ l, H0.length ≤ l → β l = none) (hr : HR β (hpOf H0) w) (t : T (SV × SHeap)) {R : Ending → World → Prop} (h : (joinT H0 t).Holds (LeafK β H0 w R)) : t.Holds (LeafK β H0 w R) := by
  unfold joinT at h
  split at h
  · split at h
    · rename_i r hj
      exact (jn_sound hfree hr _ hj h).1
    · exact h
  · exact h
theorem symCall_sound (hE : E.Ok) : ∀ d, CallOk E.P (symCall E d)
  | 0 => fun _ _ _ _ _ _ _ _ _ _ hK => hK.elim
  | d + 1 => fun f vs H β w vals R hv hr hfree hK => by
    simp only [symCall] at hK
    split at hK
    · rename_i fn hf
      refine symBody_sound (fuel := 2000) hE (symCall_sound hE d) hf hv hr hfree ?_
      cases hj : E.j
      · rw [hj] at hK; exact hK
      · rw [hj] at hK; exact joinT_sound hfree hr _ hK
    · exact hK.elim

/-! ## a function's contract, where its result bears no address -/
mutual
def SV.toV : SV → Value
  | .int k n => .int k n.val
  | .bool b => .bool b.val
  | .agg cs => .agg (toVL cs).toArray
  | .tuple cs => .tuple (toVL cs).toArray
  | _ => undef
def toVL : List SV → List Value
  | [] => []
  | c :: cs => c.toV :: toVL cs
end
mutual
theorem flat_toV {β : Lab} : ∀ (s : SV) (v : Value), s.flat = true → SV.rel β s v → v = s.toV
  | .int _ _, _, _, h => by simp only [SV.rel] at h; simp [SV.toV, h.1]
  | .bool _, _, _, h => by simpa [SV.rel, SV.toV] using h
  | .agg cs, _, hf, h => by
    simp only [SV.flat] at hf; simp only [SV.rel] at h; obtain ⟨x, h1, h2⟩ := h; rw [h2, SV.toV, flatL_toV cs x hf h1]
  | .tuple cs, _, hf, h => by
    simp only [SV.flat] at hf; simp only [SV.rel] at h; obtain ⟨x, h1, h2⟩ := h; rw [h2, SV.toV, flatL_toV cs x hf h1]
  | .ptr _ _, _, hf, _ => by simp [SV.flat] at hf
  | .nilp, _, hf, _ => by simp [SV.flat] at hf
  | .slice _ _ _ _, _, hf, _ => by simp [SV.flat] at hf
  | .own _ _ _, _, hf, _ => by simp [SV.flat] at hf
  | .func _ _ _, _, hf, _ => by simp [SV.flat] at hf
  | .raw _, _, hf, _ => by simp [SV.flat] at hf
theorem flatL_toV {β : Lab} : ∀ (s : List SV) (v : List Value), flatL s = true → relL β s v → v = toVL s
  | [], _, _, h => by rw [relL_nil] at h; rw [h, toVL]
  | c :: cs, _, hf, h => by
    simp only [flatL, Bool.and_eq_true] at hf
    rw [relL_cons] at h; obtain ⟨v, vs, h1, h2, h3⟩ := h
    rw [h3, toVL, flat_toV c v hf.1 h1, flatL_toV cs vs hf.2 h2]
end
/-- all leaves are there, and bear no address -/
def T.okFlat : T (SV × SHeap) → Bool
  | .ret r => r.1.flat
  | .ite _ x y => x.okFlat && y.okFlat
  | .fail => false
def T.out : T (SV × SHeap) → Value
  | .ret r => r.1.toV
  | .ite b x y => bif b then x.out else y.out
  | .fail => undef
theorem T.out_holds {K : Value → Prop} : ∀ (t : T (SV × SHeap)), t.okFlat = true → K t.out → t.Holds (fun r => r.1.flat = true ∧ K r.1.toV)
  | .ret _, h, hk => ⟨h, hk⟩
  | .ite b x y, h, hk => by
    simp only [T.okFlat, Bool.and_eq_true] at h
    refine ⟨fun e => ?_, fun e => ?_⟩
    · subst e; exact T.out_holds x h.1 (by simpa [T.out] using hk)
    · subst e; exact T.out_holds y h.2 (by simpa [T.out] using hk)
  | .fail, h, _ => by simp [T.okFlat] at h
mutual
/-- every number of it lies within its kind -/
def SV.inR : SV → Prop
  | .int k n => Rg k n.val
  | .agg cs => inRL cs
  | .tuple cs => inRL cs
  | _ => True
def inRL : List SV → Prop
  | [] => True
  | c :: cs => c.inR ∧ inRL cs
end
mutual
theorem rel_inR {β : Lab} : ∀ (s : SV) (v : Value), SV.rel β s v → s.inR
  | .int _ _, _, h => by simp only [SV.rel] at h; exact h.2
  | .bool _, _, _ => trivial
  | .agg cs, _, h => by simp only [SV.rel] at h; obtain ⟨x, h1, _⟩ := h; simp only [SV.inR]; exact relL_inR cs x h1
  | .tuple cs, _, h => by simp only [SV.rel] at h; obtain ⟨x, h1, _⟩ := h; simp only [SV.inR]; exact relL_inR cs x h1
  | .ptr _ _, _, _ => trivial
  | .nilp, _, _ => trivial
  | .slice _ _ _ _, _, _ => trivial
  | .own _ _ _, _, _ => trivial
  | .func _ _ _, _, _ => trivial
  | .raw _, _, _ => trivial
theorem relL_inR {β : Lab} : ∀ (s : List SV) (v : List Value), relL β s v → inRL s
  | [], _, _ => trivial
  | c :: cs, _, h => by
    rw [relL_cons] at h; obtain ⟨v, vs, h1, h2, _⟩ := h
    exact ⟨rel_inR c v h1, relL_inR cs vs h2⟩
end
mutual
theorem toV_rel {β : Lab} : ∀ (s : SV), s.flat = true → s.inR → SV.rel β s s.toV
  | .int _ _, _, h => by simp only [SV.rel, SV.toV]; exact ⟨trivial, h⟩
  | .bool _, _, _ => by simp [SV.rel, SV.toV]
  | .agg cs, h, hi => by simp only [SV.flat] at h; simp only [SV.rel, SV.toV]; exact ⟨_, toVL_rel cs h hi, rfl⟩
  | .tuple cs, h, hi => by simp only [SV.flat] at h; simp only [SV.rel, SV.toV]; exact ⟨_, toVL_rel cs h hi, rfl⟩
  | .ptr _ _, h, _ => by simp [SV.flat] at h
  | .nilp, h, _ => by simp [SV.flat] at h
  | .slice _ _ _ _, h, _ => by simp [SV.flat] at h
  | .own _ _ _, h, _ => by simp [SV.flat] at h
  | .func _ _ _, h, _ => by simp [SV.flat] at h
  | .raw _, h, _ => by simp [SV.flat] at h
theorem toVL_rel {β : Lab} : ∀ (s : List SV), flatL s = true → inRL s → relL β s (toVL s)
  | [], _, _ => relL_nil.2 rfl
  | c :: cs, h, hi => by
    simp only [flatL, Bool.and_eq_true] at h
    rw [toVL, relL_cons']; exact ⟨toV_rel c h.1 hi.1, toVL_rel cs h.2 hi.2⟩
end
mutual
/-- two of one value lie within their kinds alike -/
theorem inR_of_toV : ∀ (s t : SV), s.flat = true → t.flat = true → s.toV = t.toV → s.inR → t.inR
  | s, .int k n, hs, _, h, hi => by
    cases s <;> simp only [SV.toV, Value.int.injEq, reduceCtorEq] at h
    all_goals first | (simp [SV.flat] at hs; done) | skip
    obtain ⟨rfl, h⟩ := h
    simp only [SV.inR] at hi ⊢; rw [← h]; exact hi
  | _, .bool _, _, _, _, _ => trivial
  | s, .agg cs, hs, ht, h, hi => by
    cases s <;> simp only [SV.toV, Value.agg.injEq, reduceCtorEq] at h
    all_goals first | (simp [SV.flat] at hs; done) | skip
    simp only [SV.flat] at hs ht
    exact inRL_of_toV _ cs hs ht (by simpa using h) hi
  | s, .tuple cs, hs, ht, h, hi => by
    cases s <;> simp only [SV.toV, Value.tuple.injEq, reduceCtorEq] at h
    all_goals first | (simp [SV.flat] at hs; done) | skip
    simp only [SV.flat] at hs ht
    exact inRL_of_toV _ cs hs ht (by simpa using h) hi
  | _, .ptr _ _, _, _, _, _ => trivial
  | _, .nilp, _, _, _, _ => trivial
  | _, .slice _ _ _ _, _, _, _, _ => trivial
  | _, .own _ _ _, _, _, _, _ => trivial
  | _, .func _ _ _, _, _, _, _ => trivial
  | _, .raw _, _, _, _, _ => trivial
theorem inRL_of_toV : ∀ (s t : List SV), flatL s = true → flatL t = true → toVL s = toVL t → inRL s → inRL t
  | _, [], _, _, _, _ => trivial
  | [], _ :: _, _, _, h, _ => by simp [toVL] at h
  | s :: ss, t :: ts, hs, ht, h, hi => by
    simp only [flatL, Bool.and_eq_true] at hs ht
    simp only [toVL, List.cons.injEq] at h
    exact ⟨inR_of_toV s t hs.1 ht.1 h.1 hi.1, inRL_of_toV ss ts hs.2 ht.2 h.2 hi.2⟩
end
theorem sx_calls (hE : E.Ok) (d : Nat) (f : FuncId) (vs : List SV) (vals : List Value) (hv : relL noLab vs vals) {r : SV} (hflat : (symCall E d f vs []).okFlat = true) (hr : r.flat = true) (hout : (symCall E d f vs []).out = r.toV) (w : World) :
    Calls E.P f vals.toArray w fun e w' => (∃ v, e = .returned v ∧ SV.rel noLab r v) ∧ Below w.heap.size w w' := by
  refine symCall_sound hE d f vs [] noLab w vals _ hv ⟨fun l o h => by simp [hpOf, nth] at h, fun l l' b _ _ h => by simp [noLab] at h, fun l b _ h => by simp [noLab] at h⟩ (fun _ _ => rfl) ?_
  have := T.out_holds (K := fun v => v = r.toV) _ hflat hout
  refine T.Holds.mono ?_ this
  rintro ⟨v, H⟩ ⟨h1, h2⟩ β' w' val he _ _ hrel
  refine ⟨⟨val, rfl, ?_⟩, he.below (fun _ => rfl)⟩
  rw [flat_toV v val h1 hrel, h2]
  exact toV_rel r hr (inR_of_toV v r h1 hr h2 (rel_inR v val hrel))
end

/-! ## from a contract to a summary -/
mutual
def SV.symify : SV → SV
  | .int k n => .int k (.sym n.val)
  | .bool b => .bool (.sym b.val)
  | .agg cs => .agg (symifyL cs)
  | .tuple cs => .tuple (symifyL cs)
  | s => s
def symifyL : List SV → List SV
  | [] => []
  | c :: cs => c.symify :: symifyL cs
end
mutual
theorem symify_rel {β : Lab} : ∀ (s : SV) (v : Value), SV.rel β s v → SV.rel β s.symify v
  | .int _ _, _, h => by simp only [SV.rel, SV.symify] at h ⊢; exact h
  | .bool _, _, h => by simpa [SV.rel, SV.symify, SB.val] using h
  | .agg cs, _, h => by simp only [SV.rel, SV.symify] at h ⊢; obtain ⟨x, h1, h2⟩ := h; exact ⟨x, symifyL_rel cs x h1, h2⟩
  | .tuple cs, _, h => by simp only [SV.rel, SV.symify] at h ⊢; obtain ⟨x, h1, h2⟩ := h; exact ⟨x, symifyL_rel cs x h1, h2⟩
  | .ptr _ _, _, h => h
  | .nilp, _, h => h
  | .slice _ _ _ _, _, h => h
  | .own _ _ _, _, h => h
  | .func _ _ _, _, h => h
  | .raw _, _, h => h
theorem symifyL_rel {β : Lab} : ∀ (s : List SV) (v : List Value), relL β s v → relL β (symifyL s) v
  | [], _, h => by simpa [symifyL] using h
  | c :: cs, _, h => by
    simp only [symifyL]
    rw [relL_cons] at h ⊢; obtain ⟨v, vs, h1, h2, h3⟩ := h
    exact ⟨v, vs, symify_rel c v h1, symifyL_rel cs vs h2, h3⟩
end
theorem SArels_v {w : World} : ∀ {xs : List SV} {vs : List Value}, SArels w (xs.map SA.v) vs → relL noLab xs vs
  | [], _, h => relL_nil.2 h
  | x :: xs, _, h => by
    simp only [List.map_cons, SArels, SArel] at h; obtain ⟨v, vs, h1, h2, h3⟩ := h
    rw [relL_cons]; exact ⟨v, vs, h1, SArels_v h2, h3⟩
def okEnter (P : Program) (f : Nat) : Bool := match P.funcs[f]? with
  | some fn => !(fn.name == "runtime.NumGoroutine") && fn.body.isSome
  | none => false
theorem envOk {P : Program} {lo hi : Nat} (hent : (List.range' lo (hi - lo)).all (okEnter P) = true) (hf : P.follows .mixedOrders = true) {S : Summs} {j : Bool} {HS : HSumms} {US : USumms} {NS : NSumms} (hS : SummsOk P S) (hH : HSummsOk P HS) (hU : USummsOk P US) (hN : NSummsOk P NS) : (Env.mk P S lo hi j HS US NS).Ok := by
  refine ⟨hS, hH, hU, hN, fun f h1 h2 => ?_, hf⟩
  rw [List.all_eq_true] at hent
  have := hent f (by simp only [List.mem_range']; exact ⟨f - lo, by simp only at h1 h2; omega, by simp only at h1 h2; omega⟩)
  unfold okEnter at this
  split at this
  · rename_i fn hfn
    simp only [Bool.and_eq_true, Bool.not_eq_true', Option.isSome_iff_exists] at this
    obtain ⟨h3, c, h4⟩ := this
    exact enters_of hfn h3 h4
  · simp at this
theorem cond_out {α : Type} (g : α → SV) {c : Bool} {x y : α} {vx vy : Value} (hx : vx = (g x).toV) (hy : vy = (g y).toV) : (bif c then vx else vy) = (g (bif c then x else y)).toV := by
  cases c
  · exact hy
  · exact hx
/-! ## what a call hands back, where it bears no address and nothing known was written -/
def oneVal (E : Env) (d : Nat) (f : FuncId) (args : List SV) (H : SHeap) : Option SV := match joinT H (symCall E d f args H) with
  | .ret (v, H') => if v.flat && sameH H H' then some v else none
  | _ => none
theorem oneVal_sound {E : Env} (hE : E.Ok) {d : Nat} {f : FuncId} {args : List SV} {H : SHeap} {v : SV} (h : oneVal E d f args H = some v) {β : Lab} {w : World} {vals : List Value} (hv : relL β args vals) (hr : HR β (hpOf H) w) (hfree : ∀ l, H.length ≤ l → β l = none) :
    v.flat = true ∧ Calls E.P f vals.toArray w fun e w' => (∃ x, e = .returned x ∧ SV.rel noLab v x) ∧ Below w.heap.size w w' := by
  unfold oneVal at h
  split at h <;> (try simp only [reduceCtorEq] at h)
  rename_i v' H' hj
  split at h <;> simp only [Option.some.injEq, reduceCtorEq] at h
  rename_i hc; subst h
  simp only [Bool.and_eq_true] at hc
  have hT : (joinT H (symCall E d f args H)).Holds (LeafK β H w fun e w' => (∃ x, e = .returned x ∧ SV.rel noLab v' x) ∧ Below w.heap.size w w') := by
    rw [hj]
    intro β' w' val he _ _ hrel
    exact ⟨⟨val, rfl, flat_rel _ _ hc.1 hrel⟩, he.below_same hfree hc.2⟩
  exact ⟨hc.1, symCall_sound hE d f args H β w vals _ hv hr hfree (joinT_sound hfree hr _ hT)⟩
/-- a function's values at 0, 1, .. -/
def eachVals (E : Env) (d : Nat) (f : FuncId) (first cap : List SV) (H : SHeap) : Nat → Nat → Option (List SV)
  | 0, _ => some []
  | n + 1, i => match oneVal E d f (first ++ [.int .i64 (.lit i)] ++ cap) H, eachVals E d f first cap H n (i + 1) with
    | some v, some l => some (v :: l)
    | _, _ => none
theorem eachVals_at {E : Env} {d : Nat} {f : FuncId} {first cap : List SV} {H : SHeap} : ∀ {n i : Nat} {l : List SV}, eachVals E d f first cap H n i = some l → l.length = n ∧ ∀ k, k < n → ∃ v, l[k]? = some v ∧ oneVal E d f (first ++ [.int .i64 (.lit (i + k : Nat))] ++ cap) H = some v
  | 0, i, l, h => by simp only [eachVals, Option.some.injEq] at h; subst h; exact ⟨rfl, fun k hk => by omega⟩
  | n + 1, i, l, h => by
    simp only [eachVals] at h
    split at h <;> simp only [Option.some.injEq, reduceCtorEq] at h
    rename_i v l' h1 h2; subst h
    obtain ⟨h3, h4⟩ := eachVals_at h2
    refine ⟨by simp [h3], fun k hk => ?_⟩
    cases k with
    | zero => exact ⟨v, rfl, h1⟩
    | succ k =>
      obtain ⟨v', h5, h6⟩ := h4 k (by omega)
      refine ⟨v', h5, ?_⟩
      rw [show i + (k + 1) = i + 1 + k by omega]; exact h6
theorem HR.below {β : Lab} {hp : HP} {w w' : World} (h : HR β hp w) (hb : Below w.heap.size w w') : HR β hp w' := by
  refine ⟨fun l o ho => ?_, h.inj, fun l b d hl => Nat.lt_of_lt_of_le (h.lt l b d hl) hb.size⟩
  obtain ⟨b, vs, rest, h1, h2, h3, h4, h5⟩ := h.obj l o ho
  exact ⟨b, vs, rest, h1, h2, by rw [hb.block b (Array.getElem?_eq_some_iff.1 h3).1]; exact h3, h4, h5⟩
/-- what is known of the slots, forgotten but for some -/
def keepE (ks : List Nat) : Nat → List Ent → List Ent
  | _, [] => []
  | i, e :: l => (bif mem i ks then e else .none) :: keepE ks (i + 1) l
theorem keepE_at {ks : List Nat} : ∀ {l : List Ent} {i x : Nat} {e : Ent}, nth (keepE ks i l) x = some e → e = .none ∨ nth l x = some e
  | [], _, _, _, h => by simp [keepE, nth] at h
  | a :: l, i, 0, e, h => by
    simp only [keepE, nth, Option.some.injEq] at h
    cases hm : mem i ks
    · rw [hm] at h; exact .inl h.symm
    · rw [hm] at h; exact .inr (by simpa [nth] using h)
  | a :: l, i, x + 1, e, h => by
    simp only [keepE, nth] at h ⊢; exact keepE_at h
theorem keepE_len (ks : List Nat) : ∀ (i : Nat) (l : List Ent), (keepE ks i l).length = l.length
  | _, [] => rfl
  | i, _ :: l => by simp [keepE, keepE_len ks (i + 1) l]
theorem Rel.keep {β : Lab} {st : St} {a : Act} {w : World} (h : Rel β st a w) (ks : List Nat) : Rel β ⟨keepE ks 0 st.slots, st.heap⟩ a w :=
  ⟨by rw [keepE_len]; exact h.size, fun x e he => by
    rcases keepE_at he with rfl | h1
    · trivial
    · exact h.fact x e h1, h.hr, h.free, h.defers⟩
mutual
/-- are two values that bear labels alike? -/
def sameV : SV → SV → Bool
  | .ptr l o, .ptr l' o' => Nat.beq l l' && Nat.beq o o'
  | .slice l o n c, .slice l' o' n' c' => Nat.beq l l' && Nat.beq o o' && Nat.beq n n' && Nat.beq c c'
  | .own l o n, .own l' o' n' => Nat.beq l l' && Nat.beq o o' && Nat.beq n n'
  | .nilp, .nilp => true
  | .func f a c, .func f' a' c' => Nat.beq f f' && sameVL a a' && sameVL c c'
  | _, _ => false
def sameVL : List SV → List SV → Bool
  | [], [] => true
  | x :: xs, y :: ys => sameV x y && sameVL xs ys
  | _, _ => false
end
mutual
theorem sameV_eq : ∀ (x y : SV), sameV x y = true → x = y
  | .ptr _ _, y, h => by
    cases y <;> simp only [sameV, Bool.false_eq_true, Bool.and_eq_true, Nat.beq_eq] at h
    rw [h.1, h.2]
  | .slice _ _ _ _, y, h => by
    cases y <;> simp only [sameV, Bool.false_eq_true, Bool.and_eq_true, Nat.beq_eq] at h
    rw [h.1.1.1, h.1.1.2, h.1.2, h.2]
  | .own _ _ _, y, h => by
    cases y <;> simp only [sameV, Bool.false_eq_true, Bool.and_eq_true, Nat.beq_eq] at h
    rw [h.1.1, h.1.2, h.2]
  | .nilp, y, h => by cases y <;> simp only [sameV, Bool.false_eq_true] at h; rfl
  | .func f a c, y, h => by
    cases y <;> simp only [sameV, Bool.false_eq_true, Bool.and_eq_true, Nat.beq_eq] at h
    rename_i f' a' c'
    have e : f = f' := h.1.1
    rw [e, sameVL_eq a a' h.1.2, sameVL_eq c c' h.2]
  | .int _ _, y, h => by cases y <;> simp [sameV] at h
  | .bool _, y, h => by cases y <;> simp [sameV] at h
  | .agg _, y, h => by cases y <;> simp [sameV] at h
  | .tuple _, y, h => by cases y <;> simp [sameV] at h
  | .raw _, y, h => by cases y <;> simp [sameV] at h
theorem sameVL_eq : ∀ (x y : List SV), sameVL x y = true → x = y
  | [], y, h => by cases y <;> simp [sameVL] at h; rfl
  | x :: xs, y, h => by
    cases y <;> simp only [sameVL, Bool.false_eq_true, Bool.and_eq_true] at h
    rw [sameV_eq _ _ h.1, sameVL_eq _ _ h.2]
end
/-- each cell bears no label, or is what it was -/
def keepsL : List SV → List SV → Bool
  | x :: xs, y :: ys => (y.flat || sameV x y) && keepsL xs ys
  | [], ys => flatL ys
  | _ :: _, [] => true
theorem keepsL_rel {β β' : Lab} (hx : ∀ l b, β l = some b → β' l = some b) : ∀ (x y : List SV) (v0 v : List Value), keepsL x y = true → relL β x v0 → relL β' y v → relL β y v
  | [], ys, _, _, h, _, hr => flatL_rel _ _ h hr
  | _ :: _, [], _, _, _, _, hr => by rw [relL_nil] at hr ⊢; exact hr
  | x :: xs, y :: ys, v0, v, h, h0, hr => by
    simp only [keepsL, Bool.and_eq_true, Bool.or_eq_true] at h
    rw [relL_cons] at h0 hr ⊢
    obtain ⟨a, la, h1, h2, rfl⟩ := h0
    obtain ⟨b, lb, h3, h4, rfl⟩ := hr
    refine ⟨b, lb, ?_, keepsL_rel hx xs ys la lb h.2 h2 h4, rfl⟩
    rcases h.1 with hf | hs
    · exact flat_rel _ _ hf h3
    · have e := sameV_eq _ _ hs
      subst e
      exact rel_dom (fun l b0 b e1 e2 => by have := hx _ _ e1; rw [e2] at this; simp only [Option.some.injEq] at this; rw [this]; exact e1) _ _ _ h1 h3
/-! ## what a call hands back that writes one object -/
def updVal (E : Env) (d : Nat) (f : FuncId) (args : List SV) (H : SHeap) (l : Nat) : Option (SV × Nat × Obj') := match joinT H (symCall E d f args H) with
  | .ret (v, H') => match hpOf H l, hpOf H' l with
    | some o, some ob => if v.flat && keepsL o.1 ob.1 && ob.2.own.isNone && sameH (upd H l none) H' then some (v, l, (ob.1, ⟨ob.2.ty, none, ob.2.stamp, bump o.2.ver 0 (o.1.length + ob.1.length)⟩)) else none
    | _, _ => none
  | _ => none
theorem updVal_sound {E : Env} (hE : E.Ok) {d : Nat} {f : FuncId} {args : List SV} {H : SHeap} {l l' : Nat} {v : SV} {ob : Obj'} (h : updVal E d f args H l = some (v, l', ob)) {β : Lab} {w : World} {vals : List Value} (hv : relL β args vals) (hr : HR β (hpOf H) w) (hfree : ∀ l, H.length ≤ l → β l = none) :
    Calls E.P f vals.toArray w fun e w' => (∃ x, e = .returned x ∧ SV.rel noLab v x) ∧ Wrote β l' ob w w' := by
  unfold updVal at h
  split at h <;> (try simp only [reduceCtorEq] at h)
  rename_i v' H' hj
  split at h <;> (try simp only [reduceCtorEq] at h)
  rename_i o ob' ho ho'
  split at h <;> simp only [Option.some.injEq, Prod.mk.injEq, reduceCtorEq] at h
  rename_i hc; obtain ⟨rfl, rfl, rfl⟩ := h
  simp only [Bool.and_eq_true] at hc
  obtain ⟨⟨⟨c1, c2⟩, c3⟩, c4⟩ := hc
  have hT : (joinT H (symCall E d f args H)).Holds (LeafK β H w fun e w' => (∃ x, e = .returned x ∧ SV.rel noLab v' x) ∧ Wrote β l (ob'.1, ⟨ob'.2.ty, none, ob'.2.stamp, bump o.2.ver 0 (o.1.length + ob'.1.length)⟩) w w') := by
    rw [hj]
    intro β' w' val he hr' _ hrel
    refine ⟨⟨val, rfl, flat_rel _ _ c1 hrel⟩, fun b hb hne => he.frame b hb fun k hk => ?_, he.size, he.os, he.tape, he.output, ?_⟩
    · have hkl : k ≠ l := fun e => hne (e ▸ hk)
      have hlt : k < H.length := by
        rcases Nat.lt_or_ge k H.length with h | h
        · exact h
        · rw [hfree k h] at hk; simp at hk
      cases hk1 : hpOf H k with
      | none =>
        cases hk2 : hpOf H' k with
        | none => rfl
        | some o1 => obtain ⟨o2, h2, _⟩ := he.live k o1 hlt hk2; rw [hk1] at h2; simp at h2
      | some o1 =>
        have hk3 : hpOf (upd H l none) k = some o1 := by
          unfold hpOf at hk1 ⊢
          rw [nth_upd, if_neg (by omega)]; exact hk1
        obtain ⟨o2, h2, h3⟩ := sameH_at c4 hk3
        obtain ⟨o3, h4, h5⟩ := he.live k o2 hlt h2
        rw [hk1] at h4; simp only [Option.some.injEq] at h4; subst h4
        rw [h2]
        rcases h5 with rfl | h5
        · rfl
        · omega
    · obtain ⟨b, _, _, hb, k0, _, hd, _⟩ := hr.obj l o ho
      obtain ⟨b', vs, rest, hb', k1, k2, _, _⟩ := hr'.obj l ob' ho'
      have e : b = b' := by have := he.ext _ _ hb; rw [hb'] at this; simpa using this.symm
      subst e
      exact ⟨b, vs, rest, hb, keepsL_rel he.ext _ _ _ _ c2 k0 k1, k2, hd, fun lc sz e => by simp at e⟩
  exact symCall_sound hE d f args H β w vals _ hv hr hfree (joinT_sound hfree hr _ hT)
/-- the summary of a function whose first argument leads to what it writes -/
def firstU (E : Env) (d : Nat) (f : FuncId) : USumm := fun vs H => match vs with
  | .ptr l _ :: _ => updVal E d f vs H l
  | _ => none
theorem firstU_pure {E : Env} {d : Nat} {f : FuncId} : UPure (firstU E d f) := by
  intro vs H r l ob h
  unfold firstU at h
  split at h <;> (try simp only [reduceCtorEq] at h)
  unfold updVal at h
  split at h <;> (try simp only [reduceCtorEq] at h)
  split at h <;> (try simp only [reduceCtorEq] at h)
  rename_i o ob' ho ho'
  split at h <;> simp only [Option.some.injEq, Prod.mk.injEq, reduceCtorEq] at h
  obtain ⟨rfl, rfl, rfl⟩ := h
  refine ⟨o, ho, fun i => ?_, fun i e => ?_⟩
  · simp only [verAt_bump]; omega
  · simp only [verAt_bump] at e
    have : ¬ (0 ≤ i ∧ i < 0 + (o.1.length + ob'.1.length)) := fun hh => by rw [if_pos hh] at e; omega
    have h1 : ob'.1.length ≤ i := by omega
    have h2 : o.1.length ≤ i := by omega
    rw [nth_eq, nth_eq, List.getElem?_eq_none h1, List.getElem?_eq_none h2]
theorem firstU_ok {E : Env} (hE : E.Ok) {d : Nat} {f : FuncId} : USummFn E.P f (firstU E d f) := by
  refine ⟨firstU_pure, ?_⟩
  intro vs H r l ob h β w vals hv hr hfree
  unfold firstU at h
  split at h <;> (try simp only [reduceCtorEq] at h)
  exact updVal_sound hE h hv hr hfree
/-! ## what a call hands back that lays down one new object -/
mutual
def reV (k m : Nat) : SV → Option SV
  | .int q n => some (.int q n)
  | .bool b => some (.bool b)
  | .ptr l off => if Nat.beq l k then some (.ptr m off) else none
  | .nilp => some .nilp
  | .slice l off n c => if Nat.beq l k then some (.slice m off n c) else none
  | .own _ _ _ => none
  | .func f a c => match reL k m a, reL k m c with | some a', some c' => some (.func f a' c') | _, _ => none
  | .agg cs => match reL k m cs with | some cs' => some (.agg cs') | none => none
  | .tuple cs => match reL k m cs with | some cs' => some (.tuple cs') | none => none
  | .raw r => some (.raw r)
def reL (k m : Nat) : List SV → Option (List SV)
  | [] => some []
  | v :: vs => match reV k m v, reL k m vs with | some v', some vs' => some (v' :: vs') | _, _ => none
end
mutual
theorem reV_rel {β γ : Lab} {k m b : Nat} (hk : β k = some b) (hm : γ m = some b) : ∀ (v v' : SV) (x : Value), reV k m v = some v' → SV.rel β v x → SV.rel γ v' x
  | .int q n, v', x, h, hr => by simp only [reV, Option.some.injEq] at h; subst h; simpa [SV.rel] using hr
  | .bool q, v', x, h, hr => by simp only [reV, Option.some.injEq] at h; subst h; simpa [SV.rel] using hr
  | .ptr l off, v', x, h, hr => by
    simp only [reV] at h
    split at h <;> simp only [Option.some.injEq, reduceCtorEq] at h
    rename_i e; have e' : l = k := by simpa using e
    subst h; subst e'
    simp only [SV.rel] at hr ⊢; obtain ⟨c, h1, h2⟩ := hr
    rw [hk] at h1; simp only [Option.some.injEq] at h1; subst h1; exact ⟨_, hm, h2⟩
  | .nilp, v', x, h, hr => by simp only [reV, Option.some.injEq] at h; subst h; simpa [SV.rel] using hr
  | .slice l off n c, v', x, h, hr => by
    simp only [reV] at h
    split at h <;> simp only [Option.some.injEq, reduceCtorEq] at h
    rename_i e; have e' : l = k := by simpa using e
    subst h; subst e'
    simp only [SV.rel] at hr ⊢; obtain ⟨c, h1, h2⟩ := hr
    rw [hk] at h1; simp only [Option.some.injEq] at h1; subst h1; exact ⟨_, hm, h2⟩
  | .own _ _ _, v', x, h, hr => by simp [reV] at h
  | .func f a c, v', x, h, hr => by
    simp only [reV] at h
    split at h <;> simp only [Option.some.injEq, reduceCtorEq] at h
    rename_i a' c' h1 h2; subst h
    simp only [SV.rel] at hr ⊢; obtain ⟨xs, ys, h3, h4, h5⟩ := hr
    exact ⟨xs, ys, reL_rel hk hm a a' xs h1 h3, reL_rel hk hm c c' ys h2 h4, h5⟩
  | .agg cs, v', x, h, hr => by
    simp only [reV] at h
    split at h <;> simp only [Option.some.injEq, reduceCtorEq] at h
    rename_i a' h1; subst h
    simp only [SV.rel] at hr ⊢; obtain ⟨xs, h3, h5⟩ := hr
    exact ⟨xs, reL_rel hk hm cs a' xs h1 h3, h5⟩
  | .tuple cs, v', x, h, hr => by
    simp only [reV] at h
    split at h <;> simp only [Option.some.injEq, reduceCtorEq] at h
    rename_i a' h1; subst h
    simp only [SV.rel] at hr ⊢; obtain ⟨xs, h3, h5⟩ := hr
    exact ⟨xs, reL_rel hk hm cs a' xs h1 h3, h5⟩
  | .raw r, v', x, h, hr => by simp only [reV, Option.some.injEq] at h; subst h; simpa [SV.rel] using hr
theorem reL_rel {β γ : Lab} {k m b : Nat} (hk : β k = some b) (hm : γ m = some b) : ∀ (v v' : List SV) (x : List Value), reL k m v = some v' → relL β v x → relL γ v' x
  | [], v', x, h, hr => by simp only [reL, Option.some.injEq] at h; subst h; rw [relL_nil] at hr ⊢; exact hr
  | c :: cs, v', x, h, hr => by
    simp only [reL] at h
    split at h <;> simp only [Option.some.injEq, reduceCtorEq] at h
    rename_i a' c' h1 h2; subst h
    rw [relL_cons] at hr ⊢; obtain ⟨y, ys, h3, h4, h5⟩ := hr
    exact ⟨y, ys, reV_rel hk hm c a' y h1 h3, reL_rel hk hm cs c' ys h2 h4, h5⟩
end
/-- the first label in a value -/
def labOf : SV → Option Nat
  | .ptr l _ => some l
  | .slice l _ _ _ => some l
  | .func _ _ (.ptr l _ :: _) => some l
  | _ => none
def newVal (E : Env) (d : Nat) (f : FuncId) (m : Nat) (args : List SV) (H : SHeap) : Option (SV × Obj') := match symCall E d f args H with
  | .ret (v, H') => match labOf v with
    | some k => match hpOf H' k, reV k m v with
      | some (cs, ⟨ty, none, st, vr⟩), some v' => match reL k m cs with
        | some cs' => if Nat.ble H.length k && sameH H H' then some (v', (cs', ⟨ty, none, st, vr⟩)) else none
        | none => none
      | _, _ => none
    | none => none
  | _ => none
theorem newVal_sound {E : Env} (hE : E.Ok) {d : Nat} {f : FuncId} {m : Nat} {args : List SV} {H : SHeap} {v : SV} {ob : Obj'} (h : newVal E d f m args H = some (v, ob)) {β : Lab} {w : World} {vals : List Value} (hv : relL β args vals) (hr : HR β (hpOf H) w) (hfree : ∀ l, H.length ≤ l → β l = none) :
    Calls E.P f vals.toArray w fun e w' => ∃ b x, e = .returned x ∧ w.heap.size ≤ b ∧ Below w.heap.size w w' ∧ SV.rel (β.put m b) v x ∧ objAt (β.put m b) w' m ob := by
  unfold newVal at h
  split at h <;> (try simp only [reduceCtorEq] at h)
  rename_i v0 H' hj
  split at h <;> (try simp only [reduceCtorEq] at h)
  rename_i k hk
  split at h <;> (try simp only [reduceCtorEq] at h)
  rename_i cs ty st vr v' ho hre
  split at h <;> (try simp only [reduceCtorEq] at h)
  rename_i cs' hcs
  split at h <;> simp only [Option.some.injEq, Prod.mk.injEq, reduceCtorEq] at h
  rename_i hc; obtain ⟨rfl, rfl⟩ := h
  simp only [Bool.and_eq_true, Nat.ble_eq] at hc
  obtain ⟨c1, c2⟩ := hc
  refine symCall_sound hE d f args H β w vals _ hv hr hfree ?_
  rw [hj]
  intro β' w' val he hr' _ hrel
  obtain ⟨b, vs, rest, hb, k1, k2, _, _⟩ := hr'.obj k _ ho
  have hbs : w.heap.size ≤ b := by
    rcases he.new k b hb with h1 | ⟨_, h2 | ⟨l0, o, h2, h3, h4⟩ | h2⟩
    · rw [hfree k c1] at h1; simp at h1
    · exact h2
    · obtain ⟨o', h5, _⟩ := sameH_at c2 h3
      rw [h4] at h5; simp at h5
    · rw [ho] at h2; simp at h2
  have hbm : (β.put m b) m = some b := by rw [Lab.put_blk, if_pos rfl]
  exact ⟨b, val, rfl, hbs, he.below_same hfree c2, reV_rel hb hbm _ _ _ hre hrel, b, vs, rest, hbm, reL_rel hb hbm _ _ _ hcs k1, k2, by rw [Lab.put_dead, if_pos rfl], fun lc sz e => by simp at e⟩
theorem newVal_ok {E : Env} (hE : E.Ok) {d : Nat} {f : FuncId} : NSummFn E.P f (newVal E d f) :=
  fun _ _ _ _ _ h _ _ _ hv hr hfree _ => newVal_sound hE h hv hr hfree
end Go.Sx
