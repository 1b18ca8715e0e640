/- The own symbolic executor of this claim, its third part: regions, code, calls, loops, with their soundness: what a Go function comes to, told by evaluation. -/
import Derived.LoopN
import Derived.OrdersHeld
import Derived.ScopeJumps
import Derived.Test.YtidnooaccbahpaaSv
set_option linter.unusedVariables false
set_option linter.unusedSimpArgs false
namespace Go.Sx
open Go.RowKit Go.Proofs

/-! # regions that draw their order -/
structure PI where
  idx : Nat
  dst : Option Nat
  looks : List Nat
  labs : List Nat
  up : Option Nat
  anc : Nat
  rd : Option (Nat × Nat × Nat)
  vo : Option (List Nat)
  vn : List Nat
def labsE : Ent → List Nat
  | .val v => labsV v
  | .gd _ _ v => labsV v
  | .none => []
def labsAll (s : List Ent) : List Operand → List Nat
  | [] => []
  | .tmp t :: xs => (match nth s t with | some e => labsE e | none => []) ++ labsAll s xs
  | _ :: xs => labsAll s xs
def tmpsOf : List Operand → List Nat
  | [] => []
  | .tmp t :: xs => t :: tmpsOf xs
  | _ :: xs => tmpsOf xs
def mem (x : Nat) (l : List Nat) : Bool := l.any (Nat.beq x)
def memO (x : Option Nat) (l : List Nat) : Bool := match x with | some d => mem d l | none => false
def sameO (x y : Option Nat) : Bool := match x, y with | some a, some b => Nat.beq a b | _, _ => false
def findPI : List PI → Nat → Nat
  | [], _ => 0
  | p :: l, i => if Nat.beq p.idx i then p.anc else findPI l i
def ancOf (prev : List PI) : List Edge → Nat
  | [] => 0
  | e :: es => if Region.binds .any e then (2 ^ e.on ||| findPI prev e.on) ||| ancOf prev es else ancOf prev es
/-- what a load reads: an object's label, the first cell, how many -/
def rdOf (E : Env) (ops : List Oper) (s : List Ent) (o : Oper) : Option (Nat × Nat × Nat) := match guardSlot ops o, o.op with
  | some none, .load t a => match lookE [] s a with
    | some (.ptr l off) => match isAggT E.P t with
      | some true => match sizeT E.P t with
        | some n => some (l, off, n)
        | none => none
      | some false => some (l, off, 1)
      | none => none
    | _ => none
  | _, _ => none
def voOf (H : SHeap) : Option (Nat × Obj') → Option (List Nat)
  | some (l, _) => match hpOf H l with
    | some o => some o.2.ver
    | none => none
  | none => none
def vnOf : Option (Nat × Obj') → List Nat
  | some (_, o) => o.2.ver
  | none => []
def rngSame (vo vn : List Nat) (off : Nat) : Nat → Bool
  | 0 => true
  | n + 1 => Nat.beq (verAt vo (off + n)) (verAt vn (off + n)) && rngSame vo vn off n
def mkPI (E : Env) (ops : List Oper) (prev : List PI) (j : Nat) (o : Oper) (st : St) (d : Delta) : PI :=
  ⟨j, o.dst, (match guardSlot ops o with | some (some (t, _)) => [t] | _ => []) ++ tmpsOf o.op.operands.toList, labsR (hpOf st.heap) o.op (labsAll st.slots (labOps o.op)), d.up.map (·.1), ancOf prev o.after.toList, rdOf E ops st.slots o, voOf st.heap d.up, vnOf d.up⟩
/-- does the first write nothing of what the second loads? -/
def PI.tol (p q : PI) : Bool := match p.up, q.rd, p.vo with
  | some l, some (l', off, n), some vo => Nat.beq l l' && rngSame vo p.vn off n
  | _, _, _ => false
def PI.clash (p q : PI) : Bool := memO p.up q.labs && !p.tol q
def PI.indep (p q : PI) : Bool := !memO p.dst q.looks && !memO q.dst p.looks && !p.clash q && !q.clash p && !sameO p.up q.up
def PI.pair (p q : PI) : Bool := !sameO p.dst q.dst && (q.anc.testBit p.idx || p.indep q)
def back (j : Nat) (o : Oper) (m : Nat) : Bool :=
  (o.after.toList.all fun e => !Region.binds .any e || Nat.blt e.on j) && (match o.guard with | some (g, _) => m.testBit g && Nat.blt g j | none => true)
def drawRun (E : Env) (ops : List Oper) : List Oper → Nat → List PI → St → Option St
  | [], _, _, st => some st
  | o :: l, j, prev, st => match softStep E ops st.slots (hpOf st.heap) st.heap.length o with
    | some d => match putE st.slots o.dst d.ent with
      | some s =>
        let q := mkPI E ops prev j o st d
        if back j o q.anc && prev.all (fun p => p.pair q) then drawRun E ops l (j + 1) (q :: prev) ⟨s, applyUp st.heap d.up⟩ else none
      | none => none
    | none => none

/-- what must hold of the operations of a region that draws its order -/
def drawCs (E : Env) (ops : List Oper) : List Oper → St → List Bool
  | [], _ => []
  | o :: l, st => match softStep E ops st.slots (hpOf st.heap) st.heap.length o with
    | some d => match putE st.slots o.dst d.ent with
      | some s => match softCond E ops st.slots o with
        | some c => c :: drawCs E ops l ⟨s, applyUp st.heap d.up⟩
        | none => drawCs E ops l ⟨s, applyUp st.heap d.up⟩
      | none => []
    | none => []

/-! ## an operation's value does not hang on the label that a new block would get -/
theorem symOp_m {P : Program} {look : Operand → Option SV} {hp : HP} {m : Nat} {o : Oper} {e : Eff} (h : symOp P look hp m o = some e) :
    (∃ ob, e.up = some (m, ob)) ∨ ((∀ l ob, e.up = some (l, ob) → ∃ o', hp l = some o' ∧ o'.2.stamp < ob.2.stamp) ∧ ∀ m', symOp P look hp m' o = some e) := by
  obtain ⟨dst, op, type, pos, after, guard⟩ := o
  have pure : ∀ {v : Option SV}, pureEff v = some e → ∀ l ob, e.up = some (l, ob) → ∃ o', hp l = some o' ∧ o'.2.stamp < ob.2.stamp := fun hv l ob hu => by
    obtain ⟨s, _, rfl⟩ := pureEff_some hv; cases hu
  cases op
  case alloc t =>
    left; simp only [symOp] at h
    split at h <;> (try simp only [reduceCtorEq] at h)
    split at h <;> simp only [Option.some.injEq, reduceCtorEq] at h
    subst h; exact ⟨_, rfl⟩
  case box t x =>
    left; simp only [symOp] at h
    split at h <;> simp only [Option.some.injEq, reduceCtorEq] at h
    subst h; exact ⟨_, rfl⟩
  case buildSlice t n ps =>
    left; simp only [symOp] at h
    split at h <;> (try simp only [reduceCtorEq] at h)
    split at h <;> (try simp only [reduceCtorEq] at h)
    split at h <;> (try simp only [reduceCtorEq] at h)
    split at h <;> simp only [Option.some.injEq, reduceCtorEq] at h
    subst h; exact ⟨_, rfl⟩
  case store t a x =>
    right
    refine ⟨fun l ob hu => ?_, fun m' => by rw [← h]; rfl⟩
    simp only [symOp] at h
    split at h <;> (try simp only [reduceCtorEq] at h)
    split at h <;> (try simp only [reduceCtorEq] at h)
    rename_i cs e' n ho hn
    split at h <;> (try simp only [reduceCtorEq] at h)
    split at h <;> simp only [Option.some.injEq, reduceCtorEq] at h
    subst h
    simp only [Option.some.injEq, Prod.mk.injEq] at hu
    obtain ⟨rfl, rfl⟩ := hu; exact ⟨_, ho, by simp [Tag.wr]⟩
  case makeFunc fn fi ca => cases fn <;> (right; refine ⟨?_, fun m' => by rw [← h]; rfl⟩) <;> simp only [symOp, reduceCtorEq] at h <;> (split at h <;> first | exact pure h | simp at h)
  case slice t x lo hi mx =>
    right; refine ⟨?_, fun m' => by rw [← h]; cases mx <;> rfl⟩
    cases mx <;> simp only [symOp, reduceCtorEq] at h
    repeat' (split at h)
    all_goals first | exact pure h | (simp at h; done)
  case call c =>
    obtain ⟨callee, args, at'⟩ := c
    right; refine ⟨?_, fun m' => by rw [← h]; cases callee <;> rfl⟩
    cases callee <;> simp only [symOp, reduceCtorEq] at h
    repeat' (split at h)
    all_goals first | exact pure h | (simp at h; done)
  all_goals
    right; refine ⟨?_, fun m' => by rw [← h]; rfl⟩
    simp only [symOp, reduceCtorEq] at h
    try (repeat' (split at h))
    all_goals first | exact pure h | (simp at h; done)
/-- what lays down a new object does so under any label -/
theorem symOp_new {P : Program} {look : Operand → Option SV} {hp : HP} {m : Nat} {o : Oper} {e : Eff} (h : symOp P look hp m o = some e) {ob : Obj'} (hu : e.up = some (m, ob)) (m' : Nat) : True ∧ (symOp P look hp m' o).isSome = true := by
  refine ⟨trivial, ?_⟩
  obtain ⟨dst, op, type, pos, after, guard⟩ := o
  have pure : ∀ {v : Option SV}, pureEff v = some e → False := fun hv => by
    obtain ⟨s, _, rfl⟩ := pureEff_some hv; cases hu
  cases op
  case alloc t =>
    simp only [symOp] at h
    split at h <;> (try simp only [reduceCtorEq] at h)
    rename_i z hz
    split at h <;> simp only [Option.some.injEq, reduceCtorEq] at h
    rename_i zs hzs
    simp only [symOp, hz, hzs]; rfl
  case box t x =>
    simp only [symOp] at h
    split at h <;> simp only [Option.some.injEq, reduceCtorEq] at h
    rename_i v hv
    simp only [symOp, hv]; rfl
  case buildSlice t n ps =>
    simp only [symOp] at h
    split at h <;> (try simp only [reduceCtorEq] at h)
    rename_i e' ps hu hps
    split at h <;> (try simp only [reduceCtorEq] at h)
    rename_i n' z hn hz
    split at h <;> (try simp only [reduceCtorEq] at h)
    rename_i hb
    split at h <;> simp only [Option.some.injEq, reduceCtorEq] at h
    rename_i cs hf
    simp only [symOp, hu, hps, hn, hz, hb, if_true, hf]; rfl
  case store t a x => rw [show symOp P look hp m' ⟨dst, .store t a x, type, pos, after, guard⟩ = symOp P look hp m ⟨dst, .store t a x, type, pos, after, guard⟩ from rfl, h]; rfl
  case makeFunc fn fi ca => cases fn <;> simp only [symOp, reduceCtorEq] at h <;> (split at h <;> first | exact (pure h).elim | simp at h)
  case slice t x lo hi mx =>
    cases mx <;> simp only [symOp, reduceCtorEq] at h
    repeat' (split at h)
    all_goals first | exact (pure h).elim | (simp at h; done)
  case call c =>
    obtain ⟨callee, args, at'⟩ := c
    cases callee <;> simp only [symOp, reduceCtorEq] at h
    repeat' (split at h)
    all_goals first | exact (pure h).elim | (simp at h; done)
  all_goals
    simp only [symOp, reduceCtorEq] at h
    try (repeat' (split at h))
    all_goals first | exact (pure h).elim | (simp at h; done)
theorem softVal0_m {E : Env} {fs : List (Nat × Bool)} {s : List Ent} {hp : HP} {m : Nat} {o : Oper} {e : Eff} (h : softVal0 E fs s hp m o = some e) :
    (∃ ob, e.up = some (m, ob)) ∨ ((∀ l ob, e.up = some (l, ob) → ∃ o', hp l = some o' ∧ o'.2.stamp < ob.2.stamp) ∧ ∀ m', softVal0 E fs s hp m' o = some e) := by
  have pure : ∀ {v : Option SV}, pureEff v = some e → ∀ l ob, e.up = some (l, ob) → ∃ o', hp l = some o' ∧ o'.2.stamp < ob.2.stamp := fun hv l ob hu => by
    obtain ⟨s, _, rfl⟩ := pureEff_some hv; cases hu
  unfold softVal0 at h ⊢
  split at h
  · exact .inr ⟨pure h, fun _ => h⟩
  · refine .inr ⟨?_, fun _ => h⟩
    repeat' (split at h)
    all_goals first | exact pure h | (simp at h; done) | skip
    rename_i o' ho' hst
    simp only [Option.some.injEq] at h; subst h
    intro l ob hu
    simp only [Option.some.injEq, Prod.mk.injEq] at hu; obtain ⟨rfl, rfl⟩ := hu
    exact ⟨o', ho', by simpa [Nat.blt_eq] using hst⟩
  · cases hs : symOp E.P (lookE fs s) hp m o with
    | some e' =>
      rw [hs] at h; simp only [Option.some.injEq] at h; subst h
      rcases symOp_m hs with h1 | ⟨h1, h2⟩
      · exact .inl h1
      · exact .inr ⟨h1, fun m' => by rw [h2 m']⟩
    | none =>
      rw [hs] at h; simp only at h
      refine .inr ⟨pure h, fun m' => ?_⟩
      cases hs' : symOp E.P (lookE fs s) hp m' o with
      | none => exact h
      | some e' =>
        rcases symOp_m hs' with ⟨ob, h1⟩ | ⟨_, h2⟩
        · have := (symOp_new hs' h1 m).2; rw [hs] at this; simp at this
        · rw [h2 m] at hs; simp at hs
theorem softVal_m {E : Env} {fs : List (Nat × Bool)} {s : List Ent} {hp : HP} {m : Nat} {o : Oper} {e : Eff} (h : softVal E fs s hp m o = some e) :
    (∃ ob, e.up = some (m, ob)) ∨ ((∀ l ob, e.up = some (l, ob) → ∃ o', hp l = some o' ∧ o'.2.stamp < ob.2.stamp) ∧ ∀ m', softVal E fs s hp m' o = some e) := by
  unfold softVal at h
  split at h
  · rename_i e' he
    simp only [Option.some.injEq] at h; subst h
    rcases softVal0_m he with h1 | ⟨h1, h2⟩
    · exact .inl h1
    · exact .inr ⟨h1, fun m' => by unfold softVal; rw [h2 m']⟩
  · left
    unfold nVal at h
    repeat' (split at h)
    all_goals first | (simp at h; done) | (simp only [Option.some.injEq] at h; subst h; exact ⟨_, rfl⟩)
theorem softStep_m {E : Env} {ops : List Oper} {s : List Ent} {hp : HP} {m : Nat} {o : Oper} {d : Delta} (h : softStep E ops s hp m o = some d) :
    (∃ ob, d.up = some (m, ob)) ∨ ((∀ l ob, d.up = some (l, ob) → ∃ o', hp l = some o' ∧ o'.2.stamp < ob.2.stamp) ∧ ∀ m', softStep E ops s hp m' o = some d) := by
  have hsub : ∀ L l o, restrict L hp l = some o → hp l = some o := fun L l o h => by unfold restrict at h; split at h <;> simp_all
  have eff : ∀ fs L, effVal (softVal E fs s (restrict L hp) m o) = some d → (∃ ob, d.up = some (m, ob)) ∨ ((∀ l ob, d.up = some (l, ob) → ∃ o', hp l = some o' ∧ o'.2.stamp < ob.2.stamp) ∧ ∀ m', effVal (softVal E fs s (restrict L hp) m' o) = some d) := fun fs L h => by
    unfold effVal at h
    split at h <;> simp only [Option.some.injEq, reduceCtorEq] at h
    rename_i e he; subst h
    rcases softVal_m he with h1 | ⟨h1, h2⟩
    · exact .inl h1
    · exact .inr ⟨fun l ob hu => let ⟨o', ho', hst⟩ := h1 l ob hu; ⟨o', hsub _ _ _ ho', hst⟩, fun m' => by simp [effVal, h2 m']⟩
  have sft : ∀ fs L t v, (match softVal E fs s (restrict L hp) m o with | some ⟨x, none⟩ => some ⟨.gd t v x, none⟩ | _ => none : Option Delta) = some d →
      (∃ ob, d.up = some (m, ob)) ∨ ((∀ l ob, d.up = some (l, ob) → ∃ o', hp l = some o' ∧ o'.2.stamp < ob.2.stamp) ∧ ∀ m', (match softVal E fs s (restrict L hp) m' o with | some ⟨x, none⟩ => some ⟨.gd t v x, none⟩ | _ => none : Option Delta) = some d) := fun fs L t v h => by
    split at h <;> simp only [Option.some.injEq, reduceCtorEq] at h
    rename_i x hx; subst h
    rcases softVal_m hx with ⟨ob, h1⟩ | ⟨_, h2⟩
    · simp at h1
    · exact .inr ⟨fun l ob hu => by simp at hu, fun m' => by rw [h2 m']⟩
  unfold softStep at h
  split at h
  · simp at h
  · rename_i hg
    rcases eff _ _ h with h1 | ⟨h1, h2⟩
    · exact .inl h1
    · exact .inr ⟨h1, fun m' => by unfold softStep; rw [hg]; exact h2 m'⟩
  · rename_i t v hg
    split at h
    · rename_i b hb
      split at h
      · rename_i hbv
        rcases eff _ _ h with h1 | ⟨h1, h2⟩
        · exact .inl h1
        · exact .inr ⟨h1, fun m' => by unfold softStep; rw [hg]; simp only [hb, hbv, if_true]; exact h2 m'⟩
      · rename_i hbv
        simp only [Option.some.injEq] at h; subst h
        exact .inr ⟨fun l ob hu => by simp at hu, fun m' => by unfold softStep; rw [hg]; simp only [hb, hbv]; rfl⟩
    · rename_i b hb
      rcases sft _ _ _ _ h with h1 | ⟨h1, h2⟩
      · exact .inl h1
      · exact .inr ⟨h1, fun m' => by unfold softStep; rw [hg]; simp only [hb]; exact h2 m'⟩
    · rename_i b hb
      rcases sft _ _ _ _ h with h1 | ⟨h1, h2⟩
      · exact .inl h1
      · exact .inr ⟨h1, fun m' => by unfold softStep; rw [hg]; simp only [hb]; exact h2 m'⟩
    · simp at h
theorem splice_nth : ∀ {old : List SV} {n : Nat} {new out : List SV}, splice old n new = some out → ∀ i, ¬ (n ≤ i ∧ i < n + new.length) → nth out i = nth old i
  | [], 0, [], out, h, i, _ => by simp only [splice, Option.some.injEq] at h; subst h; rfl
  | o :: old, 0, [], out, h, i, _ => by simp only [splice, Option.some.injEq] at h; subst h; rfl
  | [], 0, _ :: _, out, h, _, _ => by simp [splice] at h
  | [], n + 1, _, out, h, _, _ => by simp [splice] at h
  | o :: old, 0, v :: new, out, h, i, hi => by
    simp only [splice, Option.map_eq_some_iff] at h; obtain ⟨r, hr, rfl⟩ := h
    cases i with
    | zero => exact absurd ⟨Nat.le_refl _, by simp⟩ hi
    | succ i => simp only [nth]; exact splice_nth hr i (fun hh => hi ⟨by omega, by simp at hh ⊢; omega⟩)
  | o :: old, n + 1, new, out, h, i, hi => by
    simp only [splice, Option.map_eq_some_iff] at h; obtain ⟨r, hr, rfl⟩ := h
    cases i with
    | zero => rfl
    | succ i => simp only [nth]; exact splice_nth hr i (fun hh => hi ⟨by omega, by omega⟩)
theorem Keeps.of_splice {cs cs' new : List SV} {t : Tag} {off : Nat} (h : splice cs off new = some cs') : Keeps (cs, t) (cs', t.wr off new.length) := by
  refine ⟨fun i => ?_, fun i e => ?_⟩
  · simp only [Tag.wr, verAt_bump]; omega
  · simp only [Tag.wr, verAt_bump] at e
    exact splice_nth h i fun hh => by rw [if_pos hh] at e; omega
/-- what is written keeps what it does not write -/
def UpKeeps (hp : HP) (m : Nat) (up : Option (Nat × Obj')) : Prop := ∀ l ob, up = some (l, ob) → l = m ∨ ∃ o', hp l = some o' ∧ Keeps o' ob
theorem symOp_keeps {P : Program} {look : Operand → Option SV} {hp : HP} {m : Nat} {o : Oper} {e : Eff} (h : symOp P look hp m o = some e) : UpKeeps hp m e.up := by
  obtain ⟨dst, op, type, pos, after, guard⟩ := o
  have pure : ∀ {v : Option SV}, pureEff v = some e → UpKeeps hp m e.up := fun hv l ob hu => by
    obtain ⟨s, _, rfl⟩ := pureEff_some hv; cases hu
  cases op
  case alloc t =>
    simp only [symOp] at h
    split at h <;> (try simp only [reduceCtorEq] at h)
    split at h <;> simp only [Option.some.injEq, reduceCtorEq] at h
    subst h; intro l ob hu; simp only [Option.some.injEq, Prod.mk.injEq] at hu; exact .inl hu.1.symm
  case box t x =>
    simp only [symOp] at h
    split at h <;> simp only [Option.some.injEq, reduceCtorEq] at h
    subst h; intro l ob hu; simp only [Option.some.injEq, Prod.mk.injEq] at hu; exact .inl hu.1.symm
  case buildSlice t n ps =>
    simp only [symOp] at h
    split at h <;> (try simp only [reduceCtorEq] at h)
    split at h <;> (try simp only [reduceCtorEq] at h)
    split at h <;> (try simp only [reduceCtorEq] at h)
    split at h <;> simp only [Option.some.injEq, reduceCtorEq] at h
    subst h; intro l ob hu; simp only [Option.some.injEq, Prod.mk.injEq] at hu; exact .inl hu.1.symm
  case store t a x =>
    simp only [symOp] at h
    split at h <;> (try simp only [reduceCtorEq] at h)
    split at h <;> (try simp only [reduceCtorEq] at h)
    rename_i cs e' n ho hn
    split at h <;> (try simp only [reduceCtorEq] at h)
    rename_i hc
    split at h <;> simp only [Option.some.injEq, reduceCtorEq] at h
    rename_i cs' hsp
    subst h
    intro l ob hu
    simp only [Option.some.injEq, Prod.mk.injEq] at hu
    obtain ⟨rfl, rfl⟩ := hu
    simp only [Bool.and_eq_true, beq_iff_eq] at hc
    refine .inr ⟨_, ho, ?_⟩
    have := Keeps.of_splice (t := e') hsp
    rw [hc.1] at this; exact this
  case makeFunc fn fi ca => cases fn <;> simp only [symOp, reduceCtorEq] at h <;> (split at h <;> first | exact pure h | simp at h)
  case slice t x lo hi mx =>
    cases mx <;> simp only [symOp, reduceCtorEq] at h
    repeat' (split at h)
    all_goals first | exact pure h | (simp at h; done)
  case call c =>
    obtain ⟨callee, args, at'⟩ := c
    cases callee <;> simp only [symOp, reduceCtorEq] at h
    repeat' (split at h)
    all_goals first | exact pure h | (simp at h; done)
  all_goals
    simp only [symOp, reduceCtorEq] at h
    try (repeat' (split at h))
    all_goals first | exact pure h | (simp at h; done)
theorem softVal0_keeps {E : Env} (hE : E.Ok) {fs : List (Nat × Bool)} {s : List Ent} {hp : HP} {m : Nat} {o : Oper} {e : Eff} (h : softVal0 E fs s hp m o = some e) : UpKeeps hp m e.up := by
  have pure : ∀ {v : Option SV}, pureEff v = some e → UpKeeps hp m e.up := fun hv l ob hu => by
    obtain ⟨s, _, rfl⟩ := pureEff_some hv; cases hu
  unfold softVal0 at h
  split at h
  · exact pure h
  · repeat' (split at h)
    all_goals first | exact pure h | (simp at h; done) | skip
    rename_i hget _ v l ob hr' _ o' ho' hst
    simp only [Option.some.injEq] at h; subst h
    intro l2 ob2 hu
    simp only [Option.some.injEq, Prod.mk.injEq] at hu; obtain ⟨rfl, rfl⟩ := hu
    obtain ⟨o2, h2, hk⟩ := (hE.usumms.get hget).1 _ _ _ _ _ hr'
    refine .inr ?_
    obtain ⟨-, h3⟩ := mkH_at _ _ _ h2
    unfold flatHP at h3
    split at h3 <;> (try simp only [reduceCtorEq] at h3)
    rename_i o3 h4
    split at h3 <;> simp only [Option.some.injEq, reduceCtorEq] at h3
    subst h3
    exact ⟨o3, h4, ⟨hk.le, hk.same⟩⟩
  · split at h
    · rename_i e' he; simp only [Option.some.injEq] at h; subst h; exact symOp_keeps he
    · exact pure h
theorem softVal_keeps {E : Env} (hE : E.Ok) {fs : List (Nat × Bool)} {s : List Ent} {hp : HP} {m : Nat} {o : Oper} {e : Eff} (h : softVal E fs s hp m o = some e) : UpKeeps hp m e.up := by
  unfold softVal at h
  split at h
  · rename_i e' he
    simp only [Option.some.injEq] at h; subst h
    exact softVal0_keeps hE he
  · unfold nVal at h
    repeat' (split at h)
    all_goals first | (simp at h; done) | (simp only [Option.some.injEq] at h; subst h; intro l ob hu; simp only [Option.some.injEq, Prod.mk.injEq] at hu; exact .inl hu.1.symm)
theorem softStep_keeps {E : Env} (hE : E.Ok) {ops : List Oper} {s : List Ent} {hp : HP} {m : Nat} {o : Oper} {d : Delta} (h : softStep E ops s hp m o = some d) : UpKeeps hp m d.up := by
  have hsub : ∀ L l o, restrict L hp l = some o → hp l = some o := fun L l o h => by unfold restrict at h; split at h <;> simp_all
  have eff : ∀ fs L, effVal (softVal E fs s (restrict L hp) m o) = some d → UpKeeps hp m d.up := fun fs L h => by
    unfold effVal at h
    split at h <;> simp only [Option.some.injEq, reduceCtorEq] at h
    rename_i e he; subst h
    intro l ob hu
    rcases softVal_keeps hE he l ob hu with h1 | ⟨o', h1, h2⟩
    · exact .inl h1
    · exact .inr ⟨o', hsub _ _ _ h1, h2⟩
  have sft : ∀ fs L t v, (match softVal E fs s (restrict L hp) m o with | some ⟨x, none⟩ => some ⟨.gd t v x, none⟩ | _ => none : Option Delta) = some d → UpKeeps hp m d.up := fun fs L t v h => by
    split at h <;> simp only [Option.some.injEq, reduceCtorEq] at h
    subst h; intro l ob hu; simp at hu
  unfold softStep at h
  split at h
  · simp at h
  · exact eff _ _ h
  · split at h
    · split at h
      · exact eff _ _ h
      · simp only [Option.some.injEq] at h; subst h; intro l ob hu; simp at hu
    · exact sft _ _ _ _ h
    · exact sft _ _ _ _ h
    · simp at h
/-- an entry under a guard bears the guard's slot -/
theorem softStep_gd {E : Env} {ops : List Oper} {s : List Ent} {hp : HP} {m : Nat} {o : Oper} {d : Delta} (h : softStep E ops s hp m o = some d) {t : Nat} {v : Bool} {x : SV} (hd : d.ent = .gd t v x) : guardSlot ops o = some (some (t, v)) := by
  have eff : ∀ e, effVal e = some d → False := fun e he => by
    unfold effVal at he; split at he <;> simp only [Option.some.injEq, reduceCtorEq] at he
    subst he; simp at hd
  unfold softStep at h
  split at h
  · simp at h
  · exact (eff _ h).elim
  · rename_i t' v' hg
    rw [hg]
    split at h
    · split at h
      · exact (eff _ h).elim
      · simp only [Option.some.injEq] at h; subst h; simp at hd
    · split at h <;> simp only [Option.some.injEq, reduceCtorEq] at h
      subst h; simp only [Ent.gd.injEq] at hd; simp [hd.1, hd.2.1]
    · split at h <;> simp only [Option.some.injEq, reduceCtorEq] at h
      subst h; simp only [Ent.gd.injEq] at hd; simp [hd.1, hd.2.1]
    · simp at h

/-! ## what a run in the order of the text lays down -/
def Closed (ops : List Oper) (S : Nat → Prop) : Prop := ∀ j o, nth ops j = some o → S j → ∀ e ∈ o.after.toList, Region.binds .any e = true → S e.on
def AncOk (ops : List Oper) (j m : Nat) : Prop := ∀ S : Nat → Prop, Closed ops S → S j → ∀ i, m.testBit i = true → S i
structure TextRun (E : Env) (ops : List Oper) (st0 : St) (sts : Nat → St) (ds : Nat → Delta) (ps : Nat → PI) : Prop where
  zero : sts 0 = st0
  cond : ∀ j o, nth ops j = some o → CondOk (softCond E ops (sts j).slots o)
  soft : ∀ j o, nth ops j = some o → softStep E ops (sts j).slots (hpOf (sts j).heap) (sts j).heap.length o = some (ds j)
  put : ∀ j o, nth ops j = some o → putE (sts j).slots o.dst (ds j).ent = some (sts (j + 1)).slots
  heap : ∀ j o, nth ops j = some o → (sts (j + 1)).heap = applyUp (sts j).heap (ds j).up
  back : ∀ j o, nth ops j = some o → back j o (ps j).anc = true
  anc : ∀ j o, nth ops j = some o → AncOk ops j (ps j).anc
  pi : ∀ j o, nth ops j = some o → (ps j).idx = j ∧ (ps j).dst = o.dst ∧ (ps j).labs = labsR (hpOf (sts j).heap) o.op (labsAll (sts j).slots (labOps o.op)) ∧ (ps j).up = (ds j).up.map (·.1) ∧
    (∀ t, .tmp t ∈ o.op.operands → t ∈ (ps j).looks) ∧ (∀ t v, guardSlot ops o = some (some (t, v)) → t ∈ (ps j).looks) ∧
    (ps j).rd = rdOf E ops (sts j).slots o ∧ (ps j).vo = voOf (sts j).heap (ds j).up ∧ (ps j).vn = vnOf (ds j).up
  pair : ∀ i j oi oj, i < j → nth ops i = some oi → nth ops j = some oj → (ps i).pair (ps j) = true
theorem tmpsOf_mem {t : Nat} : ∀ {l : List Operand}, .tmp t ∈ l → t ∈ tmpsOf l
  | [], h => by simp at h
  | x :: l, h => by
    rcases List.mem_cons.1 h with rfl | h
    · simp [tmpsOf]
    · have := tmpsOf_mem h; cases x <;> simp [tmpsOf, this]
theorem ancOf_ok {ops : List Oper} {prev : List PI} (hp : ∀ p ∈ prev, AncOk ops p.idx p.anc) {j : Nat} {o : Oper} (ho : nth ops j = some o) : AncOk ops j (ancOf prev o.after.toList) := by
  intro S hS hj i hi
  have hfind : ∀ k, S k → (findPI prev k).testBit i = true → S i := fun k hk hb => by
    have : ∀ l : List PI, (∀ p ∈ l, p ∈ prev) → (findPI l k).testBit i = true → S i := fun l => by
      induction l with
      | nil => intro _ h; simp [findPI] at h
      | cons p l ih =>
        intro hl h
        simp only [findPI] at h
        split at h
        · rename_i e
          have e' : p.idx = k := by simpa using e
          exact hp p (hl p (by simp)) S hS (by rw [e']; exact hk) i h
        · exact ih (fun q hq => hl q (by simp [hq])) h
    exact this prev (fun _ h => h) hb
  have hedge := hS j o ho hj
  clear ho
  revert hi hedge
  generalize o.after.toList = es
  intro hi hedge
  induction es with
  | nil => simp [ancOf] at hi
  | cons e es ih =>
    simp only [ancOf] at hi
    split at hi
    · rename_i hb
      have he := hedge e (by simp) hb
      simp only [Nat.testBit_or, Bool.or_eq_true] at hi
      rcases hi with (hi | hi) | hi
      · have : e.on = i := by simpa [Nat.testBit_two_pow] using hi
        exact this ▸ he
      · exact hfind _ he hi
      · exact ih hi (fun e' he' => hedge e' (by simp [he']))
    · exact ih hi (fun e' he' => hedge e' (by simp [he']))
theorem drawRun_text {E : Env} {ops : List Oper} : ∀ (l : List Oper) (j : Nat) (prev : List PI) (st stm : St), (∀ k, nth l k = nth ops (j + k)) → (∀ p ∈ prev, AncOk ops p.idx p.anc) → drawRun E ops l j prev st = some stm → (∀ c ∈ drawCs E ops l st, c = true) →
    ∃ (sts : Nat → St) (ds : Nat → Delta) (ps : Nat → PI), sts j = st ∧ sts (j + l.length) = stm ∧ ∀ k o, nth l k = some o → CondOk (softCond E ops (sts (j + k)).slots o) ∧
      softStep E ops (sts (j + k)).slots (hpOf (sts (j + k)).heap) (sts (j + k)).heap.length o = some (ds (j + k)) ∧ putE (sts (j + k)).slots o.dst (ds (j + k)).ent = some (sts (j + k + 1)).slots ∧
      (sts (j + k + 1)).heap = applyUp (sts (j + k)).heap (ds (j + k)).up ∧ back (j + k) o (ps (j + k)).anc = true ∧ AncOk ops (j + k) (ps (j + k)).anc ∧
      (∃ pv, ps (j + k) = mkPI E ops pv (j + k) o (sts (j + k)) (ds (j + k))) ∧ (∀ p ∈ prev, p.pair (ps (j + k)) = true) ∧ ∀ k', k' < k → (ps (j + k')).pair (ps (j + k)) = true
  | [], j, prev, st, stm, _, _, h, _ => by
    simp only [drawRun, Option.some.injEq] at h; subst h
    exact ⟨fun _ => st, fun _ => ⟨.none, none⟩, fun _ => ⟨0, none, [], [], none, 0, none, none, []⟩, rfl, rfl, fun k o hk => by simp [nth] at hk⟩
  | o :: l, j, prev, st, stm, hl, hp, h, hcs => by
    simp only [drawRun] at h
    split at h <;> (try simp only [reduceCtorEq] at h)
    rename_i d hd
    split at h <;> (try simp only [reduceCtorEq] at h)
    rename_i s hs
    split at h <;> (try simp only [reduceCtorEq] at h)
    rename_i hc
    simp only [Bool.and_eq_true, List.all_eq_true] at hc
    have ho : nth ops j = some o := by have := hl 0; simpa [nth] using this.symm
    simp only [drawCs, hd, hs] at hcs
    have hcs2 : CondOk (softCond E ops st.slots o) ∧ ∀ c ∈ drawCs E ops l ⟨s, applyUp st.heap d.up⟩, c = true := by
      split at hcs
      · rename_i c hcc
        rw [hcc]
        exact ⟨fun b hb => by simp only [Option.some.injEq] at hb; subst hb; exact hcs _ (by simp), fun b hb => hcs b (by simp [hb])⟩
      · rename_i hcc
        rw [hcc]
        exact ⟨fun b hb => by simp at hb, hcs⟩
    obtain ⟨hcs0, hcs1⟩ := hcs2
    obtain ⟨q, hq⟩ : ∃ q, q = mkPI E ops prev j o st d := ⟨_, rfl⟩
    rw [← hq] at h hc
    have hqa : AncOk ops j q.anc := by rw [hq]; exact ancOf_ok hp ho
    have hqi : q.idx = j := by rw [hq]; rfl
    obtain ⟨sts, ds, ps, h1, h2, h3⟩ := drawRun_text l (j + 1) (q :: prev) _ stm (fun k => by have := hl (k + 1); simp only [nth] at this; rw [this]; congr 1; omega)
      (fun p hp' => by rcases List.mem_cons.1 hp' with rfl | hp'
                       · rw [hqi]; exact hqa
                       · exact hp p hp') h hcs1
    refine ⟨fun i => if i = j then st else sts i, fun i => if i = j then d else ds i, fun i => if i = j then q else ps i, by simp, ?_, fun k o' hk => ?_⟩
    · show (if j + (o :: l).length = j then st else sts (j + (o :: l).length)) = stm
      rw [if_neg (by simp), ← h2]; congr 1; simp; omega
    · cases k with
      | zero =>
        simp only [nth, Option.some.injEq] at hk; subst hk
        simp only [Nat.add_zero, if_true, show ¬ (j + 1 = j) by omega, if_false, h1]
        refine ⟨hcs0, hd, hs, ?_, hc.1, hqa, ⟨prev, hq⟩, fun p hp' => hc.2 p hp', fun k' hk' => by omega⟩
        first | trivial | rfl
      | succ k =>
        simp only [nth] at hk
        have := h3 k o' hk
        have e1 : j + (k + 1) = j + 1 + k := by omega
        rw [e1]
        simp only [show ¬ (j + 1 + k = j) by omega, if_false, show ¬ (j + 1 + k + 1 = j) by omega]
        obtain ⟨a0, a1, a2, a3, a4, a5, a6, a7, a8⟩ := this
        refine ⟨a0, a1, a2, a3, a4, a5, a6, fun p hp' => a7 p (by simp [hp']), fun k' hk' => ?_⟩
        cases k' with
        | zero => simp only [Nat.add_zero, if_true]; exact a7 q (by simp)
        | succ k' =>
          rw [show j + (k' + 1) = j + 1 + k' by omega, if_neg (by omega)]
          exact a8 k' (by omega)
theorem textRun_of {E : Env} {ops : List Oper} {st stm : St} (h : drawRun E ops ops 0 [] st = some stm) (hcs : ∀ c ∈ drawCs E ops ops st, c = true) : ∃ sts ds ps, TextRun E ops st sts ds ps ∧ sts ops.length = stm := by
  obtain ⟨sts, ds, ps, h1, h2, h3⟩ := drawRun_text ops 0 [] st stm (fun k => by simp) (fun p hp => by simp at hp) h hcs
  simp only [Nat.zero_add] at h2 h3
  refine ⟨sts, ds, ps, ⟨h1, fun j o hj => (h3 j o hj).1, fun j o hj => (h3 j o hj).2.1, fun j o hj => (h3 j o hj).2.2.1, fun j o hj => (h3 j o hj).2.2.2.1, fun j o hj => (h3 j o hj).2.2.2.2.1, fun j o hj => (h3 j o hj).2.2.2.2.2.1, fun j o hj => ?_, fun i j oi oj hij hi hj => (h3 j oj hj).2.2.2.2.2.2.2.2 i hij⟩, h2⟩
  obtain ⟨pv, hp⟩ := (h3 j o hj).2.2.2.2.2.2.1
  rw [hp]
  refine ⟨rfl, rfl, rfl, rfl, fun t ht => ?_, fun t v hg => ?_, rfl, rfl, rfl⟩
  · simp only [mkPI, List.mem_append]; exact .inr (tmpsOf_mem (by simpa using ht))
  · simp [mkPI, hg]
end Go.Sx

namespace Go.Sx
open Go.RowKit Go.Proofs
section
variable {E : Env} {ops : List Oper} {st0 : St} {sts : Nat → St} {ds : Nat → Delta} {ps : Nat → PI}
theorem TextRun.dsts (T : TextRun E ops st0 sts ds ps) {i j : Nat} {oi oj : Oper} (hij : i < j) (hi : nth ops i = some oi) (hj : nth ops j = some oj) {x : Nat} (h1 : oi.dst = some x) (h2 : oj.dst = some x) : False := by
  have hp := T.pair i j oi oj hij hi hj
  have h3 := (T.pi i oi hi).2.1; have h4 := (T.pi j oj hj).2.1
  simp [PI.pair, h3, h4, h1, h2, sameO] at hp
theorem TextRun.dst_inj (T : TextRun E ops st0 sts ds ps) {i j : Nat} {oi oj : Oper} (hi : nth ops i = some oi) (hj : nth ops j = some oj) {x : Nat} (h1 : oi.dst = some x) (h2 : oj.dst = some x) : i = j := by
  rcases Nat.lt_trichotomy i j with h | h | h
  · exact (T.dsts h hi hj h1 h2).elim
  · exact h
  · exact (T.dsts h hj hi h2 h1).elim
theorem nth_some {α : Type} {l : List α} {i : Nat} (h : i < l.length) : ∃ x, nth l i = some x := ⟨l[i], by rw [nth_eq]; simp [h]⟩
theorem nth_lt {α : Type} {l : List α} {i : Nat} {x : α} (h : nth l i = some x) : i < l.length := by
  rw [nth_eq] at h; exact (List.getElem?_eq_some_iff.1 h).1
theorem TextRun.slots (T : TextRun E ops st0 sts ds ps) : ∀ i, i ≤ ops.length → (sts i).slots.length = st0.slots.length ∧ ∀ x e, nth (sts i).slots x = some e →
    (∃ j o, j < i ∧ nth ops j = some o ∧ o.dst = some x ∧ e = (ds j).ent) ∨ ((∀ j o, j < i → nth ops j = some o → o.dst ≠ some x) ∧ nth st0.slots x = some e)
  | 0, _ => by rw [T.zero]; exact ⟨rfl, fun x e h => .inr ⟨fun j o hj => by omega, h⟩⟩
  | i + 1, hi => by
    obtain ⟨ih1, ih2⟩ := TextRun.slots T i (by omega)
    obtain ⟨o, ho⟩ := nth_some (l := ops) (i := i) (by omega)
    have hp := T.put i o ho
    cases hd : o.dst with
    | none =>
      rw [hd] at hp
      cases he : (ds i).ent <;> rw [he] at hp <;> simp only [putE, Option.some.injEq, reduceCtorEq] at hp
      rw [← hp]
      refine ⟨ih1, fun x e h => ?_⟩
      rcases ih2 x e h with ⟨j, oj, h1, h2⟩ | ⟨h1, h2⟩
      · exact .inl ⟨j, oj, by omega, h2⟩
      · refine .inr ⟨fun j oj hj hoj => ?_, h2⟩
        rcases Nat.lt_or_ge j i with h | h
        · exact h1 j oj h hoj
        · have : j = i := by omega
          subst this; rw [ho] at hoj; simp only [Option.some.injEq] at hoj; subst hoj; rw [hd]; simp
    | some d =>
      rw [hd] at hp
      simp only [putE] at hp
      split at hp <;> simp only [Option.some.injEq, reduceCtorEq] at hp
      rw [← hp]
      refine ⟨by rw [upd_length]; exact ih1, fun x e h => ?_⟩
      rw [nth_upd] at h
      split at h
      · rename_i hh; simp only [Option.some.injEq] at h; exact .inl ⟨i, o, by omega, ho, by rw [hd, hh.1], h.symm⟩
      · rename_i hh
        have hlt := nth_lt h
        have hne : d ≠ x := fun e => hh ⟨e, hlt⟩
        rcases ih2 x e h with ⟨j, oj, h1, h2⟩ | ⟨h1, h2⟩
        · exact .inl ⟨j, oj, by omega, h2⟩
        · refine .inr ⟨fun j oj hj hoj => ?_, h2⟩
          rcases Nat.lt_or_ge j i with h | h
          · exact h1 j oj h hoj
          · have : j = i := by omega
            subst this; rw [ho] at hoj; simp only [Option.some.injEq] at hoj; subst hoj; rw [hd]; simpa using hne
theorem TextRun.upok (T : TextRun E ops st0 sts ds ps) {i : Nat} {o : Oper} (ho : nth ops i = some o) : ∀ l ob, (ds i).up = some (l, ob) → l = (sts i).heap.length ∨ ∃ o', hpOf (sts i).heap l = some o' ∧ o'.2.stamp < ob.2.stamp := by
  intro l ob hu
  rcases softStep_m (T.soft i o ho) with ⟨ob', h⟩ | ⟨h, _⟩
  · rw [hu] at h; simp only [Option.some.injEq, Prod.mk.injEq] at h; exact .inl h.1
  · exact .inr (h l ob hu)
theorem TextRun.heaps (T : TextRun E ops st0 sts ds ps) : ∀ i, i ≤ ops.length → st0.heap.length ≤ (sts i).heap.length ∧ (∀ j l ob, j < i → (ds j).up = some (l, ob) → l < (sts i).heap.length) ∧ ∀ l o, hpOf (sts i).heap l = some o →
    (l < st0.heap.length → ∃ o', hpOf st0.heap l = some o' ∧ (o' = o ∨ o'.2.stamp < o.2.stamp)) ∧
    ((∃ j, j < i ∧ (ds j).up = some (l, o) ∧ (∀ j' ob, j < j' → j' < i → (ds j').up ≠ some (l, ob)) ∧ (l < st0.heap.length → ∃ o', hpOf st0.heap l = some o' ∧ o'.2.stamp < o.2.stamp)) ∨ ((∀ j ob, j < i → (ds j).up ≠ some (l, ob)) ∧ hpOf st0.heap l = some o))
  | 0, _ => by rw [T.zero]; exact ⟨Nat.le_refl _, fun j l ob hj => by omega, fun l o h => ⟨fun _ => ⟨o, h, .inl rfl⟩, .inr ⟨fun j ob hj => by omega, h⟩⟩⟩
  | i + 1, hi => by
    obtain ⟨ih1, ih2, ih3⟩ := TextRun.heaps T i (by omega)
    obtain ⟨o, ho⟩ := nth_some (l := ops) (i := i) (by omega)
    have hh := T.heap i o ho
    have hup := hpOf_applyUp (fun l ob hu => (T.upok ho l ob hu).imp id fun ⟨o', h, _⟩ => ⟨o', h⟩)
    have hlen : (sts i).heap.length ≤ (sts (i + 1)).heap.length := by rw [hh]; exact applyUp_length
    refine ⟨Nat.le_trans ih1 hlen, fun j l ob hj hu => ?_, fun l ob hl => ?_⟩
    · rcases Nat.lt_or_ge j i with h | h
      · exact Nat.lt_of_lt_of_le (ih2 j l ob h hu) hlen
      · have : j = i := by omega
        subst this
        have : hpOf (sts (j + 1)).heap l = some ob := by rw [hh, hup, hu]; simp [upAt]
        exact hpOf_lt this
    · rw [hh, hup] at hl
      cases hu : (ds i).up with
      | none =>
        rw [hu] at hl
        simp only [upAt] at hl
        obtain ⟨h1, h2⟩ := ih3 l ob hl
        refine ⟨h1, ?_⟩
        rcases h2 with ⟨j, a1, a2, a3, a4⟩ | ⟨a1, a2⟩
        · refine .inl ⟨j, by omega, a2, fun j' ob' h3 h4 => ?_, a4⟩
          rcases Nat.lt_or_ge j' i with h | h
          · exact a3 j' ob' h3 h
          · have : j' = i := by omega
            subst this; rw [hu]; simp
        · refine .inr ⟨fun j ob' hj => ?_, a2⟩
          rcases Nat.lt_or_ge j i with h | h
          · exact a1 j ob' h
          · have : j = i := by omega
            subst this; rw [hu]; simp
      | some p =>
        obtain ⟨l', o'⟩ := p
        rw [hu] at hl
        simp only [upAt] at hl
        split at hl
        · rename_i e; subst e; simp only [Option.some.injEq] at hl; subst hl
          have hstr : l' < st0.heap.length → ∃ o3, hpOf st0.heap l' = some o3 ∧ o3.2.stamp < o'.2.stamp := fun hlt => by
            rcases T.upok ho _ _ hu with h | ⟨o2, h, hst⟩
            · omega
            · obtain ⟨o3, h3, h4⟩ := (ih3 _ _ h).1 hlt
              refine ⟨o3, h3, ?_⟩
              rcases h4 with rfl | h4
              · exact hst
              · exact Nat.lt_trans h4 hst
          exact ⟨fun hlt => (let ⟨o3, h3, h4⟩ := hstr hlt; ⟨o3, h3, .inr h4⟩), .inl ⟨i, by omega, hu, (fun j' ob' h3 h4 => by omega), hstr⟩⟩
        · rename_i e
          obtain ⟨h1, h2⟩ := ih3 l ob hl
          refine ⟨h1, ?_⟩
          have hne : ∀ ob', (ds i).up ≠ some (l, ob') := fun ob' h => by rw [hu] at h; simp only [Option.some.injEq, Prod.mk.injEq] at h; exact e h.1
          rcases h2 with ⟨j, a1, a2, a3, a4⟩ | ⟨a1, a2⟩
          · refine .inl ⟨j, by omega, a2, fun j' ob' h3 h4 => ?_, a4⟩
            rcases Nat.lt_or_ge j' i with h | h
            · exact a3 j' ob' h3 h
            · have : j' = i := by omega
              subst this; exact hne ob'
          · refine .inr ⟨fun j ob' hj => ?_, a2⟩
            rcases Nat.lt_or_ge j i with h | h
            · exact a1 j ob' h
            · have : j = i := by omega
              subst this; exact hne ob'

/-- what an operation has laid stays laid to the end -/
theorem TextRun.kept (T : TextRun E ops st0 sts ds ps) (j : Nat) (o : Oper) (ho : nth ops j = some o) (l : Nat) (ob : Obj') (hu : (ds j).up = some (l, ob)) : ∀ n, j < n → n ≤ ops.length → ∃ o', hpOf (sts n).heap l = some o'
  | 0, h, _ => by omega
  | n + 1, h, hn => by
    obtain ⟨on, hon⟩ := nth_some (l := ops) (i := n) (by omega)
    have hh := T.heap n on hon
    have hup := hpOf_applyUp (fun l ob hu => (T.upok hon l ob hu).imp id fun ⟨o', h, _⟩ => ⟨o', h⟩) l
    rw [hh, hup]
    rcases Nat.lt_or_ge j n with h1 | h1
    · obtain ⟨o', ho'⟩ := TextRun.kept T j o ho l ob hu n h1 (by omega)
      cases hun : (ds n).up with
      | none => exact ⟨o', ho'⟩
      | some p =>
        obtain ⟨l', o2⟩ := p
        simp only [upAt]; split
        · exact ⟨o2, rfl⟩
        · exact ⟨o', ho'⟩
    · have : j = n := by omega
      subst this
      rw [hu]; exact ⟨ob, by simp [upAt]⟩
/-- what stands when a set S of the operations has been carried out, in whatever order -/
structure DI (ops : List Oper) (st0 : St) (ds : Nat → Delta) (β0 : Lab) (w0 : World) (S : Nat → Prop) (β : Lab) (a : Act) (w : World) : Prop where
  size : a.tmps.size = st0.slots.length
  defers : a.defers = []
  v1 : ∀ x e, nth st0.slots x = some e → (∀ j o, S j → nth ops j = some o → o.dst ≠ some x) → EntFact β a x e
  v2 : ∀ j o x, S j → nth ops j = some o → o.dst = some x → x < a.tmps.size → EntFact β a x (ds j).ent
  h1 : ∀ l o, hpOf st0.heap l = some o → (∀ j ob, S j → (ds j).up ≠ some (l, ob)) → objAt β w l o
  h2 : ∀ j l o, S j → (ds j).up = some (l, o) → (∀ j' ob, S j' → j < j' → (ds j').up ≠ some (l, ob)) → objAt β w l o
  inj : ∀ l l' b, β.dead l = false → β.dead l' = false → β l = some b → β l' = some b → l = l'
  lt : ∀ l b, β.dead l = false → β l = some b → b < w.heap.size
  h4 : ∀ l b, β l = some b → st0.heap.length ≤ l → ∃ j ob, S j ∧ (ds j).up = some (l, ob)
  ext : Lab.le β0 β
  fz : ∀ b c, β.fz b = some c → w.heap[b]? = some c ∧ ∀ l, β.dead l = false → β l ≠ some b
  new : ∀ l b, β l = some b → β0 l = some b ∨ (st0.heap.length ≤ l ∧ w0.heap.size ≤ b)
  frame : ∀ b, b < w0.heap.size → (∀ l, β0 l = some b → ∀ j ob, S j → (ds j).up ≠ some (l, ob)) → w.heap[b]? = w0.heap[b]?
  wsize : w0.heap.size ≤ w.heap.size
  os : w.os = w0.os
  tape : w.tape = w0.tape
  output : w.output = w0.output
  sub : ∀ j, S j → j < ops.length
  fzn : ∀ b c, β.fz b = some c → β0.fz b = some c ∨ w0.heap.size ≤ b
theorem mem_iff {x : Nat} {l : List Nat} : mem x l = true ↔ x ∈ l := by
  unfold mem; rw [List.any_eq_true]; constructor
  · rintro ⟨y, h1, h2⟩; have : x = y := by simpa using h2
    exact this ▸ h1
  · exact fun h => ⟨x, h, by simp⟩
/-- the order of two operations that touch one slot -/
theorem TextRun.ord (T : TextRun E ops st0 sts ds ps) {S : Nat → Prop} (hS : Closed ops S) {i : Nat} (hi : ¬ S i) {oi : Oper} (hoi : nth ops i = some oi) (hS' : Closed ops (fun j => S j ∨ j = i)) {j : Nat} {oj : Oper} (hoj : nth ops j = some oj)
    (hne : i < j → (ps i).indep (ps j) = false) (hne' : j < i → (ps j).indep (ps i) = false) : S j → j < i := by
  intro hj
  rcases Nat.lt_trichotomy j i with h | h | h
  · exact h
  · subst h; exact absurd hj hi
  · have hp := T.pair i j oi oj h hoi hoj
    simp only [PI.pair, hne h, Bool.or_false, Bool.and_eq_true] at hp
    rw [(T.pi i oi hoi).1] at hp
    exact absurd (T.anc j oj hoj S hS hj i hp.2) hi
theorem TextRun.ord' (T : TextRun E ops st0 sts ds ps) {S : Nat → Prop} {i : Nat} {oi : Oper} (hoi : nth ops i = some oi) (hS' : Closed ops (fun j => S j ∨ j = i)) {j : Nat} {oj : Oper} (hoj : nth ops j = some oj)
    (hne' : j < i → (ps j).indep (ps i) = false) : j < i → S j := by
  intro h
  have hp := T.pair j i oj oi h hoj hoi
  simp only [PI.pair, hne' h, Bool.or_false, Bool.and_eq_true] at hp
  rw [(T.pi j oj hoj).1] at hp
  rcases T.anc i oi hoi _ hS' (.inr rfl) j hp.2 with h1 | h1
  · exact h1
  · omega
theorem indep_look {p q : PI} {x : Nat} (h1 : p.dst = some x) (h2 : x ∈ q.looks) : p.indep q = false := by
  have := mem_iff.2 h2; simp [PI.indep, h1, memO, this]
theorem indep_look' {p q : PI} {x : Nat} (h1 : q.dst = some x) (h2 : x ∈ p.looks) : p.indep q = false := by
  have := mem_iff.2 h2; simp [PI.indep, h1, memO, this]
theorem indep_lab {p q : PI} {x : Nat} (h1 : p.up = some x) (h2 : x ∈ q.labs) (h3 : p.tol q = false) : p.indep q = false := by
  have := mem_iff.2 h2; simp [PI.indep, PI.clash, h1, memO, this, h3]
theorem indep_lab' {p q : PI} {x : Nat} (h1 : q.up = some x) (h2 : x ∈ p.labs) (h3 : q.tol p = false) : p.indep q = false := by
  have := mem_iff.2 h2; simp [PI.indep, PI.clash, h1, memO, this, h3]
theorem indep_up {p q : PI} {x : Nat} (h1 : p.up = some x) (h2 : q.up = some x) : p.indep q = false := by
  simp [PI.indep, h1, h2, sameO]
theorem labsL_sub {fs : List (Nat × Bool)} {s : List Ent} : ∀ {xs : List Operand} {l : Nat}, l ∈ labsL (lookE fs s) xs → l ∈ labsAll s xs ∨ ∃ v sv, ofVal v = some sv ∧ l ∈ labsV sv
  | [], _, h => by simp [labsL] at h
  | x :: xs, l, h => by
    simp only [labsL] at h
    split at h
    · rename_i v hv
      rcases List.mem_append.1 h with h | h
      · cases x <;> simp only [lookE, reduceCtorEq] at hv
        case tmp t =>
          left
          simp only [labsAll, List.mem_append]
          left
          split at hv <;> (try simp only [reduceCtorEq] at hv)
          · rename_i he; simp only [Option.some.injEq] at hv; subst hv; simp only [he]; exact h
          · rename_i g w' v' he
            split at hv <;> simp only [Option.some.injEq, reduceCtorEq] at hv
            subst hv; simp only [he]; exact h
        case const c => exact .inr ⟨c, v, hv, h⟩
        case func f => simp only [Option.some.injEq] at hv; subst hv; simp [labsV] at h
      · rcases labsL_sub h with h | h
        · left; cases x <;> simp only [labsAll] <;> first | exact h | exact List.mem_append_right _ h
        · exact .inr h
    · rcases labsL_sub h with h | h
      · left; cases x <;> simp only [labsAll] <;> first | exact h | exact List.mem_append_right _ h
      · exact .inr h
theorem stepLabs_mem {hp : HP} : ∀ {L : List Nat} {x : Nat}, x ∈ stepLabs hp L ↔ ∃ l ∈ L, x ∈ (match hp l with | some o => deepL o.1 | none => [] : List Nat)
  | [], x => by simp [stepLabs]
  | l :: L, x => by simp only [stepLabs, List.mem_append, stepLabs_mem (L := L), List.mem_cons, exists_eq_or_imp]; exact Iff.rfl
theorem reach_mono {hp : HP} : ∀ (n : Nat) {L L' : List Nat}, (∀ l ∈ L, l ∈ L') → ∀ x ∈ reach hp n L, x ∈ reach hp n L'
  | 0, _, _, h, x, hx => h x hx
  | n + 1, L, L', h, x, hx => by
    simp only [reach, List.mem_append] at hx ⊢
    rcases hx with hx | hx
    · exact .inl (h x hx)
    · refine .inr (reach_mono n (fun y hy => ?_) x hx)
      rw [stepLabs_mem] at hy ⊢
      obtain ⟨l, h1, h2⟩ := hy; exact ⟨l, h l h1, h2⟩
theorem labsR_mono {hp : HP} {op : Op} {L L' : List Nat} (h : ∀ l ∈ L, l ∈ L') : ∀ x ∈ labsR hp op L, x ∈ labsR hp op L' := by
  unfold labsR; split
  · exact reach_mono 2 h
  · exact h
theorem ofVal_nolab {v : Value} {s : SV} (h : ofVal v = some s) : labsV s = [] := by
  unfold ofVal at h
  split at h
  · simp only [Option.map_eq_some_iff] at h; obtain ⟨_, _, rfl⟩ := h; rfl
  · simp only [Option.map_eq_some_iff] at h; obtain ⟨_, _, rfl⟩ := h; rfl
  · unfold ofVal0 at h
    split at h
    · split at h <;> simp only [Option.some.injEq, reduceCtorEq] at h
      subst h; rfl
    all_goals simp only [Option.some.injEq, reduceCtorEq] at h
    all_goals subst h; rfl

theorem tol_rd {p q : PI} (h : q.rd = none) : p.tol q = false := by
  unfold PI.tol; rw [h]; cases p.up <;> cases p.vo <;> rfl
theorem rngSame_at {vo vn : List Nat} {off : Nat} : ∀ {n : Nat}, rngSame vo vn off n = true → ∀ r, off ≤ r → r < off + n → verAt vo r = verAt vn r
  | 0, _, r, h1, h2 => by omega
  | n + 1, h, r, h1, h2 => by
    simp only [rngSame, Bool.and_eq_true, Nat.beq_eq] at h
    by_cases e : r = off + n
    · subst e; exact h.1
    · exact rngSame_at h.2 r h1 (by omega)
theorem takeN_congr {α : Type} : ∀ (n : Nat) (l l' : List α), (∀ j, j < n → nth l j = nth l' j) → takeN n l = takeN n l'
  | 0, _, _, _ => rfl
  | n + 1, l, l', h => by
    have h0 := h 0 (by omega)
    cases l with
    | nil =>
      cases l' with
      | nil => rfl
      | cons b l' => simp [nth] at h0
    | cons a l =>
      cases l' with
      | nil => simp [nth] at h0
      | cons b l' =>
        simp only [nth, Option.some.injEq] at h0; subst h0
        simp only [takeN]
        rw [takeN_congr n l l' fun j hj => by have := h (j + 1) (by omega); simpa [nth] using this]
theorem nth_dropN {α : Type} : ∀ (n : Nat) (l : List α) (j : Nat), nth (dropN n l) j = nth l (n + j)
  | 0, l, j => by simp [dropN]
  | n + 1, [], j => by simp [dropN, nth]
  | n + 1, a :: l, j => by
    rw [show n + 1 + j = (n + j) + 1 by omega]
    simp only [dropN, nth]; exact nth_dropN n l j
/-- a load's result, from the object alone -/
def loadD (P : Program) (t : TypeId) (off : Nat) (ob : Obj') : Option Delta := (partS P t ob.1 off).map fun v => ⟨.val v, none⟩
theorem rdOf_some {E : Env} {ops : List Oper} {s : List Ent} {o : Oper} {k off n : Nat} (h : rdOf E ops s o = some (k, off, n)) :
    ∃ t a, guardSlot ops o = some none ∧ o.op = .load t a ∧ lookE [] s a = some (.ptr k off) ∧ ∀ ob ob' : Obj', (∀ r, off ≤ r → r < off + n → nth ob.1 r = nth ob'.1 r) → loadD E.P t off ob = loadD E.P t off ob' := by
  unfold rdOf at h
  split at h <;> (try simp only [reduceCtorEq] at h)
  rename_i t a hg ho
  split at h <;> (try simp only [reduceCtorEq] at h)
  rename_i l off' ha
  split at h <;> (try simp only [reduceCtorEq] at h)
  · rename_i hag
    split at h <;> simp only [Option.some.injEq, Prod.mk.injEq, reduceCtorEq] at h
    rename_i n' hn
    obtain ⟨rfl, rfl, rfl⟩ := h
    refine ⟨t, a, hg, ho, ha, fun ob ob' hh => ?_⟩
    unfold loadD partS
    rw [hag]
    simp only [hn, Option.bind_some]
    rw [takeN_congr n' (dropN off' ob.1) (dropN off' ob'.1) fun j hj => by rw [nth_dropN, nth_dropN]; exact hh _ (by omega) (by omega)]
  · rename_i hag
    simp only [Option.some.injEq, Prod.mk.injEq] at h
    obtain ⟨rfl, rfl, rfl⟩ := h
    refine ⟨t, a, hg, ho, ha, fun ob ob' hh => ?_⟩
    unfold loadD partS
    rw [hag]
    simp only
    rw [hh off' (by omega) (by omega)]
theorem load_step {E : Env} {ops : List Oper} {s : List Ent} {o : Oper} {t : TypeId} {a : Operand} {k off : Nat} (hg : guardSlot ops o = some none) (ho : o.op = .load t a) (ha : lookE [] s a = some (.ptr k off)) (hp : HP) (m : Nat) :
    softStep E ops s hp m o = (match hp k with | some ob => loadD E.P t off ob | none => none) := by
  unfold softStep
  rw [hg]
  have hL : labsR hp o.op (labsL (lookE [] s) (labOps o.op)) = [k] := by
    rw [ho]
    simp only [labsR, labOps, Op.operands, labsL, ha, labsV]; rfl
  simp only [hL]
  have hr : restrict [k] hp k = hp k := by simp [restrict]
  have hno : treeOp E.P (lookE [] s) o = none := by unfold treeOp; simp only [ho, ha]
  unfold softVal softVal0 nVal
  simp only [ho, symOp, ha, hr, hno]
  cases hp k with
  | none => rfl
  | some ob =>
    simp only [loadD, pureEff]
    cases partS E.P t ob.1 off <;> rfl
theorem exists_last (P : Nat → Prop) : ∀ N : Nat, (∀ j, j < N → ¬ P j) ∨ ∃ j, j < N ∧ P j ∧ ∀ j', j < j' → j' < N → ¬ P j'
  | 0 => .inl fun j hj => by omega
  | N + 1 => by
    rcases Classical.em (P N) with h | h
    · exact .inr ⟨N, by omega, h, fun j' h1 h2 => by omega⟩
    · rcases exists_last P N with h1 | ⟨j, h1, h2, h3⟩
      · refine .inl fun j hj => ?_
        by_cases e : j = N
        · subst e; exact h
        · exact h1 j (by omega)
      · refine .inr ⟨j, by omega, h2, fun j' h4 h5 => ?_⟩
        by_cases e : j' = N
        · subst e; exact h
        · exact h3 j' h4 (by omega)
theorem TextRun.up_at (T : TextRun E ops st0 sts ds ps) {j : Nat} {o : Oper} (ho : nth ops j = some o) (k : Nat) : hpOf (sts (j + 1)).heap k = upAt (ds j).up k (hpOf (sts j).heap k) := by
  rw [T.heap j o ho]
  exact hpOf_applyUp (fun l ob hu => (T.upok ho l ob hu).imp id fun ⟨o', h, _⟩ => ⟨o', h⟩) k
/-- cells that are not written between two times are what they were -/
theorem TextRun.range (hE : E.Ok) (T : TextRun E ops st0 sts ds ps) {k off n a : Nat} {oa : Obj'} (ha : hpOf (sts a).heap k = some oa) : ∀ b, a ≤ b → b ≤ ops.length →
    (∀ j, a ≤ j → j < b → ∀ ob o', (ds j).up = some (k, ob) → hpOf (sts j).heap k = some o' → ∀ r, off ≤ r → r < off + n → verAt o'.2.ver r = verAt ob.2.ver r) →
    ∃ ob, hpOf (sts b).heap k = some ob ∧ ∀ r, off ≤ r → r < off + n → nth ob.1 r = nth oa.1 r
  | 0, hab, _, _ => by
    have : a = 0 := by omega
    subst this; exact ⟨oa, ha, fun _ _ _ => rfl⟩
  | b + 1, hab, hb, hw => by
    by_cases e : a = b + 1
    · subst e; exact ⟨oa, ha, fun _ _ _ => rfl⟩
    · obtain ⟨o', ho', h1⟩ := TextRun.range hE T ha b (by omega) (by omega) fun j h1 h2 => hw j h1 (by omega)
      obtain ⟨o, ho⟩ := nth_some (l := ops) (i := b) (by omega)
      rw [T.up_at ho k]
      cases hu : (ds b).up with
      | none => exact ⟨o', ho', h1⟩
      | some p =>
        obtain ⟨l, ob⟩ := p
        simp only [upAt]
        split
        · rename_i hl; subst hl
          refine ⟨ob, rfl, fun r h2 h3 => ?_⟩
          rcases softStep_keeps hE (T.soft b o ho) l ob hu with h4 | ⟨o2, h4, h5⟩
          · have := hpOf_lt ho'; omega
          · rw [ho'] at h4; simp only [Option.some.injEq] at h4; subst h4
            rw [h5.same r (hw b (by omega) (by omega) ob o' hu ho' r h2 h3)]; exact h1 r h2 h3
        · exact ⟨o', ho', h1⟩
/-- what stands at some time, where all that wrote it had found it, stood at first -/
theorem TextRun.stood (T : TextRun E ops st0 sts ds ps) {k : Nat} : ∀ b, b ≤ ops.length → (∀ j, j < b → ∀ ob, (ds j).up = some (k, ob) → ∃ o', hpOf (sts j).heap k = some o') → ∀ o, hpOf (sts b).heap k = some o → ∃ o0, hpOf st0.heap k = some o0
  | 0, _, _, o, h => by rw [T.zero] at h; exact ⟨o, h⟩
  | b + 1, hb, hw, o, h => by
    obtain ⟨op, hop⟩ := nth_some (l := ops) (i := b) (by omega)
    rw [T.up_at hop k] at h
    have ih := TextRun.stood T (k := k) b (by omega) fun j h1 => hw j (by omega)
    cases hu : (ds b).up with
    | none => rw [hu] at h; exact ih o h
    | some p =>
      obtain ⟨l, ob⟩ := p
      rw [hu] at h
      simp only [upAt] at h
      split at h
      · rename_i hl; subst hl
        obtain ⟨o', ho'⟩ := hw b (by omega) ob hu
        exact ih o' ho'
      · exact ih o h
theorem draw_step (hE : E.Ok) (T : TextRun E ops st0 sts ds ps) (hset : ∀ x t v s, nth st0.slots x ≠ some (.gd t v s)) {β0 : Lab} {w0 : World} (_hfree : ∀ l, st0.heap.length ≤ l → β0 l = none) {S : Nat → Prop} {β : Lab} {a : Act} {w : World} (D : DI ops st0 ds β0 w0 S β a w)
    (hS : Closed ops S) {i : Nat} (hi : ¬ S i) {o : Oper} (ho : nth ops i = some o) (hS' : Closed ops (fun j => S j ∨ j = i)) {K : Act → World → Prop} {Q : Exit → Act → World → Prop}
    (hK : ∀ β' a' w', DI ops st0 ds β0 w0 (fun j => S j ∨ j = i) β' a' w' → K a' w') :
    if Region.wanted o (yielded ops.toArray a.tmps) then o.wp E.P a w K Q else K (a.put o.dst undef) w := by
  have hin : i < ops.length := nth_lt ho
  obtain ⟨hslen, hsv⟩ := T.slots i (by omega)
  obtain ⟨hhlen, hhlab, hhv⟩ := T.heaps i (by omega)
  obtain ⟨hp1, hp2, hp3, hp4, hp5, hp6, hp7, -, -⟩ := T.pi i o ho
  -- a guard's slot is the slot of an operation that is over ahead
  have hguard : ∀ j oj t v, nth ops j = some oj → guardSlot ops oj = some (some (t, v)) → ∃ g og, nth ops g = some og ∧ og.dst = some t ∧ g < j ∧ (ps j).anc.testBit g = true := by
    intro j oj t v hoj hg
    have hb := T.back j oj hoj
    unfold guardSlot at hg
    split at hg
    · simp at hg
    · rename_i g v' hgg
      split at hg <;> simp only [Option.some.injEq, Prod.mk.injEq, reduceCtorEq] at hg
      rename_i t' ht'
      simp only [Option.bind_eq_some_iff] at ht'
      obtain ⟨og, hog, hdst⟩ := ht'
      simp only [back, hgg, Bool.and_eq_true, Nat.blt_eq] at hb
      exact ⟨g, og, hog, by rw [hdst, hg.1], hb.2.2, hb.2.1⟩
  have hgd : ∀ j oj t v s, nth ops j = some oj → (ds j).ent = .gd t v s → ∃ g og, nth ops g = some og ∧ og.dst = some t ∧ g < j ∧ (ps j).anc.testBit g = true := fun j oj t v s hoj hd =>
    hguard j oj t v hoj (softStep_gd (T.soft j oj hoj) hd)
  -- the class of slots that stand as they stood in the order of the text
  let C : Nat → Prop := fun x => ∀ j oj, nth ops j = some oj → oj.dst = some x → (S j ↔ j < i)
  have hCof : ∀ x, x ∈ (ps i).looks → C x := fun x hx j oj hoj hd => by
    have hpj := (T.pi j oj hoj).2.1
    constructor
    · exact T.ord hS hi ho hS' hoj (fun _ => indep_look' (by rw [hpj, hd]) hx) (fun _ => indep_look (by rw [hpj, hd]) hx)
    · exact T.ord' ho hS' hoj (fun _ => indep_look (by rw [hpj, hd]) hx)
  have hk : Known β a (sts i).slots C := by
    refine ⟨fun x hx e he => ?_, fun x t v s hx he => ?_⟩
    · have hxs : x < a.tmps.size := by rw [D.size, ← hslen]; exact nth_lt he
      rcases hsv x e he with ⟨j, oj, h1, h2, h3, rfl⟩ | ⟨h1, h2⟩
      · exact D.v2 j oj x ((hx j oj h2 h3).2 h1) h2 h3 hxs
      · exact D.v1 x e h2 fun j oj hj hoj hd => h1 j oj ((hx j oj hoj hd).1 hj) hoj hd
    · rcases hsv x _ he with ⟨j, oj, h1, h2, h3, h4⟩ | ⟨_, h2⟩
      · have hj : S j := (hx j oj h2 h3).2 h1
        obtain ⟨g, og, hog, hdst, hgj, hbit⟩ := hgd j oj t v s h2 h4.symm
        have hg : S g := T.anc j oj h2 S hS hj g hbit
        intro j' oj' hoj' hd'
        have : j' = g := T.dst_inj hoj' hog hd' hdst
        subst this
        exact ⟨fun _ => by omega, fun _ => hg⟩
      · exact absurd h2 (hset x t v s)
  have hHR0 : (ps i).rd = none → ∀ fs, HR β (restrict (labsR (hpOf (sts i).heap) o.op (labsL (lookE fs (sts i).slots) (labOps o.op))) (hpOf (sts i).heap)) w := by
    intro hrd fs
    have ntol : ∀ j, (ps j).tol (ps i) = false := fun j => tol_rd hrd
    refine ⟨fun l ob hl => ?_, D.inj, D.lt, D.fz⟩
    unfold restrict at hl
    split at hl
    · rename_i hm
      have hm' : l ∈ labsR (hpOf (sts i).heap) o.op (labsL (lookE fs (sts i).slots) (labOps o.op)) := mem_iff.1 hm
      have hlab : l ∈ (ps i).labs := by
        rw [hp3]
        refine labsR_mono (fun x hx => ?_) l hm'
        rcases labsL_sub hx with h | ⟨v, sv, h1, h2⟩
        · exact h
        · rw [ofVal_nolab h1] at h2; simp at h2
      have hord : ∀ j oj ob', nth ops j = some oj → (ds j).up = some (l, ob') → (S j ↔ j < i) := fun j oj ob' hoj hu => by
        have hpj : (ps j).up = some l := by rw [(T.pi j oj hoj).2.2.2.1, hu]; rfl
        constructor
        · exact T.ord hS hi ho hS' hoj (fun _ => indep_lab' hpj hlab (ntol j)) (fun _ => indep_lab hpj hlab (ntol j))
        · exact T.ord' ho hS' hoj (fun _ => indep_lab hpj hlab (ntol j))
      rcases (hhv l ob hl).2 with ⟨j, a1, a2, a3, _⟩ | ⟨a1, a2⟩
      · obtain ⟨oj, hoj⟩ := nth_some (l := ops) (i := j) (by omega)
        refine D.h2 j l ob ((hord j oj ob hoj a2).2 a1) a2 fun j' ob' hj' hlt hu => ?_
        obtain ⟨oj', hoj'⟩ := nth_some (l := ops) (i := j') (D.sub j' hj')
        exact a3 j' ob' hlt ((hord j' oj' ob' hoj' hu).1 hj') hu
      · refine D.h1 l ob a2 fun j ob' hj hu => ?_
        obtain ⟨oj, hoj⟩ := nth_some (l := ops) (i := j) (D.sub j hj)
        exact a1 j ob' ((hord j oj ob' hoj hu).1 hj) hu
    · simp at hl
  -- the memory that is looked at: where a load may stand ahead of writes of other cells, the object as it is
  obtain ⟨hpX, hHR, hXeq⟩ : ∃ hpX : HP, (∀ fs, HR β (restrict (labsR hpX o.op (labsL (lookE fs (sts i).slots) (labOps o.op))) hpX) w) ∧ ∀ m, softStep E ops (sts i).slots hpX m o = softStep E ops (sts i).slots (hpOf (sts i).heap) m o := by
    cases hrd : (ps i).rd with
    | none => exact ⟨_, hHR0 hrd, fun _ => rfl⟩
    | some kon =>
      obtain ⟨k, off, n⟩ := kon
      obtain ⟨t, a', hg, hop, hla, hcong⟩ := rdOf_some (hp7.symm.trans hrd)
      have hsf := T.soft i o ho
      rw [load_step hg hop hla] at hsf
      split at hsf <;> (try simp only [reduceCtorEq] at hsf)
      rename_i oi hoi
      have hnup : (ds i).up = none := by
        unfold loadD at hsf
        simp only [Option.map_eq_some_iff] at hsf
        obtain ⟨v, _, hv⟩ := hsf; rw [← hv]
      have hklab : k ∈ (ps i).labs := by
        rw [hp3]
        have hx : k ∈ labsAll (sts i).slots (labOps o.op) := by
          have : k ∈ labsL (lookE [] (sts i).slots) (labOps o.op) := by
            rw [hop]; simp only [labOps, Op.operands, labsL, hla, labsV]; simp
          rcases labsL_sub this with h | ⟨v, sv, h1, h2⟩
          · exact h
          · rw [ofVal_nolab h1] at h2; simp at h2
        rw [hop] at hx ⊢
        simpa [labsR] using hx
      -- who writes it
      have hord : ∀ j oj ob', nth ops j = some oj → (ds j).up = some (k, ob') → (ps j).tol (ps i) = false → (S j ↔ j < i) := fun j oj ob' hoj hu ht => by
        have hpj : (ps j).up = some k := by rw [(T.pi j oj hoj).2.2.2.1, hu]; rfl
        constructor
        · exact T.ord hS hi ho hS' hoj (fun _ => indep_lab' hpj hklab ht) (fun _ => indep_lab hpj hklab ht)
        · exact T.ord' ho hS' hoj (fun _ => indep_lab hpj hklab ht)
      have htol : ∀ j oj ob', nth ops j = some oj → (ds j).up = some (k, ob') → (ps j).tol (ps i) = true → ∃ o', hpOf (sts j).heap k = some o' ∧ ∀ r, off ≤ r → r < off + n → verAt o'.2.ver r = verAt ob'.2.ver r := fun j oj ob' hoj hu ht => by
        have hj := T.pi j oj hoj
        have hju := hj.2.2.2.1
        obtain ⟨-, -, -, -, -, -, -, hvo, hvn⟩ := hj
        unfold PI.tol at ht
        rw [hju, hrd, hvo, hvn, hu] at ht
        simp only [voOf, Option.map_some] at ht
        cases ho' : hpOf (sts j).heap k with
        | none => rw [ho'] at ht; simp at ht
        | some o' =>
          rw [ho'] at ht
          simp only [Bool.and_eq_true, vnOf] at ht
          exact ⟨o', rfl, fun r h1 h2 => rngSame_at ht.2 r h1 h2⟩
      have hpre : ∀ j j' oj oj' ob ob', j < j' → nth ops j = some oj → nth ops j' = some oj' → (ds j).up = some (k, ob) → (ds j').up = some (k, ob') → S j' → S j := fun j j' oj oj' ob ob' hlt hoj hoj' hu hu' hSj => by
        have hpj : (ps j).up = some k := by rw [(T.pi j oj hoj).2.2.2.1, hu]; rfl
        have hpj' : (ps j').up = some k := by rw [(T.pi j' oj' hoj').2.2.2.1, hu']; rfl
        have hp := T.pair j j' oj oj' hlt hoj hoj'
        simp only [PI.pair, indep_up hpj hpj', Bool.or_false, Bool.and_eq_true] at hp
        rw [(T.pi j oj hoj).1] at hp
        exact T.anc j' oj' hoj' S hS hSj j hp.2
      obtain ⟨oS, hoS, hcells⟩ : ∃ oS, objAt β w k oS ∧ ∀ r, off ≤ r → r < off + n → nth oS.1 r = nth oi.1 r := by
        rcases exists_last (fun j => S j ∧ ∃ ob, (ds j).up = some (k, ob)) ops.length with hnone | ⟨js, hjs, ⟨hSj, obs, hus⟩, hlast⟩
        · have htl : ∀ j, j < i → ∀ ob, (ds j).up = some (k, ob) → ∃ o', hpOf (sts j).heap k = some o' ∧ ∀ r, off ≤ r → r < off + n → verAt o'.2.ver r = verAt ob.2.ver r := fun j hj ob hu => by
            obtain ⟨oj, hoj⟩ := nth_some (l := ops) (i := j) (by omega)
            cases ht : (ps j).tol (ps i) with
            | true => exact htol j oj ob hoj hu ht
            | false => exact absurd ⟨(hord j oj ob hoj hu ht).2 hj, ob, hu⟩ (hnone j (by omega))
          obtain ⟨o0, h0⟩ := T.stood i (by omega) (fun j hj ob hu => let ⟨o', h, _⟩ := htl j hj ob hu; ⟨o', h⟩) oi hoi
          obtain ⟨ob, hob, hc⟩ := T.range hE (k := k) (off := off) (n := n) (a := 0) (oa := o0) (by rw [T.zero]; exact h0) i (by omega) (by omega) (fun j _ hj ob o' hu ho' r h1 h2 => by
            obtain ⟨o2, h3, h4⟩ := htl j hj ob hu
            rw [ho'] at h3; simp only [Option.some.injEq] at h3; subst h3; exact h4 r h1 h2)
          rw [hoi] at hob; simp only [Option.some.injEq] at hob; subst hob
          exact ⟨o0, D.h1 k o0 h0 fun j ob hj hu => hnone j (D.sub j hj) ⟨hj, ob, hu⟩, fun r h1 h2 => (hc r h1 h2).symm⟩
        · obtain ⟨ojs, hojs⟩ := nth_some (l := ops) (i := js) hjs
          have hobj := D.h2 js k obs hSj hus fun j' ob' hj' hlt hu' => hlast j' hlt (D.sub j' hj') ⟨hj', ob', hu'⟩
          have hat : hpOf (sts (js + 1)).heap k = some obs := by rw [T.up_at hojs k, hus]; simp [upAt]
          have hne : js ≠ i := fun e => by subst e; exact hi hSj
          rcases Nat.lt_or_ge js i with hlt | hge
          · obtain ⟨ob, hob, hc⟩ := T.range hE (k := k) (off := off) (n := n) hat i (by omega) (by omega) (fun j h1 hj ob o' hu ho' r h2 h3 => by
              obtain ⟨oj, hoj⟩ := nth_some (l := ops) (i := j) (by omega)
              cases ht : (ps j).tol (ps i) with
              | true =>
                obtain ⟨o2, h4, h5⟩ := htol j oj ob hoj hu ht
                rw [ho'] at h4; simp only [Option.some.injEq] at h4; subst h4; exact h5 r h2 h3
              | false => exact absurd ⟨(hord j oj ob hoj hu ht).2 hj, ob, hu⟩ (hlast j (by omega) (by omega)))
            rw [hoi] at hob; simp only [Option.some.injEq] at hob; subst hob
            exact ⟨obs, hobj, fun r h1 h2 => (hc r h1 h2).symm⟩
          · obtain ⟨ob, hob, hc⟩ := T.range hE (k := k) (off := off) (n := n) hoi (js + 1) (by omega) (by omega) (fun j h1 hj ob o' hu ho' r h2 h3 => by
              obtain ⟨oj, hoj⟩ := nth_some (l := ops) (i := j) (by omega)
              have hji : j ≠ i := fun e => by subst e; rw [hnup] at hu; simp at hu
              have hSj' : S j := by
                by_cases e : j = js
                · subst e; exact hSj
                · exact hpre j js oj ojs ob obs (by omega) hoj hojs hu hus hSj
              cases ht : (ps j).tol (ps i) with
              | true =>
                obtain ⟨o2, h4, h5⟩ := htol j oj ob hoj hu ht
                rw [ho'] at h4; simp only [Option.some.injEq] at h4; subst h4; exact h5 r h2 h3
              | false => have := (hord j oj ob hoj hu ht).1 hSj'; omega)
            rw [hat] at hob; simp only [Option.some.injEq] at hob; subst hob
            exact ⟨obs, hobj, hc⟩
      refine ⟨fun l => if l = k then some oS else none, fun fs => ⟨fun l ob hl => ?_, D.inj, D.lt, D.fz⟩, fun m => ?_⟩
      · unfold restrict at hl
        split at hl
        · dsimp only at hl
          split at hl
          · rename_i e; subst e; simp only [Option.some.injEq] at hl; subst hl; exact hoS
          · simp at hl
        · simp at hl
      · rw [load_step hg hop hla, load_step hg hop hla, hoi, if_pos rfl]
        exact hcong _ _ hcells
  -- a label that is free
  obtain ⟨m, hm, hsoft⟩ : ∃ m, β m = none ∧ softStep E ops (sts i).slots (hpOf (sts i).heap) m o = some (ds i) ∧ ((∃ ob, (ds i).up = some (m, ob)) → m = (sts i).heap.length) := by
    rcases softStep_m (T.soft i o ho) with ⟨ob, hu⟩ | ⟨hu, hall⟩
    · refine ⟨(sts i).heap.length, ?_, T.soft i o ho, fun _ => rfl⟩
      cases hb : β (sts i).heap.length with
      | none => rfl
      | some b =>
        obtain ⟨j, ob', hj, hu'⟩ := D.h4 _ _ hb hhlen
        obtain ⟨oj, hoj⟩ := nth_some (l := ops) (i := j) (D.sub j hj)
        have hpj : (ps j).up = some (sts i).heap.length := by rw [(T.pi j oj hoj).2.2.2.1, hu']; rfl
        have hpi : (ps i).up = some (sts i).heap.length := by rw [hp4, hu]; rfl
        have hji := T.ord hS hi ho hS' hoj (fun _ => indep_up hpi hpj) (fun _ => indep_up hpj hpi) hj
        have := hhlab j _ ob' hji hu'
        omega
    · -- any label beyond all that are in use
      obtain ⟨m, hm1, hm2⟩ : ∃ m, β m = none ∧ (sts ops.length).heap.length ≤ m := by
        refine ⟨(sts ops.length).heap.length, ?_, Nat.le_refl _⟩
        cases hb : β (sts ops.length).heap.length with
        | none => rfl
        | some b =>
          have hN := (T.heaps ops.length (Nat.le_refl _))
          obtain ⟨j, ob', hj, hu'⟩ := D.h4 _ _ hb hN.1
          have := hN.2.1 j _ ob' (D.sub j hj) hu'
          omega
      refine ⟨m, hm1, hall m, fun ⟨ob, hu'⟩ => ?_⟩
      obtain ⟨o', ho', _⟩ := hu m ob hu'
      have h5 := hpOf_lt ho'
      have hN := (T.heaps ops.length (Nat.le_refl _))
      have h6 := hN.2.1 i m ob hin hu'
      omega
  obtain ⟨hsoft, hmlen⟩ := hsoft
  rw [← hXeq m] at hsoft
  refine softStep_sound hE hk hHR hm (fun t ht => hCof t (hp5 t ht)) (fun t v hg => hCof t (hp6 t v hg)) (T.cond i o ho) hsoft fun w' β' val hv ⟨hp', hsub, hhr, hst⟩ => hK β' _ w' ?_
  -- what stands behind it
  have hupi : ∀ l ob, (ds i).up = some (l, ob) → (ps i).up = some l := fun l ob h => by rw [hp4, h]; rfl
  have hold : ∀ l ob, objAt β w l ob → (∀ ob', (ds i).up ≠ some (l, ob')) → objAt β' w' l ob := fun l ob hobj hne => by
    have hal := hobj.alive
    obtain ⟨b, vs, rest, h1, h2, h3, _, h5⟩ := hobj
    refine ⟨b, vs, rest, hst.ext _ _ h1, relL_mono hst.ext _ _ h2, ?_, hst.dead _ hal, h5.mono hst.ext⟩
    rw [hst.frame b (D.lt _ _ hal h1) (fun l' o' e hb => ?_), h3]
    have hal' : β.dead l' = false := by
      rcases hst.upok l' o' e with h | ⟨o2, h, _⟩
      · rw [h, hm] at hb; simp at hb
      · exact (hhr.obj _ _ h).alive
    exact hne o' (by rw [← D.inj _ _ _ hal' hal hb h1]; exact e)
  have hgne : ∀ j oj t v s, nth ops j = some oj → (S j ∨ j = i) → (ds j).ent = .gd t v s → o.dst ≠ some t := by
    intro j oj t v s hoj hj hd hdt
    obtain ⟨g, og, hog, hdst, hgj, hbit⟩ := hgd j oj t v s hoj hd
    have hgi : g = i := T.dst_inj hog ho hdst hdt
    subst hgi
    rcases hj with hj | hj
    · exact hi (T.anc j oj hoj S hS hj _ hbit)
    · omega
  have hnoref : ∀ j oj d, nth ops j = some oj → (S j ∨ j = i) → o.dst = some d → (ds j).ent.noRef d = true := by
    intro j oj d hoj hj hd
    cases he : (ds j).ent with
    | none => rfl
    | val v => rfl
    | gd t v s =>
      simp only [Ent.noRef, Bool.not_eq_true']
      have := hgne j oj t v s hoj hj he
      rw [hd] at this
      have h2 : ¬ t = d := fun e => this (by rw [e])
      cases hb : Nat.beq t d with
      | false => rfl
      | true => exact absurd (by simpa using hb) h2
  refine ⟨by rw [put_size]; exact D.size, by rw [put_defers]; exact D.defers, fun x e he hx => ?_, fun j oj x hj hoj hd hxs => ?_, fun l ob hl hne => ?_, fun j l ob hj hu hlast => ?_, hst.inj, hst.lt, fun l b hb hl => ?_, D.ext.trans hst.ext, hst.fz, fun l b hb => ?_, fun b hb hn => ?_,
    Nat.le_trans D.wsize hst.size, hst.os.trans D.os, hst.tape.trans D.tape, hst.output.trans D.output, fun j hj => ?_, fun b c hb => ?_⟩
  · have h1 := (D.v1 x e he fun j oj hj => hx j oj (.inl hj)).mono hst.ext
    cases hd : o.dst with
    | none => exact h1
    | some d =>
      refine h1.other (fun e' => hx i o (.inr rfl) ho (by rw [hd, e'])) ?_
      cases e with
      | none => rfl
      | val v => rfl
      | gd t v s => exact absurd he (hset x t v s)
  · rw [put_size] at hxs
    rcases hj with hj | hj
    · have h1 := (D.v2 j oj x hj hoj hd hxs).mono hst.ext
      cases hdd : o.dst with
      | none => exact h1
      | some d => exact h1.other (fun e' => by subst e'; have := T.dst_inj hoj ho hd hdd; subst this; exact hi hj) (hnoref j oj d hoj (.inl hj) hdd)
    · subst hj
      rw [ho] at hoj; simp only [Option.some.injEq] at hoj; subst hoj
      rw [hd]
      exact EntFact.same hxs hv (hnoref j o x ho (.inr rfl) hd)
  · exact hold l ob (D.h1 l ob hl fun j ob' hj => hne j ob' (.inl hj)) fun ob' => hne i ob' (.inr rfl)
  · rcases hj with hj | hj
    · refine hold l ob (D.h2 j l ob hj hu fun j' ob' hj' hlt => hlast j' ob' (.inl hj') hlt) fun ob' hu' => ?_
      obtain ⟨oj, hoj⟩ := nth_some (l := ops) (i := j) (D.sub j hj)
      have hpj : (ps j).up = some l := by rw [(T.pi j oj hoj).2.2.2.1, hu]; rfl
      have hji := T.ord hS hi ho hS' hoj (fun _ => indep_up (hupi l ob' hu') hpj) (fun _ => indep_up hpj (hupi l ob' hu')) hj
      exact hlast i ob' (.inr rfl) hji hu'
    · subst hj; exact hst.obj l ob hu
  · rcases hst.new l b hb with h | ⟨h, _, ob, h3⟩
    · obtain ⟨j, ob, h1, h2⟩ := D.h4 l b h hl
      exact ⟨j, ob, .inl h1, h2⟩
    · subst h; exact ⟨i, ob, .inr rfl, h3⟩
  · rcases hst.new l b hb with h | ⟨h, h2, ob, h3⟩
    · exact D.new l b h
    · have := hmlen ⟨ob, h3⟩
      exact .inr ⟨by omega, Nat.le_trans D.wsize h2⟩
  · rw [hst.frame b (Nat.lt_of_lt_of_le hb D.wsize) (fun l ob hu hb' => ?_), D.frame b hb (fun l hl j ob hj => hn l hl j ob (.inl hj))]
    rcases D.new l b hb' with h | ⟨_, h⟩
    · exact hn l h i ob (.inr rfl) hu
    · omega
  · rcases hj with hj | hj
    · exact D.sub j hj
    · omega
  · rcases hst.fzn b c hb with h | h
    · exact D.fzn b c h
    · exact .inr (Nat.le_trans D.wsize h)
end

theorem filter_le {α : Type} {p p' : α → Bool} : ∀ {l : List α}, (∀ x ∈ l, p' x = true → p x = true) → (l.filter p').length ≤ (l.filter p).length
  | [], _ => by simp
  | x :: l, h => by
    have ih := filter_le (l := l) fun y hy => h y (by simp [hy])
    simp only [List.filter_cons]
    by_cases h1 : p' x = true
    · simp [h1, h x (by simp) h1, ih]
    · by_cases h2 : p x = true
      · simp [h1, h2]; omega
      · simp [h1, h2, ih]
theorem filter_lt {α : Type} {p p' : α → Bool} : ∀ {l : List α} {y : α}, (∀ x ∈ l, p' x = true → p x = true) → y ∈ l → p y = true → p' y = false → (l.filter p').length < (l.filter p).length
  | [], _, _, h, _, _ => by simp at h
  | x :: l, y, h, hy, h1, h2 => by
    have ih := filter_le (l := l) fun y hy => h y (by simp [hy])
    simp only [List.filter_cons]
    rcases List.mem_cons.1 hy with rfl | hy
    · simp [h1, h2]; omega
    · have ih' := filter_lt (l := l) (fun y hy => h y (by simp [hy])) hy h1 h2
      by_cases h3 : p' x = true
      · simp [h3, h x (by simp) h3, ih']
      · by_cases h4 : p x = true
        · simp [h3, h4]; omega
        · simp [h3, h4, ih']

theorem draw_sound {E : Env} (hE : E.Ok) {ops : List Oper} {st stm : St} (hrun : drawRun E ops ops 0 [] st = some stm) (hcs : ∀ c ∈ drawCs E ops ops st, c = true) (hset : ∀ x t v s, nth st.slots x ≠ some (.gd t v s)) {β : Lab} {a : Act} {w : World} (hR : Rel β st a w) {Q : Exit → Act → World → Prop}
    (hQ : ∀ β' a' w', Ext β st.heap w β' stm.heap w' → Rel β' stm a' w' → Q .normal a' w') {id : Nat} : (Code.region id ops.toArray true).wp E.P Q a w := by
  obtain ⟨sts, ds, ps, T, hstm⟩ := textRun_of hrun hcs
  refine wp_region_any hE.follows ?_
  obtain ⟨S0, hS0⟩ : ∃ S0 : Nat → Prop, S0 = fun _ => False := ⟨_, rfl⟩
  have hD0 : DI ops st ds β w S0 β a { w with drawn := w.drawn + 1 } := by
    subst hS0
    exact ⟨hR.size, hR.defers, fun x e he _ => hR.fact x e he, fun _ _ _ h => h.elim, fun l o hl _ => hR.hr.obj l o hl, fun _ _ _ h => h.elim, hR.hr.inj, hR.hr.lt, fun l b hb hl => by rw [hR.free l hl] at hb; simp at hb,
      Lab.le.refl _, hR.hr.fz, fun _ _ h => .inl h, fun _ _ _ => rfl, Nat.le_refl _, rfl, rfl, rfl, fun _ h => h.elim, fun _ _ h => .inl h⟩
  -- behind all of them
  have hend : ∀ (S : Nat → Prop) (β' : Lab) (a' : Act) (w' : World), (∀ j, j < ops.length → S j) → DI ops st ds β w S β' a' w' → Q .normal a' w' := by
    intro S β' a' w' hall D
    obtain ⟨hslen, hsv⟩ := T.slots ops.length (Nat.le_refl _)
    obtain ⟨hhlen, hhlab, hhv⟩ := T.heaps ops.length (Nat.le_refl _)
    rw [hstm] at hslen hsv hhlen hhlab hhv
    have hframe : ∀ b, b < w.heap.size → (∀ l, β l = some b → hpOf stm.heap l = hpOf st.heap l) → w'.heap[b]? = w.heap[b]? := fun b hb hn => by
      refine D.frame b hb fun l hl j ob hj hu => ?_
      have hlt : l < st.heap.length := by
        rcases Nat.lt_or_ge l st.heap.length with h | h
        · exact h
        · rw [hR.free l h] at hl; simp at hl
      have h1 := hn l hl
      obtain ⟨oj, hoj⟩ := nth_some (l := ops) (i := j) (D.sub j hj)
      have hlive : ∃ o, hpOf stm.heap l = some o := by
        cases ho : hpOf stm.heap l with
        | some o => exact ⟨o, rfl⟩
        | none =>
          obtain ⟨o0, ho0⟩ := T.kept j oj hoj l ob hu ops.length (D.sub j hj) (Nat.le_refl _)
          rw [hstm, ho] at ho0; simp at ho0
      obtain ⟨o, ho⟩ := hlive
      rcases (hhv l o ho).2 with ⟨j2, a1, a2, a3, a4⟩ | ⟨a1, a2⟩
      · obtain ⟨o0, h3, h4⟩ := a4 hlt
        rw [ho, h3] at h1; simp only [Option.some.injEq] at h1; subst h1; omega
      · exact a1 j ob (D.sub j hj) hu
    refine hQ β' a' w' ⟨D.ext, fun l b hb => (D.new l b hb).imp (fun h => h) (fun ⟨h1, h2⟩ => ⟨h1, .inl h2⟩), hhlen, fun l o hl ho => (hhv l o ho).1 hl, hframe, D.wsize, D.os, D.tape, D.output, fun b c hb => (D.fzn b c hb).imp (fun h => h) .inl⟩ ⟨by rw [D.size, hslen], fun x e he => ?_, ⟨fun l o hl => ?_, D.inj, D.lt, D.fz⟩, fun l hl => ?_, D.defers⟩
    · have hxs : x < a'.tmps.size := by rw [D.size, ← hslen]; exact nth_lt he
      rcases hsv x e he with ⟨j, oj, h1, h2, h3, rfl⟩ | ⟨h1, h2⟩
      · exact D.v2 j oj x (hall j h1) h2 h3 hxs
      · exact D.v1 x e h2 fun j oj hj hoj => h1 j oj (D.sub j hj) hoj
    · rcases (hhv l o hl).2 with ⟨j, a1, a2, a3, _⟩ | ⟨a1, a2⟩
      · exact D.h2 j l o (hall j a1) a2 fun j' ob hj' hlt => a3 j' ob hlt (D.sub j' hj')
      · exact D.h1 l o a2 fun j ob hj => a1 j ob (D.sub j hj)
    · cases hb : β' l with
      | none => rfl
      | some b =>
        obtain ⟨j, ob, h1, h2⟩ := D.h4 l b hb (Nat.le_trans hhlen hl)
        have := hhlab j l ob (D.sub j h1) h2
        omega
  have key : ∀ (fuel : Nat) (listed : Array Bool) (β' : Lab) (a' : Act) (w' : World), listed.size = ops.length → ((List.range ops.length).filter fun i => !listed.getD i true).length ≤ fuel →
      Closed ops (fun j => listed[j]? = some true) → DI ops st ds β w (fun j => listed[j]? = some true) β' a' w' → wpAny E.P .any ops.toArray Q fuel listed a' w' := by
    have hready : ∀ (listed : Array Bool), listed.size = ops.length → Region.ready .any ops.toArray listed = [] → ∀ j, j < ops.length → listed[j]? = some true := by
      intro listed hsz hnil j
      induction j using Nat.strongRecOn with
      | _ j ih =>
        intro hj
        rcases hb : listed[j]? with _ | b
        · rw [Array.getElem?_eq_none_iff] at hb; omega
        · cases b with
          | true => rfl
          | false =>
            exfalso
            obtain ⟨o, ho⟩ := nth_some (l := ops) (i := j) hj
            have hbk := T.back j o ho
            have hmem : j ∈ Region.ready .any ops.toArray listed := by
              unfold Region.ready
              rw [List.mem_filter]
              refine ⟨by simpa using hj, ?_⟩
              rw [nth_eq] at ho
              simp only [List.getElem?_toArray, ho, Option.map_some, Option.getD_some, Bool.and_eq_true, Bool.not_eq_true', Array.getD_eq_getD_getElem?, hb]
              refine ⟨by first | trivial | rfl, ?_⟩
              rw [Array.all_eq_true_iff_forall_mem]
              intro e he
              simp only [back, Bool.and_eq_true, List.all_eq_true] at hbk
              have := hbk.1 e (by simpa using he)
              by_cases hbd : Region.binds .any e = true
              · simp only [hbd, Bool.not_true, Bool.false_or, Nat.blt_eq] at this ⊢
                rw [ih e.on this (by omega)]; rfl
              · simp [hbd]
            rw [hnil] at hmem; simp at hmem
    intro fuel
    induction fuel with
    | zero =>
      intro listed β' a' w' hsz hcnt hcl D
      have hall : ∀ j, j < ops.length → listed[j]? = some true := fun j hj => by
        have hnil : ((List.range ops.length).filter fun i => !listed.getD i true) = [] := List.eq_nil_of_length_eq_zero (by omega)
        rw [List.filter_eq_nil_iff] at hnil
        have := hnil j (by simpa using hj)
        have hlt : j < listed.size := by omega
        simp only [Array.getD_eq_getD_getElem?, Array.getElem?_eq_getElem hlt, Option.getD_some, Bool.not_eq_true', Bool.not_eq_false] at this
        rw [Array.getElem?_eq_getElem hlt, this]
      simp only [wpAny]
      refine ⟨?_, hend _ β' a' w' hall D⟩
      unfold Region.ready
      rw [List.filter_eq_nil_iff]
      intro j hj
      have hj' : j < ops.length := by simpa using hj
      simp [Array.getD_eq_getD_getElem?, hall j hj']
    | succ fuel ih =>
      intro listed β' a' w' hsz hcnt hcl D
      simp only [wpAny]
      refine ⟨fun hnil => hend _ β' a' w' (hready listed hsz hnil) D, fun i hi => ?_⟩
      unfold Region.ready at hi
      rw [List.mem_filter] at hi
      obtain ⟨hi1, hi2⟩ := hi
      have hlt : i < ops.length := by simpa using hi1
      have hlt' : i < listed.size := by omega
      obtain ⟨o, ho⟩ := nth_some (l := ops) (i := i) hlt
      have ho' := ho
      rw [nth_eq] at ho'
      simp only [List.getElem?_toArray, ho', Option.map_some, Option.getD_some, Bool.and_eq_true, Bool.not_eq_true', Array.getD_eq_getD_getElem?, Array.getElem?_eq_getElem hlt'] at hi2
      obtain ⟨hun, hall⟩ := hi2
      rw [Array.all_eq_true_iff_forall_mem] at hall
      have hiS : ¬ listed[i]? = some true := by rw [Array.getElem?_eq_getElem hlt', hun]; simp
      have hset' : ∀ j, (listed.setIfInBounds i true)[j]? = some true ↔ (listed[j]? = some true ∨ j = i) := fun j => by
        rw [Array.getElem?_setIfInBounds]
        by_cases h : i = j
        · subst h; simp [hlt']
        · simp only [h, if_false]
          constructor
          · exact fun h' => .inl h'
          · rintro (h' | h')
            · exact h'
            · exact absurd h'.symm h
      have hcl' : Closed ops (fun j => listed[j]? = some true ∨ j = i) := by
        intro j oj hoj hj e he hb
        rcases hj with hj | hj
        · exact .inl (hcl j oj hoj hj e he hb)
        · subst hj
          rw [ho] at hoj; simp only [Option.some.injEq] at hoj; subst hoj
          have := hall e (by simpa using he)
          simp only [hb, Bool.not_true, Bool.false_or] at this
          left
          cases hx : listed[e.on]? with
          | none => rw [hx] at this; simp at this
          | some b => rw [hx] at this; simp at this; rw [this]
      have hcl2 : Closed ops (fun j => (listed.setIfInBounds i true)[j]? = some true) := by
        have : (fun j => (listed.setIfInBounds i true)[j]? = some true) = (fun j => listed[j]? = some true ∨ j = i) := funext fun j => propext (hset' j)
        rw [this]; exact hcl'
      have hstep := draw_step hE T hset hR.free D hcl hiS ho hcl' (K := wpAny E.P .any ops.toArray Q fuel (listed.setIfInBounds i true)) (Q := Q) (fun β2 a2 w2 D2 => by
        refine ih (listed.setIfInBounds i true) β2 a2 w2 (by simpa using hsz) ?_ hcl2 ?_
        · have := filter_lt (l := List.range ops.length) (p := fun i => !listed.getD i true) (p' := fun j => !(listed.setIfInBounds i true).getD j true) (y := i) (fun x _ hx => by
            simp only [Array.getD_eq_getD_getElem?, Bool.not_eq_true'] at hx ⊢
            rw [Array.getElem?_setIfInBounds] at hx
            split at hx
            · rename_i e; subst e; simp at hx
            · exact hx) (by simpa using hlt) (by simp [Array.getD_eq_getD_getElem?, Array.getElem?_eq_getElem hlt', hun]) (by simp [Array.getD_eq_getD_getElem?, hlt'])
          omega
        · have : (fun j => (listed.setIfInBounds i true)[j]? = some true) = (fun j => listed[j]? = some true ∨ j = i) := funext fun j => propext (hset' j)
          rw [this]; exact D2)
      unfold wpOp
      simp only [List.getElem?_toArray, ho']
      split
      · rename_i hw; rw [if_pos hw] at hstep; exact .inl hstep
      · rename_i hw; rw [if_neg hw] at hstep; exact hstep
  subst hS0
  refine key _ _ β a _ (by simp) ?_ ?_ ?_
  · simp only [List.size_toArray]
    exact Nat.le_trans (List.length_filter_le _ _) (by simp)
  · intro j o _ hj
    rw [Array.getElem?_replicate] at hj
    split at hj <;> simp at hj
  · have : (fun j => (Array.replicate ops.toArray.size false)[j]? = some true) = fun _ => False := funext fun j => propext ⟨fun h => by
      rw [Array.getElem?_replicate] at h
      split at h <;> simp at h, fun h => h.elim⟩
    rw [this]; exact hD0
end Go.Sx

namespace Go.Sx
open Go Go.RowKit Go.Proofs
/-! # regions that draw their order, walked order by order: what is told of the world may hang on what has come up -/
section
variable {P : Program} {ops : Array Oper} {Q : Exit → Act → World → Prop} {md : Region.Mode} {S : Array Bool → World → Prop}
def wpAnyG (P : Program) (md : Region.Mode) (ops : Array Oper) (Q : Exit → Act → World → Prop) (S : Array Bool → World → Prop) : Nat → Array Bool → Act → World → Prop
  | 0, listed, a, w => Region.ready md ops listed = [] ∧ Q .normal a w
  | n + 1, listed, a, w => (Region.ready md ops listed = [] → Q .normal a w) ∧
    ∀ i ∈ Region.ready md ops listed, wpOp P ops Q i (fun a' w' => S (listed.setIfInBounds i true) w' ∧ wpAnyG P md ops Q S n (listed.setIfInBounds i true) a' w') a w
theorem wpAnyG_any : ∀ (n : Nat) (listed : Array Bool) (a : Act) (w : World), wpAnyG P md ops Q S n listed a w → wpAny P md ops Q n listed a w
  | 0, _, _, _, h => h
  | n + 1, _, _, _, h => ⟨h.1, fun i hi => wpOp_mono (fun a' w' h' => wpAnyG_any n _ a' w' h'.2) (h.2 i hi)⟩
/-- waits an operation for number i? -/
def waitsFor (md : Region.Mode) (o : Oper) (i : Nat) : Prop := ∃ e ∈ o.after, Region.binds md e = true ∧ e.on = i
theorem wpAnyG_first {i : Nat} {oi : Oper} {v : Value} {R : World → Prop} (hi : ops[i]? = some oi) (hsel : ∀ (j : Nat) (o : Oper) cs b, ops[j]? = some o → o.op ≠ .select cs b)
    (hQ : ∀ c a w, Q (.panic c) (a.put oi.dst v) w → Q (.panic c) a w)
    (hSi : ∀ L w, S (L.setIfInBounds i true) w → S L w)
    (hSR : ∀ L w, (∀ k ok, ops[k]? = some ok → waitsFor md ok i → L.getD k false = false) → S L w → R w) :
    ∀ (fuel : Nat) (listed : Array Bool) (a : Act) (w : World),
      (∀ j oj, ops[j]? = some oj → j ≠ i → listed.getD j true = false → (∀ e ∈ oj.after, Region.binds md e = true → e.on ≠ i) → oi.apart ops oj = true) →
      (∀ k ok, ops[k]? = some ok → waitsFor md ok i → listed.getD k false = false) →
      i ∈ Region.ready md ops listed → YieldsIf P ops R oi v a → R w → S (listed.setIfInBounds i true) w →
      wpAnyG P md ops Q S fuel (listed.setIfInBounds i true) (a.put oi.dst v) w → wpAnyG P md ops Q S (fuel + 1) listed a w := by
  intro fuel
  induction fuel with
  | zero =>
    intro listed a w _ _ hr hy hR hS H
    refine ⟨fun h => (by rw [h] at hr; cases hr), fun j hj => ?_⟩
    by_cases hji : j = i
    · subst hji; exact hy.wpOp hi hR ⟨hS, H⟩
    · have := ready_mono hj hji
      rw [H.1] at this
      cases this
  | succ fuel ih =>
    intro listed a w hfree hdep hr hy hR hS H
    refine ⟨fun h => (by rw [h] at hr; cases hr), fun j hj => ?_⟩
    by_cases hji : j = i
    · subst hji; exact hy.wpOp hi hR ⟨hS, H⟩
    · have h1 := H.2 j (ready_mono hj hji)
      obtain ⟨hjun, oj, hoj, hall⟩ := mem_ready.1 hj
      have hnot : ∀ e ∈ oj.after, Region.binds md e = true → e.on ≠ i := fun e he hb heq => by
        have h1 := hall e he hb
        have h0 := (mem_ready.1 hr).1
        rw [heq] at h1
        rcases Nat.lt_or_ge i listed.size with h' | h'
        · simp [h'] at h0 h1; rw [h0] at h1; cases h1
        · simp [Array.getElem?_eq_none h'] at h1
      have h2 := wpOp_putIf hoj (hfree j oj hoj hji hjun hnot) (fun cs b => hsel i oi cs b hi) (fun cs b => hsel j oj cs b hoj) hQ hy h1
      have hfree' : ∀ k ok, ops[k]? = some ok → k ≠ i → (listed.setIfInBounds j true).getD k true = false →
          (∀ e ∈ ok.after, Region.binds md e = true → e.on ≠ i) → oi.apart ops ok = true := fun k ok hk hki hun hno => by
        refine hfree k ok hk hki ?_ hno
        by_cases hjk : j = k
        · subst hjk; exact hjun
        · rw [getD_set_ne true hjk] at hun; exact hun
      have hdep' : ∀ k ok, ops[k]? = some ok → waitsFor md ok i → (listed.setIfInBounds j true).getD k false = false := fun k ok hk hw => by
        by_cases hjk : j = k
        · subst hjk
          rw [hoj] at hk; simp only [Option.some.injEq] at hk; subst hk
          obtain ⟨e, he, hb, hon⟩ := hw
          exact absurd hon (hnot e he hb)
        · rw [getD_set_ne false hjk]; exact hdep k ok hk hw
      refine wpOp_mono (fun a' w' h3 => ?_) h2
      obtain ⟨hy', hS', hK'⟩ := h3
      rw [Array.setIfInBounds_comm _ _ (Ne.symm hji)] at hS' hK'
      have hSj := hSi _ _ hS'
      refine ⟨hSj, ih (listed.setIfInBounds j true) a' w' hfree' hdep' (ready_mono hr (Ne.symm hji)) hy' (hSR _ _ hdep' hSj) hS' hK'⟩
end
/-! ## values that are told wholly by what is known of them -/
mutual
def SV.exact (n : Nat) : SV → Bool
  | .int _ _ => true
  | .bool _ => true
  | .nilp => true
  | .raw _ => true
  | .ptr l _ => Nat.blt l n
  | .slice l _ _ _ => Nat.blt l n
  | .own l lc _ => Nat.blt l n && Nat.blt lc n
  | .gro l lc _ => Nat.blt l n && Nat.blt lc n
  | .agg cs => exactL n cs
  | .tuple cs => exactL n cs
  | _ => false
def exactL (n : Nat) : List SV → Bool
  | [] => true
  | c :: cs => c.exact n && exactL n cs
end
mutual
theorem exact_eq {n : Nat} {β : Lab} : ∀ (s : SV) (v v' : Value), s.exact n = true → SV.rel β s v → SV.rel β s v' → v' = v
  | .int _ _, _, _, _, h, h' => by simp only [SV.rel] at h h'; rw [h.1, h'.1]
  | .bool _, _, _, _, h, h' => by simp only [SV.rel] at h h'; rw [h, h']
  | .nilp, _, _, _, h, h' => by simp only [SV.rel] at h h'; rw [h, h']
  | .raw _, _, _, _, h, h' => by simp only [SV.rel] at h h'; rw [h.1, h'.1]
  | .ptr _ _, _, _, _, h, h' => by
    simp only [SV.rel] at h h'; obtain ⟨b, h1, rfl⟩ := h; obtain ⟨b', h2, rfl⟩ := h'
    rw [h1] at h2; simp only [Option.some.injEq] at h2; rw [h2]
  | .slice _ _ _ _, _, _, _, h, h' => by
    simp only [SV.rel] at h h'; obtain ⟨b, h1, rfl⟩ := h; obtain ⟨b', h2, rfl⟩ := h'
    rw [h1] at h2; simp only [Option.some.injEq] at h2; rw [h2]
  | .own _ _ _, _, _, _, h, h' => by
    simp only [SV.rel] at h h'; obtain ⟨b, c, h1, k1, rfl⟩ := h; obtain ⟨b', c', h2, k2, rfl⟩ := h'
    rw [h1] at h2; rw [k1] at k2; simp only [Option.some.injEq] at h2 k2; rw [h2, k2]
  | .gro _ _ _, _, _, _, h, h' => by
    simp only [SV.rel] at h h'; obtain ⟨b, c, h1, k1, rfl, _⟩ := h; obtain ⟨b', c', h2, k2, rfl, _⟩ := h'
    rw [h1] at h2; rw [k1] at k2; simp only [Option.some.injEq] at h2 k2; rw [h2, k2]
  | .agg cs, _, _, he, h, h' => by
    simp only [SV.exact] at he
    simp only [SV.rel] at h h'; obtain ⟨x, h1, rfl⟩ := h; obtain ⟨y, h2, rfl⟩ := h'
    rw [exactL_eq cs x y he h1 h2]
  | .tuple cs, _, _, he, h, h' => by
    simp only [SV.exact] at he
    simp only [SV.rel] at h h'; obtain ⟨x, h1, rfl⟩ := h; obtain ⟨y, h2, rfl⟩ := h'
    rw [exactL_eq cs x y he h1 h2]
  | .func _ _ _, _, _, he, _, _ => by simp [SV.exact] at he
  | .tsl _ _ _, _, _, he, _, _ => by simp [SV.exact] at he
  | .tptr _ _ _, _, _, he, _, _ => by simp [SV.exact] at he
  | .tz _, _, _, he, _, _ => by simp [SV.exact] at he
theorem exactL_eq {n : Nat} {β : Lab} : ∀ (s : List SV) (v v' : List Value), exactL n s = true → relL β s v → relL β s v' → v' = v
  | [], _, _, _, h, h' => by rw [relL_nil] at h h'; rw [h, h']
  | c :: cs, _, _, he, h, h' => by
    simp only [exactL, Bool.and_eq_true] at he
    rw [relL_cons] at h h'; obtain ⟨v, vs, h1, h2, rfl⟩ := h; obtain ⟨u, us, k1, k2, rfl⟩ := h'
    rw [exact_eq c v u he.1 h1 k1, exactL_eq cs vs us he.2 h2 k2]
end
mutual
theorem exact_down {n : Nat} {β β0 : Lab} (hb : ∀ l b, l < n → β l = some b → β0 l = some b) : ∀ (s : SV) (v : Value), s.exact n = true → SV.rel β s v → SV.rel (β0.cut n) s v
  | .int _ _, _, _, h => by simpa [SV.rel] using h
  | .bool _, _, _, h => by simpa [SV.rel] using h
  | .nilp, _, _, h => by simpa [SV.rel] using h
  | .raw _, _, _, h => by simpa [SV.rel] using h
  | .ptr l _, _, he, h => by
    simp only [SV.exact, Nat.blt_eq] at he
    simp only [SV.rel] at h ⊢; obtain ⟨b, h1, e⟩ := h; exact ⟨b, by rw [Lab.cut_blk, if_pos he]; exact hb l b he h1, e⟩
  | .slice l _ _ _, _, he, h => by
    simp only [SV.exact, Nat.blt_eq] at he
    simp only [SV.rel] at h ⊢; obtain ⟨b, h1, e⟩ := h; exact ⟨b, by rw [Lab.cut_blk, if_pos he]; exact hb l b he h1, e⟩
  | .own l lc _, _, he, h => by
    simp only [SV.exact, Bool.and_eq_true, Nat.blt_eq] at he
    simp only [SV.rel] at h ⊢; obtain ⟨b, c, h1, h2, e⟩ := h
    exact ⟨b, c, by rw [Lab.cut_blk, if_pos he.1]; exact hb l b he.1 h1, by rw [Lab.cut_blk, if_pos he.2]; exact hb lc c he.2 h2, e⟩
  | .gro l lc _, _, he, h => by
    simp only [SV.exact, Bool.and_eq_true, Nat.blt_eq] at he
    simp only [SV.rel] at h ⊢; obtain ⟨b, c, h1, h2, e⟩ := h
    exact ⟨b, c, by rw [Lab.cut_blk, if_pos he.1]; exact hb l b he.1 h1, by rw [Lab.cut_blk, if_pos he.2]; exact hb lc c he.2 h2, e⟩
  | .agg cs, _, he, h => by
    simp only [SV.exact] at he
    simp only [SV.rel] at h ⊢; obtain ⟨x, h1, e⟩ := h; exact ⟨x, exactL_down hb cs x he h1, e⟩
  | .tuple cs, _, he, h => by
    simp only [SV.exact] at he
    simp only [SV.rel] at h ⊢; obtain ⟨x, h1, e⟩ := h; exact ⟨x, exactL_down hb cs x he h1, e⟩
  | .func _ _ _, _, he, _ => by simp [SV.exact] at he
  | .tsl _ _ _, _, he, _ => by simp [SV.exact] at he
  | .tptr _ _ _, _, he, _ => by simp [SV.exact] at he
  | .tz _, _, he, _ => by simp [SV.exact] at he
theorem exactL_down {n : Nat} {β β0 : Lab} (hb : ∀ l b, l < n → β l = some b → β0 l = some b) : ∀ (s : List SV) (v : List Value), exactL n s = true → relL β s v → relL (β0.cut n) s v
  | [], _, _, h => by simpa [relL] using h
  | c :: cs, _, he, h => by
    simp only [exactL, Bool.and_eq_true] at he
    rw [relL_cons] at h ⊢; obtain ⟨v, vs, h1, h2, e⟩ := h
    exact ⟨v, vs, exact_down hb c v he.1 h1, exactL_down hb cs vs he.2 h2, e⟩
end
/-! ## what of the memory stays as it is, so long as nothing that writes it has come up -/
def keepO (_n : Nat) (o : Obj') : Bool := o.2.own.isNone && o.2.lst.isNone
def hpK (H : SHeap) : HP := fun l => match hpOf H l with
  | some o => if keepO H.length o then some o else none
  | none => none
def sameK (H H' : SHeap) : Nat → Bool
  | 0 => true
  | l + 1 => (match hpK H l with
    | some o => match hpOf H' l with
      | some o' => Nat.beq o'.2.stamp o.2.stamp
      | none => false
    | none => true) && sameK H H' l
theorem sameK_at {H H' : SHeap} : ∀ {n l : Nat}, sameK H H' n = true → l < n → ∀ o, hpK H l = some o → ∃ o', hpOf H' l = some o' ∧ o'.2.stamp = o.2.stamp
  | n + 1, l, h, hl, o, ho => by
    simp only [sameK, Bool.and_eq_true] at h
    rcases Nat.lt_or_ge l n with h1 | h1
    · exact sameK_at h.2 h1 o ho
    · have : l = n := by omega
      subst this
      have h2 := h.1
      rw [ho] at h2
      simp only at h2
      split at h2
      · rename_i o' ho'; exact ⟨o', ho', by simpa using h2⟩
      · cases h2
/-- the memory at the region's start, as far as it is told wholly -/
def SK (β0 : Lab) (H0 : SHeap) (w : World) : Prop := HR β0 (hpK H0) w
theorem hpK_some {H : SHeap} {l : Nat} {o : Obj'} (h : hpK H l = some o) : hpOf H l = some o ∧ keepO H.length o = true := by
  unfold hpK at h
  split at h <;> (try simp only [reduceCtorEq] at h)
  rename_i o' ho
  split at h <;> simp only [Option.some.injEq, reduceCtorEq] at h
  rename_i hk; subst h; exact ⟨ho, hk⟩
theorem SK.later {β0 β : Lab} {H0 H : SHeap} {w0 w : World} (hfree : ∀ l, H0.length ≤ l → β0 l = none) (hr0 : HR β0 (hpOf H0) w0) (he : Ext β0 H0 w0 β H w) (hr : HR β (hpOf H) w) (hs : sameK H0 H H0.length = true) : SK β0 H0 w := by
  refine ⟨fun l o ho => ?_, hr0.inj, fun l b d h => Nat.lt_of_lt_of_le (hr0.lt l b d h) he.size, fun b c h => ⟨(hr.fz b c (he.ext.fz _ _ h)).1, (hr0.fz b c h).2⟩⟩
  obtain ⟨h1, h2⟩ := hpK_some ho
  have hl := hpOf_lt h1
  obtain ⟨o', h3, h4⟩ := sameK_at hs hl o ho
  obtain ⟨o2, h5, h6⟩ := he.live l o' hl h3
  rw [h1] at h5; simp only [Option.some.injEq] at h5; subst h5
  have hoo : o' = o := by
    rcases h6 with h6 | h6
    · exact h6.symm
    · omega
  subst hoo
  obtain ⟨b, vs, rest, k1, k2, k3, k4, k5⟩ := hr0.obj l o' h1
  refine ⟨b, vs, rest, k1, k2, ?_, k4, k5⟩
  rw [he.frame b (hr0.lt l b k4 k1) fun l' hb' => ?_]
  · exact k3
  · have hl' : l' < H0.length := by
      rcases Nat.lt_or_ge l' H0.length with h | h
      · exact h
      · rw [hfree l' h] at hb'; simp at hb'
    cases ho' : hpOf H0 l' with
    | none =>
      cases hh : hpOf H l' with
      | none => rfl
      | some o3 => obtain ⟨o4, h7, _⟩ := he.live l' o3 hl' hh; rw [ho'] at h7; simp at h7
    | some o3 =>
      have hal := (hr0.obj l' o3 ho').alive
      have : l' = l := hr0.inj l' l b hal k4 hb' k1
      subst this
      rw [h3]
      rw [h1] at ho'; exact ho'
/-! ## the walk -/
def takeV (E : Env) (H0 : SHeap) (ops : List Oper) (st : St) (o : Oper) : Option (SV × Bool) := match guardSlot ops o with
  | some none => match o.op with
    | .move x => (lookE [] st.slots x).map fun v => (v, false)
    | .assign x => (lookE [] st.slots x).map fun v => (v, false)
    | _ => bif o.op.operands.toList.all (fun x => match lookE [] st.slots x with | some v => v.exact H0.length | none => false) then
        match symOp E.P (lookE [] st.slots) (hpK H0) H0.length o with
        | some ⟨v, none⟩ => bif v.exact H0.length then some (v, true) else none
        | _ => none
      else none
  | _ => none
def isStore (o : Oper) : Bool := match o.op with | .store .. => true | _ => false
def brkOf : List Oper → Nat → List Nat
  | [], _ => []
  | o :: l, k => bif isStore o then k :: brkOf l (k + 1) else brkOf l (k + 1)
def waitsB (o : Oper) (i : Nat) : Bool := o.after.toList.any fun e => Region.binds .any e && Nat.beq e.on i
def okTake (ops : List Oper) (listed : Array Bool) (i : Nat) (b : Bool) : Bool :=
  Region.free .any ops.toArray listed i && (List.range ops.length).all (fun k => match nth ops k with
    | some o => (!waitsB o i || !listed.getD k false) && (!isStore o || (!Nat.beq k i && (!b || waitsB o i)))
    | none => true)
def firstTake (E : Env) (H0 : SHeap) (ops : List Oper) (listed : Array Bool) (st : St) : List Nat → Option (Nat × Oper × SV × Bool)
  | [] => none
  | i :: rs => match nth ops i with
    | some o => match takeV E H0 ops st o with
      | some (v, b) => bif okTake ops listed i b then some (i, o, v, b) else firstTake E H0 ops listed st rs
      | none => firstTake E H0 ops listed st rs
    | none => firstTake E H0 ops listed st rs
def bothAll {α : Type} : List (T α) → T α
  | [] => .fail
  | t :: l => match l with
    | [] => t
    | _ => .both t (bothAll l)
def brkIn (ops : List Oper) (listed : Array Bool) : Bool := (List.range ops.length).any fun k => match nth ops k with
  | some o => isStore o && listed.getD k false
  | none => false
def symDraw (E : Env) (call : CallF) (ops : List Oper) (H0 : SHeap) : Nat → Array Bool → St → T St
  | 0, listed, st => match Region.ready .any ops.toArray listed with
    | [] => .ret st
    | _ => .fail
  | n + 1, listed, st => match Region.ready .any ops.toArray listed with
    | [] => .ret st
    | rs => match firstTake E H0 ops listed st rs with
      | some (i, o, v, _) => match putE st.slots o.dst (.val v) with
        | some s => symDraw E call ops H0 n (listed.setIfInBounds i true) ⟨s, st.heap⟩
        | none => .fail
      | none => bothAll (rs.map fun i => match nth ops i with
        | some o => (symOperS E call ops st o).bind fun st' => bif brkIn ops (listed.setIfInBounds i true) || sameK H0 st'.heap H0.length then symDraw E call ops H0 n (listed.setIfInBounds i true) st' else .fail
        | none => .fail)
theorem bothAll_holds {α : Type} {K : α → Prop} : ∀ {l : List (T α)}, (bothAll l).Holds K → ∀ t ∈ l, t.Holds K
  | [], h, _, _ => h.elim
  | [t], h, x, hx => by simp only [List.mem_singleton] at hx; subst hx; exact h
  | t :: u :: l, h, x, hx => by
    rcases List.mem_cons.1 hx with rfl | hx
    · exact h.1
    · exact bothAll_holds h.2 x hx
theorem waitsB_iff {o : Oper} {i : Nat} : waitsB o i = true ↔ waitsFor .any o i := by
  unfold waitsB waitsFor
  rw [List.any_eq_true]
  constructor
  · rintro ⟨e, he, h⟩; simp only [Bool.and_eq_true, Nat.beq_eq] at h; exact ⟨e, by simpa using he, h.1, h.2⟩
  · rintro ⟨e, he, h1, h2⟩; exact ⟨e, by simpa using he, by simp [h1, h2]⟩
/-- has nothing come up that stores? -/
def noBrk (ops : List Oper) (L : Array Bool) : Prop := ∀ k o, nth ops k = some o → isStore o = true → L.getD k false = false
theorem firstTake_some {E : Env} {H0 : SHeap} {ops : List Oper} {listed : Array Bool} {st : St} {i : Nat} {o : Oper} {v : SV} {b : Bool} : ∀ {rs : List Nat}, firstTake E H0 ops listed st rs = some (i, o, v, b) →
    i ∈ rs ∧ nth ops i = some o ∧ takeV E H0 ops st o = some (v, b) ∧ okTake ops listed i b = true
  | j :: rs, h => by
    unfold firstTake at h
    split at h
    · rename_i o' ho
      split at h
      · rename_i v' b' ht
        cases hk : okTake ops listed j b' with
        | true =>
          rw [hk] at h; simp only [cond_true, Option.some.injEq, Prod.mk.injEq] at h
          obtain ⟨rfl, rfl, rfl, rfl⟩ := h
          exact ⟨List.mem_cons_self, ho, ht, hk⟩
        | false =>
          rw [hk] at h; simp only [cond_false] at h
          obtain ⟨h1, h2⟩ := firstTake_some h
          exact ⟨List.mem_cons_of_mem _ h1, h2⟩
      · obtain ⟨h1, h2⟩ := firstTake_some h
        exact ⟨List.mem_cons_of_mem _ h1, h2⟩
    · obtain ⟨h1, h2⟩ := firstTake_some h
      exact ⟨List.mem_cons_of_mem _ h1, h2⟩
  | [], h => by simp [firstTake] at h
theorem nthLt {α : Type} {l : List α} {i : Nat} {x : α} (h : nth l i = some x) : i < l.length := by
  rw [nth_eq] at h; exact (List.getElem?_eq_some_iff.1 h).1
theorem okTake_spec {ops : List Oper} {listed : Array Bool} {i : Nat} {b : Bool} (h : okTake ops listed i b = true) :
    Region.free .any ops.toArray listed i = true ∧ (∀ k o, nth ops k = some o → waitsFor .any o i → listed.getD k false = false) ∧ (∀ k o, nth ops k = some o → isStore o = true → k ≠ i ∧ (b = true → waitsFor .any o i)) := by
  unfold okTake at h
  simp only [Bool.and_eq_true, List.all_eq_true, List.mem_range] at h
  refine ⟨h.1, fun k o ho hw => ?_, fun k o ho hs => ?_⟩
  · have := h.2 k (nthLt ho)
    rw [ho] at this
    simp only [Bool.and_eq_true, Bool.or_eq_true, Bool.not_eq_true'] at this
    rcases this.1 with h1 | h1
    · rw [waitsB_iff.2 hw] at h1; cases h1
    · exact h1
  · have := h.2 k (nthLt ho)
    rw [ho] at this
    simp only [Bool.and_eq_true, Bool.or_eq_true, Bool.not_eq_true', hs, Bool.true_eq_false, false_or] at this
    refine ⟨fun e => by have := this.2.1; rw [e] at this; simp at this, fun hb => ?_⟩
    rcases this.2.2 with h1 | h1
    · rw [hb] at h1; cases h1
    · exact waitsB_iff.1 h1
theorem takeV_sound {E : Env} {H0 : SHeap} {ops : List Oper} {st : St} {o : Oper} {v : SV} {b : Bool} {β0 β : Lab} {w0 w : World} {a : Act} (hfree : ∀ l, H0.length ≤ l → β0 l = none)
    (he : Ext β0 H0 w0 β st.heap w) (h : Rel β st a w) (ht : takeV E H0 ops st o = some (v, b)) (hS : b = true → SK β0 H0 w) :
    ∃ val, SV.rel β v val ∧ YieldsIf E.P ops.toArray (fun w => b = true → SK β0 H0 w) o val a := by
  unfold takeV at ht
  split at ht <;> (try simp only [reduceCtorEq] at ht)
  rename_i hg
  have hw := wanted_none (ops := ops) (a := a) hg
  have hl : ∀ x ∈ o.op.operands, ∀ s, lookE [] st.slots x = some s → SV.rel β s (a.eval x) := fun x _ s hs => lookE_sound (known_true h) (fs := []) (fun p hp => by simp at hp) (fun _ _ => trivial) hs
  split at ht
  · rename_i x ho
    simp only [Option.map_eq_some_iff, Prod.mk.injEq] at ht
    obtain ⟨v', hx, rfl, rfl⟩ := ht
    exact ⟨a.eval x, hl x (by rw [ho]; simp [Op.operands]) _ hx, .inl ⟨hw, fun w _ => by simp [execOp, ho]⟩⟩
  · rename_i x ho
    simp only [Option.map_eq_some_iff, Prod.mk.injEq] at ht
    obtain ⟨v', hx, rfl, rfl⟩ := ht
    exact ⟨a.eval x, hl x (by rw [ho]; simp [Op.operands]) _ hx, .inl ⟨hw, fun w _ => by simp [execOp, ho]⟩⟩
  · generalize hc : (o.op.operands.toList.all fun x => match lookE [] st.slots x with | some v => v.exact H0.length | none => false) = c at ht
    cases c with
    | false => simp at ht
    | true =>
      simp only [cond_true] at ht
      split at ht <;> (try simp only [reduceCtorEq] at ht)
      rename_i v' hsym
      cases hx : v'.exact H0.length with
      | false => rw [hx] at ht; simp at ht
      | true =>
        rw [hx] at ht
        simp only [cond_true, Option.some.injEq, Prod.mk.injEq] at ht
        obtain ⟨rfl, rfl⟩ := ht
        have hdn : ∀ l b, l < H0.length → β l = some b → β0 l = some b := fun l b hl hb => by
          rcases he.new l b hb with h | ⟨h, _⟩
          · exact h
          · omega
        rw [List.all_eq_true] at hc
        have hl0 : ∀ x ∈ o.op.operands, ∀ s, lookE [] st.slots x = some s → SV.rel β0 s (a.eval x) := fun x hx s hs => by
          have := hc x (by simpa using hx)
          rw [hs] at this
          exact SV.rel_mono (Lab.cut_le β0 _) _ _ (exact_down hdn s _ this (hl x hx s hs))
        have hm : β0 H0.length = none := hfree _ (Nat.le_refl _)
        obtain ⟨nx, w', β', val, h1, h2, h3, h4, h5⟩ := symOp_sound hsym (hS rfl) hm hl0
        obtain ⟨rfl, rfl, rfl⟩ := h5 rfl
        refine ⟨val, SV.rel_mono he.ext _ _ h3, .inl ⟨hw, fun w2 hw2 => ?_⟩⟩
        obtain ⟨nx2, w2', β2', val2, k1, k2, k3, k4, k5⟩ := symOp_sound hsym (hw2 rfl) hm hl0
        obtain ⟨rfl, rfl, rfl⟩ := k5 rfl
        rw [exact_eq _ _ _ hx h3 k3] at k1
        exact k1
theorem symDraw_sound {E : Env} (hE : E.Ok) {call : CallF} (hcall : CallOk E.P call) {ops : List Oper} (hns : Region.noSelect ops.toArray = true) {H0 : SHeap} {β0 : Lab} {w0 : World} (hr0 : HR β0 (hpOf H0) w0) (hfree : ∀ l, H0.length ≤ l → β0 l = none) {Q : Act → World → Prop} :
    ∀ (n : Nat) (listed : Array Bool) {st : St} {β : Lab} {a : Act} {w : World}, Rel β st a w → Ext β0 H0 w0 β st.heap w →
      ((symDraw E call ops H0 n listed st).Holds fun st' => ∀ β' a' w', Ext β0 H0 w0 β' st'.heap w' → Rel β' st' a' w' → Q a' w') →
      (noBrk ops listed → SK β0 H0 w) →
      wpAnyG E.P .any ops.toArray (fun e a w => e = .normal ∧ Q a w) (fun L w => noBrk ops L → SK β0 H0 w) n listed a w
  | 0, listed, st, β, a, w, h, he, hK, _ => by
    simp only [symDraw] at hK
    split at hK
    · rename_i hrd; exact ⟨hrd, rfl, hK β a w he h⟩
    · exact hK.elim
  | n + 1, listed, st, β, a, w, h, he, hK, hS => by
    simp only [symDraw] at hK
    split at hK
    · rename_i hrd
      exact ⟨fun _ => ⟨rfl, hK β a w he h⟩, fun i hi => by rw [hrd] at hi; simp at hi⟩
    rename_i hne
    split at hK
    · rename_i i o v b hft
      obtain ⟨hi, ho, htk, hok⟩ := firstTake_some hft
      obtain ⟨hfr, hdep, hst⟩ := okTake_spec hok
      have hoi : ops.toArray[i]? = some o := by rw [nth_eq] at ho; simpa using ho
      have hnb : b = true → noBrk ops listed := fun hb k ok hk hs => hdep k ok hk ((hst k ok hk hs).2 hb)
      have hR : b = true → SK β0 H0 w := fun hb => hS (hnb hb)
      obtain ⟨val, hval, hy⟩ := takeV_sound hfree he h htk hR
      split at hK
      · rename_i s hput
        obtain ⟨hsz, hfact⟩ := putE_facts (Lab.le.refl _) h.size h.fact (val := val) (e := .val v) (by simpa [DFact] using hval) hput
        have h' : Rel β ⟨s, st.heap⟩ (a.put o.dst val) w := ⟨hsz, hfact, h.hr, h.free, by rw [← h.defers]; cases o.dst <;> rfl⟩
        have hset : ∀ (L : Array Bool), noBrk ops (L.setIfInBounds i true) ↔ noBrk ops L := fun L =>
          ⟨fun hL k ok hk hs => by have := hL k ok hk hs; rwa [getD_set_ne false (fun e => (hst k ok hk hs).1 e.symm)] at this,
           fun hL k ok hk hs => by rw [getD_set_ne false (fun e => (hst k ok hk hs).1 e.symm)]; exact hL k ok hk hs⟩
        refine wpAnyG_first (R := fun w => b = true → SK β0 H0 w) hoi (Region.noSelect_spec hns) (fun c a w h => absurd h.1 (by simp)) ?_ ?_ n listed a w (Region.free_spec hoi hfr) ?_ hi hy hR ?_ (symDraw_sound hE hcall hns hr0 hfree n _ h' he hK ?_)
        · intro L w hSL hL
          exact hSL ((hset L).2 hL)
        · intro L w hL hSL hb
          exact hSL (fun k ok hk hs => hL k ok (by rw [nth_eq] at hk; simpa using hk) ((hst k ok hk hs).2 hb))
        · exact fun k ok hk hw => hdep k ok (by rw [nth_eq]; simpa using hk) hw
        · exact fun hL => hS ((hset _).1 hL)
        · exact fun hL => hS ((hset _).1 hL)
      · exact hK.elim
    · refine ⟨fun e => absurd e hne, fun i hi => ?_⟩
      have hKi := bothAll_holds hK _ (List.mem_map.2 ⟨i, hi, rfl⟩)
      cases ho : nth ops i with
      | none => rw [ho] at hKi; exact hKi.elim
      | some o =>
        rw [ho] at hKi
        simp only at hKi
        have hoi : ops.toArray[i]? = some o := by rw [nth_eq] at ho; simpa using ho
        have hstep := symOperS_sound hE hcall h (Q := fun e a w => e = .normal ∧ Q a w)
          (K := fun a' w' => (noBrk ops (listed.setIfInBounds i true) → SK β0 H0 w') ∧ wpAnyG E.P .any ops.toArray (fun e a w => e = .normal ∧ Q a w) (fun L w => noBrk ops L → SK β0 H0 w) n (listed.setIfInBounds i true) a' w')
          (T.Holds.mono (fun st' hst' β' a' w' he' hr' => by
            have he2 := Ext.trans hfree h.free he he'
            generalize hc : (brkIn ops (listed.setIfInBounds i true) || sameK H0 st'.heap H0.length) = c at hst'
            cases c with
            | false => exact hst'.elim
            | true =>
              simp only [cond_true] at hst'
              have hSn : noBrk ops (listed.setIfInBounds i true) → SK β0 H0 w' := fun hnb => by
                rcases Bool.or_eq_true _ _ ▸ hc with h1 | h1
                · exfalso
                  unfold brkIn at h1
                  rw [List.any_eq_true] at h1
                  obtain ⟨k, _, hk⟩ := h1
                  split at hk
                  · rename_i ok hok
                    simp only [Bool.and_eq_true] at hk
                    rw [hnb k ok hok hk.1] at hk
                    exact absurd hk.2 (by simp)
                  · cases hk
                · exact SK.later hfree hr0 he2 hr'.hr h1
              exact ⟨hSn, symDraw_sound hE hcall hns hr0 hfree n _ hr' he2 hst' hSn⟩) (T.Holds.bind hKi))
        unfold wpOp
        simp only [hoi]
        split
        · rename_i hw; rw [if_pos hw] at hstep; exact .inl hstep
        · rename_i hw; rw [if_neg hw] at hstep; exact hstep
/-- a region that draws its order, walked order by order -/
def drawAll (E : Env) (call : CallF) (ops : List Oper) (st : St) : T St :=
  bif Region.noSelect ops.toArray then symDraw E call ops st.heap ops.length (Array.replicate ops.length false) st else .fail
theorem sameK_refl (H : SHeap) : ∀ n, sameK H H n = true
  | 0 => rfl
  | n + 1 => by
    simp only [sameK, sameK_refl H n, Bool.and_true]
    split
    · rename_i o ho
      rw [(hpK_some ho).1]; simp
    · rfl
theorem drawAll_sound {E : Env} (hE : E.Ok) {call : CallF} (hcall : CallOk E.P call) {ops : List Oper} {st : St} {β : Lab} {a : Act} {w : World} (h : Rel β st a w) {id : Nat} {Q : Exit → Act → World → Prop}
    (hK : (drawAll E call ops st).Holds fun st' => ∀ β' a' w', Ext β st.heap w β' st'.heap w' → Rel β' st' a' w' → Q .normal a' w') : (Code.region id ops.toArray true).wp E.P Q a w := by
  unfold drawAll at hK
  cases hns : Region.noSelect ops.toArray with
  | false => rw [hns] at hK; exact hK.elim
  | true =>
    rw [hns] at hK
    simp only [cond_true] at hK
    have hw0 : Rel β st a { w with drawn := w.drawn + 1 } := ⟨h.size, h.fact, ⟨h.hr.obj, h.hr.inj, h.hr.lt, h.hr.fz⟩, h.free, h.defers⟩
    have hext : Ext β st.heap w β st.heap { w with drawn := w.drawn + 1 } :=
      ⟨Lab.le.refl _, fun _ _ h => .inl h, Nat.le_refl _, fun _ o _ h => ⟨o, h, .inl rfl⟩, fun _ _ _ => rfl, Nat.le_refl _, rfl, rfl, rfl, fun _ _ h => .inl h⟩
    have hall := symDraw_sound hE hcall hns (H0 := st.heap) (w0 := w) h.hr h.free (Q := fun a w => Q .normal a w) ops.length (Array.replicate ops.length false) hw0 hext hK (fun _ => SK.later h.free h.hr hext hw0.hr (sameK_refl _ _))
    refine wp_mono (Q := fun e a w => e = .normal ∧ Q .normal a w) (wp_region_any hE.follows ?_) (fun e a w hq => by obtain ⟨rfl, hq⟩ := hq; exact hq)
    have h2 := wpAnyG_any _ _ _ _ hall
    simpa using h2
end Go.Sx

namespace Go.Sx
open Go.RowKit Go.Proofs

/-! # code, calls -/
inductive Ex where
  | normal | ret
  | exit (id : Nat)
  | goto (l : Nat)
def Ex.toExit : Ex → Exit
  | .normal => .normal
  | .ret => .ret
  | .exit id => .exit id
  | .goto l => .goto l
def Ent.plain : Ent → Bool
  | .gd _ _ _ => false
  | _ => true
def symRegion (E : Env) (call : CallF) (ops : List Oper) (draw : Bool) (st : St) : T St :=
  match draw with
  | true => match drawRun E ops ops 0 [] st with
    | some st' => if st.slots.all Ent.plain then chkAll (drawCs E ops ops st) (.ret st'.settle) else .fail
    | none => (drawAll E call ops st).bind fun st' => .ret st'.settle
  | false => (symOps E call ops ops st).bind fun st' => .ret st'.settle
def evalC (s : List Ent) (c : Operand) : Option SB := match lookE [] s c with
  | some (.bool b) => some b
  | _ => none
def symLoop (body : St → T (Ex × St)) : Nat → St → T (Ex × St)
  | 0, _ => .fail
  | k + 1, s => (body s).bind fun r => match r.1 with
    | .normal => symLoop body k r.2
    | e => .ret (e, r.2)
def symCode (E : Env) (call : CallF) : Nat → Code → St → T (Ex × St)
  | 0, _, _ => .fail
  | n + 1, c, s => match c with
    | .skip => .ret (.normal, s)
    | .label _ => .ret (.normal, s)
    | .ret => .ret (.ret, s)
    | .exit id => .ret (.exit id, s)
    | .goto l => .ret (.goto l, s)
    | .scope x => (symCode E call n x s).bind fun r => match r.1 with
      | .goto _ => .fail
      | e => .ret (e, r.2)
    | .seq x y => (symCode E call n x s).bind fun r => match r.1 with
      | .normal => symCode E call n y r.2
      | e => .ret (e, r.2)
    | .cond c x y => match evalC s.slots c with
      | some (.lit true) => symCode E call n x s
      | some (.lit false) => symCode E call n y s
      | some (.sym b) => .ite b (symCode E call n x s) (symCode E call n y s)
      | none => .fail
    | .block id x => (symCode E call n x s).bind fun r => match r.1 with
      | .exit id' => if Nat.beq id' id then .ret (.normal, r.2) else .ret (.exit id', r.2)
      | e => .ret (e, r.2)
    | .loop x => symLoop (symCode E call n x) n s
    | .region _ ops draw => (symRegion E call ops.toList draw s).bind fun s' => .ret (.normal, s')
    | _ => .fail
def resultS (P : Program) (st : St) : List ResultVar → Option (List SV)
  | [] => some []
  | .tmp t :: l => match lookE [] st.slots (.tmp t), resultS P st l with
    | some v, some vs => some (v :: vs)
    | _, _ => none
  | .cell a t :: l => match lookE [] st.slots (.tmp a), resultS P st l with
    | some (.ptr b off), some vs => match hpOf st.heap b with
      | some (cs, _) => (partS P t cs off).map (· :: vs)
      | none => none
    | _, _ => none
def resultV : List SV → SV
  | [v] => v
  | vs => .tuple vs
def symBody (E : Env) (call : CallF) (fn : Func) (fuel : Nat) (args : List SV) (H : SHeap) : T (SV × SHeap) := match fn.body with
  | some c => (symCode E call fuel c ⟨args.map .val ++ List.replicate (fn.ntmps - args.length) (.val undefS), H⟩).bind fun r => match r.1 with
    | .exit _ => .fail
    | .goto _ => .fail
    | _ => match resultS E.P r.2 fn.results.toList with
      | some vs => .ret (resultV vs, r.2.heap)
      | none => .fail
  | none => .fail
/-! ## a call's ways joined into one, where what it hands back bears no address -/
def mergeI (c : Bool) : SI → SI → SI
  | .lit x, .lit y => if x = y then .lit x else .sym (bif c then x else y)
  | a, b => .sym (bif c then a.val else b.val)
mutual
def mergeV (c : Bool) : SV → SV → Option SV
  | .int k a, .int k' b => if k = k' then some (.int k (mergeI c a b)) else none
  | .bool a, .bool b => some (.bool (mergeB c a b))
  | .agg xs, .agg ys => match mergeVL c xs ys with | some zs => some (.agg zs) | none => none
  | .tuple xs, .tuple ys => match mergeVL c xs ys with | some zs => some (.tuple zs) | none => none
  | _, _ => none
def mergeVL (c : Bool) : List SV → List SV → Option (List SV)
  | [], [] => some []
  | x :: xs, y :: ys => match mergeV c x y, mergeVL c xs ys with
    | some z, some zs => some (z :: zs)
    | _, _ => none
  | _, _ => none
end
def trimE : Option Obj' → Option Obj' → Option Obj'
  | some o0, some o => if Nat.beq o.2.stamp o0.2.stamp then some o0 else if flatL o.1 && o.2.own.isNone && o.2.lst.isNone && Nat.blt o0.2.stamp o.2.stamp then some o else none
  | _, _ => none
def mergeE (c : Bool) : Option Obj' → Option Obj' → Option Obj' → Option Obj'
  | some o0, some o1, some o2 => if Nat.beq o1.2.stamp o0.2.stamp && Nat.beq o2.2.stamp o0.2.stamp then some o0
    else if flatL o1.1 && flatL o2.1 && o1.2.own.isNone && o2.2.own.isNone && Nat.beq o1.2.ty o2.2.ty then
      match mergeVL c o1.1 o2.1 with
      | some cs => some (cs, ⟨o1.2.ty, none, o0.2.stamp + o1.2.stamp + o2.2.stamp + 1, o0.2.ver, none⟩)
      | none => none
    else none
  | _, _, _ => none
def getO (H : SHeap) : Option Obj' := match H with | [] => none | o :: _ => o
def restO (H : SHeap) : SHeap := match H with | [] => [] | _ :: l => l
def trimH : SHeap → SHeap → SHeap
  | [], _ => []
  | o0 :: H0, H => trimE o0 (getO H) :: trimH H0 (restO H)
def mergeH (c : Bool) : SHeap → SHeap → SHeap → SHeap
  | [], _, _ => []
  | o0 :: H0, H1, H2 => mergeE c o0 (getO H1) (getO H2) :: mergeH c H0 (restO H1) (restO H2)
def jn (H0 : SHeap) : T (SV × SHeap) → Option (SV × SHeap)
  | .ret r => if r.1.flat then some (r.1, trimH H0 r.2) else none
  | .ite b x y => match jn H0 x, jn H0 y with
    | some r1, some r2 => match mergeV b r1.1 r2.1 with
      | some v => some (v, mergeH b H0 r1.2 r2.2)
      | none => none
    | _, _ => none
  | .both _ _ => none
  | .fail => none
def joinT (H0 : SHeap) (t : T (SV × SHeap)) : T (SV × SHeap) := match t with
  | .ite b x y => match jn H0 (.ite b x y) with
    | some r => .ret r
    | none => .ite b x y
  | t => t
def symCall (E : Env) : Nat → CallF
  | 0 => fun _ _ _ => .fail
  | d + 1 => fun f args H => match E.P.funcs[f]? with
    | some fn => bif E.j then joinT H (symBody E (symCall E d) fn 2000 args H) else symBody E (symCall E d) fn 2000 args H
    | none => .fail

section
variable {E : Env}
theorem symRegion_sound (hE : E.Ok) {call : CallF} (hcall : CallOk E.P call) {ops : Array Oper} {draw : Bool} {st : St} {β : Lab} {a : Act} {w : World} (h : Rel β st a w) {id : Nat} {Q : Exit → Act → World → Prop}
    (hK : (symRegion E call ops.toList draw st).Holds fun st' => ∀ β' a' w', Ext β st.heap w β' st'.heap w' → Rel β' st' a' w' → Q .normal a' w') : (Code.region id ops draw).wp E.P Q a w := by
  cases draw with
  | true =>
    simp only [symRegion] at hK
    split at hK
    · rename_i st' hrun
      split at hK
      · rename_i hpl
        rw [List.all_eq_true] at hpl
        obtain ⟨hcs, hK⟩ := chkAll_holds hK
        have := draw_sound hE hrun hcs (fun x t v s he => by have := hpl _ (by rw [nth_eq] at he; exact List.mem_of_getElem? he); simp [Ent.plain] at this) h (Q := Q) (fun β' a' w' he hr => hK β' a' w' he hr.settle) (id := id)
        simpa using this
      · exact hK.elim
    · have := drawAll_sound hE hcall (ops := ops.toList) h (Q := Q) (id := id) (T.Holds.mono (fun st' hst β' a' w' he hr => hst β' a' w' he hr.settle) (T.Holds.bind hK))
      simpa using this
  | false =>
    simp only [symRegion] at hK
    refine wp_region_list (P := E.P) (ops := ops) ?_
    have := symOps_sound hE hcall (ops := ops.toList) (Q := Q) ops.toList h (T.Holds.mono (fun st' hst β' a' w' he hr => hst β' a' w' he hr.settle) (T.Holds.bind hK))
    simpa using this
theorem evalC_sound {β : Lab} {st : St} {a : Act} {w : World} (h : Rel β st a w) {c : Operand} {b : SB} (hb : evalC st.slots c = some b) : a.eval c = .bool b.val := by
  unfold evalC at hb
  split at hb <;> simp only [Option.some.injEq, reduceCtorEq] at hb
  rename_i b' hl; subst hb
  have := lookE_sound (known_true h) (fs := []) (fun p hp => by simp at hp) (fun _ _ => trivial) hl
  simpa [SV.rel] using this
theorem symCode_sound (hE : E.Ok) {call : CallF} (hcall : CallOk E.P call) : ∀ (n : Nat) (c : Code) {st : St} {β : Lab} {a : Act} {w : World} {Q : Exit → Act → World → Prop}, Rel β st a w →
    ((symCode E call n c st).Holds fun r => ∀ β' a' w', Ext β st.heap w β' r.2.heap w' → Rel β' r.2 a' w' → Q r.1.toExit a' w') → c.wp E.P Q a w
  | 0, _, _, _, _, _, _, _, hK => hK.elim
  | n + 1, c, st, β, a, w, Q, h, hK => by
    cases c <;> simp only [symCode] at hK
    case skip => exact wp_skip (hK β a w (Ext.refl _ _ _) h)
    case label l => exact wp_label (hK β a w (Ext.refl _ _ _) h)
    case ret => exact wp_ret (hK β a w (Ext.refl _ _ _) h)
    case exit id => exact wp_exit (hK β a w (Ext.refl _ _ _) h)
    case goto l => exact wp_goto (hK β a w (Ext.refl _ _ _) h)
    case scope x =>
      refine wp_scope_straight (symCode_sound hE hcall n x h (T.Holds.mono ?_ (T.Holds.bind hK)))
      rintro ⟨e, st1⟩ hr β1 a1 w1 he1 hr1
      cases e with
      | normal => exact hr β1 a1 w1 he1 hr1
      | ret => exact hr β1 a1 w1 he1 hr1
      | exit id => exact hr β1 a1 w1 he1 hr1
      | goto l => exact hr.elim
    case region id ops draw =>
      exact symRegion_sound hE hcall h (T.Holds.mono (fun st' hst β' a' w' he hr => hst β' a' w' he hr) (T.Holds.bind hK))
    case seq x y =>
      refine wp_seq (symCode_sound hE hcall n x h (T.Holds.mono ?_ (T.Holds.bind hK)))
      rintro ⟨e, st1⟩ hr β1 a1 w1 he1 hr1
      cases e with
      | normal =>
        exact symCode_sound hE hcall n y hr1 (T.Holds.mono (fun r2 h2 β2 a2 w2 he2 hr2 => h2 β2 a2 w2 (Ext.trans h.free hr1.free he1 he2) hr2) hr)
      | ret => exact hr β1 a1 w1 he1 hr1
      | exit id => exact hr β1 a1 w1 he1 hr1
      | goto l => exact hr β1 a1 w1 he1 hr1
    case cond c x y =>
      split at hK
      · rename_i hc; exact wp_cond (t := true) (evalC_sound h hc) (symCode_sound hE hcall n x h hK)
      · rename_i hc; exact wp_cond (t := false) (evalC_sound h hc) (symCode_sound hE hcall n y h hK)
      · rename_i b hc
        exact wp_cond_split (evalC_sound h hc) (fun e => symCode_sound hE hcall n x h (hK.1 e)) (fun e => symCode_sound hE hcall n y h (hK.2 e))
      · exact hK.elim
    case block id x =>
      refine wp_block (symCode_sound hE hcall n x h (T.Holds.mono ?_ (T.Holds.bind hK)))
      rintro ⟨e, st1⟩ hr β1 a1 w1 he1 hr1
      cases e with
      | normal => exact hr β1 a1 w1 he1 hr1
      | ret => exact hr β1 a1 w1 he1 hr1
      | goto l => exact hr β1 a1 w1 he1 hr1
      | exit id' =>
        simp only [Ex.toExit, Exit.inBlock]
        split
        · rename_i e; subst e
          simp only [Nat.beq_refl, if_true] at hr
          exact hr β1 a1 w1 he1 hr1
        · rename_i e
          have : Nat.beq id' id = false := by
            cases hb : Nat.beq id' id with
            | false => rfl
            | true => exact absurd (by simpa using hb) e
          simp only [this, Bool.false_eq_true, if_false] at hr
          exact hr β1 a1 w1 he1 hr1
    case loop x =>
      have key : ∀ (k : Nat) {st : St} {β : Lab} {a : Act} {w : World}, Rel β st a w → ((symLoop (symCode E call n x) k st).Holds fun r => ∀ β' a' w', Ext β st.heap w β' r.2.heap w' → Rel β' r.2 a' w' → Q r.1.toExit a' w') → Code.rounds E.P x Q k a w := by
        intro k
        induction k with
        | zero => intro st β a w _ hK; exact hK.elim
        | succ k ih =>
          intro st β a w h hK
          rw [rounds_succ]
          simp only [symLoop] at hK
          refine symCode_sound hE hcall n x h (T.Holds.mono ?_ (T.Holds.bind hK))
          rintro ⟨e, st1⟩ hr β1 a1 w1 he1 hr1
          cases e with
          | normal => exact ih hr1 (T.Holds.mono (fun r2 h2 β2 a2 w2 he2 hr2 => h2 β2 a2 w2 (Ext.trans h.free hr1.free he1 he2) hr2) hr)
          | ret => exact hr β1 a1 w1 he1 hr1
          | exit id => exact hr β1 a1 w1 he1 hr1
          | goto l => exact hr β1 a1 w1 he1 hr1
      exact wp_loop_rounds n (key n h hK)
    all_goals exact hK.elim
theorem asAddr_some (x : Addr) : asAddr (.pointer (some x)) = pure x := rfl
theorem resultS_sound {P : Program} {β : Lab} {st : St} {a : Act} {w : World} (h : Rel β st a w) : ∀ (l : List ResultVar) (vs : List SV), resultS P st l = some vs →
    ∃ vals, (l.mapM (fun | .tmp t => pure (a.tmps.getD t undef) | .cell x t => do loadVar t (← asAddr (a.tmps.getD x undef)) : ResultVar → Sem Value)).run P w = .ok vals w ∧ relL β vs vals
  | [], vs, hv => by simp only [resultS, Option.some.injEq] at hv; subst hv; exact ⟨[], by simp, relL_nil.2 rfl⟩
  | .tmp t :: l, vs, hv => by
    simp only [resultS] at hv
    split at hv <;> simp only [Option.some.injEq, reduceCtorEq] at hv
    rename_i v vs' h1 h2; subst hv
    obtain ⟨vals, h3, h4⟩ := resultS_sound h l vs' h2
    have h5 := lookE_sound (known_true h) (fs := []) (fun p hp => by simp at hp) (fun _ _ => trivial) h1
    refine ⟨a.tmps.getD t undef :: vals, ?_, by rw [relL_cons']; exact ⟨h5, h4⟩⟩
    simp only [List.mapM_cons, Sem.run_bind, Sem.run_pure, Result.andThen_ok, h3]
  | .cell x t :: l, vs, hv => by
    simp only [resultS] at hv
    split at hv <;> (try simp only [reduceCtorEq] at hv)
    rename_i b off vs' h1 h2
    split at hv <;> (try simp only [reduceCtorEq] at hv)
    rename_i cs e' hb
    simp only [Option.map_eq_some_iff] at hv; obtain ⟨s, hs, rfl⟩ := hv
    obtain ⟨vals, h3, h4⟩ := resultS_sound h l vs' h2
    have h5 := lookE_sound (known_true h) (fs := []) (fun p hp => by simp at hp) (fun _ _ => trivial) h1
    simp only [SV.rel, Act.eval] at h5; obtain ⟨bb, hbb, h5⟩ := h5
    obtain ⟨b', vs2, rest2, hb', hrel, hw, _, _⟩ := h.hr.obj _ _ hb
    obtain rfl : bb = b' := by rw [hbb] at hb'; simpa using hb'
    obtain ⟨v, h6, h7⟩ := run_loadS (P := P) w (off := off) hs hrel hw
    refine ⟨v :: vals, ?_, by rw [relL_cons']; exact ⟨h7, h4⟩⟩
    simp only [List.mapM_cons, Sem.run_bind, h5, asAddr_some, Sem.run_pure, Result.andThen_ok, h6, h3]
theorem results_sound {P : Program} {β : Lab} {st : St} {a : Act} {w : World} (h : Rel β st a w) {fn : Func} {vs : List SV} (hv : resultS P st fn.results.toList = some vs) : ∃ v, (results fn a.tmps).run P w = .ok v w ∧ SV.rel β (resultV vs) v := by
  obtain ⟨vals, h1, h2⟩ := resultS_sound h _ _ hv
  have h3 : (fn.results.mapM (fun | .tmp t => pure (a.tmps.getD t undef) | .cell x t => do loadVar t (← asAddr (a.tmps.getD x undef)) : ResultVar → Sem Value)).run P w = .ok vals.toArray w := by
    rw [Array.mapM_eq_mapM_toList]; simp only [Sem.run_map, h1, Result.andThen_ok]
  unfold results
  simp only [Sem.run_bind]
  refine ⟨if h : vals.toArray.size = 1 then vals.toArray[0] else .tuple vals.toArray, ?_, ?_⟩
  · have := congrArg (fun r => Result.andThen r fun vs w => Sem.run P (pure (if h : vs.size = 1 then vs[0] else .tuple vs) : Sem Value) w) h3
    exact this
  · have hl := relL_length h2
    match vs, h2 with
    | [], h2 => rw [relL_nil] at h2; subst h2; simp [resultV, SV.rel, relL_nil]
    | [s], h2 =>
      rw [relL_cons] at h2; obtain ⟨v, vs', h4, h5, rfl⟩ := h2
      rw [relL_nil] at h5; subst h5
      simpa [resultV] using h4
    | s :: s' :: r, h2 =>
      rw [dif_neg (by simp at hl ⊢; omega)]
      simp only [resultV, SV.rel]; exact ⟨vals, h2, rfl⟩
theorem nth_append {α : Type} (l l' : List α) (i : Nat) : nth (l ++ l') i = if i < l.length then nth l i else nth l' (i - l.length) := by
  rw [nth_eq, nth_eq, nth_eq, List.getElem?_append]
theorem symBody_sound (hE : E.Ok) {call : CallF} (hcall : CallOk E.P call) {f : FuncId} {fn : Func} (hf : E.P.funcs[f]? = some fn) {fuel : Nat} {vs : List SV} {H : SHeap} {β : Lab} {w : World} {vals : List Value} {R : Ending → World → Prop}
    (hv : relL β vs vals) (hr : HR β (hpOf H) w) (hfree : ∀ l, H.length ≤ l → β l = none)
    (hK : (symBody E call fn fuel vs H).Holds fun r => ∀ β' w' val, Ext β H w β' r.2 w' → HR β' (hpOf r.2) w' → (∀ l, r.2.length ≤ l → β' l = none) → SV.rel β' r.1 val → R (.returned val) w') : Calls E.P f vals.toArray w R := by
  unfold symBody at hK
  split at hK
  · rename_i c hb
    refine calls_of_wp hf hb ?_
    have hlen := relL_length hv
    have hrel : Rel β ⟨vs.map .val ++ List.replicate (fn.ntmps - vs.length) (.val undefS), H⟩ { tmps := vals.toArray ++ Array.replicate (fn.ntmps - vals.toArray.size) undef, defers := [] } w := by
      refine ⟨by simp [hlen], fun x e he => ?_, hr, hfree, rfl⟩
      simp only [nth_append, List.length_map] at he
      split at he
      · rename_i hx
        rw [nth_eq, List.getElem?_map, Option.map_eq_some_iff] at he
        obtain ⟨s, hs, rfl⟩ := he
        obtain ⟨y, h1, h2⟩ := relL_nth hv (by rw [nth_eq]; exact hs)
        refine ⟨y, ?_, h2⟩
        rw [Array.getElem?_append_left (by simp; omega)]; simpa using h1
      · rename_i hx
        rw [nth_eq, List.getElem?_replicate] at he
        split at he <;> simp only [Option.some.injEq, reduceCtorEq] at he
        rename_i hx2; subst he
        refine ⟨undef, ?_, by simp [undefS, SV.rel, undef, relL_nil]⟩
        rw [Array.getElem?_append_right (by simp; omega), Array.getElem?_replicate, if_pos (by simp; omega)]
    refine symCode_sound hE hcall fuel c hrel (T.Holds.mono ?_ (T.Holds.bind hK))
    rintro ⟨e, st1⟩ hr1 β1 a1 w1 he1 hrel1
    have fin : (match resultS E.P st1 fn.results.toList with | some vs => T.ret (resultV vs, st1.heap) | none => .fail : T (SV × SHeap)).Holds (fun r => ∀ β' w' val, Ext β H w β' r.2 w' → HR β' (hpOf r.2) w' → (∀ l, r.2.length ≤ l → β' l = none) → SV.rel β' r.1 val → R (.returned val) w') →
        a1.defers = [] ∧ ∃ v, (results fn a1.tmps).run E.P w1 = .ok v w1 ∧ R (.returned v) w1 := by
      intro hh
      split at hh
      · rename_i vs' hvs
        obtain ⟨v, h1, h2⟩ := results_sound hrel1 hvs
        exact ⟨hrel1.defers, v, h1, hh β1 w1 v he1 hrel1.hr hrel1.free h2⟩
      · exact hh.elim
    cases e with
    | normal => exact fin hr1
    | ret => exact fin hr1
    | exit id => exact hr1.elim
    | goto l => exact hr1.elim
  · exact hK.elim
mutual
theorem mergeV_flat {c : Bool} : ∀ (x y : SV) {z : SV}, mergeV c x y = some z → x.flat = true → y.flat = true → z.flat = true
  | .int k a, y, z, h, _, _ => by
    cases y <;> simp only [mergeV, reduceCtorEq] at h
    split at h <;> simp only [Option.some.injEq, reduceCtorEq] at h
    subst h; rfl
  | .bool a, y, z, h, _, _ => by
    cases y <;> simp only [mergeV, reduceCtorEq, Option.some.injEq] at h
    subst h; rfl
  | .agg xs, y, z, h, h1, h2 => by
    cases y <;> simp only [mergeV, reduceCtorEq] at h
    split at h <;> simp only [Option.some.injEq, reduceCtorEq] at h
    rename_i hz; subst h
    simp only [SV.flat] at h1 h2 ⊢; exact mergeVL_flat xs _ hz h1 h2
  | .tuple xs, y, z, h, h1, h2 => by
    cases y <;> simp only [mergeV, reduceCtorEq] at h
    split at h <;> simp only [Option.some.injEq, reduceCtorEq] at h
    rename_i hz; subst h
    simp only [SV.flat] at h1 h2 ⊢; exact mergeVL_flat xs _ hz h1 h2
  | .ptr _ _, _, _, h, _, _ => by simp [mergeV] at h
  | .nilp, _, _, h, _, _ => by simp [mergeV] at h
  | .slice _ _ _ _, _, _, h, _, _ => by simp [mergeV] at h
  | .own _ _ _, _, _, h, _, _ => by simp [mergeV] at h
  | .func _ _ _, _, _, h, _, _ => by simp [mergeV] at h
  | .raw _, _, _, h, _, _ => by simp [mergeV] at h
  | .tsl _ _ _, _, _, h, _, _ => by simp [mergeV] at h
  | .tptr _ _ _, _, _, h, _, _ => by simp [mergeV] at h
  | .tz _, _, _, h, _, _ => by simp [mergeV] at h
  | .gro _ _ _, _, _, h, _, _ => by simp [mergeV] at h
theorem mergeVL_flat {c : Bool} : ∀ (x y : List SV) {z : List SV}, mergeVL c x y = some z → flatL x = true → flatL y = true → flatL z = true
  | [], y, z, h, _, _ => by
    cases y <;> simp only [mergeVL, reduceCtorEq, Option.some.injEq] at h
    subst h; rfl
  | x :: xs, y, z, h, h1, h2 => by
    cases y <;> simp only [mergeVL, reduceCtorEq] at h
    split at h <;> simp only [Option.some.injEq, reduceCtorEq] at h
    rename_i h3 h4; subst h
    simp only [flatL, Bool.and_eq_true] at h1 h2 ⊢
    exact ⟨mergeV_flat x _ h3 h1.1 h2.1, mergeVL_flat xs _ h4 h1.2 h2.2⟩
end
theorem mergeI_val (c : Bool) (a b : SI) : (mergeI c a b).val = bif c then a.val else b.val := by
  unfold mergeI
  split
  · rename_i x y
    split
    · rename_i e; subst e; cases c <;> rfl
    · rfl
  · rfl
mutual
theorem mergeV_sound {β : Lab} {c : Bool} : ∀ (x y : SV) {z : SV} {v : Value}, mergeV c x y = some z → (c = true → SV.rel β x v) → (c = false → SV.rel β y v) → SV.rel β z v ∧ (x.flat = true → y.flat = true → z.flat = true)
  | .int k a, y, z, v, h, hx, hy => by
    cases y <;> simp only [mergeV, reduceCtorEq] at h
    rename_i k' b
    split at h <;> simp only [Option.some.injEq, reduceCtorEq] at h
    rename_i hk; subst hk; subst h
    refine ⟨?_, fun _ _ => rfl⟩
    simp only [SV.rel, mergeI_val]
    cases c
    · simpa [SV.rel] using hy rfl
    · simpa [SV.rel] using hx rfl
  | .bool a, y, z, v, h, hx, hy => by
    cases y <;> simp only [mergeV, reduceCtorEq, Option.some.injEq] at h
    subst h
    refine ⟨?_, fun _ _ => rfl⟩
    simp only [SV.rel, mergeB_val]
    cases c
    · simpa [SV.rel] using hy rfl
    · simpa [SV.rel] using hx rfl
  | .agg xs, y, z, v, h, hx, hy => by
    cases y <;> simp only [mergeV, reduceCtorEq] at h
    rename_i ys
    split at h <;> simp only [Option.some.injEq, reduceCtorEq] at h
    rename_i zs hz; subst h
    have hv : ∃ l, v = .agg l := by
      cases c
      · have := hy rfl; simp only [SV.rel] at this; obtain ⟨l, _, e⟩ := this; exact ⟨_, e⟩
      · have := hx rfl; simp only [SV.rel] at this; obtain ⟨l, _, e⟩ := this; exact ⟨_, e⟩
    obtain ⟨l, rfl⟩ := hv
    have := mergeVL_sound xs ys (l := l.toList) hz (fun e => by have := hx e; simp only [SV.rel] at this; obtain ⟨l', h1, e'⟩ := this; cases e'; exact h1) (fun e => by have := hy e; simp only [SV.rel] at this; obtain ⟨l', h1, e'⟩ := this; cases e'; exact h1)
    exact ⟨by simp only [SV.rel]; exact ⟨l.toList, this.1, by simp⟩, fun h1 h2 => by simp only [SV.flat] at h1 h2 ⊢; exact this.2 h1 h2⟩
  | .tuple xs, y, z, v, h, hx, hy => by
    cases y <;> simp only [mergeV, reduceCtorEq] at h
    rename_i ys
    split at h <;> simp only [Option.some.injEq, reduceCtorEq] at h
    rename_i zs hz; subst h
    have hv : ∃ l, v = .tuple l := by
      cases c
      · have := hy rfl; simp only [SV.rel] at this; obtain ⟨l, _, e⟩ := this; exact ⟨_, e⟩
      · have := hx rfl; simp only [SV.rel] at this; obtain ⟨l, _, e⟩ := this; exact ⟨_, e⟩
    obtain ⟨l, rfl⟩ := hv
    have := mergeVL_sound xs ys (l := l.toList) hz (fun e => by have := hx e; simp only [SV.rel] at this; obtain ⟨l', h1, e'⟩ := this; cases e'; exact h1) (fun e => by have := hy e; simp only [SV.rel] at this; obtain ⟨l', h1, e'⟩ := this; cases e'; exact h1)
    exact ⟨by simp only [SV.rel]; exact ⟨l.toList, this.1, by simp⟩, fun h1 h2 => by simp only [SV.flat] at h1 h2 ⊢; exact this.2 h1 h2⟩
  | .ptr _ _, _, _, _, h, _, _ => by simp [mergeV] at h
  | .nilp, _, _, _, h, _, _ => by simp [mergeV] at h
  | .slice _ _ _ _, _, _, _, h, _, _ => by simp [mergeV] at h
  | .own _ _ _, _, _, _, h, _, _ => by simp [mergeV] at h
  | .func _ _ _, _, _, _, h, _, _ => by simp [mergeV] at h
  | .raw _, _, _, _, h, _, _ => by simp [mergeV] at h
  | .tsl _ _ _, _, _, _, h, _, _ => by simp [mergeV] at h
  | .tptr _ _ _, _, _, _, h, _, _ => by simp [mergeV] at h
  | .tz _, _, _, _, h, _, _ => by simp [mergeV] at h
  | .gro _ _ _, _, _, _, h, _, _ => by simp [mergeV] at h
theorem mergeVL_sound {β : Lab} {c : Bool} : ∀ (x y : List SV) {z : List SV} {l : List Value}, mergeVL c x y = some z → (c = true → relL β x l) → (c = false → relL β y l) → relL β z l ∧ (flatL x = true → flatL y = true → flatL z = true)
  | [], y, z, l, h, hx, hy => by
    cases y <;> simp only [mergeVL, reduceCtorEq, Option.some.injEq] at h
    subst h
    refine ⟨?_, fun _ _ => rfl⟩
    cases c
    · exact hy rfl
    · exact hx rfl
  | x :: xs, y, z, l, h, hx, hy => by
    cases y <;> simp only [mergeVL, reduceCtorEq] at h
    rename_i y ys
    split at h <;> simp only [Option.some.injEq, reduceCtorEq] at h
    rename_i z1 zs h1 h2; subst h
    have hl : ∃ v vs, l = v :: vs := by
      cases c
      · have := hy rfl; rw [relL_cons] at this; obtain ⟨v, vs, _, _, e⟩ := this; exact ⟨v, vs, e⟩
      · have := hx rfl; rw [relL_cons] at this; obtain ⟨v, vs, _, _, e⟩ := this; exact ⟨v, vs, e⟩
    obtain ⟨v, vs, rfl⟩ := hl
    have a := mergeV_sound x y (v := v) h1 (fun e => (relL_cons'.1 (hx e)).1) (fun e => (relL_cons'.1 (hy e)).1)
    have b := mergeVL_sound xs ys (l := vs) h2 (fun e => (relL_cons'.1 (hx e)).2) (fun e => (relL_cons'.1 (hy e)).2)
    refine ⟨relL_cons'.2 ⟨a.1, b.1⟩, fun h3 h4 => ?_⟩
    simp only [flatL, Bool.and_eq_true] at h3 h4 ⊢
    exact ⟨a.2 h3.1 h4.1, b.2 h3.2 h4.2⟩
end
theorem hpOf_nil (l : Nat) : hpOf [] l = none := by simp [hpOf, nth]
theorem hpOf_zero (H : SHeap) : hpOf H 0 = getO H := by cases H <;> rfl
theorem hpOf_succ (H : SHeap) (l : Nat) : hpOf H (l + 1) = hpOf (restO H) l := by cases H <;> simp [hpOf, nth, restO]
theorem trimH_at : ∀ (H0 H : SHeap) (l : Nat), l < H0.length → hpOf (trimH H0 H) l = trimE (hpOf H0 l) (hpOf H l)
  | [], _, _, h => by simp at h
  | o :: H0, H, 0, _ => by rw [hpOf_zero, hpOf_zero, hpOf_zero]; rfl
  | o :: H0, H, l + 1, h => by
    rw [hpOf_succ, hpOf_succ, hpOf_succ]; exact trimH_at H0 (restO H) l (by simpa using h)
theorem trimH_len : ∀ (H0 H : SHeap), (trimH H0 H).length = H0.length
  | [], _ => rfl
  | _ :: H0, H => by simp [trimH, trimH_len H0 (restO H)]
theorem mergeH_at (c : Bool) : ∀ (H0 H1 H2 : SHeap) (l : Nat), l < H0.length → hpOf (mergeH c H0 H1 H2) l = mergeE c (hpOf H0 l) (hpOf H1 l) (hpOf H2 l)
  | [], _, _, _, h => by simp at h
  | o :: H0, H1, H2, 0, _ => by rw [hpOf_zero, hpOf_zero, hpOf_zero, hpOf_zero]; rfl
  | o :: H0, H1, H2, l + 1, h => by
    rw [hpOf_succ, hpOf_succ, hpOf_succ, hpOf_succ]; exact mergeH_at c H0 (restO H1) (restO H2) l (by simpa using h)
theorem mergeH_len (c : Bool) : ∀ (H0 H1 H2 : SHeap), (mergeH c H0 H1 H2).length = H0.length
  | [], _, _ => rfl
  | _ :: H0, H1, H2 => by simp [mergeH, mergeH_len c H0 (restO H1) (restO H2)]
/-- what stood under β and stands under β' stands under β' cut -/
theorem rel_dom {β β' β'' : Lab} (h : ∀ l b0 b, β l = some b0 → β' l = some b → β'' l = some b) (hz : ∀ b c, β'.fz b = some c → β''.fz b = some c) : ∀ (s : SV) (v0 v : Value), SV.rel β s v0 → SV.rel β' s v → SV.rel β'' s v := by
  intro s
  refine SV.rec (motive_1 := fun s => ∀ v0 v, SV.rel β s v0 → SV.rel β' s v → SV.rel β'' s v) (motive_2 := fun l => ∀ v0 v, relL β l v0 → relL β' l v → relL β'' l v) ?_ ?_ ?_ ?_ ?_ ?_ ?_ ?_ ?_ ?_ ?_ ?_ ?_ ?_ ?_ ?_ s
  · intro k n v0 v h0 h1; simpa [SV.rel] using h1
  · intro b v0 v h0 h1; simpa [SV.rel] using h1
  · intro l off v0 v h0 h1; simp only [SV.rel] at *; obtain ⟨b0, h2, _⟩ := h0; obtain ⟨b, h3, e⟩ := h1; exact ⟨b, h _ _ _ h2 h3, e⟩
  · intro v0 v h0 h1; simpa [SV.rel] using h1
  · intro l off len cap v0 v h0 h1; simp only [SV.rel] at *; obtain ⟨b0, h2, _⟩ := h0; obtain ⟨b, h3, e⟩ := h1; exact ⟨b, h _ _ _ h2 h3, e⟩
  · intro l lc len v0 v h0 h1; simp only [SV.rel] at *; obtain ⟨b0, c0, h2, h4, _⟩ := h0; obtain ⟨b, c, h3, h5, e⟩ := h1; exact ⟨b, c, h _ _ _ h2 h3, h _ _ _ h4 h5, e⟩
  · intro f a c iha ihc v0 v h0 h1; simp only [SV.rel] at *; obtain ⟨x0, y0, h2, h3, _⟩ := h0; obtain ⟨x, y, h4, h5, e⟩ := h1; exact ⟨x, y, iha _ _ h2 h4, ihc _ _ h3 h5, e⟩
  · intro cs ih v0 v h0 h1; simp only [SV.rel] at *; obtain ⟨x0, h2, _⟩ := h0; obtain ⟨x, h3, e⟩ := h1; exact ⟨x, ih _ _ h2 h3, e⟩
  · intro cs ih v0 v h0 h1; simp only [SV.rel] at *; obtain ⟨x0, h2, _⟩ := h0; obtain ⟨x, h3, e⟩ := h1; exact ⟨x, ih _ _ h2 h3, e⟩
  · intro r v0 v h0 h1; simpa [SV.rel] using h1
  · intro ks n f v0 v h0 h1; simp only [SV.rel] at *; exact relT_mono hz _ _ _ h1
  · intro ks g off v0 v h0 h1; simp only [SV.rel] at *; obtain ⟨a, e, h2⟩ := h1; exact ⟨a, e, rowT_mono hz h2⟩
  · intro ks v0 v h0 h1; simpa [SV.rel] using h1
  · intro l lc n v0 v h0 h1; simp only [SV.rel] at *; obtain ⟨b0, c0, h2, h4, _⟩ := h0; obtain ⟨b, c, h3, h5, e⟩ := h1; exact ⟨b, c, h _ _ _ h2 h3, h _ _ _ h4 h5, e⟩
  · intro v0 v h0 h1; simpa [relL] using h1
  · intro c cs ih ihs v0 v h0 h1
    rw [relL_cons] at *
    obtain ⟨x0, xs0, h2, h3, _⟩ := h0; obtain ⟨x, xs, h4, h5, e⟩ := h1
    exact ⟨x, xs, ih _ _ h2 h4, ihs _ _ h3 h5, e⟩
theorem relL_dom {β β' β'' : Lab} (h : ∀ l b0 b, β l = some b0 → β' l = some b → β'' l = some b) (hz : ∀ b c, β'.fz b = some c → β''.fz b = some c) : ∀ (s : List SV) (v0 v : List Value), relL β s v0 → relL β' s v → relL β'' s v
  | [], _, _, _, h1 => by simpa [relL] using h1
  | c :: cs, v0, v, h0, h1 => by
    rw [relL_cons] at *
    obtain ⟨x0, xs0, h2, h3, _⟩ := h0; obtain ⟨x, xs, h4, h5, e⟩ := h1
    exact ⟨x, xs, rel_dom h hz _ _ _ h2 h4, relL_dom h hz _ _ _ h3 h5, e⟩
/-- a leaf's word to another one that knows no more of what lay at the call's begin, and nothing else -/
theorem leaf_weak {β : Lab} {H0 H1 H2 : SHeap} {w : World} (hfree : ∀ l, H0.length ≤ l → β l = none) (hr : HR β (hpOf H0) w) {β' : Lab} {w' : World} (he : Ext β H0 w β' H1 w') (hhr : HR β' (hpOf H1) w')
    (hlen : H2.length = H0.length)
    (hob : ∀ l, l < H0.length → ∀ o2, hpOf H2 l = some o2 → ∃ o0 o1, hpOf H0 l = some o0 ∧ hpOf H1 l = some o1 ∧ ((o2 = o0 ∧ o1 = o0) ∨ (o0.2.stamp < o2.2.stamp ∧ (o2.2.own = none ∧ o2.2.lst = none) ∧ o1.2.own = none ∧ o1.2.ty = o2.2.ty ∧ flatL o2.1 = true ∧ ∀ vs, relL β' o1.1 vs → relL β' o2.1 vs))) :
    Ext β H0 w (Lab.cut β' H0.length) H2 w' ∧ HR (Lab.cut β' H0.length) (hpOf H2) w' ∧ ∀ l, H2.length ≤ l → (Lab.cut β' H0.length) l = none := by
  have lt0 : ∀ {l b}, β l = some b → l < H0.length := fun {l b} hb => by
    rcases Nat.lt_or_ge l H0.length with h | h
    · exact h
    · rw [hfree l h] at hb; simp at hb
  have hcut : ∀ {l b}, (Lab.cut β' H0.length) l = some b → l < H0.length ∧ β' l = some b := fun {l b} hb => by
    rw [Lab.cut_blk] at hb; split at hb
    · rename_i h; exact ⟨h, hb⟩
    · simp at hb
  have hdom : ∀ l b0 b, β l = some b0 → β' l = some b → (Lab.cut β' H0.length) l = some b := fun l b0 b h1 h2 => by
    rw [Lab.cut_blk, if_pos (lt0 h1)]; exact h2
  have hnone : ∀ l, H0.length ≤ l → hpOf H2 l = none := fun l hl => by
    cases h : hpOf H2 l with
    | none => rfl
    | some o => have := hpOf_lt h; omega
  refine ⟨⟨⟨fun l b hb => hdom l b b hb (he.ext l b hb), he.ext.fz⟩, fun l b hb => ?_, by omega, fun l o hl ho => ?_, fun b hb hn => ?_, he.size, he.os, he.tape, he.output, he.fzn⟩, ⟨fun l o ho => ?_, fun l l' b d1 d2 h1 h2 => ?_, fun l b d1 h1 => ?_, fun b c hb => ⟨(hhr.fz b c hb).1, fun l d e => (hhr.fz b c hb).2 l d (Lab.cut_le _ _ l b e)⟩⟩, fun l hl => ?_⟩
  · obtain ⟨h1, h2⟩ := hcut hb
    rcases he.new l b h2 with h | ⟨h, _⟩
    · exact .inl h
    · omega
  · obtain ⟨o0, o1, h0, h1, h2 | h2⟩ := hob l hl o ho
    · exact ⟨o0, h0, .inl h2.1.symm⟩
    · exact ⟨o0, h0, .inr h2.1⟩
  · refine he.frame b hb fun l hl => ?_
    have h1 := hn l hl
    cases ho : hpOf H0 l with
    | none =>
      cases ho1 : hpOf H1 l with
      | none => rfl
      | some o1 => obtain ⟨o', ho', _⟩ := he.live l o1 (lt0 hl) ho1; rw [ho] at ho'; simp at ho'
    | some o =>
      rw [ho] at h1
      obtain ⟨o0, o1, k0, k1, k2 | k2⟩ := hob l (lt0 hl) o h1
      · rw [k1, k2.2, ← k0, ho]
      · rw [ho] at k0; simp only [Option.some.injEq] at k0; subst k0; omega
  · have hl : l < H0.length := by
      rcases Nat.lt_or_ge l H0.length with h | h
      · exact h
      · rw [hnone l h] at ho; simp at ho
    obtain ⟨o0, o1, h0, h1, h2⟩ := hob l hl o ho
    obtain ⟨b, vs, rest, a1, a2, a3, a4, a5⟩ := hhr.obj l o1 h1
    obtain ⟨b0, vs0, rest0, c1, c2, c3, c4, c5⟩ := hr.obj l o0 h0
    rcases h2 with ⟨rfl, rfl⟩ | ⟨h2, h3, h3', h4, h5, h6⟩
    · refine ⟨b, vs, rest, hdom _ _ _ c1 a1, relL_dom hdom (fun _ _ h => h) _ _ _ c2 a2, a3, a4, ⟨fun lc sz e => ?_, fun ks m f e => a5.lst ks m f e⟩⟩
      obtain ⟨cap, k1, k2⟩ := a5.own lc sz e
      obtain ⟨cap0, k3, _⟩ := c5.own lc sz e
      exact ⟨cap, hdom _ _ _ k3 k1, k2⟩
    · refine ⟨b, vs, rest, hdom _ _ _ c1 a1, flatL_rel _ _ h5 (h6 _ a2), by rw [← h4]; exact a3, a4, tagOk.nil h3.1 h3.2⟩
  · obtain ⟨k1, k2⟩ := hcut h1; obtain ⟨k3, k4⟩ := hcut h2
    exact hhr.inj l l' b d1 d2 k2 k4
  · obtain ⟨k1, k2⟩ := hcut h1; exact hhr.lt l b d1 k2
  · rw [Lab.cut_blk, if_neg (by omega)]
abbrev LeafK (β : Lab) (H0 : SHeap) (w : World) (R : Ending → World → Prop) (r : SV × SHeap) : Prop :=
  ∀ β' w' val, Ext β H0 w β' r.2 w' → HR β' (hpOf r.2) w' → (∀ l, r.2.length ≤ l → β' l = none) → SV.rel β' r.1 val → R (.returned val) w'
theorem jn_sound {β : Lab} {H0 : SHeap} {w : World} (hfree : ∀ l, H0.length ≤ l → β l = none) (hr : HR β (hpOf H0) w) : ∀ (t : T (SV × SHeap)) {r : SV × SHeap} {R : Ending → World → Prop}, jn H0 t = some r → LeafK β H0 w R r → t.Holds (LeafK β H0 w R) ∧ r.1.flat = true ∧ r.2.length = H0.length
  | .ret r', r, R, h, hk => by
    simp only [jn] at h
    split at h <;> simp only [Option.some.injEq, reduceCtorEq] at h
    rename_i hf; subst h
    refine ⟨fun β' w' val he hhr hfr hv => ?_, hf, trimH_len _ _⟩
    obtain ⟨h1, h2, h3⟩ := leaf_weak hfree hr he hhr (trimH_len H0 r'.2) (fun l hl o2 ho2 => by
      rw [trimH_at H0 r'.2 l hl] at ho2
      unfold trimE at ho2
      split at ho2 <;> (try simp only [reduceCtorEq] at ho2)
      rename_i o0 o h0 h1
      split at ho2
      · rename_i hs
        simp only [Option.some.injEq] at ho2; subst ho2
        obtain ⟨o', ho', hh⟩ := he.live l o hl h1
        rw [h0] at ho'; simp only [Option.some.injEq] at ho'; subst ho'
        refine ⟨o0, o, h0, h1, .inl ⟨rfl, ?_⟩⟩
        rcases hh with rfl | hh
        · rfl
        · have : o.2.stamp = o0.2.stamp := by simpa using hs
          omega
      · split at ho2 <;> simp only [Option.some.injEq, reduceCtorEq] at ho2
        rename_i hc; subst ho2
        simp only [Bool.and_eq_true, Option.isNone_iff_eq_none, Nat.blt_eq] at hc
        exact ⟨o0, o, h0, h1, .inr ⟨hc.2, ⟨hc.1.1.2, hc.1.2⟩, hc.1.1.2, rfl, hc.1.1.1, fun _ h => h⟩⟩)
    exact hk _ w' val h1 h2 h3 (flat_rel _ _ hf hv)
  | .ite b x y, r, R, h, hk => by
    simp only [jn] at h
    split at h <;> (try simp only [reduceCtorEq] at h)
    rename_i r1 r2 hx hy
    split at h <;> simp only [Option.some.injEq, reduceCtorEq] at h
    rename_i v hv; subst h
    have hf1 := (jn_sound hfree hr x (R := fun _ _ => True) hx (fun _ _ _ _ _ _ _ => trivial)).2
    have hf2 := (jn_sound hfree hr y (R := fun _ _ => True) hy (fun _ _ _ _ _ _ _ => trivial)).2
    have hflat : v.flat = true := by
      exact mergeV_flat r1.1 r2.1 hv hf1.1 hf2.1
    have hcom : ∀ (rr : SV × SHeap), (rr = r1 ∧ b = true ∨ rr = r2 ∧ b = false) → rr.1.flat = true → rr.2.length = H0.length → LeafK β H0 w R rr := by
      intro rr hrr hfl hln β' w' val he hhr hfr hvv
      obtain ⟨h1, h2, h3⟩ := leaf_weak (H2 := mergeH b H0 r1.2 r2.2) hfree hr he hhr (mergeH_len _ _ _ _) (fun l hl o2 ho2 => by
        rw [mergeH_at b H0 _ _ l hl] at ho2
        unfold mergeE at ho2
        split at ho2 <;> (try simp only [reduceCtorEq] at ho2)
        rename_i o0 o1 o1' h0 h1 h1'
        have hrr1 : ∃ o, hpOf rr.2 l = some o ∧ (o = o1 ∧ b = true ∨ o = o1' ∧ b = false) := by
          rcases hrr with ⟨rfl, hb⟩ | ⟨rfl, hb⟩
          · exact ⟨o1, h1, .inl ⟨rfl, hb⟩⟩
          · exact ⟨o1', h1', .inr ⟨rfl, hb⟩⟩
        obtain ⟨o, ho, hoo⟩ := hrr1
        split at ho2
        · rename_i hs
          simp only [Option.some.injEq] at ho2; subst ho2
          obtain ⟨o', ho', hh⟩ := he.live l o hl ho
          rw [h0] at ho'; simp only [Option.some.injEq] at ho'; subst ho'
          refine ⟨o0, o, h0, ho, .inl ⟨rfl, ?_⟩⟩
          rcases hh with rfl | hh
          · rfl
          · simp only [Bool.and_eq_true, Nat.beq_eq] at hs
            rcases hoo with ⟨rfl, _⟩ | ⟨rfl, _⟩ <;> omega
        · split at ho2 <;> (try simp only [reduceCtorEq] at ho2)
          rename_i hc
          split at ho2 <;> simp only [Option.some.injEq, reduceCtorEq] at ho2
          rename_i cs hcs; subst ho2
          simp only [Bool.and_eq_true, Option.isNone_iff_eq_none, Nat.beq_eq] at hc
          obtain ⟨⟨⟨⟨c1, c2⟩, c3⟩, c4⟩, c5⟩ := hc
          refine ⟨o0, o, h0, ho, .inr ⟨by simp only; omega, ⟨rfl, rfl⟩, by rcases hoo with ⟨rfl, _⟩ | ⟨rfl, _⟩ <;> assumption, by rcases hoo with ⟨rfl, _⟩ | ⟨rfl, _⟩ <;> simp [c5], ?_, fun vs hvs => ?_⟩⟩
          · exact mergeVL_flat _ _ hcs c1 c2
          · refine (mergeVL_sound (c := b) o1.1 o1'.1 hcs (fun e => ?_) (fun e => ?_)).1
            · rcases hoo with ⟨rfl, hb⟩ | ⟨rfl, hb⟩
              · exact hvs
              · rw [hb] at e; simp at e
            · rcases hoo with ⟨rfl, hb⟩ | ⟨rfl, hb⟩
              · rw [hb] at e; simp at e
              · exact hvs)
      refine hk _ w' val h1 h2 h3 (flat_rel (β := β') _ _ hflat (mergeV_sound (c := b) r1.1 r2.1 hv (fun e => ?_) (fun e => ?_)).1)
      · rcases hrr with ⟨rfl, hb⟩ | ⟨rfl, hb⟩
        · exact hvv
        · rw [hb] at e; simp at e
      · rcases hrr with ⟨rfl, hb⟩ | ⟨rfl, hb⟩
        · rw [hb] at e; simp at e
        · exact hvv
    refine ⟨⟨fun e => ?_, fun e => ?_⟩, hflat, mergeH_len _ _ _ _⟩
    · exact (jn_sound hfree hr x hx (hcom r1 (.inl ⟨rfl, e⟩) hf1.1 hf1.2)).1
    · exact (jn_sound hfree hr y hy (hcom r2 (.inr ⟨rfl, e⟩) hf2.1 hf2.2)).1
  | .both _ _, r, R, h, hk => by simp [jn] at h
  | .fail, r, R, h, hk => by simp [jn] at h
theorem joinT_sound {β : Lab} {H0 : SHeap} {w : World} (hfree : ∀ l, H0.length ≤ l → β l = none) (hr : HR β (hpOf H0) w) (t : T (SV × SHeap)) {R : Ending → World → Prop} (h : (joinT H0 t).Holds (LeafK β H0 w R)) : t.Holds (LeafK β H0 w R) := by
  unfold joinT at h
  split at h
  · split at h
    · rename_i r hj
      exact (jn_sound hfree hr _ hj h).1
    · exact h
  · exact h
theorem symCall_sound (hE : E.Ok) : ∀ d, CallOk E.P (symCall E d)
  | 0 => fun _ _ _ _ _ _ _ _ _ _ hK => hK.elim
  | d + 1 => fun f vs H β w vals R hv hr hfree hK => by
    simp only [symCall] at hK
    split at hK
    · rename_i fn hf
      refine symBody_sound (fuel := 2000) hE (symCall_sound hE d) hf hv hr hfree ?_
      cases hj : E.j
      · rw [hj] at hK; exact hK
      · rw [hj] at hK; exact joinT_sound hfree hr _ hK
    · exact hK.elim

/-! ## a function's contract, where its result bears no address -/
mutual
def SV.toV : SV → Value
  | .int k n => .int k n.val
  | .bool b => .bool b.val
  | .agg cs => .agg (toVL cs).toArray
  | .tuple cs => .tuple (toVL cs).toArray
  | _ => undef
def toVL : List SV → List Value
  | [] => []
  | c :: cs => c.toV :: toVL cs
end
mutual
theorem flat_toV {β : Lab} : ∀ (s : SV) (v : Value), s.flat = true → SV.rel β s v → v = s.toV
  | .int _ _, _, _, h => by simp only [SV.rel] at h; simp [SV.toV, h.1]
  | .bool _, _, _, h => by simpa [SV.rel, SV.toV] using h
  | .agg cs, _, hf, h => by
    simp only [SV.flat] at hf; simp only [SV.rel] at h; obtain ⟨x, h1, h2⟩ := h; rw [h2, SV.toV, flatL_toV cs x hf h1]
  | .tuple cs, _, hf, h => by
    simp only [SV.flat] at hf; simp only [SV.rel] at h; obtain ⟨x, h1, h2⟩ := h; rw [h2, SV.toV, flatL_toV cs x hf h1]
  | .ptr _ _, _, hf, _ => by simp [SV.flat] at hf
  | .nilp, _, hf, _ => by simp [SV.flat] at hf
  | .slice _ _ _ _, _, hf, _ => by simp [SV.flat] at hf
  | .own _ _ _, _, hf, _ => by simp [SV.flat] at hf
  | .func _ _ _, _, hf, _ => by simp [SV.flat] at hf
  | .raw _, _, hf, _ => by simp [SV.flat] at hf
  | .tsl _ _ _, _, hf, _ => by simp [SV.flat] at hf
  | .tptr _ _ _, _, hf, _ => by simp [SV.flat] at hf
  | .tz _, _, hf, _ => by simp [SV.flat] at hf
  | .gro _ _ _, _, hf, _ => by simp [SV.flat] at hf
theorem flatL_toV {β : Lab} : ∀ (s : List SV) (v : List Value), flatL s = true → relL β s v → v = toVL s
  | [], _, _, h => by rw [relL_nil] at h; rw [h, toVL]
  | c :: cs, _, hf, h => by
    simp only [flatL, Bool.and_eq_true] at hf
    rw [relL_cons] at h; obtain ⟨v, vs, h1, h2, h3⟩ := h
    rw [h3, toVL, flat_toV c v hf.1 h1, flatL_toV cs vs hf.2 h2]
end
/-- all leaves are there, and bear no address -/
def T.okFlat : T (SV × SHeap) → Bool
  | .ret r => r.1.flat
  | .ite _ x y => x.okFlat && y.okFlat
  | .both _ _ => false
  | .fail => false
def T.out : T (SV × SHeap) → Value
  | .ret r => r.1.toV
  | .ite b x y => bif b then x.out else y.out
  | .both x _ => x.out
  | .fail => undef
theorem T.out_holds {K : Value → Prop} : ∀ (t : T (SV × SHeap)), t.okFlat = true → K t.out → t.Holds (fun r => r.1.flat = true ∧ K r.1.toV)
  | .ret _, h, hk => ⟨h, hk⟩
  | .ite b x y, h, hk => by
    simp only [T.okFlat, Bool.and_eq_true] at h
    refine ⟨fun e => ?_, fun e => ?_⟩
    · subst e; exact T.out_holds x h.1 (by simpa [T.out] using hk)
    · subst e; exact T.out_holds y h.2 (by simpa [T.out] using hk)
  | .both _ _, h, _ => by simp [T.okFlat] at h
  | .fail, h, _ => by simp [T.okFlat] at h
mutual
/-- every number of it lies within its kind -/
def SV.inR : SV → Prop
  | .int k n => Rg k n.val
  | .agg cs => inRL cs
  | .tuple cs => inRL cs
  | _ => True
def inRL : List SV → Prop
  | [] => True
  | c :: cs => c.inR ∧ inRL cs
end
mutual
theorem rel_inR {β : Lab} : ∀ (s : SV) (v : Value), SV.rel β s v → s.inR
  | .int _ _, _, h => by simp only [SV.rel] at h; exact h.2
  | .bool _, _, _ => trivial
  | .agg cs, _, h => by simp only [SV.rel] at h; obtain ⟨x, h1, _⟩ := h; simp only [SV.inR]; exact relL_inR cs x h1
  | .tuple cs, _, h => by simp only [SV.rel] at h; obtain ⟨x, h1, _⟩ := h; simp only [SV.inR]; exact relL_inR cs x h1
  | .ptr _ _, _, _ => trivial
  | .nilp, _, _ => trivial
  | .slice _ _ _ _, _, _ => trivial
  | .own _ _ _, _, _ => trivial
  | .func _ _ _, _, _ => trivial
  | .raw _, _, _ => trivial
  | .tsl _ _ _, _, _ => trivial
  | .tptr _ _ _, _, _ => trivial
  | .tz _, _, _ => trivial
  | .gro _ _ _, _, _ => trivial
theorem relL_inR {β : Lab} : ∀ (s : List SV) (v : List Value), relL β s v → inRL s
  | [], _, _ => trivial
  | c :: cs, _, h => by
    rw [relL_cons] at h; obtain ⟨v, vs, h1, h2, _⟩ := h
    exact ⟨rel_inR c v h1, relL_inR cs vs h2⟩
end
mutual
theorem toV_rel {β : Lab} : ∀ (s : SV), s.flat = true → s.inR → SV.rel β s s.toV
  | .int _ _, _, h => by simp only [SV.rel, SV.toV]; exact ⟨trivial, h⟩
  | .bool _, _, _ => by simp [SV.rel, SV.toV]
  | .agg cs, h, hi => by simp only [SV.flat] at h; simp only [SV.rel, SV.toV]; exact ⟨_, toVL_rel cs h hi, rfl⟩
  | .tuple cs, h, hi => by simp only [SV.flat] at h; simp only [SV.rel, SV.toV]; exact ⟨_, toVL_rel cs h hi, rfl⟩
  | .ptr _ _, h, _ => by simp [SV.flat] at h
  | .nilp, h, _ => by simp [SV.flat] at h
  | .slice _ _ _ _, h, _ => by simp [SV.flat] at h
  | .own _ _ _, h, _ => by simp [SV.flat] at h
  | .func _ _ _, h, _ => by simp [SV.flat] at h
  | .raw _, h, _ => by simp [SV.flat] at h
  | .tsl _ _ _, h, _ => by simp [SV.flat] at h
  | .tptr _ _ _, h, _ => by simp [SV.flat] at h
  | .tz _, h, _ => by simp [SV.flat] at h
  | .gro _ _ _, h, _ => by simp [SV.flat] at h
theorem toVL_rel {β : Lab} : ∀ (s : List SV), flatL s = true → inRL s → relL β s (toVL s)
  | [], _, _ => relL_nil.2 rfl
  | c :: cs, h, hi => by
    simp only [flatL, Bool.and_eq_true] at h
    rw [toVL, relL_cons']; exact ⟨toV_rel c h.1 hi.1, toVL_rel cs h.2 hi.2⟩
end
mutual
/-- two of one value lie within their kinds alike -/
theorem inR_of_toV : ∀ (s t : SV), s.flat = true → t.flat = true → s.toV = t.toV → s.inR → t.inR
  | s, .int k n, hs, _, h, hi => by
    cases s <;> simp only [SV.toV, Value.int.injEq, reduceCtorEq] at h
    all_goals first | (simp [SV.flat] at hs; done) | skip
    obtain ⟨rfl, h⟩ := h
    simp only [SV.inR] at hi ⊢; rw [← h]; exact hi
  | _, .bool _, _, _, _, _ => trivial
  | s, .agg cs, hs, ht, h, hi => by
    cases s <;> simp only [SV.toV, Value.agg.injEq, reduceCtorEq] at h
    all_goals first | (simp [SV.flat] at hs; done) | skip
    simp only [SV.flat] at hs ht
    exact inRL_of_toV _ cs hs ht (by simpa using h) hi
  | s, .tuple cs, hs, ht, h, hi => by
    cases s <;> simp only [SV.toV, Value.tuple.injEq, reduceCtorEq] at h
    all_goals first | (simp [SV.flat] at hs; done) | skip
    simp only [SV.flat] at hs ht
    exact inRL_of_toV _ cs hs ht (by simpa using h) hi
  | _, .ptr _ _, _, _, _, _ => trivial
  | _, .nilp, _, _, _, _ => trivial
  | _, .slice _ _ _ _, _, _, _, _ => trivial
  | _, .own _ _ _, _, _, _, _ => trivial
  | _, .func _ _ _, _, _, _, _ => trivial
  | _, .raw _, _, _, _, _ => trivial
  | _, .tsl _ _ _, _, _, _, _ => trivial
  | _, .tptr _ _ _, _, _, _, _ => trivial
  | _, .tz _, _, _, _, _ => trivial
  | _, .gro _ _ _, _, _, _, _ => trivial
theorem inRL_of_toV : ∀ (s t : List SV), flatL s = true → flatL t = true → toVL s = toVL t → inRL s → inRL t
  | _, [], _, _, _, _ => trivial
  | [], _ :: _, _, _, h, _ => by simp [toVL] at h
  | s :: ss, t :: ts, hs, ht, h, hi => by
    simp only [flatL, Bool.and_eq_true] at hs ht
    simp only [toVL, List.cons.injEq] at h
    exact ⟨inR_of_toV s t hs.1 ht.1 h.1 hi.1, inRL_of_toV ss ts hs.2 ht.2 h.2 hi.2⟩
end
theorem sx_calls (hE : E.Ok) (d : Nat) (f : FuncId) (vs : List SV) (vals : List Value) (hv : relL noLab vs vals) {r : SV} (hflat : (symCall E d f vs []).okFlat = true) (hr : r.flat = true) (hout : (symCall E d f vs []).out = r.toV) (w : World) :
    Calls E.P f vals.toArray w fun e w' => (∃ v, e = .returned v ∧ SV.rel noLab r v) ∧ Below w.heap.size w w' := by
  refine symCall_sound hE d f vs [] noLab w vals _ hv ⟨fun l o h => by simp [hpOf, nth] at h, fun l l' b _ _ h => by simp [noLab] at h, fun l b _ h => by simp [noLab] at h, fun b c h => by simp [noLab] at h⟩ (fun _ _ => rfl) ?_
  have := T.out_holds (K := fun v => v = r.toV) _ hflat hout
  refine T.Holds.mono ?_ this
  rintro ⟨v, H⟩ ⟨h1, h2⟩ β' w' val he _ _ hrel
  refine ⟨⟨val, rfl, ?_⟩, he.below (fun _ => rfl)⟩
  rw [flat_toV v val h1 hrel, h2]
  exact toV_rel r hr (inR_of_toV v r h1 hr h2 (rel_inR v val hrel))
end

/-! ## from a contract to a summary -/
mutual
def SV.symify : SV → SV
  | .int k n => .int k (.sym n.val)
  | .bool b => .bool (.sym b.val)
  | .agg cs => .agg (symifyL cs)
  | .tuple cs => .tuple (symifyL cs)
  | s => s
def symifyL : List SV → List SV
  | [] => []
  | c :: cs => c.symify :: symifyL cs
end
mutual
theorem symify_rel {β : Lab} : ∀ (s : SV) (v : Value), SV.rel β s v → SV.rel β s.symify v
  | .int _ _, _, h => by simp only [SV.rel, SV.symify] at h ⊢; exact h
  | .bool _, _, h => by simpa [SV.rel, SV.symify, SB.val] using h
  | .agg cs, _, h => by simp only [SV.rel, SV.symify] at h ⊢; obtain ⟨x, h1, h2⟩ := h; exact ⟨x, symifyL_rel cs x h1, h2⟩
  | .tuple cs, _, h => by simp only [SV.rel, SV.symify] at h ⊢; obtain ⟨x, h1, h2⟩ := h; exact ⟨x, symifyL_rel cs x h1, h2⟩
  | .ptr _ _, _, h => h
  | .nilp, _, h => h
  | .slice _ _ _ _, _, h => h
  | .own _ _ _, _, h => h
  | .func _ _ _, _, h => h
  | .raw _, _, h => h
  | .tsl _ _ _, _, h => h
  | .tptr _ _ _, _, h => h
  | .tz _, _, h => h
  | .gro _ _ _, _, h => h
theorem symifyL_rel {β : Lab} : ∀ (s : List SV) (v : List Value), relL β s v → relL β (symifyL s) v
  | [], _, h => by simpa [symifyL] using h
  | c :: cs, _, h => by
    simp only [symifyL]
    rw [relL_cons] at h ⊢; obtain ⟨v, vs, h1, h2, h3⟩ := h
    exact ⟨v, vs, symify_rel c v h1, symifyL_rel cs vs h2, h3⟩
end
theorem SArels_v {w : World} : ∀ {xs : List SV} {vs : List Value}, SArels w (xs.map SA.v) vs → relL noLab xs vs
  | [], _, h => relL_nil.2 h
  | x :: xs, _, h => by
    simp only [List.map_cons, SArels, SArel] at h; obtain ⟨v, vs, h1, h2, h3⟩ := h
    rw [relL_cons]; exact ⟨v, vs, h1, SArels_v h2, h3⟩
def okEnter (P : Program) (f : Nat) : Bool := match P.funcs[f]? with
  | some fn => !(fn.name == "runtime.NumGoroutine") && fn.body.isSome
  | none => false
theorem envOk {P : Program} {lo hi : Nat} (hent : (List.range' lo (hi - lo)).all (okEnter P) = true) (hf : P.follows .mixedOrders = true) {S : Summs} {j : Bool} {HS : HSumms} {US : USumms} {NS : NSumms} {RS : RSumms} (hS : SummsOk P S) (hH : HSummsOk P HS) (hU : USummsOk P US) (hN : NSummsOk P NS) (hR : RSummsOk P RS) : (Env.mk P S lo hi j HS US NS RS).Ok := by
  refine ⟨hS, hH, hU, hN, hR, fun f h1 h2 => ?_, hf⟩
  rw [List.all_eq_true] at hent
  have := hent f (by simp only [List.mem_range']; exact ⟨f - lo, by simp only at h1 h2; omega, by simp only at h1 h2; omega⟩)
  unfold okEnter at this
  split at this
  · rename_i fn hfn
    simp only [Bool.and_eq_true, Bool.not_eq_true', Option.isSome_iff_exists] at this
    obtain ⟨h3, c, h4⟩ := this
    exact enters_of hfn h3 h4
  · simp at this
theorem cond_out {α : Type} (g : α → SV) {c : Bool} {x y : α} {vx vy : Value} (hx : vx = (g x).toV) (hy : vy = (g y).toV) : (bif c then vx else vy) = (g (bif c then x else y)).toV := by
  cases c
  · exact hy
  · exact hx
/-! ## what a call hands back, where it bears no address and nothing known was written -/
def oneVal (E : Env) (d : Nat) (f : FuncId) (args : List SV) (H : SHeap) : Option SV := match joinT H (symCall E d f args H) with
  | .ret (v, H') => if v.flat && sameH H H' then some v else none
  | _ => none
theorem oneVal_sound {E : Env} (hE : E.Ok) {d : Nat} {f : FuncId} {args : List SV} {H : SHeap} {v : SV} (h : oneVal E d f args H = some v) {β : Lab} {w : World} {vals : List Value} (hv : relL β args vals) (hr : HR β (hpOf H) w) (hfree : ∀ l, H.length ≤ l → β l = none) :
    v.flat = true ∧ Calls E.P f vals.toArray w fun e w' => (∃ x, e = .returned x ∧ SV.rel noLab v x) ∧ Below w.heap.size w w' := by
  unfold oneVal at h
  split at h <;> (try simp only [reduceCtorEq] at h)
  rename_i v' H' hj
  split at h <;> simp only [Option.some.injEq, reduceCtorEq] at h
  rename_i hc; subst h
  simp only [Bool.and_eq_true] at hc
  have hT : (joinT H (symCall E d f args H)).Holds (LeafK β H w fun e w' => (∃ x, e = .returned x ∧ SV.rel noLab v' x) ∧ Below w.heap.size w w') := by
    rw [hj]
    intro β' w' val he _ _ hrel
    exact ⟨⟨val, rfl, flat_rel _ _ hc.1 hrel⟩, he.below_same hfree hc.2⟩
  exact ⟨hc.1, symCall_sound hE d f args H β w vals _ hv hr hfree (joinT_sound hfree hr _ hT)⟩
/-- a summary whose answer bears no address -/
theorem HSummFn.of {P : Program} {f : FuncId} {g : HSumm} (h : ∀ (vs : List SV) (H : SHeap) (r : SV), g vs H = some r → ∀ (β : Lab) (w : World) (vals : List Value), relL β vs vals → HR β (hpOf H) w → (∀ l, H.length ≤ l → β l = none) →
    Calls P f vals.toArray w fun e w' => (∃ v, e = .returned v ∧ SV.rel noLab r v) ∧ Below w.heap.size w w') : HSummFn P f g := fun vs H r hg β w vals h1 h2 h3 => (h vs H r hg β w vals h1 h2 h3).mono
  fun _ w' ⟨⟨v, e, hv⟩, hb⟩ => ⟨⟨v, e, SV.rel_mono (noLab_le _) _ _ hv⟩, hb⟩
/-- a function's values at 0, 1, .. -/
def eachVals (E : Env) (d : Nat) (f : FuncId) (first cap : List SV) (H : SHeap) : Nat → Nat → Option (List SV)
  | 0, _ => some []
  | n + 1, i => match oneVal E d f (first ++ [.int .i64 (.lit i)] ++ cap) H, eachVals E d f first cap H n (i + 1) with
    | some v, some l => some (v :: l)
    | _, _ => none
theorem eachVals_at {E : Env} {d : Nat} {f : FuncId} {first cap : List SV} {H : SHeap} : ∀ {n i : Nat} {l : List SV}, eachVals E d f first cap H n i = some l → l.length = n ∧ ∀ k, k < n → ∃ v, l[k]? = some v ∧ oneVal E d f (first ++ [.int .i64 (.lit (i + k : Nat))] ++ cap) H = some v
  | 0, i, l, h => by simp only [eachVals, Option.some.injEq] at h; subst h; exact ⟨rfl, fun k hk => by omega⟩
  | n + 1, i, l, h => by
    simp only [eachVals] at h
    split at h <;> simp only [Option.some.injEq, reduceCtorEq] at h
    rename_i v l' h1 h2; subst h
    obtain ⟨h3, h4⟩ := eachVals_at h2
    refine ⟨by simp [h3], fun k hk => ?_⟩
    cases k with
    | zero => exact ⟨v, rfl, h1⟩
    | succ k =>
      obtain ⟨v', h5, h6⟩ := h4 k (by omega)
      refine ⟨v', h5, ?_⟩
      rw [show i + (k + 1) = i + 1 + k by omega]; exact h6
theorem HR.below {β : Lab} {hp : HP} {w w' : World} (h : HR β hp w) (hb : Below w.heap.size w w') : HR β hp w' := by
  refine ⟨fun l o ho => ?_, h.inj, fun l b d hl => Nat.lt_of_lt_of_le (h.lt l b d hl) hb.size, fun b c e => ⟨by rw [hb.block b (h.flt e)]; exact (h.fz b c e).1, (h.fz b c e).2⟩⟩
  obtain ⟨b, vs, rest, h1, h2, h3, h4, h5⟩ := h.obj l o ho
  exact ⟨b, vs, rest, h1, h2, by rw [hb.block b (Array.getElem?_eq_some_iff.1 h3).1]; exact h3, h4, h5⟩
/-- what is known of the slots, forgotten but for some -/
def keepE (ks : List Nat) : Nat → List Ent → List Ent
  | _, [] => []
  | i, e :: l => (bif mem i ks then e else .none) :: keepE ks (i + 1) l
theorem keepE_at {ks : List Nat} : ∀ {l : List Ent} {i x : Nat} {e : Ent}, nth (keepE ks i l) x = some e → e = .none ∨ nth l x = some e
  | [], _, _, _, h => by simp [keepE, nth] at h
  | a :: l, i, 0, e, h => by
    simp only [keepE, nth, Option.some.injEq] at h
    cases hm : mem i ks
    · rw [hm] at h; exact .inl h.symm
    · rw [hm] at h; exact .inr (by simpa [nth] using h)
  | a :: l, i, x + 1, e, h => by
    simp only [keepE, nth] at h ⊢; exact keepE_at h
theorem keepE_len (ks : List Nat) : ∀ (i : Nat) (l : List Ent), (keepE ks i l).length = l.length
  | _, [] => rfl
  | i, _ :: l => by simp [keepE, keepE_len ks (i + 1) l]
theorem Rel.keep {β : Lab} {st : St} {a : Act} {w : World} (h : Rel β st a w) (ks : List Nat) : Rel β ⟨keepE ks 0 st.slots, st.heap⟩ a w :=
  ⟨by rw [keepE_len]; exact h.size, fun x e he => by
    rcases keepE_at he with rfl | h1
    · trivial
    · exact h.fact x e h1, h.hr, h.free, h.defers⟩
mutual
/-- are two values that bear labels alike? -/
def sameV : SV → SV → Bool
  | .ptr l o, .ptr l' o' => Nat.beq l l' && Nat.beq o o'
  | .slice l o n c, .slice l' o' n' c' => Nat.beq l l' && Nat.beq o o' && Nat.beq n n' && Nat.beq c c'
  | .own l o n, .own l' o' n' => Nat.beq l l' && Nat.beq o o' && Nat.beq n n'
  | .nilp, .nilp => true
  | .func f a c, .func f' a' c' => Nat.beq f f' && sameVL a a' && sameVL c c'
  | _, _ => false
def sameVL : List SV → List SV → Bool
  | [], [] => true
  | x :: xs, y :: ys => sameV x y && sameVL xs ys
  | _, _ => false
end
mutual
theorem sameV_eq : ∀ (x y : SV), sameV x y = true → x = y
  | .ptr _ _, y, h => by
    cases y <;> simp only [sameV, Bool.false_eq_true, Bool.and_eq_true, Nat.beq_eq] at h
    rw [h.1, h.2]
  | .slice _ _ _ _, y, h => by
    cases y <;> simp only [sameV, Bool.false_eq_true, Bool.and_eq_true, Nat.beq_eq] at h
    rw [h.1.1.1, h.1.1.2, h.1.2, h.2]
  | .own _ _ _, y, h => by
    cases y <;> simp only [sameV, Bool.false_eq_true, Bool.and_eq_true, Nat.beq_eq] at h
    rw [h.1.1, h.1.2, h.2]
  | .nilp, y, h => by cases y <;> simp only [sameV, Bool.false_eq_true] at h; rfl
  | .func f a c, y, h => by
    cases y <;> simp only [sameV, Bool.false_eq_true, Bool.and_eq_true, Nat.beq_eq] at h
    rename_i f' a' c'
    have e : f = f' := h.1.1
    rw [e, sameVL_eq a a' h.1.2, sameVL_eq c c' h.2]
  | .int _ _, y, h => by cases y <;> simp [sameV] at h
  | .bool _, y, h => by cases y <;> simp [sameV] at h
  | .agg _, y, h => by cases y <;> simp [sameV] at h
  | .tuple _, y, h => by cases y <;> simp [sameV] at h
  | .raw _, y, h => by cases y <;> simp [sameV] at h
  | .tsl _ _ _, y, h => by cases y <;> simp [sameV] at h
  | .tptr _ _ _, y, h => by cases y <;> simp [sameV] at h
  | .tz _, y, h => by cases y <;> simp [sameV] at h
  | .gro _ _ _, y, h => by cases y <;> simp [sameV] at h
theorem sameVL_eq : ∀ (x y : List SV), sameVL x y = true → x = y
  | [], y, h => by cases y <;> simp [sameVL] at h; rfl
  | x :: xs, y, h => by
    cases y <;> simp only [sameVL, Bool.false_eq_true, Bool.and_eq_true] at h
    rw [sameV_eq _ _ h.1, sameVL_eq _ _ h.2]
end
mutual
/-- values that bear labels alone hang on these alone -/
theorem sameV_rel {β β' : Lab} (hx : Lab.le β β') : ∀ (x y : SV), sameV x y = true → ∀ v0 v, SV.rel β x v0 → SV.rel β' x v → SV.rel β x v
  | .ptr _ _, _, _, v0, v, h0, h1 => by
    simp only [SV.rel] at *; obtain ⟨b0, h2, _⟩ := h0; obtain ⟨b, h3, e⟩ := h1
    have := hx _ _ h2; rw [h3] at this; simp only [Option.some.injEq] at this; subst this; exact ⟨_, h2, e⟩
  | .slice _ _ _ _, _, _, v0, v, h0, h1 => by
    simp only [SV.rel] at *; obtain ⟨b0, h2, _⟩ := h0; obtain ⟨b, h3, e⟩ := h1
    have := hx _ _ h2; rw [h3] at this; simp only [Option.some.injEq] at this; subst this; exact ⟨_, h2, e⟩
  | .own _ _ _, _, _, v0, v, h0, h1 => by
    simp only [SV.rel] at *; obtain ⟨b0, c0, h2, h4, _⟩ := h0; obtain ⟨b, c, h3, h5, e⟩ := h1
    have := hx _ _ h2; rw [h3] at this; simp only [Option.some.injEq] at this; subst this
    have := hx _ _ h4; rw [h5] at this; simp only [Option.some.injEq] at this; subst this; exact ⟨_, _, h2, h4, e⟩
  | .nilp, _, _, v0, v, h0, h1 => by simpa [SV.rel] using h1
  | .func _ a c, y, h, v0, v, h0, h1 => by
    cases y <;> simp only [sameV, Bool.false_eq_true, Bool.and_eq_true, Nat.beq_eq] at h
    simp only [SV.rel] at *; obtain ⟨x0, y0, h2, h3, _⟩ := h0; obtain ⟨x1, y1, h4, h5, e⟩ := h1
    exact ⟨x1, y1, sameVL_rel hx a _ h.1.2 _ _ h2 h4, sameVL_rel hx c _ h.2 _ _ h3 h5, e⟩
  | .int _ _, y, h, _, _, _, _ => by cases y <;> simp [sameV] at h
  | .bool _, y, h, _, _, _, _ => by cases y <;> simp [sameV] at h
  | .agg _, y, h, _, _, _, _ => by cases y <;> simp [sameV] at h
  | .tuple _, y, h, _, _, _, _ => by cases y <;> simp [sameV] at h
  | .raw _, y, h, _, _, _, _ => by cases y <;> simp [sameV] at h
  | .tsl _ _ _, y, h, _, _, _, _ => by cases y <;> simp [sameV] at h
  | .tptr _ _ _, y, h, _, _, _, _ => by cases y <;> simp [sameV] at h
  | .tz _, y, h, _, _, _, _ => by cases y <;> simp [sameV] at h
  | .gro _ _ _, y, h, _, _, _, _ => by cases y <;> simp [sameV] at h
theorem sameVL_rel {β β' : Lab} (hx : Lab.le β β') : ∀ (x y : List SV), sameVL x y = true → ∀ v0 v, relL β x v0 → relL β' x v → relL β x v
  | [], _, _, _, _, _, h1 => by rw [relL_nil] at h1 ⊢; exact h1
  | x :: xs, y, h, v0, v, h0, h1 => by
    cases y <;> simp only [sameVL, Bool.false_eq_true, Bool.and_eq_true] at h
    rw [relL_cons] at *
    obtain ⟨a, la, h2, h3, _⟩ := h0; obtain ⟨b, lb, h4, h5, e⟩ := h1
    exact ⟨b, lb, sameV_rel hx x _ h.1 _ _ h2 h4, sameVL_rel hx xs _ h.2 _ _ h3 h5, e⟩
end
/-- each cell bears no label, or is what it was -/
def keepsL : List SV → List SV → Bool
  | x :: xs, y :: ys => (y.flat || sameV x y) && keepsL xs ys
  | [], ys => flatL ys
  | _ :: _, [] => true
theorem keepsL_rel {β β' : Lab} (hx : Lab.le β β') : ∀ (x y : List SV) (v0 v : List Value), keepsL x y = true → relL β x v0 → relL β' y v → relL β y v
  | [], ys, _, _, h, _, hr => flatL_rel _ _ h hr
  | _ :: _, [], _, _, _, _, hr => by rw [relL_nil] at hr ⊢; exact hr
  | x :: xs, y :: ys, v0, v, h, h0, hr => by
    simp only [keepsL, Bool.and_eq_true, Bool.or_eq_true] at h
    rw [relL_cons] at h0 hr ⊢
    obtain ⟨a, la, h1, h2, rfl⟩ := h0
    obtain ⟨b, lb, h3, h4, rfl⟩ := hr
    refine ⟨b, lb, ?_, keepsL_rel hx xs ys la lb h.2 h2 h4, rfl⟩
    rcases h.1 with hf | hs
    · exact flat_rel _ _ hf h3
    · have e := sameV_eq _ _ hs
      subst e
      exact sameV_rel hx x _ hs _ _ h1 h3
/-! ## what a call hands back that writes one object -/
def updVal (E : Env) (d : Nat) (f : FuncId) (args : List SV) (H : SHeap) (l : Nat) : Option (SV × Nat × Obj') := match joinT H (symCall E d f args H) with
  | .ret (v, H') => match hpOf H l, hpOf H' l with
    | some o, some ob => if v.flat && keepsL o.1 ob.1 && ob.2.own.isNone && sameH (upd H l none) H' then some (v, l, (ob.1, ⟨ob.2.ty, none, ob.2.stamp, bump o.2.ver 0 (o.1.length + ob.1.length), none⟩)) else none
    | _, _ => none
  | _ => none
theorem updVal_sound {E : Env} (hE : E.Ok) {d : Nat} {f : FuncId} {args : List SV} {H : SHeap} {l l' : Nat} {v : SV} {ob : Obj'} (h : updVal E d f args H l = some (v, l', ob)) {β : Lab} {w : World} {vals : List Value} (hv : relL β args vals) (hr : HR β (hpOf H) w) (hfree : ∀ l, H.length ≤ l → β l = none) :
    Calls E.P f vals.toArray w fun e w' => (∃ x, e = .returned x ∧ SV.rel noLab v x) ∧ Wrote β l' ob w w' := by
  unfold updVal at h
  split at h <;> (try simp only [reduceCtorEq] at h)
  rename_i v' H' hj
  split at h <;> (try simp only [reduceCtorEq] at h)
  rename_i o ob' ho ho'
  split at h <;> simp only [Option.some.injEq, Prod.mk.injEq, reduceCtorEq] at h
  rename_i hc; obtain ⟨rfl, rfl, rfl⟩ := h
  simp only [Bool.and_eq_true] at hc
  obtain ⟨⟨⟨c1, c2⟩, c3⟩, c4⟩ := hc
  have hT : (joinT H (symCall E d f args H)).Holds (LeafK β H w fun e w' => (∃ x, e = .returned x ∧ SV.rel noLab v' x) ∧ Wrote β l (ob'.1, ⟨ob'.2.ty, none, ob'.2.stamp, bump o.2.ver 0 (o.1.length + ob'.1.length), none⟩) w w') := by
    rw [hj]
    intro β' w' val he hr' _ hrel
    refine ⟨⟨val, rfl, flat_rel _ _ c1 hrel⟩, fun b hb hne => he.frame b hb fun k hk => ?_, he.size, he.os, he.tape, he.output, ?_⟩
    · have hkl : k ≠ l := fun e => hne (e ▸ hk)
      have hlt : k < H.length := by
        rcases Nat.lt_or_ge k H.length with h | h
        · exact h
        · rw [hfree k h] at hk; simp at hk
      cases hk1 : hpOf H k with
      | none =>
        cases hk2 : hpOf H' k with
        | none => rfl
        | some o1 => obtain ⟨o2, h2, _⟩ := he.live k o1 hlt hk2; rw [hk1] at h2; simp at h2
      | some o1 =>
        have hk3 : hpOf (upd H l none) k = some o1 := by
          unfold hpOf at hk1 ⊢
          rw [nth_upd, if_neg (by omega)]; exact hk1
        obtain ⟨o2, h2, h3⟩ := sameH_at c4 hk3
        obtain ⟨o3, h4, h5⟩ := he.live k o2 hlt h2
        rw [hk1] at h4; simp only [Option.some.injEq] at h4; subst h4
        rw [h2]
        rcases h5 with rfl | h5
        · rfl
        · omega
    · obtain ⟨b, _, _, hb, k0, _, hd, _⟩ := hr.obj l o ho
      obtain ⟨b', vs, rest, hb', k1, k2, _, _⟩ := hr'.obj l ob' ho'
      have e : b = b' := by have := he.ext _ _ hb; rw [hb'] at this; simpa using this.symm
      subst e
      exact ⟨b, vs, rest, hb, keepsL_rel he.ext _ _ _ _ c2 k0 k1, k2, hd, tagOk.nil rfl rfl⟩
  exact symCall_sound hE d f args H β w vals _ hv hr hfree (joinT_sound hfree hr _ hT)
/-- the summary of a function whose first argument leads to what it writes -/
def firstU (E : Env) (d : Nat) (f : FuncId) : USumm := fun vs H => match vs with
  | .ptr l _ :: _ => updVal E d f vs H l
  | _ => none
theorem firstU_pure {E : Env} {d : Nat} {f : FuncId} : UPure (firstU E d f) := by
  intro vs H r l ob h
  unfold firstU at h
  split at h <;> (try simp only [reduceCtorEq] at h)
  unfold updVal at h
  split at h <;> (try simp only [reduceCtorEq] at h)
  split at h <;> (try simp only [reduceCtorEq] at h)
  rename_i o ob' ho ho'
  split at h <;> simp only [Option.some.injEq, Prod.mk.injEq, reduceCtorEq] at h
  obtain ⟨rfl, rfl, rfl⟩ := h
  refine ⟨o, ho, fun i => ?_, fun i e => ?_⟩
  · simp only [verAt_bump]; omega
  · simp only [verAt_bump] at e
    have : ¬ (0 ≤ i ∧ i < 0 + (o.1.length + ob'.1.length)) := fun hh => by rw [if_pos hh] at e; omega
    have h1 : ob'.1.length ≤ i := by omega
    have h2 : o.1.length ≤ i := by omega
    rw [nth_eq, nth_eq, List.getElem?_eq_none h1, List.getElem?_eq_none h2]
theorem firstU_ok {E : Env} (hE : E.Ok) {d : Nat} {f : FuncId} : USummFn E.P f (firstU E d f) := by
  refine ⟨firstU_pure, ?_⟩
  intro vs H r l ob h β w vals hv hr hfree
  unfold firstU at h
  split at h <;> (try simp only [reduceCtorEq] at h)
  exact updVal_sound hE h hv hr hfree
/-! ## what a call hands back that lays down one new object -/
mutual
def reV (k m : Nat) : SV → Option SV
  | .int q n => some (.int q n)
  | .bool b => some (.bool b)
  | .ptr l off => if Nat.beq l k then some (.ptr m off) else none
  | .nilp => some .nilp
  | .slice l off n c => if Nat.beq l k then some (.slice m off n c) else none
  | .own _ _ _ => none
  | .func f a c => match reL k m a, reL k m c with | some a', some c' => some (.func f a' c') | _, _ => none
  | .agg cs => match reL k m cs with | some cs' => some (.agg cs') | none => none
  | .tuple cs => match reL k m cs with | some cs' => some (.tuple cs') | none => none
  | .raw r => some (.raw r)
  | _ => none
def reL (k m : Nat) : List SV → Option (List SV)
  | [] => some []
  | v :: vs => match reV k m v, reL k m vs with | some v', some vs' => some (v' :: vs') | _, _ => none
end
mutual
theorem reV_rel {β γ : Lab} {k m b : Nat} (hk : β k = some b) (hm : γ m = some b) : ∀ (v v' : SV) (x : Value), reV k m v = some v' → SV.rel β v x → SV.rel γ v' x
  | .int q n, v', x, h, hr => by simp only [reV, Option.some.injEq] at h; subst h; simpa [SV.rel] using hr
  | .bool q, v', x, h, hr => by simp only [reV, Option.some.injEq] at h; subst h; simpa [SV.rel] using hr
  | .ptr l off, v', x, h, hr => by
    simp only [reV] at h
    split at h <;> simp only [Option.some.injEq, reduceCtorEq] at h
    rename_i e; have e' : l = k := by simpa using e
    subst h; subst e'
    simp only [SV.rel] at hr ⊢; obtain ⟨c, h1, h2⟩ := hr
    rw [hk] at h1; simp only [Option.some.injEq] at h1; subst h1; exact ⟨_, hm, h2⟩
  | .nilp, v', x, h, hr => by simp only [reV, Option.some.injEq] at h; subst h; simpa [SV.rel] using hr
  | .slice l off n c, v', x, h, hr => by
    simp only [reV] at h
    split at h <;> simp only [Option.some.injEq, reduceCtorEq] at h
    rename_i e; have e' : l = k := by simpa using e
    subst h; subst e'
    simp only [SV.rel] at hr ⊢; obtain ⟨c, h1, h2⟩ := hr
    rw [hk] at h1; simp only [Option.some.injEq] at h1; subst h1; exact ⟨_, hm, h2⟩
  | .own _ _ _, v', x, h, hr => by simp [reV] at h
  | .func f a c, v', x, h, hr => by
    simp only [reV] at h
    split at h <;> simp only [Option.some.injEq, reduceCtorEq] at h
    rename_i a' c' h1 h2; subst h
    simp only [SV.rel] at hr ⊢; obtain ⟨xs, ys, h3, h4, h5⟩ := hr
    exact ⟨xs, ys, reL_rel hk hm a a' xs h1 h3, reL_rel hk hm c c' ys h2 h4, h5⟩
  | .agg cs, v', x, h, hr => by
    simp only [reV] at h
    split at h <;> simp only [Option.some.injEq, reduceCtorEq] at h
    rename_i a' h1; subst h
    simp only [SV.rel] at hr ⊢; obtain ⟨xs, h3, h5⟩ := hr
    exact ⟨xs, reL_rel hk hm cs a' xs h1 h3, h5⟩
  | .tuple cs, v', x, h, hr => by
    simp only [reV] at h
    split at h <;> simp only [Option.some.injEq, reduceCtorEq] at h
    rename_i a' h1; subst h
    simp only [SV.rel] at hr ⊢; obtain ⟨xs, h3, h5⟩ := hr
    exact ⟨xs, reL_rel hk hm cs a' xs h1 h3, h5⟩
  | .raw r, v', x, h, hr => by simp only [reV, Option.some.injEq] at h; subst h; simpa [SV.rel] using hr
  | .tsl _ _ _, v', x, h, hr => by simp [reV] at h
  | .tptr _ _ _, v', x, h, hr => by simp [reV] at h
  | .tz _, v', x, h, hr => by simp [reV] at h
  | .gro _ _ _, v', x, h, hr => by simp [reV] at h
theorem reL_rel {β γ : Lab} {k m b : Nat} (hk : β k = some b) (hm : γ m = some b) : ∀ (v v' : List SV) (x : List Value), reL k m v = some v' → relL β v x → relL γ v' x
  | [], v', x, h, hr => by simp only [reL, Option.some.injEq] at h; subst h; rw [relL_nil] at hr ⊢; exact hr
  | c :: cs, v', x, h, hr => by
    simp only [reL] at h
    split at h <;> simp only [Option.some.injEq, reduceCtorEq] at h
    rename_i a' c' h1 h2; subst h
    rw [relL_cons] at hr ⊢; obtain ⟨y, ys, h3, h4, h5⟩ := hr
    exact ⟨y, ys, reV_rel hk hm c a' y h1 h3, reL_rel hk hm cs c' ys h2 h4, h5⟩
end
/-- the first label in a value -/
def labOf : SV → Option Nat
  | .ptr l _ => some l
  | .slice l _ _ _ => some l
  | .func _ _ (.ptr l _ :: _) => some l
  | _ => none
def newVal (E : Env) (d : Nat) (f : FuncId) (m : Nat) (args : List SV) (H : SHeap) : Option (SV × Obj') := match symCall E d f args H with
  | .ret (v, H') => match labOf v with
    | some k => match hpOf H' k, reV k m v with
      | some (cs, ⟨ty, none, st, vr, none⟩), some v' => match reL k m cs with
        | some cs' => if Nat.ble H.length k && sameH H H' then some (v', (cs', ⟨ty, none, st, vr, none⟩)) else none
        | none => none
      | _, _ => none
    | none => none
  | _ => none
theorem newVal_sound {E : Env} (hE : E.Ok) {d : Nat} {f : FuncId} {m : Nat} {args : List SV} {H : SHeap} {v : SV} {ob : Obj'} (h : newVal E d f m args H = some (v, ob)) {β : Lab} {w : World} {vals : List Value} (hv : relL β args vals) (hr : HR β (hpOf H) w) (hfree : ∀ l, H.length ≤ l → β l = none) :
    Calls E.P f vals.toArray w fun e w' => ∃ b x, e = .returned x ∧ w.heap.size ≤ b ∧ Below w.heap.size w w' ∧ SV.rel (β.put m b) v x ∧ objAt (β.put m b) w' m ob := by
  unfold newVal at h
  split at h <;> (try simp only [reduceCtorEq] at h)
  rename_i v0 H' hj
  split at h <;> (try simp only [reduceCtorEq] at h)
  rename_i k hk
  split at h <;> (try simp only [reduceCtorEq] at h)
  rename_i cs ty st vr v' ho hre
  split at h <;> (try simp only [reduceCtorEq] at h)
  rename_i cs' hcs
  split at h <;> simp only [Option.some.injEq, Prod.mk.injEq, reduceCtorEq] at h
  rename_i hc; obtain ⟨rfl, rfl⟩ := h
  simp only [Bool.and_eq_true, Nat.ble_eq] at hc
  obtain ⟨c1, c2⟩ := hc
  refine symCall_sound hE d f args H β w vals _ hv hr hfree ?_
  rw [hj]
  intro β' w' val he hr' _ hrel
  obtain ⟨b, vs, rest, hb, k1, k2, _, _⟩ := hr'.obj k _ ho
  have hbs : w.heap.size ≤ b := by
    rcases he.new k b hb with h1 | ⟨_, h2 | ⟨l0, o, h2, h3, h4⟩ | h2⟩
    · rw [hfree k c1] at h1; simp at h1
    · exact h2
    · obtain ⟨o', h5, _⟩ := sameH_at c2 h3
      rw [h4] at h5; simp at h5
    · rw [ho] at h2; simp at h2
  have hbm : (β.put m b) m = some b := by rw [Lab.put_blk, if_pos rfl]
  exact ⟨b, val, rfl, hbs, he.below_same hfree c2, reV_rel hb hbm _ _ _ hre hrel, b, vs, rest, hbm, reL_rel hb hbm _ _ _ hcs k1, k2, by rw [Lab.put_dead, if_pos rfl], tagOk.nil rfl rfl⟩
theorem newVal_ok {E : Env} (hE : E.Ok) {d : Nat} {f : FuncId} : NSummFn E.P f (newVal E d f) :=
  fun _ _ _ _ _ h _ _ _ hv hr hfree _ => newVal_sound hE h hv hr hfree
end Go.Sx

namespace Go.Sx
open Go.RowKit Go.Proofs

/-! # loops of unknown length: a state's one form, labels renumbered -/
def addN (l : List Nat) (x : Nat) : List Nat := bif mem x l then l else l ++ [x]
def addL (l : List Nat) : List Nat → List Nat
  | [] => l
  | x :: xs => addL (addN l x) xs
theorem addN_nodup {l : List Nat} (h : l.Nodup) (x : Nat) : (addN l x).Nodup := by
  unfold addN
  cases hm : mem x l with
  | true => exact h
  | false =>
    have hx : x ∉ l := fun hh => by rw [mem_iff.2 hh] at hm; simp at hm
    simp only [cond_false]
    rw [List.nodup_append]
    exact ⟨h, by simp, fun a ha b hb => by simp only [List.mem_singleton] at hb; subst hb; exact fun e => hx (e ▸ ha)⟩
theorem addL_nodup : ∀ (xs : List Nat) {l : List Nat}, l.Nodup → (addL l xs).Nodup
  | [], _, h => h
  | x :: xs, _, h => addL_nodup xs (addN_nodup h x)
def idxN : List Nat → Nat → Nat → Option Nat
  | [], _, _ => none
  | y :: l, i, x => bif Nat.beq y x then some i else idxN l (i + 1) x
theorem idxN_at : ∀ {l : List Nat} {i x j : Nat}, idxN l i x = some j → i ≤ j ∧ nth l (j - i) = some x
  | [], _, _, _, h => by simp [idxN] at h
  | y :: l, i, x, j, h => by
    simp only [idxN] at h
    cases hb : Nat.beq y x with
    | true => rw [hb] at h; simp only [cond_true, Option.some.injEq] at h; subst h; exact ⟨Nat.le_refl _, by simp only [Nat.sub_self, nth]; rw [Nat.eq_of_beq_eq_true hb]⟩
    | false =>
      rw [hb] at h; simp only [cond_false] at h
      obtain ⟨h1, h2⟩ := idxN_at h
      refine ⟨by omega, ?_⟩
      rw [show j - i = (j - (i + 1)) + 1 by omega]; exact h2
mutual
def renV (L : List Nat) : SV → Option SV
  | .ptr l off => match idxN L 0 l with | some i => some (.ptr i off) | none => none
  | .slice l off n c => match idxN L 0 l with | some i => some (.slice i off n c) | none => none
  | .own l lc n => match idxN L 0 l, idxN L 0 lc with | some i, some j => some (.own i j n) | _, _ => none
  | .gro l lc n => match idxN L 0 l, idxN L 0 lc with | some i, some j => some (.gro i j n) | _, _ => none
  | .func f a c => match renL L a, renL L c with | some a', some c' => some (.func f a' c') | _, _ => none
  | .agg cs => match renL L cs with | some cs' => some (.agg cs') | none => none
  | .tuple cs => match renL L cs with | some cs' => some (.tuple cs') | none => none
  | v => some v
def renL (L : List Nat) : List SV → Option (List SV)
  | [] => some []
  | v :: vs => match renV L v, renL L vs with | some v', some vs' => some (v' :: vs') | _, _ => none
end
def Lab.ren (β : Lab) (L : List Nat) : Lab := ⟨fun i => match nth L i with | some l => β.blk l | none => none, fun i => match nth L i with | some l => β.dead l | none => false, β.fz⟩
theorem ren_at {β : Lab} {L : List Nat} {l i : Nat} (h : idxN L 0 l = some i) : (β.ren L) i = β l := by
  obtain ⟨_, h1⟩ := idxN_at h
  rw [Nat.sub_zero] at h1
  show (match nth L i with | some l => β.blk l | none => none) = β l
  rw [h1]
mutual
theorem renV_rel {β : Lab} {L : List Nat} : ∀ (v : SV) {v' : SV} {x : Value}, renV L v = some v' → SV.rel β v x → SV.rel (β.ren L) v' x
  | .int _ _, v', x, h, hr => by simp only [renV, Option.some.injEq] at h; subst h; simpa [SV.rel] using hr
  | .bool _, v', x, h, hr => by simp only [renV, Option.some.injEq] at h; subst h; simpa [SV.rel] using hr
  | .nilp, v', x, h, hr => by simp only [renV, Option.some.injEq] at h; subst h; simpa [SV.rel] using hr
  | .raw _, v', x, h, hr => by simp only [renV, Option.some.injEq] at h; subst h; simpa [SV.rel] using hr
  | .tsl _ _ _, v', x, h, hr => by simp only [renV, Option.some.injEq] at h; subst h; simp only [SV.rel] at hr ⊢; exact hr
  | .tptr _ _ _, v', x, h, hr => by simp only [renV, Option.some.injEq] at h; subst h; simp only [SV.rel] at hr ⊢; exact hr
  | .tz _, v', x, h, hr => by simp only [renV, Option.some.injEq] at h; subst h; simp only [SV.rel] at hr ⊢; exact hr
  | .ptr l off, v', x, h, hr => by
    simp only [renV] at h
    split at h <;> simp only [Option.some.injEq, reduceCtorEq] at h
    rename_i i hi; subst h
    simp only [SV.rel] at hr ⊢; obtain ⟨b, h1, h2⟩ := hr; exact ⟨b, by rw [ren_at hi]; exact h1, h2⟩
  | .slice l off n c, v', x, h, hr => by
    simp only [renV] at h
    split at h <;> simp only [Option.some.injEq, reduceCtorEq] at h
    rename_i i hi; subst h
    simp only [SV.rel] at hr ⊢; obtain ⟨b, h1, h2⟩ := hr; exact ⟨b, by rw [ren_at hi]; exact h1, h2⟩
  | .own l lc n, v', x, h, hr => by
    simp only [renV] at h
    split at h <;> simp only [Option.some.injEq, reduceCtorEq] at h
    rename_i i j hi hj; subst h
    simp only [SV.rel] at hr ⊢; obtain ⟨b, c, h1, h2, h3⟩ := hr; exact ⟨b, c, by rw [ren_at hi]; exact h1, by rw [ren_at hj]; exact h2, h3⟩
  | .gro l lc n, v', x, h, hr => by
    simp only [renV] at h
    split at h <;> simp only [Option.some.injEq, reduceCtorEq] at h
    rename_i i j hi hj; subst h
    simp only [SV.rel] at hr ⊢; obtain ⟨b, c, h1, h2, h3⟩ := hr; exact ⟨b, c, by rw [ren_at hi]; exact h1, by rw [ren_at hj]; exact h2, h3⟩
  | .func f a c, v', x, h, hr => by
    simp only [renV] at h
    split at h <;> simp only [Option.some.injEq, reduceCtorEq] at h
    rename_i a' c' ha hc; subst h
    simp only [SV.rel] at hr ⊢; obtain ⟨xs, ys, h1, h2, h3⟩ := hr
    exact ⟨xs, ys, renL_rel a ha h1, renL_rel c hc h2, h3⟩
  | .agg cs, v', x, h, hr => by
    simp only [renV] at h
    split at h <;> simp only [Option.some.injEq, reduceCtorEq] at h
    rename_i a' ha; subst h
    simp only [SV.rel] at hr ⊢; obtain ⟨xs, h1, h3⟩ := hr; exact ⟨xs, renL_rel cs ha h1, h3⟩
  | .tuple cs, v', x, h, hr => by
    simp only [renV] at h
    split at h <;> simp only [Option.some.injEq, reduceCtorEq] at h
    rename_i a' ha; subst h
    simp only [SV.rel] at hr ⊢; obtain ⟨xs, h1, h3⟩ := hr; exact ⟨xs, renL_rel cs ha h1, h3⟩
theorem renL_rel {β : Lab} {L : List Nat} : ∀ (v : List SV) {v' : List SV} {x : List Value}, renL L v = some v' → relL β v x → relL (β.ren L) v' x
  | [], v', x, h, hr => by simp only [renL, Option.some.injEq] at h; subst h; rw [relL_nil] at hr ⊢; exact hr
  | v :: vs, v', x, h, hr => by
    simp only [renL] at h
    split at h <;> simp only [Option.some.injEq, reduceCtorEq] at h
    rename_i a b ha hb; subst h
    rw [relL_cons] at hr ⊢; obtain ⟨y, ys, h1, h2, e⟩ := hr
    exact ⟨y, ys, renV_rel v ha h1, renL_rel vs hb h2, e⟩
end
def renTag (L : List Nat) (t : Tag) : Tag := ⟨t.ty, match t.own with | some (lc, sz) => (match idxN L 0 lc with | some j => some (j, sz) | none => none) | none => none, 0, [], t.lst⟩
def renObj (L : List Nat) : Option Obj' → Option Obj'
  | some (cs, t) => match renL L cs with
    | some cs' => some (cs', renTag L t)
    | none => none
  | none => none
def heapR (L : List Nat) (H : SHeap) : List Nat → SHeap
  | [] => []
  | l :: ls => renObj L (hpOf H l) :: heapR L H ls
/-- what is kept of a slot: as it is, or made symbolic -/
def keepV (keep : List Nat) (i : Nat) : Ent → Option SV
  | .val v => bif mem i keep then some v else bif mem (i + 1000) keep then some v.symify else none
  | _ => none
def keptL (keep : List Nat) : Nat → List Ent → List Nat
  | _, [] => []
  | i, e :: l => (match keepV keep i e with | some v => v.deep | none => []) ++ keptL keep (i + 1) l
def tagLabs (H : SHeap) : List Nat → List Nat
  | [] => []
  | l :: L => (match hpOf H l with
    | some (cs, t) => (match t.own with | some (lc, _) => [lc] | none => []) ++ deepL cs
    | none => []) ++ tagLabs H L
def closeL (H : SHeap) : Nat → List Nat → List Nat
  | 0, L => L
  | n + 1, L => closeL H n (addL L (tagLabs H L))
def slotsR (L : List Nat) (keep : List Nat) : Nat → List Ent → List Ent
  | _, [] => []
  | i, e :: l => (match keepV keep i e with
    | some v => (match renV L v with | some v' => .val v' | none => .none)
    | none => .none) :: slotsR L keep (i + 1) l
def nrmL (keep : List Nat) (st : St) : List Nat := closeL st.heap 2 (addL [] (keptL keep 0 st.slots))
/-- a state's one form -/
def nrm (keep : List Nat) (st : St) : St := ⟨slotsR (nrmL keep st) keep 0 st.slots, heapR (nrmL keep st) st.heap (nrmL keep st)⟩
theorem closeL_nodup (H : SHeap) : ∀ (n : Nat) {L : List Nat}, L.Nodup → (closeL H n L).Nodup
  | 0, _, h => h
  | n + 1, _, h => closeL_nodup H n (addL_nodup _ h)
theorem nrmL_nodup (keep : List Nat) (st : St) : (nrmL keep st).Nodup := closeL_nodup _ _ (addL_nodup _ List.nodup_nil)
theorem slotsR_length (L keep : List Nat) : ∀ (l : List Ent) (i : Nat), (slotsR L keep i l).length = l.length
  | [], _ => rfl
  | _ :: l, i => by simp [slotsR, slotsR_length L keep l (i + 1)]
theorem slotsR_fact {β : Lab} {a : Act} {L keep : List Nat} : ∀ (l : List Ent) (i j : Nat), (∀ x e, nth l x = some e → EntFact β a (x + j) e) → ∀ x e, nth (slotsR L keep i l) x = some e → EntFact (β.ren L) a (x + j) e
  | [], _, _, _, x, e, h => by simp [slotsR, nth] at h
  | e0 :: l, i, j, hf, x, e, h => by
    cases x with
    | zero =>
      simp only [slotsR, nth, Option.some.injEq] at h
      split at h
      · rename_i v hv
        split at h
        · rename_i v' hv'; subst h
          have hv0 : ∃ y, a.tmps[0 + j]? = some y ∧ SV.rel β v y := by
            unfold keepV at hv
            cases e0 with
            | none => simp at hv
            | gd _ _ _ => simp at hv
            | val v0 =>
              obtain ⟨y, hy, hr⟩ := hf 0 _ rfl
              simp only at hv
              cases hm : mem i keep with
              | true => rw [hm] at hv; simp only [cond_true, Option.some.injEq] at hv; subst hv; exact ⟨y, hy, hr⟩
              | false =>
                rw [hm] at hv; simp only [cond_false] at hv
                cases hm2 : mem (i + 1000) keep with
                | true => rw [hm2] at hv; simp only [cond_true, Option.some.injEq] at hv; subst hv; exact ⟨y, hy, symify_rel _ _ hr⟩
                | false => rw [hm2] at hv; simp at hv
          obtain ⟨y, hy, hr⟩ := hv0
          exact ⟨y, hy, renV_rel v hv' hr⟩
        · subst h; trivial
      · subst h; trivial
    | succ x =>
      simp only [slotsR, nth] at h
      have := slotsR_fact l (i + 1) (j + 1) (fun y e hy => by have := hf (y + 1) e (by simpa [nth] using hy); rwa [show y + 1 + j = y + (j + 1) by omega] at this) x e h
      rwa [show x + (j + 1) = x + 1 + j by omega] at this
theorem heapR_at (L : List Nat) (H : SHeap) : ∀ (ls : List Nat) (i : Nat) {o : Obj'}, hpOf (heapR L H ls) i = some o → ∃ l, nth ls i = some l ∧ renObj L (hpOf H l) = some o
  | [], i, o, h => by simp [heapR, hpOf, nth] at h
  | l :: ls, 0, o, h => ⟨l, rfl, by simpa [heapR, hpOf, nth] using h⟩
  | l :: ls, i + 1, o, h => by
    have h' : hpOf (heapR L H ls) i = some o := by simpa [heapR, hpOf, nth] using h
    obtain ⟨l', h1, h2⟩ := heapR_at L H ls i h'
    exact ⟨l', by simpa [nth] using h1, h2⟩
theorem heapR_length (L : List Nat) (H : SHeap) : ∀ (ls : List Nat), (heapR L H ls).length = ls.length
  | [] => rfl
  | _ :: ls => by simp [heapR, heapR_length L H ls]
theorem nodup_nth {l : List Nat} (h : l.Nodup) {i j x : Nat} (hi : nth l i = some x) (hj : nth l j = some x) : i = j := by
  rw [nth_eq] at hi hj
  obtain ⟨h1, e1⟩ := List.getElem?_eq_some_iff.1 hi
  obtain ⟨h2, e2⟩ := List.getElem?_eq_some_iff.1 hj
  exact (List.getElem_inj h).1 (e1.trans e2.symm)
theorem nrm_rel {keep : List Nat} {β : Lab} {st : St} {a : Act} {w : World} (h : Rel β st a w) : Rel (β.ren (nrmL keep st)) (nrm keep st) a w := by
  have hnd := nrmL_nodup keep st
  have hat : ∀ i b, (β.ren (nrmL keep st)) i = some b → ∃ l, nth (nrmL keep st) i = some l ∧ β l = some b ∧ (β.ren (nrmL keep st)).dead i = β.dead l := fun i b hb => by
    change (match nth (nrmL keep st) i with | some l => β.blk l | none => none) = some b at hb
    cases hn : nth (nrmL keep st) i with
    | none => rw [hn] at hb; simp at hb
    | some l => rw [hn] at hb; exact ⟨l, rfl, hb, by show (match nth (nrmL keep st) i with | some l => β.dead l | none => false) = _; rw [hn]⟩
  refine ⟨by simp only [nrm, slotsR_length]; exact h.size, fun x e he => ?_, ⟨fun i o ho => ?_, fun i j b d1 d2 h1 h2 => ?_, fun i b d h1 => ?_, fun b c hb => ⟨(h.hr.fz b c hb).1, fun i d e => ?_⟩⟩, fun i hi => ?_, h.defers⟩
  · have := slotsR_fact (β := β) (a := a) (L := nrmL keep st) (keep := keep) st.slots 0 0 (fun x e hx => h.fact x e hx) x e he
    exact this
  · obtain ⟨l, h1, h2⟩ := heapR_at _ _ _ _ ho
    cases ho' : hpOf st.heap l with
    | none => rw [ho'] at h2; simp [renObj] at h2
    | some o0 =>
      obtain ⟨cs, t⟩ := o0
      rw [ho'] at h2
      simp only [renObj] at h2
      split at h2 <;> simp only [Option.some.injEq, reduceCtorEq] at h2
      rename_i cs' hcs; subst h2
      obtain ⟨b, vs, rest, a1, a2, a3, a4, a5⟩ := h.hr.obj l _ ho'
      have hbl : (β.ren (nrmL keep st)) i = some b := by
        show (match nth (nrmL keep st) i with | some l => β.blk l | none => none) = some b
        rw [h1]; exact a1
      have hdl : (β.ren (nrmL keep st)).dead i = false := by
        show (match nth (nrmL keep st) i with | some l => β.dead l | none => false) = false
        rw [h1]; exact a4
      refine ⟨b, vs, rest, hbl, renL_rel cs hcs a2, a3, hdl, ⟨fun lc sz e => ?_, fun ks m f e => a5.lst ks m f e⟩⟩
      simp only [renTag] at e
      split at e <;> (try simp only [reduceCtorEq] at e)
      rename_i lc0 sz0 hown
      split at e <;> simp only [Option.some.injEq, Prod.mk.injEq, reduceCtorEq] at e
      rename_i j hj
      obtain ⟨rfl, rfl⟩ := e
      obtain ⟨cap, c1, c2⟩ := a5.own _ _ hown
      exact ⟨cap, by rw [ren_at hj]; exact c1, c2⟩
  · obtain ⟨l1, e1, e2, e3⟩ := hat i b h1
    obtain ⟨l2, e4, e5, e6⟩ := hat j b h2
    rw [e3] at d1; rw [e6] at d2
    have := h.hr.inj l1 l2 b d1 d2 e2 e5
    subst this
    exact nodup_nth hnd e1 e4
  · obtain ⟨l1, e1, e2, e3⟩ := hat i b h1
    rw [e3] at d; exact h.hr.lt l1 b d e2
  · obtain ⟨l1, e1, e2, e3⟩ := hat i b e
    rw [e3] at d; exact (h.hr.fz b c hb).2 l1 d e2
  · simp only [nrm, heapR_length] at hi
    show (match nth (nrmL keep st) i with | some l => β.blk l | none => none) = none
    rw [nth_eq, List.getElem?_eq_none hi]
/-- all that was laid since lies above -/
abbrev Since (β0 : Lab) (w0 : World) (β : Lab) (H : SHeap) (w : World) : Prop := Ext β0 [] w0 β H w
theorem nrm_since {β0 : Lab} {w0 : World} (h0 : ∀ l, β0 l = none) {keep : List Nat} {β : Lab} {st : St} {w : World} (h : Since β0 w0 β st.heap w) : Since β0 w0 (β.ren (nrmL keep st)) (nrm keep st).heap w := by
  refine ⟨⟨fun l b e => by rw [h0] at e; simp at e, h.ext.fz⟩, fun i b e => ?_, Nat.zero_le _, fun l o hl => absurd hl (Nat.not_lt_zero _), fun b hb _ => h.frame b hb (fun l e => by rw [h0] at e; simp at e), h.size, h.os, h.tape, h.output, fun b c e => by
    rcases h.fzn b c e with h1 | h1 | ⟨l, o, h1, _⟩
    · exact .inl h1
    · exact .inr (.inl h1)
    · rw [h0] at h1; simp at h1⟩
  change (match nth (nrmL keep st) i with | some l => β.blk l | none => none) = some b at e
  cases hn : nth (nrmL keep st) i with
  | none => rw [hn] at e; simp at e
  | some l =>
    rw [hn] at e
    rcases h.new l b e with e | ⟨_, e | ⟨l0, o, e, _⟩ | e⟩
    · rw [h0] at e; simp at e
    · exact .inr ⟨Nat.zero_le _, .inl e⟩
    · rw [h0] at e; simp at e
    · refine .inr ⟨Nat.zero_le _, .inr (.inr ?_)⟩
      cases ho : hpOf (nrm keep st).heap i with
      | none => rfl
      | some o =>
        obtain ⟨l', h1, h2⟩ := heapR_at _ _ _ _ ho
        rw [hn] at h1; simp only [Option.some.injEq] at h1; subst h1
        rw [e] at h2; simp [renObj] at h2
def T.mapX {α γ : Type} (f : α → γ) : T α → T γ
  | .ret a => .ret (f a)
  | .ite b x y => .ite b (T.mapX f x) (T.mapX f y)
  | .both x y => .both (T.mapX f x) (T.mapX f y)
  | .fail => .fail
theorem T.mapX_holds {α γ : Type} {f : α → γ} {K : γ → Prop} : ∀ {t : T α}, (T.mapX f t).Holds K → t.Holds (fun a => K (f a))
  | .ret a, h => h
  | .ite _ _ _, h => ⟨fun e => T.mapX_holds (h.1 e), fun e => T.mapX_holds (h.2 e)⟩
  | .both _ _, h => ⟨T.mapX_holds h.1, T.mapX_holds h.2⟩
  | .fail, h => h
/-- a code told by the state that is kept behind it -/
def runY (E : Env) (call : CallF) (n : Nat) (keep : List Nat) (c : Code) (st : St) : T (Ex × St) := T.mapX (fun r => (r.1, nrm keep r.2)) (symCode E call n c st)
section
variable {E : Env} {β0 : Lab} {w0 : World}
theorem runY_sound (hE : E.Ok) {call : CallF} (hcall : CallOk E.P call) (h0 : ∀ l, β0 l = none) {n : Nat} {keep : List Nat} {c : Code} {st : St} {β : Lab} {a : Act} {w : World} {Q : Exit → Act → World → Prop} (h : Rel β st a w) (hs : Since β0 w0 β st.heap w)
    (hK : (runY E call n keep c st).Holds fun r => ∀ β' a' w', Since β0 w0 β' r.2.heap w' → Rel β' r.2 a' w' → Q r.1.toExit a' w') : c.wp E.P Q a w := by
  refine symCode_sound hE hcall n c h (T.Holds.mono ?_ (T.mapX_holds hK))
  intro r hr β' a' w' h1 h2
  exact hr _ a' w' (nrm_since h0 (Ext.trans (fun l _ => h0 l) h.free hs h1)) (nrm_rel h2)
theorem loopY (hE : E.Ok) {call : CallF} (hcall : CallOk E.P call) (h0 : ∀ l, β0 l = none) {α : Type} {n : Nat} {keep : List Nat} {body : Code} (stf : α → St) (I : α → Prop) (μ : α → Nat) {Q : Exit → Act → World → Prop}
    (hround : ∀ p, I p → (runY E call n keep body (stf p)).Holds fun r => match r.1 with
      | .normal => ∃ p', r.2 = stf p' ∧ I p' ∧ μ p' < μ p
      | e => ∀ β' a' w', Since β0 w0 β' r.2.heap w' → Rel β' r.2 a' w' → Q e.toExit a' w')
    {p : α} (hI : I p) {β : Lab} {a : Act} {w : World} (h : Rel β (stf p) a w) (hs : Since β0 w0 β (stf p).heap w) : (Code.loop body).wp E.P Q a w := by
  have key : ∀ (m : Nat) (p : α), I p → μ p < m → ∀ (β : Lab) (a : Act) (w : World), Rel β (stf p) a w → Since β0 w0 β (stf p).heap w → Code.rounds E.P body Q m a w := by
    intro m
    induction m with
    | zero => intro p _ hm; exact absurd hm (Nat.not_lt_zero _)
    | succ m ih =>
      intro p hI hm β a w h hs
      rw [rounds_succ]
      refine runY_sound hE hcall h0 h hs (T.Holds.mono ?_ (hround p hI))
      rintro ⟨e, st⟩ hr β' a' w' h1 h2
      cases e with
      | normal =>
        obtain ⟨p', rfl, hI', hlt⟩ := hr
        exact ih p' hI' (by omega) β' a' w' h2 h1
      | ret => exact hr β' a' w' h1 h2
      | exit id => exact hr β' a' w' h1 h2
      | goto l => exact hr β' a' w' h1 h2
  exact wp_loop_rounds (μ p + 1) (key _ p hI (Nat.lt_succ_self _) β a w h hs)
end
/-! ## a body's end: what it hands back, as data -/
def symEnd (E : Env) (call : CallF) (fuel : Nat) (c : Code) (fn : Func) (st : St) : T (SV × SHeap) := (symCode E call fuel c st).bind fun r => match r.1 with
  | .exit _ => .fail
  | .goto _ => .fail
  | _ => match resultS E.P r.2 fn.results.toList with
    | some vs => .ret (resultV vs, r.2.heap)
    | none => .fail
/-- what stands for as much -/
def Says (r' r : SV) : Prop := ∀ β v, SV.rel β r' v → SV.rel β r v
theorem Says.refl (r : SV) : Says r r := fun _ _ h => h
/-- a leaf that hands back such data -/
def Gives (E : Env) (r : SV) (q : SV × SHeap) : Prop := ∃ r' c, outV E q.2 q.1 = some (r', c) ∧ c = true ∧ Says r' r
def HandsBack (β0 : Lab) (w0 : World) (r : SV) (e : Ending) (w' : World) : Prop := (∃ v, e = .returned v ∧ SV.rel (β0.after w0 w') r v) ∧ Below w0.heap.size w0 w'
section
variable {E : Env} {β0 : Lab} {w0 : World}
theorem Since.below {β : Lab} {H : SHeap} {w : World} (h0 : ∀ l, β0 l = none) (h : Since β0 w0 β H w) : Below w0.heap.size w0 w := Ext.below h h0
theorem gives_end {r : SV} {q : SV × SHeap} (h0 : ∀ l, β0 l = none) {hp : HP} (hr0 : HR β0 hp w0) (hg : Gives E r q) {β' : Lab} {w' : World} {val : Value} (he : Since β0 w0 β' q.2 w') (hr : HR β' (hpOf q.2) w') (hv : SV.rel β' q.1 val) : HandsBack β0 w0 r (.returned val) w' := by
  obtain ⟨r', c, h1, h2, h3⟩ := hg
  exact ⟨⟨val, rfl, h3 _ _ (outV_sound (OutAt.of h0 hr0 he hr) q.1 h1 h2 hv)⟩, Since.below h0 he⟩
theorem endY (hE : E.Ok) {call : CallF} (hcall : CallOk E.P call) (h0 : ∀ l, β0 l = none) {fn : Func} {fuel : Nat} {c : Code} {st : St} {β : Lab} {a : Act} {w : World} {R : Ending → World → Prop} (h : Rel β st a w) (hs : Since β0 w0 β st.heap w)
    (hK : (symEnd E call fuel c fn st).Holds fun q => ∀ β' w' val, Since β0 w0 β' q.2 w' → HR β' (hpOf q.2) w' → SV.rel β' q.1 val → R (.returned val) w') : c.wp E.P (bodyPost E.P fn R) a w := by
  unfold symEnd at hK
  refine symCode_sound hE hcall fuel c h (T.Holds.mono ?_ (T.Holds.bind hK))
  rintro ⟨e, st1⟩ hr1 β1 a1 w1 he1 hrel1
  have he2 := Ext.trans (fun l _ => h0 l) h.free hs he1
  have fin : (match resultS E.P st1 fn.results.toList with | some vs => T.ret (resultV vs, st1.heap) | none => .fail : T (SV × SHeap)).Holds (fun q => ∀ β' w' val, Since β0 w0 β' q.2 w' → HR β' (hpOf q.2) w' → SV.rel β' q.1 val → R (.returned val) w') →
      a1.defers = [] ∧ ∃ v, (results fn a1.tmps).run E.P w1 = .ok v w1 ∧ R (.returned v) w1 := by
    intro hh
    split at hh
    · rename_i vs' hvs
      obtain ⟨v, h1, h2⟩ := results_sound hrel1 hvs
      exact ⟨hrel1.defers, v, h1, hh β1 w1 v he2 hrel1.hr h2⟩
    · exact hh.elim
  cases e with
  | normal => exact fin hr1
  | ret => exact fin hr1
  | exit id => exact hr1.elim
  | goto l => exact hr1.elim
/-- a call whose body is walked by hand: its start -/
def startS (fn : Func) (vs : List SV) : St := ⟨vs.map .val ++ List.replicate (fn.ntmps - vs.length) (.val undefS), []⟩
theorem rel_start {fn : Func} {vs : List SV} {vals : List Value} (hv : relL β0 vs vals) (h0 : ∀ l, β0 l = none) {hp : HP} (hr0 : HR β0 hp w0) :
    Rel β0 (startS fn vs) { tmps := vals.toArray ++ Array.replicate (fn.ntmps - vals.toArray.size) undef, defers := [] } w0 := by
  have hlen := relL_length hv
  refine ⟨by simp [startS, hlen], fun x e he => ?_, ⟨fun l o h => by simp [startS, hpOf, nth] at h, hr0.inj, hr0.lt, hr0.fz⟩, fun l _ => h0 l, rfl⟩
  simp only [startS, nth_append, List.length_map] at he
  split at he
  · rename_i hx
    rw [nth_eq, List.getElem?_map, Option.map_eq_some_iff] at he
    obtain ⟨s, hs, rfl⟩ := he
    obtain ⟨y, h1, h2⟩ := relL_nth hv (by rw [nth_eq]; exact hs)
    refine ⟨y, ?_, h2⟩
    rw [Array.getElem?_append_left (by simp; omega)]; simpa using h1
  · rename_i hx
    rw [nth_eq, List.getElem?_replicate] at he
    split at he <;> simp only [Option.some.injEq, reduceCtorEq] at he
    rename_i hx2; subst he
    refine ⟨undef, ?_, by simp [undefS, SV.rel, undef, relL_nil]⟩
    rw [Array.getElem?_append_right (by simp; omega), Array.getElem?_replicate, if_pos (by simp; omega)]
theorem callsY {f : FuncId} {fn : Func} (hf : E.P.funcs[f]? = some fn) {c : Code} (hb : fn.body = some c) {vs : List SV} {vals : List Value} {R : Ending → World → Prop} (hv : relL β0 vs vals) (h0 : ∀ l, β0 l = none) {hp : HP} (hr0 : HR β0 hp w0)
    (hK : ∀ a, Rel β0 (startS fn vs) a w0 → c.wp E.P (bodyPost E.P fn R) a w0) : Calls E.P f vals.toArray w0 R :=
  calls_of_wp hf hb (hK _ (rel_start hv h0 hr0))
end
/-- labels forgotten -/
def Lab.bare (β : Lab) : Lab := ⟨fun _ => none, fun _ => false, β.fz⟩
theorem HR.bare {β : Lab} {hp : HP} {w : World} (h : HR β hp w) : HR β.bare (hpOf []) w :=
  ⟨fun l o e => by simp [hpOf, nth] at e, fun l l' b _ _ e => by simp [Lab.bare] at e, fun l b _ e => by simp [Lab.bare] at e, fun b c e => ⟨(h.fz b c e).1, fun l _ => by simp [Lab.bare]⟩⟩
/-- a summary over data, from what a call told by data alone hands back -/
theorem rsumm_of {P : Program} {f : FuncId} {g : RSumm} (h : ∀ vs c r, g vs = some (c, r) → c = true → deepL vs = [] ∧ ∀ (β0 : Lab) (w0 : World) (vals : List Value), (∀ l, β0 l = none) → HR β0 (hpOf []) w0 → relL β0 vs vals → Calls P f vals.toArray w0 (HandsBack β0 w0 r)) : RSummFn P f g := by
  intro vs c r hg hc β hp w vals hv hr
  obtain ⟨h1, h2⟩ := h vs c r hg hc
  exact h2 β.bare w vals (fun _ => rfl) hr.bare (relL_fz (β := β) (β' := β.bare) (fun _ _ h => h) _ _ h1 hv)
/-- a call that is walked by the executor alone -/
theorem symY {E : Env} (hE : E.Ok) (d : Nat) (f : FuncId) {vs : List SV} {r : SV} {β0 : Lab} {w0 : World} {vals : List Value} (h0 : ∀ l, β0 l = none) (hr0 : HR β0 (hpOf []) w0) (hv : relL β0 vs vals) (hK : (symCall E d f vs []).Holds (Gives E r)) : Calls E.P f vals.toArray w0 (HandsBack β0 w0 r) := by
  refine symCall_sound hE d f vs [] β0 w0 vals _ hv hr0 (fun l _ => h0 l) (T.Holds.mono ?_ hK)
  intro q hq β' w' val he hhr _ hval
  exact gives_end h0 hr0 hq he hhr hval
end Go.Sx
