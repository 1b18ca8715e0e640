/- The executor at a law's own level, its first part: operations over memory that came in (lists read where they lie), told by conditions that are proved apart. -/
import Derived.Test.YtmnglkcodbecbaaGreatSx
namespace Go.Sx
open Go.RowKit Go.Proofs
set_option linter.unusedVariables false
set_option linter.unusedSimpArgs false
open Classical in
noncomputable def dec (p : Prop) : Bool := decide p
theorem dec_true {p : Prop} : dec p = true ↔ p := by unfold dec; simp
/-- what lies there -/
def intAt (w : World) (a : Addr) : Int := match w.cell? a with
  | some (.int _ n) => n
  | _ => 0
def boolAt (w : World) (a : Addr) : Bool := match w.cell? a with
  | some (.bool b) => b
  | _ => false
inductive CK | int (k : IntKind) | bool
def CK.sv (w : World) (a : Addr) : CK → SV
  | .int k => .int k (.sym (intAt w a))
  | .bool => .bool (.sym (boolAt w a))
def CK.ok (w : World) (a : Addr) : CK → Prop
  | .int k => ∃ n, w.cell? a = some (.int k n) ∧ Rg k n
  | .bool => ∃ b, w.cell? a = some (.bool b)
def cellsSV (w : World) (a : Addr) : Nat → List CK → List SV
  | _, [] => []
  | j, k :: ks => k.sv w (a.add j) :: cellsSV w a (j + 1) ks
def cellsOk (w : World) (a : Addr) : Nat → List CK → Prop
  | _, [] => True
  | j, k :: ks => k.ok w (a.add j) ∧ cellsOk w a (j + 1) ks
theorem CK.ok_rel {w : World} {a : Addr} {β : Lab} {k : CK} (h : k.ok w a) : ∃ v, w.cell? a = some v ∧ SV.rel β (k.sv w a) v := by
  cases k with
  | int k => obtain ⟨n, h1, h2⟩ := h; exact ⟨_, h1, by simp only [CK.sv, SV.rel, SI.val, intAt, h1]; exact ⟨trivial, h2⟩⟩
  | bool => obtain ⟨b, h1⟩ := h; exact ⟨_, h1, by simp only [CK.sv, SV.rel, SB.val, boolAt, h1]⟩
theorem cellsOk_rel {w : World} {a : Addr} {β : Lab} : ∀ {ks : List CK} {j : Nat}, cellsOk w a j ks → ∃ vs, relL β (cellsSV w a j ks) vs ∧ ∀ i v, vs[i]? = some v → w.cell? (a.add (j + i)) = some v
  | [], _, _ => ⟨[], by simp [cellsSV, relL_nil], fun i v h => by simp at h⟩
  | k :: ks, j, h => by
    obtain ⟨v, h1, h2⟩ := CK.ok_rel (β := β) h.1
    obtain ⟨vs, h3, h4⟩ := cellsOk_rel (β := β) h.2
    refine ⟨v :: vs, by simp only [cellsSV]; rw [relL_cons']; exact ⟨h2, h3⟩, fun i u hi => ?_⟩
    cases i with
    | zero => simp only [List.getElem?_cons_zero, Option.some.injEq] at hi; subst hi; exact h1
    | succ i => simp only [List.getElem?_cons_succ] at hi; rw [show j + (i + 1) = j + 1 + i by omega]; exact h4 i u hi
theorem cell_below {B : Nat} {w w' : World} (h : Below B w w') {a : Addr} (ha : a.block < B) : w'.cell? a = w.cell? a := by
  unfold World.cell?; rw [h.block _ ha]
theorem add_block (a : Addr) (n : Nat) : (a.add n).block = a.block := by unfold Addr.add; split <;> rfl
theorem add_add' (a : Addr) (i j : Nat) : (a.add i).add j = a.add (i + j) := by
  unfold Addr.add
  by_cases hi : i = 0 <;> by_cases hj : j = 0 <;> simp [hi, hj, Nat.add_assoc]
theorem CK.ok_below {B : Nat} {w w' : World} (h : Below B w w') {a : Addr} (ha : a.block < B) (k : CK) : k.ok w' a ↔ k.ok w a := by cases k <;> simp only [CK.ok, cell_below h ha]
theorem intAt_below {B : Nat} {w w' : World} (h : Below B w w') {a : Addr} (ha : a.block < B) : intAt w' a = intAt w a := by unfold intAt; rw [cell_below h ha]
theorem boolAt_below {B : Nat} {w w' : World} (h : Below B w w') {a : Addr} (ha : a.block < B) : boolAt w' a = boolAt w a := by unfold boolAt; rw [cell_below h ha]
theorem cellsOk_below {B : Nat} {w w' : World} (h : Below B w w') {a : Addr} (ha : a.block < B) : ∀ {ks : List CK} {j : Nat}, cellsOk w' a j ks ↔ cellsOk w a j ks
  | [], _ => Iff.rfl
  | k :: ks, j => by simp only [cellsOk]; rw [CK.ok_below h (by rw [add_block]; exact ha), cellsOk_below h ha]
theorem cellsSV_below {B : Nat} {w w' : World} (h : Below B w w') {a : Addr} (ha : a.block < B) : ∀ {ks : List CK} {j : Nat}, cellsSV w' a j ks = cellsSV w a j ks
  | [], _ => rfl
  | k :: ks, j => by
    simp only [cellsSV]; rw [cellsSV_below h ha]
    congr 1
    cases k
    · simp only [CK.sv]; rw [intAt_below h (by rw [add_block]; exact ha)]
    · simp only [CK.sv]; rw [boolAt_below h (by rw [add_block]; exact ha)]
theorem run_loadX {P : Program} {t : TypeId} {cs : List SV} {vs : List Value} {β : Lab} {w : World} {a : Addr} {s : SV} (h : partS P t cs 0 = some s) (hr : relL β cs vs) (hw : ∀ i v, vs[i]? = some v → w.cell? (a.add i) = some v) :
    ∃ v, (loadVar t a).run P w = .ok v w ∧ SV.rel β s v := by
  unfold partS at h
  split at h
  · rename_i ha
    simp only [Option.bind_eq_some_iff, Option.map_eq_some_iff] at h
    obtain ⟨n, hn, t', ht, rfl⟩ := h
    have hd : dropN 0 cs = cs := by cases cs <;> rfl
    rw [hd] at ht
    obtain ⟨h1, h2⟩ := relL_takeN hr ht
    have hlen : (vs.take n).length = n := by rw [relL_length h1, h2]
    have hl := run_loadCells_list (P := P) w a (vs.take n) (fun j v hv => by
      rw [List.getElem?_take] at hv
      split at hv
      · exact hw j v hv
      · simp at hv)
    rw [hlen] at hl
    refine ⟨.agg (vs.take n).toArray, ?_, ?_⟩
    · simp [loadVar, run_isAggT w ha, run_sizeT w hn, hl]
    · simp only [SV.rel]; exact ⟨_, h1, rfl⟩
  · rename_i ha
    obtain ⟨y, h1, h2⟩ := relL_nth hr h
    refine ⟨y, ?_, h2⟩
    have h3 : w.cell? a = some y := by have := hw 0 y h1; simpa [Addr.add] using this
    simp [loadVar, run_isAggT w ha, h3, load, Sem.run]
  · simp at h

/-! ## what is told at the top -/
abbrev Orc := List Oper → St → Oper → Option (T SV)
def OrcOk (P : Program) (w0 : World) (orc : Orc) : Prop := ∀ ops st o t, orc ops st o = some t → ∀ (β : Lab) (a : Act) (w : World), Rel β st a w → Below w0.heap.size w0 w → ∀ (K : Act → World → Prop) (Q : Exit → Act → World → Prop),
  (t.Holds fun r => ∀ w' val, Below w.heap.size w w' → SV.rel noLab r val → K (a.put o.dst val) w') → if Region.wanted o (yielded ops.toArray a.tmps) then o.wp P a w K Q else K (a.put o.dst undef) w
def symOperX1 (E : Env) (call : CallF) (orc : Orc) (ops : List Oper) (st : St) (o : Oper) : T St :=
  match orc ops st o with
  | some t => t.bind fun r => match putE st.slots o.dst (.val r) with
    | some s => .ret ⟨s, st.heap⟩
    | none => .fail
  | none => symOper E call ops st o
/-- the test that a guard hangs on at last -/
def rootG (s : List Ent) : Nat → Nat → Option (Nat × Bool)
  | 0, _ => none
  | n + 1, t => match nth s t with
    | some (.val (.bool (.sym b))) => some (t, b)
    | some (.gd t' _ _) => rootG s n t'
    | _ => none
def Ent.res (t : Nat) (b : Bool) : Ent → Ent
  | .gd t' w v => bif Nat.beq t' t then (bif w == b then .val v else .val undefS) else .gd t' w v
  | e => e
def St.setR (st : St) (t : Nat) (b : Bool) : St := ⟨upd (st.slots.map (Ent.res t b)) t (.val (.bool (.lit b))), st.heap⟩
def splitX (E : Env) (ops : List Oper) (st : St) (o : Oper) : Option (Nat × Bool) :=
  match guardSlot ops o with
  | some (some (t, _)) => match softStep E ops st.slots (hpOf st.heap) st.heap.length o with
    | some _ => none
    | none => rootG st.slots 12 t
  | _ => none
def unwantedX (ops : List Oper) (st : St) (o : Oper) : Bool :=
  match guardSlot ops o with
  | some (some (t, _)) => match nth st.slots t with
    | some (.val (.tuple [])) => true
    | _ => false
  | _ => false
def symOperX (E : Env) (call : CallF) (orc : Orc) (ops : List Oper) (o : Oper) : Nat → St → T St
  | 0, st => symOperX1 E call orc ops st o
  | n + 1, st => bif unwantedX ops st o then (match putE st.slots o.dst (.val undefS) with
      | some s => .ret ⟨s, st.heap⟩
      | none => .fail)
    else match splitX E ops st o with
      | some (t, b) => .ite b (symOperX E call orc ops o n (st.setR t true)) (symOperX E call orc ops o n (st.setR t false))
      | none => symOperX1 E call orc ops st o
def symOpsX (E : Env) (call : CallF) (orc : Orc) (ops : List Oper) : List Oper → St → T St
  | [], st => .ret st
  | o :: l, st => (symOperX E call orc ops o 8 st).bind (symOpsX E call orc ops l)
def symRegionX (E : Env) (call : CallF) (orc : Orc) (ops : List Oper) (draw : Bool) (st : St) : T St :=
  match draw with
  | true => symRegion E call ops true st
  | false => (symOpsX E call orc ops ops st).bind fun st' => .ret st'.settle
def symCodeX (E : Env) (call : CallF) (orc : Orc) : Nat → Code → St → T (Ex × St)
  | 0, _, _ => .fail
  | n + 1, c, s => match c with
    | .skip => .ret (.normal, s)
    | .label _ => .ret (.normal, s)
    | .ret => .ret (.ret, s)
    | .exit id => .ret (.exit id, s)
    | .goto l => .ret (.goto l, s)
    | .seq x y => (symCodeX E call orc n x s).bind fun r => match r.1 with
      | .normal => symCodeX E call orc n y r.2
      | e => .ret (e, r.2)
    | .cond c x y => match evalC s.slots c with
      | some (.lit true) => symCodeX E call orc n x s
      | some (.lit false) => symCodeX E call orc n y s
      | some (.sym b) => .ite b (symCodeX E call orc n x s) (symCodeX E call orc n y s)
      | none => .fail
    | .block id x => (symCodeX E call orc n x s).bind fun r => match r.1 with
      | .exit id' => if Nat.beq id' id then .ret (.normal, r.2) else .ret (.exit id', r.2)
      | e => .ret (e, r.2)
    | .loop x => symLoop (symCodeX E call orc n x) n s
    | .region _ ops draw => (symRegionX E call orc ops.toList draw s).bind fun s' => .ret (.normal, s')
    | _ => .fail
section
variable {E : Env} {w0 : World}
theorem symOperX1_sound (hE : E.Ok) {call : CallF} (hcall : CallOk E.P call) {orc : Orc} (ho : OrcOk E.P w0 orc) {ops : List Oper} {st : St} {o : Oper} {β : Lab} {a : Act} {w : World} (h : Rel β st a w) (h0 : Below w0.heap.size w0 w) {K : Act → World → Prop} {Q : Exit → Act → World → Prop}
    (hK : (symOperX1 E call orc ops st o).Holds fun st' => ∀ β' a' w', Ext β st.heap w β' st'.heap w' → Rel β' st' a' w' → K a' w') :
    if Region.wanted o (yielded ops.toArray a.tmps) then o.wp E.P a w K Q else K (a.put o.dst undef) w := by
  unfold symOperX1 at hK
  split at hK
  · rename_i t ht
    refine ho ops st o t ht β a w h h0 K Q (T.Holds.mono ?_ (T.Holds.bind hK))
    intro r hr w' val hb hv
    split at hr
    · rename_i s hs
      obtain ⟨k1, k2, k3⟩ := Stp.next h.hr h.free (fun _ _ h => h) (Stp.below (m := st.heap.length) h.hr hb)
      obtain ⟨h4, h5⟩ := putE_facts k2.ext h.size h.fact (show DFact β a val (.val r) from noLab_rel hv) hs
      exact hr β _ w' k2 ⟨h4, h5, k1, k3, by rw [put_defers]; exact h.defers⟩
    · exact hr.elim
  · exact symOper_sound hE hcall h hK
theorem rootG_at {s : List Ent} : ∀ {n t t' : Nat} {b : Bool}, rootG s n t = some (t', b) → nth s t' = some (.val (.bool (.sym b)))
  | 0, _, _, _, h => by simp [rootG] at h
  | n + 1, t, t', b, h => by
    simp only [rootG] at h
    split at h <;> (try simp only [reduceCtorEq] at h)
    · rename_i hh; simp only [Option.some.injEq, Prod.mk.injEq] at h; obtain ⟨rfl, rfl⟩ := h; exact hh
    · exact rootG_at h
theorem nth_map {α γ : Type} (f : α → γ) : ∀ (l : List α) (i : Nat), nth (l.map f) i = (nth l i).map f
  | [], _ => rfl
  | _ :: _, 0 => rfl
  | _ :: l, i + 1 => nth_map f l i
theorem Rel.setR {β : Lab} {st : St} {a : Act} {w : World} (h : Rel β st a w) {t : Nat} {b : Bool} (ht : nth st.slots t = some (.val (.bool (.sym b)))) : Rel β (st.setR t b) a w := by
  obtain ⟨y, h1, h2⟩ := h.fact t _ ht
  simp only [SV.rel, SB.val] at h2; subst h2
  have htb : tb a t = some b := by simp [tb, h1]
  refine ⟨by simp only [St.setR, upd_length, List.length_map]; exact h.size, fun x e he => ?_, h.hr, h.free, h.defers⟩
  simp only [St.setR, nth_upd] at he
  split at he
  · rename_i hx; obtain ⟨rfl, _⟩ := hx
    simp only [Option.some.injEq] at he; subst he
    exact ⟨_, h1, by simp [SV.rel, SB.val]⟩
  · rw [nth_map, Option.map_eq_some_iff] at he
    obtain ⟨e0, he0, rfl⟩ := he
    have hf := h.fact x e0 he0
    cases e0 with
    | none => exact hf
    | val v => exact hf
    | gd t' w' v =>
      simp only [Ent.res]
      cases hb : Nat.beq t' t with
      | false => exact hf
      | true =>
        have : t' = t := Nat.eq_of_beq_eq_true hb
        subst this
        cases hw : (w' == b) with
        | true => have : w' = b := by simpa using hw
                  subst this; exact hf.1 htb
        | false =>
          have : w' ≠ b := by simpa using hw
          refine ⟨undef, hf.2 (by rw [htb]; exact fun e => this (by simpa using e.symm)), by simp [undefS, SV.rel, undef, relL_nil]⟩
theorem symOperX_sound (hE : E.Ok) {call : CallF} (hcall : CallOk E.P call) {orc : Orc} (ho : OrcOk E.P w0 orc) {ops : List Oper} {o : Oper} {β : Lab} {a : Act} {w : World} (h0 : Below w0.heap.size w0 w) {K : Act → World → Prop} {Q : Exit → Act → World → Prop} : ∀ (n : Nat) {st : St}, Rel β st a w →
    ((symOperX E call orc ops o n st).Holds fun st' => ∀ β' a' w', Ext β st.heap w β' st'.heap w' → Rel β' st' a' w' → K a' w') →
    if Region.wanted o (yielded ops.toArray a.tmps) then o.wp E.P a w K Q else K (a.put o.dst undef) w
  | 0, st, h, hK => symOperX1_sound hE hcall ho h h0 hK
  | n + 1, st, h, hK => by
    simp only [symOperX] at hK
    cases hu : unwantedX ops st o with
    | true =>
      rw [hu] at hK; simp only [cond_true] at hK
      have hw : Region.wanted o (yielded ops.toArray a.tmps) = false := by
        unfold unwantedX at hu
        split at hu <;> (try simp only [Bool.false_eq_true] at hu)
        rename_i t v hg
        split at hu <;> (try simp only [Bool.false_eq_true] at hu)
        rename_i hn
        obtain ⟨y, h1, h2⟩ := h.fact t _ hn
        simp only [SV.rel] at h2; obtain ⟨xs, _, rfl⟩ := h2
        rw [wanted_guard hg]; simp [tb, h1]
      rw [hw]
      simp only [Bool.false_eq_true, if_false]
      split at hK
      · rename_i s hs
        obtain ⟨h4, h5⟩ := putE_facts (fun _ _ e => e) h.size h.fact (show DFact β a undef (.val undefS) from by simp [DFact, undefS, SV.rel, undef, relL_nil]) hs
        exact hK β _ w (Ext.refl _ _ _) ⟨h4, h5, h.hr, h.free, by rw [put_defers]; exact h.defers⟩
      · exact hK.elim
    | false =>
      rw [hu] at hK; simp only [cond_false] at hK
      split at hK
      · rename_i t b hg
        have ht : nth st.slots t = some (.val (.bool (.sym b))) := by
          unfold splitX at hg
          split at hg <;> (try simp only [reduceCtorEq] at hg)
          split at hg <;> (try simp only [reduceCtorEq] at hg)
          exact rootG_at hg
        cases b
        · exact symOperX_sound hE hcall ho h0 n (h.setR ht) (hK.2 rfl)
        · exact symOperX_sound hE hcall ho h0 n (h.setR ht) (hK.1 rfl)
      · exact symOperX1_sound hE hcall ho h h0 hK
/-- all that was laid since lies above -/
abbrev Since0 (w0 : World) (β : Lab) (H : SHeap) (w : World) : Prop := Ext noLab [] w0 β H w
theorem Since0.below {β : Lab} {H : SHeap} {w : World} (h : Since0 w0 β H w) : Below w0.heap.size w0 w := Ext.below h (fun _ => rfl)
theorem symOpsX_sound (hE : E.Ok) {call : CallF} (hcall : CallOk E.P call) {orc : Orc} (ho : OrcOk E.P w0 orc) {ops : List Oper} {Q : Exit → Act → World → Prop} : ∀ (l : List Oper) {st : St} {β : Lab} {a : Act} {w : World}, Rel β st a w → Since0 w0 β st.heap w →
    ((symOpsX E call orc ops l st).Holds fun st' => ∀ β' a' w', Since0 w0 β' st'.heap w' → Rel β' st' a' w' → Q .normal a' w') → wpList E.P ops.toArray Q l a w
  | [], st, β, a, w, h, h0, hK => hK β a w h0 h
  | o :: l, st, β, a, w, h, h0, hK => by
    refine wpList_step fun K hKK => ?_
    refine symOperX_sound hE hcall ho h0.below 8 h (T.Holds.mono ?_ (T.Holds.bind hK))
    intro st1 hst1 β1 a1 w1 he1 hr1
    have h1 := Ext.trans (fun _ _ => rfl) h.free h0 he1
    exact hKK a1 w1 (symOpsX_sound hE hcall ho l hr1 h1 hst1)
theorem symRegionX_sound (hE : E.Ok) {call : CallF} (hcall : CallOk E.P call) {orc : Orc} (ho : OrcOk E.P w0 orc) {ops : Array Oper} {draw : Bool} {st : St} {β : Lab} {a : Act} {w : World} (h : Rel β st a w) (h0 : Since0 w0 β st.heap w) {id : Nat} {Q : Exit → Act → World → Prop}
    (hK : (symRegionX E call orc ops.toList draw st).Holds fun st' => ∀ β' a' w', Since0 w0 β' st'.heap w' → Rel β' st' a' w' → Q .normal a' w') : (Code.region id ops draw).wp E.P Q a w := by
  cases draw with
  | true =>
    simp only [symRegionX] at hK
    exact symRegion_sound hE hcall h (T.Holds.mono (fun st' hst β' a' w' he hr => hst β' a' w' (Ext.trans (fun _ _ => rfl) h.free h0 he) hr) hK)
  | false =>
    simp only [symRegionX] at hK
    refine wp_region_list (P := E.P) (ops := ops) ?_
    have := symOpsX_sound hE hcall ho (ops := ops.toList) (Q := Q) ops.toList h h0 (T.Holds.mono (fun st' hst β' a' w' he hr => hst β' a' w' he hr.settle) (T.Holds.bind hK))
    simpa using this
theorem symCodeX_sound (hE : E.Ok) {call : CallF} (hcall : CallOk E.P call) {orc : Orc} (ho : OrcOk E.P w0 orc) : ∀ (n : Nat) (c : Code) {st : St} {β : Lab} {a : Act} {w : World} {Q : Exit → Act → World → Prop}, Rel β st a w → Since0 w0 β st.heap w →
    ((symCodeX E call orc n c st).Holds fun r => ∀ β' a' w', Since0 w0 β' r.2.heap w' → Rel β' r.2 a' w' → Q r.1.toExit a' w') → c.wp E.P Q a w
  | 0, _, _, _, _, _, _, _, _, hK => hK.elim
  | n + 1, c, st, β, a, w, Q, h, h0, hK => by
    cases c <;> simp only [symCodeX] at hK
    case skip => exact wp_skip (hK β a w h0 h)
    case label l => exact wp_label (hK β a w h0 h)
    case ret => exact wp_ret (hK β a w h0 h)
    case exit id => exact wp_exit (hK β a w h0 h)
    case goto l => exact wp_goto (hK β a w h0 h)
    case region id ops draw =>
      exact symRegionX_sound hE hcall ho h h0 (T.Holds.mono (fun st' hst β' a' w' he hr => hst β' a' w' he hr) (T.Holds.bind hK))
    case seq x y =>
      refine wp_seq (symCodeX_sound hE hcall ho n x h h0 (T.Holds.mono ?_ (T.Holds.bind hK)))
      rintro ⟨e, st1⟩ hr β1 a1 w1 he1 hr1
      cases e with
      | normal => exact symCodeX_sound hE hcall ho n y hr1 he1 hr
      | ret => exact hr β1 a1 w1 he1 hr1
      | exit id => exact hr β1 a1 w1 he1 hr1
      | goto l => exact hr β1 a1 w1 he1 hr1
    case cond c x y =>
      split at hK
      · rename_i hc; exact wp_cond (t := true) (evalC_sound h hc) (symCodeX_sound hE hcall ho n x h h0 hK)
      · rename_i hc; exact wp_cond (t := false) (evalC_sound h hc) (symCodeX_sound hE hcall ho n y h h0 hK)
      · rename_i b hc
        exact wp_cond_split (evalC_sound h hc) (fun e => symCodeX_sound hE hcall ho n x h h0 (hK.1 e)) (fun e => symCodeX_sound hE hcall ho n y h h0 (hK.2 e))
      · exact hK.elim
    case block id x =>
      refine wp_block (symCodeX_sound hE hcall ho n x h h0 (T.Holds.mono ?_ (T.Holds.bind hK)))
      rintro ⟨e, st1⟩ hr β1 a1 w1 he1 hr1
      cases e with
      | normal => exact hr β1 a1 w1 he1 hr1
      | ret => exact hr β1 a1 w1 he1 hr1
      | goto l => exact hr β1 a1 w1 he1 hr1
      | exit id' =>
        simp only [Ex.toExit, Exit.inBlock]
        split
        · rename_i e; subst e
          simp only [Nat.beq_refl, if_true] at hr
          exact hr β1 a1 w1 he1 hr1
        · rename_i e
          have : Nat.beq id' id = false := by
            cases hb : Nat.beq id' id with
            | false => rfl
            | true => exact absurd (by simpa using hb) e
          simp only [this, Bool.false_eq_true, if_false] at hr
          exact hr β1 a1 w1 he1 hr1
    case loop x =>
      have key : ∀ (k : Nat) {st : St} {β : Lab} {a : Act} {w : World}, Rel β st a w → Since0 w0 β st.heap w → ((symLoop (symCodeX E call orc n x) k st).Holds fun r => ∀ β' a' w', Since0 w0 β' r.2.heap w' → Rel β' r.2 a' w' → Q r.1.toExit a' w') → Code.rounds E.P x Q k a w := by
        intro k
        induction k with
        | zero => intro st β a w _ _ hK; exact hK.elim
        | succ k ih =>
          intro st β a w h h0 hK
          rw [rounds_succ]
          simp only [symLoop] at hK
          refine symCodeX_sound hE hcall ho n x h h0 (T.Holds.mono ?_ (T.Holds.bind hK))
          rintro ⟨e, st1⟩ hr β1 a1 w1 he1 hr1
          cases e with
          | normal => exact ih hr1 he1 hr
          | ret => exact hr β1 a1 w1 he1 hr1
          | exit id => exact hr β1 a1 w1 he1 hr1
          | goto l => exact hr β1 a1 w1 he1 hr1
      exact wp_loop_rounds n (key n h h0 hK)
    all_goals exact hK.elim
/-! ## a law's body, to its one answer -/
def symBodyX (E : Env) (call : CallF) (orc : Orc) (fn : Func) (fuel : Nat) (args : List SV) : T SV := match fn.body with
  | some c => (symCodeX E call orc fuel c ⟨args.map .val ++ List.replicate (fn.ntmps - args.length) (.val undefS), []⟩).bind fun r => match r.1 with
    | .exit _ => .fail
    | .goto _ => .fail
    | _ => match resultS E.P r.2 fn.results.toList with
      | some vs => .ret (resultV vs)
      | none => .fail
  | none => .fail
def T.yes : T SV → Bool
  | .ret (.bool b) => b.val
  | .ret _ => false
  | .ite b x y => bif b then x.yes else y.yes
  | .fail => false
theorem T.yes_holds : ∀ {t : T SV}, t.yes = true → t.Holds fun r => ∃ b : SB, r = .bool b ∧ b.val = true
  | .ret (.bool b), h => ⟨b, rfl, h⟩
  | .ite b x y, h => ⟨fun e => T.yes_holds (by subst e; exact h), fun e => T.yes_holds (by subst e; exact h)⟩
  | .fail, h => by cases h
  | .ret (.int _ _), h => by cases h
  | .ret (.ptr _ _), h => by cases h
  | .ret .nilp, h => by cases h
  | .ret (.slice _ _ _ _), h => by cases h
  | .ret (.own _ _ _), h => by cases h
  | .ret (.func _ _ _), h => by cases h
  | .ret (.agg _), h => by cases h
  | .ret (.tuple _), h => by cases h
  | .ret (.raw _), h => by cases h
theorem rel_start {P : Program} {fn : Func} {vs : List SV} {vals : List Value} {w : World} (hv : relL noLab vs vals) :
    Rel noLab ⟨vs.map .val ++ List.replicate (fn.ntmps - vs.length) (.val undefS), []⟩ { tmps := vals.toArray ++ Array.replicate (fn.ntmps - vals.toArray.size) undef, defers := [] } w := by
  have hlen := relL_length hv
  refine ⟨by simp [hlen], fun x e he => ?_, ⟨fun l o h => by simp [hpOf, nth] at h, fun l l' b _ _ h => by simp [noLab] at h, fun l b _ h => by simp [noLab] at h⟩, fun _ _ => rfl, rfl⟩
  simp only [nth_append, List.length_map] at he
  split at he
  · rename_i hx
    rw [nth_eq, List.getElem?_map, Option.map_eq_some_iff] at he
    obtain ⟨s, hs, rfl⟩ := he
    obtain ⟨y, h1, h2⟩ := relL_nth hv (by rw [nth_eq]; exact hs)
    refine ⟨y, ?_, h2⟩
    rw [Array.getElem?_append_left (by simp; omega)]; simpa using h1
  · rename_i hx
    rw [nth_eq, List.getElem?_replicate] at he
    split at he <;> simp only [Option.some.injEq, reduceCtorEq] at he
    rename_i hx2; subst he
    refine ⟨undef, ?_, by simp [undefS, SV.rel, undef, relL_nil]⟩
    rw [Array.getElem?_append_right (by simp; omega), Array.getElem?_replicate, if_pos (by simp; omega)]
/-- what a call comes to, its leaves told at the end's world -/
theorem sx_body (hE : E.Ok) {call : CallF} (hcall : CallOk E.P call) {orc : Orc} (ho : OrcOk E.P w0 orc) {f : FuncId} {fn : Func} (hf : E.P.funcs[f]? = some fn) {fuel : Nat} {vs : List SV} {vals : List Value} {R : Ending → World → Prop}
    (hv : relL noLab vs vals) (hK : (symBodyX E call orc fn fuel vs).Holds fun r => ∀ β' w' val, Below w0.heap.size w0 w' → SV.rel β' r val → R (.returned val) w') : Calls E.P f vals.toArray w0 R := by
  unfold symBodyX at hK
  split at hK
  · rename_i c hb
    refine calls_of_wp hf hb ?_
    refine symCodeX_sound (w0 := w0) hE hcall ho fuel c (rel_start (P := E.P) hv) (Ext.refl _ _ _) (T.Holds.mono ?_ (T.Holds.bind hK))
    rintro ⟨e, st1⟩ hr1 β1 a1 w1 he1 hrel1
    have fin : (match resultS E.P st1 fn.results.toList with | some vs => T.ret (resultV vs) | none => .fail : T SV).Holds (fun r => ∀ β' w' val, Below w0.heap.size w0 w' → SV.rel β' r val → R (.returned val) w') →
        a1.defers = [] ∧ ∃ v, (results fn a1.tmps).run E.P w1 = .ok v w1 ∧ R (.returned v) w1 := by
      intro hh
      split at hh
      · rename_i vs' hvs
        obtain ⟨v, h1, h2⟩ := results_sound hrel1 hvs
        exact ⟨hrel1.defers, v, h1, hh β1 w1 v (Since0.below he1) h2⟩
      · exact hh.elim
    cases e with
    | normal => exact fin hr1
    | ret => exact fin hr1
    | exit id => exact hr1.elim
    | goto l => exact hr1.elim
  · exact hK.elim
theorem sx_yes (hE : E.Ok) {call : CallF} (hcall : CallOk E.P call) {orc : Orc} (ho : OrcOk E.P w0 orc) {f : FuncId} {fn : Func} (hf : E.P.funcs[f]? = some fn) {fuel : Nat} {vs : List SV} {vals : List Value}
    (hv : relL noLab vs vals) (hK : (symBodyX E call orc fn fuel vs).yes = true) : Calls E.P f vals.toArray w0 fun e w' => e = .returned (.bool true) ∧ Below w0.heap.size w0 w' := by
  refine sx_body hE hcall ho hf hv (T.Holds.mono ?_ (T.yes_holds hK))
  rintro r ⟨b, rfl, hb⟩ β' w' val hw hr
  simp only [SV.rel] at hr; subst hr
  exact ⟨by rw [hb], hw⟩
end

def T.mapX {α γ : Type} (f : α → γ) : T α → T γ
  | .ret a => .ret (f a)
  | .ite b x y => .ite b (T.mapX f x) (T.mapX f y)
  | .fail => .fail
theorem T.mapX_holds {α γ : Type} {f : α → γ} {K : γ → Prop} : ∀ {t : T α}, (T.mapX f t).Holds K → t.Holds (fun a => K (f a))
  | .ret a, h => h
  | .ite _ _ _, h => ⟨fun e => T.mapX_holds (h.1 e), fun e => T.mapX_holds (h.2 e)⟩
  | .fail, h => h
end Go.Sx
