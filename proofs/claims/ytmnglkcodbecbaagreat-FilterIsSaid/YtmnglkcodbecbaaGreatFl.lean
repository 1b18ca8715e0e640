/- Arguments of numbers and flags alone, however laid together: opened and shut. -/
import Derived.Test.YtmnglkcodbecbaaGreatRows
import Derived.Test.YtmnglkcodbecbaaGreatSx
import Derived.ProofKit
import Derived.Carry
namespace Go.Sx
open Go.ChangeShapes Go.WideShapes Go.ChangeAt Go.RowKit
inductive LK where
  | int (k : IntKind)
  | bool
def leavesF (P : Program) (lv : TypeId → Option (List LK)) : Nat → List Field → Option (List LK)
  | _, [] => some []
  | off, f :: fs => match lv f.type with
    | some l => if Nat.beq f.offset off && Nat.beq (P.cellsOf f.type) l.length then
        match leavesF P lv (off + l.length) fs with
        | some r => some (l ++ r)
        | none => none
      else none
    | none => none
def repL {α : Type} : Nat → List α → List α
  | 0, _ => []
  | n + 1, l => l ++ repL n l
def leavesT (P : Program) : Nat → TypeId → Option (List LK)
  | 0, _ => none
  | d + 1, t => match P.underlying t with
    | some .bool => some [.bool]
    | some (.int k) => some [.int k]
    | some (.struct fs) => match leavesF P (leavesT P d) 0 fs.toList with
      | some l => if Nat.beq (P.cellsOf t) l.length then some l else none
      | none => none
    | some (.array n e) => match leavesT P d e with
      | some l => if Nat.beq (P.cellsOf e) l.length && Nat.beq (P.cellsOf t) (n * l.length) then some (repL n l) else none
      | none => none
    | _ => none
/-- cells of such kinds -/
def cellsLK : List LK → List Value → Prop
  | [], vs => vs = []
  | .int k :: L, vs => ∃ n vs', Rg k n ∧ cellsLK L vs' ∧ vs = .int k n :: vs'
  | .bool :: L, vs => ∃ b vs', cellsLK L vs' ∧ vs = .bool b :: vs'
theorem cellsLK_len : ∀ {L : List LK} {vs : List Value}, cellsLK L vs → vs.length = L.length
  | [], _, h => by rw [show _ = [] from h]; rfl
  | .int k :: L, _, h => by obtain ⟨n, vs', _, h, rfl⟩ := h; simp [cellsLK_len h]
  | .bool :: L, _, h => by obtain ⟨n, vs', h, rfl⟩ := h; simp [cellsLK_len h]
theorem cellsLK_append : ∀ {L L' : List LK} {vs vs' : List Value}, cellsLK L vs → cellsLK L' vs' → cellsLK (L ++ L') (vs ++ vs')
  | [], _, _, _, h, h' => by rw [show _ = [] from h]; exact h'
  | .int k :: L, _, _, _, h, h' => by obtain ⟨n, w, hr, h, rfl⟩ := h; exact ⟨n, _, hr, cellsLK_append h h', rfl⟩
  | .bool :: L, _, _, _, h, h' => by obtain ⟨n, w, h, rfl⟩ := h; exact ⟨n, _, cellsLK_append h h', rfl⟩
theorem rg_of_wf {k : IntKind} {n : Int} (h : (Lit.int k n).wf = true) : Rg k n := by
  simp only [Lit.wf, Bool.and_eq_true, decide_eq_true_eq] at h
  rw [rg_iff]
  cases k <;> simp only [IntKind.min, IntKind.max, IntKind.bits, IntKind.signed, if_true, if_false, loK, hiK, Bool.false_eq_true] at h ⊢ <;> omega
/-- a tree of cells, read alike wherever -/
abbrev AllW {H : Type} (enc : TypeId × Value → H) (P : Program) (fuel : Nat) (t : TypeId) (cs : List Value) (x : DataW H × List MemPlace) : Prop :=
  ∀ (W : World) (base : Nat) (sp : Nat → Bool) (held : Bool), DataW.trod enc P W base sp held fuel t cs = some x
theorem mapM_alike {α β : Type} {f g : α → Option β} : ∀ {l : List α} {r : List β}, l.mapM f = some r → (∀ a ∈ l, ∀ b, f a = some b → g a = some b) → l.mapM g = some r
  | [], r, h, _ => by simpa using h
  | a :: l, r, h, hg => by
    simp only [List.mapM_cons, Option.pure_def, Option.bind_eq_bind, Option.bind_eq_some_iff, Option.some.injEq] at h ⊢
    obtain ⟨b, h1, bs, h2, h3⟩ := h
    exact ⟨b, hg a (by simp) b h1, bs, mapM_alike h2 (fun a' ha' => hg a' (by simp [ha'])), h3⟩
theorem flat_fields {H : Type} {P : Program} {lv : TypeId → Option (List LK)} {tr : TypeId → List Value → Option (DataW H × List MemPlace)}
    (ih : ∀ t l c x, lv t = some l → tr t c = some x → cellsLK l c ∧ x.2 = []) (cs : List Value) : ∀ (fs : List Field) (off : Nat) (L : List LK) (xs : List (DataW H × List MemPlace)), leavesF P lv off fs = some L →
    (fs.mapM fun f => tr f.type ((cs.drop f.offset).take (P.cellsOf f.type))) = some xs → cellsLK L ((cs.drop off).take L.length) ∧ xs.flatMap (·.2) = []
  | [], off, L, xs, hL, hx => by
    simp only [leavesF, Option.some.injEq] at hL; subst hL
    simp at hx; subst hx; exact ⟨by simp [cellsLK], rfl⟩
  | f :: fs, off, L, xs, hL, hx => by
    simp only [leavesF] at hL
    split at hL <;> (try simp only [reduceCtorEq] at hL)
    rename_i l hl
    split at hL <;> (try simp only [reduceCtorEq] at hL)
    rename_i hc
    split at hL <;> simp only [Option.some.injEq, reduceCtorEq] at hL
    rename_i r hr; subst hL
    simp only [Bool.and_eq_true, Nat.beq_eq] at hc
    simp only [List.mapM_cons, Option.pure_def, Option.bind_eq_bind, Option.bind_eq_some_iff, Option.some.injEq] at hx
    obtain ⟨y, h1, ys, h2, rfl⟩ := hx
    obtain ⟨k1, k2⟩ := ih _ _ _ _ hl h1
    obtain ⟨k3, k4⟩ := flat_fields ih cs fs _ _ _ hr h2
    rw [hc.1, hc.2] at k1
    refine ⟨?_, by simp [k2, k4]⟩
    have e : (cs.drop off).take (l ++ r).length = (cs.drop off).take l.length ++ (cs.drop (off + l.length)).take r.length := by
      rw [List.length_append, List.take_add, List.drop_drop]
    rw [e]; exact cellsLK_append k1 k3
theorem alike_fields {H : Type} {P : Program} {lv : TypeId → Option (List LK)} {tr tr' : TypeId → List Value → Option (DataW H × List MemPlace)}
    (ih : ∀ t l c x, lv t = some l → tr t c = some x → tr' t c = some x) (cs : List Value) : ∀ (fs : List Field) (off : Nat) (L : List LK) (xs : List (DataW H × List MemPlace)), leavesF P lv off fs = some L →
    (fs.mapM fun f => tr f.type ((cs.drop f.offset).take (P.cellsOf f.type))) = some xs → (fs.mapM fun f => tr' f.type ((cs.drop f.offset).take (P.cellsOf f.type))) = some xs
  | [], off, L, xs, hL, hx => by simpa using hx
  | f :: fs, off, L, xs, hL, hx => by
    simp only [leavesF] at hL
    split at hL <;> (try simp only [reduceCtorEq] at hL)
    rename_i l hl
    split at hL <;> (try simp only [reduceCtorEq] at hL)
    split at hL <;> simp only [Option.some.injEq, reduceCtorEq] at hL
    rename_i r hr
    simp only [List.mapM_cons, Option.pure_def, Option.bind_eq_bind, Option.bind_eq_some_iff, Option.some.injEq] at hx ⊢
    obtain ⟨y, h1, ys, h2, h3⟩ := hx
    exact ⟨y, ih _ _ _ _ hl h1, ys, alike_fields ih cs fs _ _ _ hr h2, h3⟩
theorem flat_rows {H : Type} {tr : List Value → Option (DataW H × List MemPlace)} {l : List LK}
    (ih : ∀ c x, tr c = some x → cellsLK l c ∧ x.2 = []) (cs : List Value) : ∀ (n i : Nat) (xs : List (DataW H × List MemPlace)), ((List.range' i n).mapM fun j => tr ((cs.drop (j * l.length)).take l.length)) = some xs →
    cellsLK (repL n l) ((cs.drop (i * l.length)).take (n * l.length)) ∧ xs.flatMap (·.2) = []
  | 0, i, xs, hx => by simp at hx; subst hx; exact ⟨by simp [cellsLK, repL], rfl⟩
  | n + 1, i, xs, hx => by
    simp only [List.range'_succ, List.mapM_cons, Option.pure_def, Option.bind_eq_bind, Option.bind_eq_some_iff, Option.some.injEq] at hx
    obtain ⟨y, h1, ys, h2, rfl⟩ := hx
    obtain ⟨k1, k2⟩ := ih _ _ h1
    obtain ⟨k3, k4⟩ := flat_rows ih cs n (i + 1) ys h2
    refine ⟨?_, by simp [k2, k4]⟩
    have e : (cs.drop (i * l.length)).take ((n + 1) * l.length) = (cs.drop (i * l.length)).take l.length ++ (cs.drop ((i + 1) * l.length)).take (n * l.length) := by
      rw [Nat.add_mul n 1, Nat.one_mul, Nat.add_comm (n * l.length), List.take_add, List.drop_drop, Nat.add_mul i 1, Nat.one_mul]
    rw [e]; exact cellsLK_append k1 k3
theorem trod_leaves {H : Type} {enc : TypeId × Value → H} {P : Program} {W : World} {base : Nat} {sp : Nat → Bool} {held : Bool} : ∀ (d fuel : Nat) (t : TypeId) (L : List LK) (cs : List Value) (x : DataW H × List MemPlace), leavesT P d t = some L →
    DataW.trod enc P W base sp held fuel t cs = some x → cellsLK L cs ∧ x.2 = [] ∧ AllW enc P fuel t cs x
  | 0, _, _, _, _, _, hL, _ => by simp [leavesT] at hL
  | d + 1, 0, _, _, _, _, _, h => by simp [DataW.trod] at h
  | d + 1, fuel + 1, t, L, cs, x, hL, h => by
    simp only [leavesT] at hL
    cases hu : P.underlying t with
    | none => simp [hu] at hL
    | some u =>
      rw [hu] at hL
      cases u <;> simp only [reduceCtorEq] at hL
      case bool =>
        simp only [Option.some.injEq] at hL; subst hL
        obtain ⟨b, rfl, rfl⟩ := DataW.trod_bool hu h
        exact ⟨⟨_, [], rfl, rfl⟩, rfl, fun W base sp held => by simp [DataW.trod, hu]⟩
      case int k =>
        simp only [Option.some.injEq] at hL; subst hL
        obtain ⟨n, rfl, rfl, hw⟩ := DataW.trod_int hu h
        exact ⟨⟨n, [], rg_of_wf hw, rfl, rfl⟩, rfl, fun W base sp held => by simp [DataW.trod, hu, hw]⟩
      case struct fs =>
        split at hL <;> (try simp only [reduceCtorEq] at hL)
        rename_i l hl
        split at hL <;> simp only [Option.some.injEq, reduceCtorEq] at hL
        rename_i hc; subst hL
        have hc' : P.cellsOf t = l.length := by simpa using hc
        rw [DataW.trod_step] at h; unfold DataW.trodStep at h; simp only [hu] at h
        split at h <;> (try simp only [reduceCtorEq] at h)
        rename_i hs
        simp only [Option.map_eq_some_iff] at h
        obtain ⟨xs, hx, rfl⟩ := h
        have ih := fun t l c (x : DataW H × List MemPlace) (h1 : leavesT P d t = some l) (h2 : DataW.trod enc P W base sp held fuel t c = some x) => trod_leaves d fuel t l c x h1 h2
        obtain ⟨k1, k2⟩ := flat_fields (fun t l c x h1 h2 => ⟨(ih t l c x h1 h2).1, (ih t l c x h1 h2).2.1⟩) cs fs.toList 0 l xs hl hx
        refine ⟨?_, k2, fun W base sp held => ?_⟩
        · simpa [← hc', ← hs] using k1
        · rw [DataW.trod_step]; unfold DataW.trodStep; simp only [hu]
          rw [if_pos hs]
          have := alike_fields (fun t l c x h1 h2 => (ih t l c x h1 h2).2.2 W base sp held) cs fs.toList 0 l xs hl hx
          rw [this]; rfl
      case array n e =>
        split at hL <;> (try simp only [reduceCtorEq] at hL)
        rename_i l hl
        split at hL <;> simp only [Option.some.injEq, reduceCtorEq] at hL
        rename_i hc; subst hL
        simp only [Bool.and_eq_true, Nat.beq_eq] at hc
        rw [DataW.trod_step] at h; unfold DataW.trodStep at h; simp only [hu] at h
        split at h <;> (try simp only [reduceCtorEq] at h)
        rename_i hs
        simp only [Option.map_eq_some_iff] at h
        obtain ⟨xs, hx, rfl⟩ := h
        have ih := fun c (x : DataW H × List MemPlace) (h2 : DataW.trod enc P W base sp held fuel e c = some x) => trod_leaves d fuel e l c x hl h2
        rw [hc.1, List.range_eq_range'] at hx
        obtain ⟨k1, k2⟩ := flat_rows (fun c x h2 => ⟨(ih c x h2).1, (ih c x h2).2.1⟩) cs n 0 xs hx
        refine ⟨?_, k2, fun W base sp held => ?_⟩
        · rw [← hc.2, ← hs] at k1; simpa using k1
        · rw [DataW.trod_step]; unfold DataW.trodStep; simp only [hu]
          rw [if_pos hs, hc.1, List.range_eq_range', mapM_alike hx (fun a _ b hb => (ih _ b hb).2.2 W base sp held)]; rfl
theorem agg_struct {P : Program} {W : World} {r : Reach} {b0 : Nat} {t : TypeId} {fs : Array Field} {v : Value} (ht : P.underlying t = some (.struct fs)) (h : Value.okWide P W r b0 t v) : ∃ cs, v = .agg cs := by
  obtain ⟨cs, h1, _⟩ := okWide_struct ht h
  exact ⟨cs, h1⟩
theorem agg_array {P : Program} {W : World} {r : Reach} {b0 : Nat} {t e : TypeId} {n : Nat} {v : Value} (ht : P.underlying t = some (.array n e)) (h : Value.okWide P W r b0 t v) : ∃ cs, v = .agg cs := by
  simp only [Value.okWide, ht] at h
  obtain ⟨cs, h1, _⟩ := h
  exact ⟨cs, h1⟩
theorem open_flat {H : Type} {enc : TypeId × Value → H} {P : Program} {W : World} {base : Nat} {sp : Nat → Bool} {held : Bool} {t : TypeId} {v : Value} {d : DataW H} {ps : List MemPlace} {D : Nat} {L : List LK}
    (hL : leavesT P D t = some L) (ha : ∃ cs, v = .agg cs) (h : DataW.Trod enc P W base sp held t v d ps) :
    ∃ cs : List Value, v = .agg cs.toArray ∧ cellsLK L cs ∧ ps = [] ∧ ∀ (W : World) (base : Nat) (sp : Nat → Bool) (held : Bool), DataW.Trod enc P W base sp held t (.agg cs.toArray) d [] := by
  obtain ⟨⟨cs⟩, rfl⟩ := ha
  obtain ⟨fuel, hf⟩ := h
  obtain ⟨k1, k2, k3⟩ := trod_leaves D fuel t L cs (d, ps) hL hf
  have k2' : ps = [] := k2
  subst k2'
  exact ⟨cs, rfl, k1, rfl, fun W base sp held => ⟨fuel, k3 W base sp held⟩⟩
end Go.Sx
