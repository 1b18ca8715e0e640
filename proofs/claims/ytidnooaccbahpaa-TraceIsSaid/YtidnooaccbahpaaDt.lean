/- Arguments of numbers, flags and lists, however nested: opened as data. -/
import Derived.Deep.Slices
import Derived.Test.YtidnooaccbahpaaRows
import Derived.Test.YtidnooaccbahpaaSq
import Derived.ProofKit
import Derived.Carry
namespace Go.Sx
open Go.ChangeShapes Go.WideShapes Go.ChangeAt Go.RowKit Go.Proofs Go.Deep
set_option linter.unusedVariables false
set_option linter.unusedSimpArgs false
/-- the whole memory, as it lies -/
def fzW (W : World) : FZ := fun b => W.heap[b]?
theorem fzc_fzW (W : World) (a : Addr) : fzc (fzW W) a = W.cell? a := rfl
def DataAt (W : World) (ks : List CK) (g : Nat → Tr) (cs : List Value) : Prop := cs.length = ks.length ∧ ∀ j k, ks[j]? = some k → ∃ u, cs[j]? = some u ∧ relT (fzW W) (g j) k u
theorem DataAt.nil (W : World) : DataAt W [] (fun _ => .int 0) [] := ⟨rfl, fun j k h => by simp at h⟩
theorem DataAt.one {W : World} {k : CK} {t : Tr} {u : Value} (h : relT (fzW W) t k u) : DataAt W [k] (fun _ => t) [u] :=
  ⟨rfl, fun j k' hk => by cases j <;> simp at hk; subst hk; exact ⟨u, rfl, h⟩⟩
theorem DataAt.append {W : World} {ks ks' : List CK} {g g' : Nat → Tr} {cs cs' : List Value} (h : DataAt W ks g cs) (h' : DataAt W ks' g' cs') : DataAt W (ks ++ ks') (fun j => if j < ks.length then g j else g' (j - ks.length)) (cs ++ cs') := by
  have hl := h.1
  have hl' := h'.1
  refine ⟨by simp [hl, hl'], fun j k hk => ?_⟩
  dsimp only
  by_cases hj : j < ks.length
  · rw [List.getElem?_append_left hj] at hk
    obtain ⟨u, h1, h2⟩ := h.2 j k hk
    exact ⟨u, by rw [List.getElem?_append_left (by omega)]; exact h1, by rw [if_pos hj]; exact h2⟩
  · rw [List.getElem?_append_right (by omega)] at hk
    obtain ⟨u, h1, h2⟩ := h'.2 _ k hk
    exact ⟨u, by rw [List.getElem?_append_right (by omega), hl]; exact h1, by rw [if_neg hj]; exact h2⟩
def dataF (P : Program) (lv : TypeId → Option (List CK)) : Nat → List Field → Option (List CK)
  | _, [] => some []
  | off, f :: fs => match lv f.type with
    | some l => if Nat.beq f.offset off && Nat.beq (P.cellsOf f.type) l.length then
        match dataF P lv (off + l.length) fs with
        | some r => some (l ++ r)
        | none => none
      else none
    | none => none
def dataT (P : Program) : Nat → TypeId → Option (List CK)
  | 0, _ => none
  | d + 1, t => match P.underlying t with
    | some .bool => some [.bool]
    | some (.int k) => some [.int k]
    | some (.slice e) => match dataT P d e with
      | some l => if Nat.beq (P.cellsOf e) l.length then some [.sl l] else none
      | none => none
    | some (.struct fs) => match dataF P (dataT P d) 0 fs.toList with
      | some l => if Nat.beq (P.cellsOf t) l.length then some l else none
      | none => none
    | some (.array n e) => match dataT P d e with
      | some l => if Nat.beq (P.cellsOf e) l.length && Nat.beq (P.cellsOf t) (n * l.length) then some (repK n l) else none
      | none => none
    | _ => none
theorem data_fields {H : Type} {P : Program} {W : World} {lv : TypeId → Option (List CK)} {tr : TypeId → List Value → Option (DataW H × List MemPlace)}
    (ih : ∀ t l c x, lv t = some l → tr t c = some x → ∃ g, DataAt W l g c) (cs : List Value) : ∀ (fs : List Field) (off : Nat) (L : List CK) (xs : List (DataW H × List MemPlace)), dataF P lv off fs = some L →
    (fs.mapM fun f => tr f.type ((cs.drop f.offset).take (P.cellsOf f.type))) = some xs → ∃ g, DataAt W L g ((cs.drop off).take L.length)
  | [], off, L, xs, hL, hx => by
    simp only [dataF, Option.some.injEq] at hL; subst hL
    exact ⟨_, by simpa using DataAt.nil W⟩
  | f :: fs, off, L, xs, hL, hx => by
    simp only [dataF] at hL
    split at hL <;> (try simp only [reduceCtorEq] at hL)
    rename_i l hl
    split at hL <;> (try simp only [reduceCtorEq] at hL)
    rename_i hc
    split at hL <;> simp only [Option.some.injEq, reduceCtorEq] at hL
    rename_i r hr; subst hL
    simp only [Bool.and_eq_true, Nat.beq_eq] at hc
    simp only [List.mapM_cons, Option.pure_def, Option.bind_eq_bind, Option.bind_eq_some_iff, Option.some.injEq] at hx
    obtain ⟨y, h1, ys, h2, rfl⟩ := hx
    obtain ⟨g, k1⟩ := ih _ _ _ _ hl h1
    obtain ⟨g', k3⟩ := data_fields ih cs fs _ _ _ hr h2
    rw [hc.1, hc.2] at k1
    have e : (cs.drop off).take (l ++ r).length = (cs.drop off).take l.length ++ (cs.drop (off + l.length)).take r.length := by
      rw [List.length_append, List.take_add, List.drop_drop]
    exact ⟨_, by rw [e]; exact k1.append k3⟩
theorem data_rows {H : Type} {W : World} {tr : List Value → Option (DataW H × List MemPlace)} {l : List CK}
    (ih : ∀ c x, tr c = some x → ∃ g, DataAt W l g c) (cs : List Value) : ∀ (n i : Nat) (xs : List (DataW H × List MemPlace)), ((List.range' i n).mapM fun j => tr ((cs.drop (j * l.length)).take l.length)) = some xs →
    ∃ g, DataAt W (repK n l) g ((cs.drop (i * l.length)).take (n * l.length))
  | 0, i, xs, hx => ⟨_, by simpa [repK] using DataAt.nil W⟩
  | n + 1, i, xs, hx => by
    simp only [List.range'_succ, List.mapM_cons, Option.pure_def, Option.bind_eq_bind, Option.bind_eq_some_iff, Option.some.injEq] at hx
    obtain ⟨y, h1, ys, h2, rfl⟩ := hx
    obtain ⟨g, k1⟩ := ih _ _ h1
    obtain ⟨g', k3⟩ := data_rows ih cs n (i + 1) ys h2
    have e : (cs.drop (i * l.length)).take ((n + 1) * l.length) = (cs.drop (i * l.length)).take l.length ++ (cs.drop ((i + 1) * l.length)).take (n * l.length) := by
      rw [Nat.add_mul n 1, Nat.one_mul, Nat.add_comm (n * l.length), List.take_add, List.drop_drop, Nat.add_mul i 1, Nat.one_mul]
    exact ⟨_, by rw [e]; exact k1.append k3⟩
theorem trod_data {H : Type} {enc : TypeId × Value → H} {P : Program} {W : World} {base : Nat} {sp : Nat → Bool} {held : Bool} : ∀ (d fuel : Nat) (t : TypeId) (L : List CK) (cs : List Value) (x : DataW H × List MemPlace), dataT P d t = some L →
    DataW.trod enc P W base sp held fuel t cs = some x → ∃ g, DataAt W L g cs
  | 0, _, _, _, _, _, hL, _ => by simp [dataT] at hL
  | d + 1, 0, _, _, _, _, _, h => by simp [DataW.trod] at h
  | d + 1, fuel + 1, t, L, cs, x, hL, h => by
    simp only [dataT] at hL
    cases hu : P.underlying t with
    | none => simp [hu] at hL
    | some u =>
      rw [hu] at hL
      cases u <;> simp only [reduceCtorEq] at hL
      case bool =>
        simp only [Option.some.injEq] at hL; subst hL
        obtain ⟨b, rfl, rfl⟩ := DataW.trod_bool hu h
        exact ⟨_, DataAt.one (t := .bool b) (by simp only [relT])⟩
      case int k =>
        simp only [Option.some.injEq] at hL; subst hL
        obtain ⟨n, rfl, rfl, hw⟩ := DataW.trod_int hu h
        exact ⟨_, DataAt.one (t := .int n) (by simp only [relT]; exact ⟨trivial, rg_of_wfD hw⟩)⟩
      case slice e =>
        split at hL <;> (try simp only [reduceCtorEq] at hL)
        rename_i l hl
        split at hL <;> simp only [Option.some.injEq, reduceCtorEq] at hL
        rename_i hc; subst hL
        have hc' : P.cellsOf e = l.length := by simpa using hc
        rcases open_slice hu h with ⟨rfl, -⟩ | ⟨a, len, cap, m, n, D, Pl, rfl, -, hle, hm, hmm, -, hx⟩
        · exact ⟨_, DataAt.one (t := .sl 0 fun _ _ => .int 0) (by simp only [relT]; exact ⟨by simp, .inl ⟨trivial, trivial⟩⟩)⟩
        · have hex : ∀ i, i < len → ∃ g : Nat → Tr, ∀ j k, l[j]? = some k → ∃ u, W.cell? ((a.add (i * l.length)).add j) = some u ∧ relT (fzW W) (g j) k u := fun i hi => by
            obtain ⟨cs', c1, c2⟩ := hx i (by rw [hmm]; split <;> omega)
            obtain ⟨g, k1, k2⟩ := trod_data d n e l cs' _ hl c2
            obtain ⟨-, hlen, hcell⟩ := World.cells?_some c1
            refine ⟨g, fun j k hk => ?_⟩
            obtain ⟨u, h1, h2⟩ := k2 j k hk
            refine ⟨u, ?_, h2⟩
            rw [← hc', hcell j (by rw [← hlen]; exact (List.getElem?_eq_some_iff.1 h1).1)]; exact h1
          refine ⟨_, DataAt.one (t := .sl len fun i => if h : i < len then (hex i h).choose else fun _ => .int 0) ?_⟩
          simp only [relT]
          refine ⟨Nat.le_trans hle hm, .inr ⟨a, cap, rfl, hle, fun i j k hi hk => ?_⟩⟩
          obtain ⟨u, h1, h2⟩ := (hex i hi).choose_spec j k hk
          refine ⟨u, ?_, ?_⟩
          · rw [fzc_fzW, ← add_add]; exact h1
          · rw [dif_pos hi]; exact h2
      case struct fs =>
        split at hL <;> (try simp only [reduceCtorEq] at hL)
        rename_i l hl
        split at hL <;> simp only [Option.some.injEq, reduceCtorEq] at hL
        rename_i hc; subst hL
        have hc' : P.cellsOf t = l.length := by simpa using hc
        rw [DataW.trod_step] at h; unfold DataW.trodStep at h; simp only [hu] at h
        split at h <;> (try simp only [reduceCtorEq] at h)
        rename_i hs
        simp only [Option.map_eq_some_iff] at h
        obtain ⟨xs, hx, rfl⟩ := h
        obtain ⟨g, k1⟩ := data_fields (W := W) (fun t l c x h1 h2 => trod_data d fuel t l c x h1 h2) cs fs.toList 0 l xs hl hx
        exact ⟨g, by simpa [← hc', ← hs] using k1⟩
      case array n e =>
        split at hL <;> (try simp only [reduceCtorEq] at hL)
        rename_i l hl
        split at hL <;> simp only [Option.some.injEq, reduceCtorEq] at hL
        rename_i hc; subst hL
        simp only [Bool.and_eq_true, Nat.beq_eq] at hc
        rw [DataW.trod_step] at h; unfold DataW.trodStep at h; simp only [hu] at h
        split at h <;> (try simp only [reduceCtorEq] at h)
        rename_i hs
        simp only [Option.map_eq_some_iff] at h
        obtain ⟨xs, hx, rfl⟩ := h
        rw [hc.1, List.range_eq_range'] at hx
        obtain ⟨g, k1⟩ := data_rows (W := W) (fun c x h2 => trod_data d fuel e l c x hl h2) cs n 0 xs hx
        exact ⟨g, by rw [← hc.2, ← hs] at k1; simpa using k1⟩
where
  rg_of_wfD {k : IntKind} {n : Int} (h : (Lit.int k n).wf = true) : Rg k n := by
    simp only [Lit.wf, Bool.and_eq_true, decide_eq_true_eq] at h
    rw [rg_iff]
    cases k <;> simp only [IntKind.min, IntKind.max, IntKind.bits, IntKind.signed, if_true, if_false, loK, hiK, Bool.false_eq_true] at h ⊢ <;> omega
/-- a struct's argument, as one value -/
theorem open_agg {H : Type} {enc : TypeId × Value → H} {P : Program} {W : World} {base : Nat} {sp : Nat → Bool} {held : Bool} {t : TypeId} {v : Value} {d : DataW H} {ps : List MemPlace} {D : Nat} {L : List CK}
    (hL : dataT P D t = some L) (ha : ∃ cs, v = .agg cs) (h : DataW.Trod enc P W base sp held t v d ps) : ∃ g, ∀ β : Lab, β.fz = fzW W → SV.rel β (.agg (cellsT g 0 L)) v := by
  obtain ⟨⟨cs⟩, rfl⟩ := ha
  obtain ⟨fuel, hf⟩ := h
  obtain ⟨g, h1, h2⟩ := trod_data D fuel t L cs (d, ps) hL hf
  refine ⟨g, fun β hβ => ?_⟩
  simp only [SV.rel]
  exact ⟨cs, cellsT_canon h1 fun i k hk => by rw [Nat.zero_add, hβ]; exact h2 i k hk, rfl⟩
/-- an argument of one cell -/
theorem open_one {H : Type} {enc : TypeId × Value → H} {P : Program} {W : World} {base : Nat} {sp : Nat → Bool} {held : Bool} {t : TypeId} {v : Value} {d : DataW H} {ps : List MemPlace} {D : Nat} {k : CK}
    (hL : dataT P D t = some [k]) (hv : v.cells = #[v]) (h : DataW.Trod enc P W base sp held t v d ps) : ∃ t : Tr, ∀ β : Lab, β.fz = fzW W → SV.rel β (cellT (fun _ => t) 0 k) v := by
  obtain ⟨fuel, hf⟩ := h
  rw [hv] at hf
  obtain ⟨g, h1, h2⟩ := trod_data D fuel t [k] [v] (d, ps) hL hf
  obtain ⟨u, h3, h4⟩ := h2 0 k rfl
  simp only [List.getElem?_cons_zero, Option.some.injEq] at h3; subst h3
  exact ⟨g 0, fun β hβ => cellT_rel (g := fun _ => g 0) (j := 0) (by rw [hβ]; exact h4)⟩
/-- the labels at a law's start: none; all that lies there stands -/
def labW (W : World) : Lab := ⟨fun _ => none, fun _ => false, fzW W⟩
theorem labW_hr (W : World) : HR (labW W) (hpOf []) W :=
  ⟨fun l o e => by simp [hpOf, nth] at e, fun l l' b _ _ e => by simp [labW] at e, fun l b _ e => by simp [labW] at e, fun b c e => ⟨e, fun l _ => by simp [labW]⟩⟩
/-- a law that returns true -/
def Yes (q : SV × SHeap) : Prop := ∃ b : SB, q.1 = .bool b ∧ b.val = true
theorem yes_calls {E : Env} (hE : E.Ok) (d : Nat) (f : FuncId) {W : World} {vs : List SV} {vals : List Value} (hv : relL (labW W) vs vals) (hK : (symCall E d f vs []).Holds Yes) : Calls E.P f vals.toArray W fun e W' => e = .returned (.bool true) ∧ Below W.heap.size W W' := by
  refine symCall_sound hE d f vs [] (labW W) W vals _ hv (labW_hr W) (fun _ _ => rfl) (T.Holds.mono ?_ hK)
  rintro q ⟨b, hb, ht⟩ β' w' val he _ _ hval
  rw [hb] at hval
  simp only [SV.rel, ht] at hval
  exact ⟨by rw [hval], Ext.below he (fun _ => rfl)⟩
theorem aggS {P : Program} {W : World} {r : Reach} {b0 : Nat} {t : TypeId} {fs : Array Field} {v : Value} (ht : P.underlying t = some (.struct fs)) (h : Value.okWide P W r b0 t v) : ∃ cs, v = .agg cs := by
  obtain ⟨cs, h1, _⟩ := Go.WideShapes.okWide_struct ht h
  exact ⟨cs, h1⟩
theorem aggA {P : Program} {W : World} {r : Reach} {b0 : Nat} {t e : TypeId} {n : Nat} {v : Value} (ht : P.underlying t = some (.array n e)) (h : Value.okWide P W r b0 t v) : ∃ cs, v = .agg cs := by
  simp only [Value.okWide, ht] at h
  obtain ⟨cs, h1, _⟩ := h
  exact ⟨cs, h1⟩
end Go.Sx
