import Derived.Test.YtdchdajjhofmnaaGreatV2
namespace Go.Proofs.YtdchdajjhofmnaaGreat
open Go Go.RowKit Go.Proofs Go.Sx
/-- what the iterators' functions are run in -/
noncomputable def E0 : Env := ⟨Go.Proofs.Tryz.prog, [(99, S99), (259, S259)], 3, 336, true, [], [], [], []⟩
theorem E0_ok : E0.Ok := envOk' (S := [(99, S99), (259, S259)]) ⟨S99_ok, S259_ok, trivial⟩
def wides : List SV → Option (List (Int × Int))
 | [] => some []
 | .agg [.int .i64 a, .int .i64 b] :: l => match wides l with | some r => some ((a.val, b.val) :: r) | none => none
 | _ => none
def bools : List SV → Option (List Bool)
 | [] => some []
 | .bool b :: l => match bools l with | some r => some (b.val :: r) | none => none
 | _ => none
def addL (l : List (Int × Int)) : Int × Int := l.foldl addF (0, 0)
def anyB (l : List Bool) : Bool := l.any id
noncomputable def H232 : HSumm := fun vs H => match vs with
 | [.func 318 [] [.ptr nb 0, .ptr fb 0]] => match hpOf H nb, hpOf H fb with
  | some ([.int .i64 (.lit (Int.ofNat n))], _), some ([.func 287 [] caps], _) => match Nat.ble n 1000, eachVals E0 20 287 [] caps H n 0 with
   | true, some l => match wides l with
    | some ws => some (.agg [.int .i64 (.sym (addL ws).1), .int .i64 (.sym (addL ws).2)])
    | none => none
   | _, _ => none
  | _, _ => none
 | _ => none
def lenS : SV → Option Nat
 | .slice _ _ n _ => some n
 | .own _ _ n => some n
 | _ => none
noncomputable def H234 : HSumm := fun vs H => match vs with
 | [s] => match lenS s with
  | some n => match Nat.ble n 1000, eachVals E0 20 289 [] [.ptr H.length 0] (H ++ [some ([s], .plain 93)]) n 0 with
   | true, some l => match bools l with
    | some bs => some (.bool (.sym (anyB bs)))
    | none => none
   | _, _ => none
  | none => none
 | _ => none
theorem wides_at : ∀ {l : List SV} {ws : List (Int × Int)}, wides l = some ws → ws.length = l.length ∧ ∀ (i : Nat) p, ws[i]? = some p → ∃ a b : SI, l[i]? = some (.agg [.int .i64 a, .int .i64 b]) ∧ p = (a.val, b.val)
 | [], ws, h => by simp only [wides, Option.some.injEq] at h; subst h; exact ⟨rfl, fun i p hp => by simp at hp⟩
 | x :: l, ws, h => by
  unfold wides at h
  split at h
  ·simp_all
  ·rename_i a b l' hx
   obtain ⟨rfl, rfl⟩ := List.cons.inj hx
   split at h <;> simp only [Option.some.injEq, reduceCtorEq] at h
   rename_i r hr; subst h
   obtain ⟨h1, h2⟩ := wides_at hr
   refine ⟨by simp [h1], fun i p hp => ?_⟩
   cases i with
   | zero => simp only [List.getElem?_cons_zero, Option.some.injEq] at hp; exact ⟨a, b, rfl, hp.symm⟩
   | succ i => simp only [List.getElem?_cons_succ] at hp ⊢; exact h2 i p hp
  ·simp at h
theorem bools_at : ∀ {l : List SV} {ws : List Bool}, bools l = some ws → ws.length = l.length ∧ ∀ (i : Nat) p, ws[i]? = some p → ∃ a : SB, l[i]? = some (.bool a) ∧ p = a.val
 | [], ws, h => by simp only [bools, Option.some.injEq] at h; subst h; exact ⟨rfl, fun i p hp => by simp at hp⟩
 | x :: l, ws, h => by
  unfold bools at h
  split at h
  ·simp_all
  ·rename_i a l' hx
   obtain ⟨rfl, rfl⟩ := List.cons.inj hx
   split at h <;> simp only [Option.some.injEq, reduceCtorEq] at h
   rename_i r hr; subst h
   obtain ⟨h1, h2⟩ := bools_at hr
   refine ⟨by simp [h1], fun i p hp => ?_⟩
   cases i with
   | zero => simp only [List.getElem?_cons_zero, Option.some.injEq] at hp; exact ⟨a, rfl, hp.symm⟩
   | succ i => simp only [List.getElem?_cons_succ] at hp ⊢; exact h2 i p hp
  ·simp at h
theorem calls_some {P : Program} {f : FuncId} {args : Array Value} {w : World} {R : Ending → World → Prop} (h : Calls P f args w R) : ∃ e w', R e w' := by
 obtain ⟨e, w', _, h, _⟩ := h []
 exact ⟨e, w', h⟩
theorem H232_ok : HSummFn Go.Proofs.Tryz.prog 232 H232 := by
 refine HSummFn.of ?_
 intro vs H r h β w vals hv hr hfree
 unfold H232 at h
 split at h <;> (try simp only [reduceCtorEq] at h)
 rename_i nb fb
 split at h <;> (try simp only [reduceCtorEq] at h)
 rename_i n tn caps tf hnb hfb
 split at h <;> (try simp only [reduceCtorEq] at h)
 rename_i l hn hl
 split at h <;> simp only [Option.some.injEq, reduceCtorEq] at h
 rename_i ws hws
 subst h
 have hn' : n ≤ 1000 := by simpa using hn
 rw [relL_cons] at hv; obtain ⟨v0, vt, hv0, hvt, rfl⟩ := hv
 rw [relL_nil] at hvt; subst hvt
 simp only [SV.rel, relL] at hv0
 obtain ⟨x1, y1, rfl, ⟨p1, q1, ⟨bn, hbn, rfl⟩, ⟨p2, q2, ⟨bf, hbf, rfl⟩, rfl, rfl⟩, rfl⟩, rfl⟩ := hv0
 obtain ⟨bn', vn, restn, a1, a2, a3, a4, a5⟩ := hr.obj _ _ hnb
 obtain rfl : bn = bn' := by rw [hbn] at a1; simpa using a1
 obtain ⟨bf', vf, restf, b1, b2, b3, b4, b5⟩ := hr.obj _ _ hfb
 obtain rfl : bf = bf' := by rw [hbf] at b1; simpa using b1
 simp only [relL, SV.rel, SI.val] at a2 b2
 obtain ⟨_, _, ⟨rfl, _⟩, rfl, rfl⟩ := a2
 obtain ⟨_, _, ⟨fi, ca, rfl, hca, rfl⟩, rfl, rfl⟩ := b2
 obtain ⟨e1, e2⟩ := eachVals_at hl
 obtain ⟨w1, w2⟩ := wides_at hws
 have hrel : ∀ (i : Nat), relL β ([] ++ [.int .i64 (.lit i)] ++ caps) ([Value.int .i64 i] ++ ca) ∨ ¬ Rg .i64 i := fun i => by
  by_cases hi : Rg .i64 i
  ·exact .inl (relL_append (relL_cons'.2 ⟨by simp only [SV.rel, SI.val]; exact ⟨trivial, hi⟩, relL_nil.2 rfl⟩) hca)
  ·exact .inr hi
 have hrun : ∀ (i : Nat) p, ws[i]? = some p → ∀ W, Below w.heap.size w W → Calls Go.Proofs.Tryz.prog 287 (#[.int .i64 i] ++ ca.toArray) W fun e W' => (e = .returned (encW p) ∧ RgW p) ∧ Below W.heap.size W W' := by
  intro i p hp W hW
  obtain ⟨a, b, h1, h2⟩ := w2 i p hp
  have hi : i < n := by
   have := (List.getElem?_eq_some_iff.1 hp).1
   omega
  obtain ⟨v, h3, h4⟩ := e2 i hi
  rw [h1] at h3; simp only [Option.some.injEq] at h3; subst h3
  rw [Nat.zero_add] at h4
  have hi2 : Rg .i64 i := by rw [rg_iff]; simp only [loK, hiK]; omega
  have hc := (oneVal_sound E0_ok h4 ((hrel i).resolve_right (fun h => h hi2)) (hr.below hW) hfree).2
  have hc' : Calls Go.Proofs.Tryz.prog 287 ([Value.int .i64 i] ++ ca).toArray W _ := hc
  rw [show (#[Value.int .i64 (i : Int)] ++ ca.toArray) = ([Value.int .i64 i] ++ ca).toArray by simp]
  refine hc'.mono ?_
  rintro e W' ⟨⟨x, rfl, hx⟩, hb⟩
  simp only [SV.rel, relL] at hx
  obtain ⟨_, ⟨_, _, ⟨rfl, r1⟩, ⟨_, _, ⟨rfl, r2⟩, rfl, rfl⟩, rfl⟩, rfl⟩ := hx
  subst h2
  exact ⟨⟨rfl, r1, r2⟩, hb⟩
 have hrg : ∀ p ∈ ws, RgW p := fun p hp => by
  obtain ⟨i, hi⟩ := List.getElem?_of_mem hp
  obtain ⟨e, w', ⟨_, h⟩, _⟩ := calls_some (hrun i p hi w (Below.refl _ _))
  exact h
 have hadd : addL ws = addR (ws.attachWith RgW hrg) := by
  unfold addL addR
  have : ∀ (l : List (Int × Int)) (h : ∀ p ∈ l, RgW p) (s : Int × Int), l.foldl addF s = (l.attachWith RgW h).foldl (fun s v => addF s v.1) s := fun l => by
   induction l with
   | nil => intro _ _; rfl
   | cons x l ih => intro h s; simp only [List.foldl_cons, List.attachWith_cons]; exact ih _ _
  exact this ws hrg _
 have hlen : (ws.attachWith RgW hrg).length = n := by rw [List.length_attachWith, w1, e1]
 have hmain := addW_in bn bf ca.toArray (ws.attachWith RgW hrg) w (by omega) (Array.getElem?_eq_some_iff.1 a3).1 (Array.getElem?_eq_some_iff.1 b3).1 (fun i v hv W hW => ?_) (by rw [cell_block w a3, hlen]; rfl) (by rw [cell_block w b3]; rfl)
 ·have hm := callsIn_wide.1 hmain
  refine hm.mono ?_
  rintro e w' ⟨⟨rfl, h1⟩, h2⟩
  refine ⟨⟨_, rfl, ?_⟩, h2⟩
  rw [hadd]
  simp only [SV.rel, relL, encW]
  exact ⟨_, ⟨_, _, ⟨rfl, h1.1⟩, ⟨_, _, ⟨rfl, h1.2⟩, rfl, rfl⟩, rfl⟩, rfl⟩
 ·have hvi : ws[i]? = some v.1 := by
   have h0 : (ws.attachWith RgW hrg).map Subtype.val = ws := List.attachWith_map_subtype_val hrg
   have h1 := congrArg (Option.map Subtype.val) hv
   rw [← List.getElem?_map, h0] at h1
   exact h1
  exact (hrun i v.1 hvi W hW).mono fun e W' h => ⟨h.1.1, h.2⟩
theorem H234_ok : HSummFn Go.Proofs.Tryz.prog 234 H234 := by
 refine HSummFn.of ?_
 intro vs H r h β w vals hv hr hfree
 unfold H234 at h
 split at h <;> (try simp only [reduceCtorEq] at h)
 rename_i s
 split at h <;> (try simp only [reduceCtorEq] at h)
 rename_i n hs
 split at h <;> (try simp only [reduceCtorEq] at h)
 rename_i l hn hl
 split at h <;> simp only [Option.some.injEq, reduceCtorEq] at h
 rename_i bs hbs
 subst h
 have hn' : n ≤ 1000 := by simpa using hn
 rw [relL_cons] at hv; obtain ⟨v0, vt, hv0, hvt, rfl⟩ := hv
 rw [relL_nil] at hvt; subst hvt
 obtain ⟨b, off, cap, rfl⟩ : ∃ b off cap, v0 = .slice (some ⟨b, off, none⟩) n cap := by
  unfold lenS at hs
  split at hs <;> simp only [Option.some.injEq, reduceCtorEq] at hs
  ·subst hs; simp only [SV.rel] at hv0; obtain ⟨b, _, rfl⟩ := hv0; exact ⟨_, _, _, rfl⟩
  ·subst hs; simp only [SV.rel] at hv0; obtain ⟨b, c, _, _, rfl⟩ := hv0; exact ⟨_, _, _, rfl⟩
 obtain ⟨e1, e2⟩ := eachVals_at hl
 obtain ⟨w1, w2⟩ := bools_at hbs
 have hmain := changedB_in b off cap n bs w (by omega) hn' (fun i p hp W hW hbox => ?_)
 ·refine (callsIn_wide.1 hmain).mono ?_
  rintro e w' ⟨rfl, h2⟩
  exact ⟨⟨_, rfl, by simp [SV.rel, SB.val, anyB]⟩, h2⟩
 ·obtain ⟨a, h1, h2⟩ := w2 i p hp
  have hi : i < n := by
   have := (List.getElem?_eq_some_iff.1 hp).1
   omega
  obtain ⟨v, h3, h4⟩ := e2 i hi
  rw [h1] at h3; simp only [Option.some.injEq] at h3; subst h3
  rw [Nat.zero_add] at h4
  have hi2 : Rg .i64 i := by rw [rg_iff]; simp only [loK, hiK]; omega
  have hrW := hr.below hW
  have hext : Lab.le β (Lab.put β H.length w.heap.size) := ⟨fun l b hb => by
   rw [Lab.put_blk]; split
   ·rename_i e; subst e; rw [hfree _ (Nat.le_refl _)] at hb; simp at hb
   ·exact hb, fun _ _ h => h⟩
  have hnth : ∀ l, hpOf (H ++ [some ([s], .plain 93)]) l = if l = H.length then some ([s], .plain 93) else hpOf H l := fun l => by
   simp only [hpOf, nth_append_new]
   by_cases e : l = H.length
   ·simp [e]
   ·simp [e]
  have hsize := hW.size
  have hR : HR (Lab.put β H.length w.heap.size) (hpOf (H ++ [some ([s], .plain 93)])) W := by
   refine ⟨fun l o ho => ?_, fun l l' c d1 d2 h1 h2 => ?_, fun l c d h => ?_, fun b c hb => ⟨(hrW.fz b c hb).1, fun l d e => ?_⟩⟩
   ·rw [hnth] at ho
    split at ho
    ·rename_i e; subst e; simp only [Option.some.injEq] at ho; subst ho
     refine ⟨w.heap.size, [.slice (some ⟨b, off, none⟩) n cap], [], by simp [Lab.put_blk], relL_cons'.2 ⟨SV.rel_mono hext _ _ hv0, relL_nil.2 rfl⟩, by simpa [Tag.plain] using hbox, by simp [Lab.put_dead], tagOk.nil rfl rfl⟩
    ·rename_i e
     have hob := hrW.obj l o ho
     exact hob.mono hext (by rw [Lab.put_dead, if_neg e]; exact hob.alive)
   ·rw [Lab.put_blk] at h1 h2
    rw [Lab.put_dead] at d1 d2
    split at h1 <;> split at h2
    ·omega
    ·rename_i e1 e2; rw [if_neg e2] at d2; simp only [Option.some.injEq] at h1; have := hr.lt _ _ d2 h2; omega
    ·rename_i e1 e2; rw [if_neg e1] at d1; simp only [Option.some.injEq] at h2; have := hr.lt _ _ d1 h1; omega
    ·rename_i e1 e2; rw [if_neg e1] at d1; rw [if_neg e2] at d2; exact hr.inj _ _ _ d1 d2 h1 h2
   ·rw [Lab.put_blk] at h; rw [Lab.put_dead] at d
    split at h
    ·simp only [Option.some.injEq] at h; have := (Array.getElem?_eq_some_iff.1 hbox).1; omega
    ·rename_i e; rw [if_neg e] at d; have := hr.lt _ _ d h; omega
   ·have hlt := hr.flt hb
    rw [Lab.put_blk] at e; rw [Lab.put_dead] at d
    split at e
    ·simp only [Option.some.injEq] at e; omega
    ·rename_i hne; rw [if_neg hne] at d; exact (hr.fz b c hb).2 l d e
  have hc := (oneVal_sound E0_ok h4 (β := Lab.put β H.length w.heap.size) (vals := [.int .i64 i, .pointer (some ⟨w.heap.size, 0, none⟩)])
   (relL_cons'.2 ⟨by simp only [SV.rel, SI.val]; exact ⟨trivial, hi2⟩, relL_cons'.2 ⟨by simp only [SV.rel]; exact ⟨_, by simp [Lab.put_blk], rfl⟩, relL_nil.2 rfl⟩⟩) hR (fun l hl => by
    simp only [List.length_append, List.length_cons, List.length_nil] at hl
    rw [Lab.put_blk, if_neg (by omega)]; exact hfree l (by omega))).2
  refine Calls.mono hc ?_
  rintro e W' ⟨⟨x, rfl, hx⟩, hb⟩
  simp only [SV.rel] at hx
  subst hx; subst h2
  exact ⟨rfl, hb⟩
end Go.Proofs.YtdchdajjhofmnaaGreat
