/- filter.Run, the program's and the reference's, over a list of samples: a fold of Feed. What may be stays so behind a sample: the plain law of filter.Feed that FilterKeeps wants. FilterRuns: filter.Run in two goes, and by the reference. -/
import Derived.Test.YtdchdajjhofmnaaGreatRl
import Derived.Test.YtdchdajjhofmnaaGreatSq
import Derived.Test.YtdchdajjhofmnaaGreatT1
import Derived.Test.YtdchdajjhofmnaaGreatRo
import Derived.Test.YtdchdajjhofmnaaGreatSf
import Derived.Test.YtdchdajjhofmnaaGreatDt
namespace Go.Proofs.YtdchdajjhofmnaaGreat
open Go Go.RowKit Go.Proofs Go.Sx
set_option linter.unusedVariables false
set_option linter.unusedSimpArgs false
set_option linter.constructorNameAsVariable false
set_option maxRecDepth 1000000
set_option maxHeartbeats 100000000
def K5 : List CK := [.int .i64, .int .i64, .int .i64, .int .i64, .int .i64]
def K20 : List CK := [.int .i64, .int .i64, .int .i64, .int .i64, .int .i64, .int .i64, .int .i64, .int .i64, .int .i64, .int .i64, .int .i64, .int .i64, .int .i64, .int .i64, .int .i64, .int .i64, .int .i64, .int .i64, .int .i64, .int .i64]
def K29 : List CK := [.int .i64, .int .i64, .int .i64, .int .i64, .int .i64, .int .i64, .int .i64, .int .i64, .int .i64, .int .i64, .bool, .int .i64, .int .i64, .int .i64, .int .i64, .int .i64, .bool, .int .i64, .int .i64, .int .i64, .int .i64, .int .i64, .bool, .int .i64, .int .i64, .int .i64, .int .i64, .int .i64, .bool]
def row5 (g : Nat → Tr) : S5 := ((g 0).i, (g 1).i, (g 2).i, (g 3).i, (g 4).i)
def c20 (r : List Tr) : C20 := ((trN r 0).i, (trN r 1).i, (trN r 2).i, (trN r 3).i, (trN r 4).i, (trN r 5).i, (trN r 6).i, (trN r 7).i, (trN r 8).i, (trN r 9).i, (trN r 10).i, (trN r 11).i, (trN r 12).i, (trN r 13).i, (trN r 14).i, (trN r 15).i, (trN r 16).i, (trN r 17).i, (trN r 18).i, (trN r 19).i)
def t29 (r : List Tr) : T29 := ((trN r 0).i, (trN r 1).i, (trN r 2).i, (trN r 3).i, (trN r 4).i, (trN r 5).i, (trN r 6).i, (trN r 7).i, (trN r 8).i, (trN r 9).i, (trN r 10).b, (trN r 11).i, (trN r 12).i, (trN r 13).i, (trN r 14).i, (trN r 15).i, (trN r 16).b, (trN r 17).i, (trN r 18).i, (trN r 19).i, (trN r 20).i, (trN r 21).i, (trN r 22).b, (trN r 23).i, (trN r 24).i, (trN r 25).i, (trN r 26).i, (trN r 27).i, (trN r 28).b)
noncomputable def runR (c : C20) (p : T29) (l : List S5) : T29 := l.foldl (stepR c) (st60 p)
theorem t29_cells (r : List Tr) : SV.agg (cellsT (trN r) 0 K29) = g54 (t29 r) := by kernel_rfl
theorem c20_cells (r : List Tr) : SV.agg (cellsT (trN r) 0 K20) = svC (c20 r) := by kernel_rfl
noncomputable def zero40 : List SV := match ((Go.Proofs.Tryz.prog.info? 40).bind (·.zero)).bind ofVal with | some z => z.cells | none => []
abbrev LP : Type := T29 × Int
def hOf : T (SV × SHeap) → SHeap | .ret r => r.2 | _ => []
noncomputable def E20r : Env := ⟨Go.Proofs.Tryz.prog, [(59, S25v feed), (54, S54)], 3, 336, false, [], [], [], []⟩
theorem E20r_ok : E20r.Ok := envOkR' (S := [(59, S25v feed), (54, S54)]) (HS := []) (RS := []) ⟨S24f_ok, S54_ok, trivial⟩ trivial trivial
noncomputable def L20 : List Code := match Tryz.f20.body with | some c => flatC c | _ => []
noncomputable def b20 : Code := match nth L20 3 with | some (.block _ (.loop x)) => x | _ => .skip
noncomputable def a20 : List Code := L20.take 3
noncomputable def e20 : List Code := L20.drop 4
theorem L20_eq : L20 = a20 ++ Code.block 0 (.loop b20) :: e20 := by kernel_rfl
noncomputable def body20 : Code := match Tryz.f20.body with | some c => c | _ => .skip
theorem body20_eq : Tryz.f20.body = some body20 := by kernel_rfl
theorem body20_L : flatC body20 = L20 := by kernel_rfl
noncomputable def st20L (n : Nat) (f : Nat → Nat → Tr) (c : C20) (q : LP) : St := ⟨[.none, .none, .none, .val (.ptr 0 0), .val (.ptr 1 0), .none, .val (.ptr 2 0), .none, .none, .none, .none, .val (.tsl K5 n f), .val (.int .i64 (.sym (n : Int))), .val (.int .i64 (.sym q.2))] ++ List.replicate 12 .none, [some ((g54 q.1).cells, .plain 40), some ((svC c).cells, .plain 47), some (zero40, .plain 40)]⟩
def keep20 : List Nat := [3, 4, 6, 11, 12, 1013]
theorem first20 (p : T29) (c : C20) (n : Nat) (f : Nat → Nat → Tr) : runL E20r (symCall E20r 20) 400 keep20 a20 (startS Tryz.f20 [g54 p, svC c, .tsl K5 n f]) = .ret (.normal, st20L n f c (st60 p, 0)) := by kernel_rfl
theorem round20 (n : Nat) (f : Nat → Nat → Tr) (c : C20) (q : LP) : runY E20r (symCall E20r 20) 400 keep20 b20 (st20L n f c q) =
  .ite (decide (q.2 < (n : Int))) (.ite (leB 0 q.2 && ltB q.2 n) (.ret (.normal, st20L n f c (stepR c q.1 (row5 (f q.2.toNat)), IntKind.i64.wrap (q.2 + 1)))) .fail) (.ret (.exit 0, st20L n f c q)) := by kernel_rfl
theorem end20 (n : Nat) (f : Nat → Nat → Tr) (c : C20) (q : LP) : symEndL E20r (symCall E20r 20) 400 e20 Tryz.f20 (st20L n f c q) = .ret (g54 q.1, hOf (symEndL E20r (symCall E20r 20) 400 e20 Tryz.f20 (st20L n f c q))) := by kernel_rfl
theorem run20 {β0 : Lab} {w0 : World} (h0 : ∀ l, β0 l = none) (hr0 : HR β0 (hpOf []) w0) (p : T29) (c : C20) (n : Nat) (f : Nat → Nat → Tr) {vals : List Value} (hv : relL β0 [g54 p, svC c, .tsl K5 n f] vals) :
  Calls Go.Proofs.Tryz.prog 20 vals.toArray w0 (HandsBack β0 w0 (g54 ((rdL row5 n f).foldl (stepR c) (st60 p)))) := by
 obtain ⟨R, hRd⟩ : ∃ R : Ending → World → Prop, R = HandsBack β0 w0 (g54 ((rdL row5 n f).foldl (stepR c) (st60 p))) := ⟨_, rfl⟩
 rw [← hRd]
 have hn : n ≤ maxLen := by
  rw [relL_cons] at hv; obtain ⟨_, _, _, hv, _⟩ := hv
  rw [relL_cons] at hv; obtain ⟨_, _, _, hv, _⟩ := hv
  rw [relL_cons] at hv; obtain ⟨_, _, hv, _, _⟩ := hv
  simp only [SV.rel, relT] at hv; exact hv.1
 have hcall := symCall_sound E20r_ok 20
 refine callsL (E := E20r) Tryz.func20 body20_eq (body20_L.trans L20_eq) hv h0 hr0 fun a0 hrel => ?_
 refine runL_sound E20r_ok hcall h0 (n := 400) (keep := keep20) hrel (Ext.refl _ _ _) ?_
 rw [first20]
 intro β1 a1 w1 h1 hr1
 refine wp_block (loopY E20r_ok hcall h0 (n := 400) (keep := keep20) (st20L n f c)
  (fun q => ∃ k : Nat, q.2 = k ∧ k ≤ n ∧ q.1 = (rdL row5 k f).foldl (stepR c) (st60 p)) (fun q => n - q.2.toNat) ?_ ⟨0, rfl, Nat.zero_le _, rfl⟩ hr1 h1)
 rintro ⟨p1, i⟩ ⟨k, hk, hkn, hp⟩
 simp only at hk hp
 subst hk
 rw [round20]
 simp only
 refine ⟨fun e1 => holds_chk ?_ ?_, fun e1 => ?_⟩
 ·have hlt := of_decide_eq_true e1
  simp only [Bool.and_eq_true, leB_true, ltB_true]; omega
 ·have hlt : k < n := by have := of_decide_eq_true e1; omega
  have hw : IntKind.i64.wrap ((k : Int) + 1) = ((k + 1 : Nat) : Int) := (rg_iff (k := .i64)).2 ⟨by simp only [loK]; omega, by simp only [hiK]; unfold maxLen at hn; omega⟩
  refine ⟨_, rfl, ⟨k + 1, by simp only; exact hw, by omega, ?_⟩, ?_⟩
  ·simp only [Int.toNat_natCast]
   rw [hp]
   simp [rdL, List.range_succ]
  ·show n - (IntKind.i64.wrap ((k : Int) + 1)).toNat < n - (k : Int).toNat
   rw [hw]; omega
 ·have hkn' : k = n := by have := of_decide_eq_false e1; omega
  subst hkn'
  intro β' a' w' h2 hr2
  simp only [Ex.toExit, Exit.inBlock, if_true]
  refine endL E20r_ok hcall h0 hr2 h2 (R := R) (fuel := 400) ?_
  rw [end20 k f c (p1, (k : Int))]
  intro β3 w3 v3 hs3 hhr3 hr3
  rw [hRd, ← hp]
  exact gives_end (E := E20r) h0 hr0 ⟨_, _, rfl, rfl, Says.refl _⟩ hs3 hhr3 hr3
noncomputable def R20 : RSumm := fun vs => match vs with
 | [.agg xs, .agg cs, .tsl ks n f] => match asAll K29 xs, asAll K20 cs with
  | some r1, some r2 => if CK.beqL ks K5 then some (true, g54 ((rdL row5 n f).foldl (stepR (c20 r2)) (st60 (t29 r1)))) else none
  | _, _ => none
 | _ => none
theorem R20_ok : RSummFn Go.Proofs.Tryz.prog 20 R20 := by
 refine rsumm_of fun vs c r h hc => ?_
 unfold R20 at h
 split at h <;> (try simp only [reduceCtorEq] at h)
 split at h <;> (try simp only [reduceCtorEq] at h)
 rename_i xs cs ks n f _ _ r1 r2 h1 h2
 split at h <;> simp only [Option.some.injEq, Prod.mk.injEq, reduceCtorEq] at h
 rename_i hk; obtain ⟨_, rfl⟩ := h
 have hk := CK.beqL_eq _ _ hk
 subst hk
 refine ⟨by simp only [deepL, SV.deep, asAll_free h1, asAll_free h2, List.append_nil], fun β0 w0 vals h0 hr0 hv => run20 h0 hr0 (t29 r1) (c20 r2) n f ?_⟩
 rw [relL_cons] at hv ⊢; obtain ⟨v1, l1, q1, hv, e1⟩ := hv
 rw [relL_cons] at hv; obtain ⟨v2, l2, q2, hv, e2⟩ := hv
 refine ⟨v1, l1, by rw [← t29_cells]; exact asAll_agg h1 q1, ?_, e1⟩
 rw [relL_cons]; exact ⟨v2, l2, by rw [← c20_cells]; exact asAll_agg h2 q2, hv, e2⟩
noncomputable def E21r : Env := ⟨Go.Proofs.Tryz.prog, [(61, S25v feed), (60, S60)], 3, 336, false, [], [], [], []⟩
theorem E21r_ok : E21r.Ok := envOkR' (S := [(61, S25v feed), (60, S60)]) (HS := []) (RS := []) ⟨S61_ok, S60_ok, trivial⟩ trivial trivial
noncomputable def L21 : List Code := match Tryz.f21.body with | some c => flatC c | _ => []
noncomputable def b21 : Code := match nth L21 3 with | some (.block _ (.loop x)) => x | _ => .skip
noncomputable def a21 : List Code := L21.take 3
noncomputable def e21 : List Code := L21.drop 4
theorem L21_eq : L21 = a21 ++ Code.block 0 (.loop b21) :: e21 := by kernel_rfl
noncomputable def body21 : Code := match Tryz.f21.body with | some c => c | _ => .skip
theorem body21_eq : Tryz.f21.body = some body21 := by kernel_rfl
theorem body21_L : flatC body21 = L21 := by kernel_rfl
noncomputable def st21L (n : Nat) (f : Nat → Nat → Tr) (c : C20) (q : LP) : St := ⟨[.none, .none, .val (.tsl K5 n f), .none, .val (.ptr 0 0), .none, .val (.ptr 1 0), .val (.ptr 2 0), .val (.int .i64 (.sym q.2))] ++ List.replicate 22 .none, [some ((svC c).cells, .plain 47), some (zero40, .plain 40), some ((g54 q.1).cells, .plain 40)]⟩
def keep21 : List Nat := [2, 4, 6, 7, 1008]
theorem first21 (p : T29) (c : C20) (n : Nat) (f : Nat → Nat → Tr) : runL E21r (symCall E21r 20) 400 keep21 a21 (startS Tryz.f21 [g54 p, svC c, .tsl K5 n f]) = .ret (.normal, st21L n f c (st65 p, 0)) := by kernel_rfl
theorem round21 (n : Nat) (f : Nat → Nat → Tr) (c : C20) (q : LP) : runY E21r (symCall E21r 20) 400 keep21 b21 (st21L n f c q) =
  .ite (decide (q.2 < (n : Int))) (.ite (leB 0 q.2 && ltB q.2 n) (.ret (.normal, st21L n f c (stepR c q.1 (row5 (f q.2.toNat)), IntKind.i64.wrap (q.2 + 1)))) .fail) (.ret (.exit 0, st21L n f c q)) := by kernel_rfl
theorem end21 (n : Nat) (f : Nat → Nat → Tr) (c : C20) (q : LP) : symEndL E21r (symCall E21r 20) 400 e21 Tryz.f21 (st21L n f c q) = .ret (g54 q.1, hOf (symEndL E21r (symCall E21r 20) 400 e21 Tryz.f21 (st21L n f c q))) := by kernel_rfl
theorem run21 {β0 : Lab} {w0 : World} (h0 : ∀ l, β0 l = none) (hr0 : HR β0 (hpOf []) w0) (p : T29) (c : C20) (n : Nat) (f : Nat → Nat → Tr) {vals : List Value} (hv : relL β0 [g54 p, svC c, .tsl K5 n f] vals) :
  Calls Go.Proofs.Tryz.prog 21 vals.toArray w0 (HandsBack β0 w0 (g54 ((rdL row5 n f).foldl (stepR c) (st65 p)))) := by
 obtain ⟨R, hRd⟩ : ∃ R : Ending → World → Prop, R = HandsBack β0 w0 (g54 ((rdL row5 n f).foldl (stepR c) (st65 p))) := ⟨_, rfl⟩
 rw [← hRd]
 have hn : n ≤ maxLen := by
  rw [relL_cons] at hv; obtain ⟨_, _, _, hv, _⟩ := hv
  rw [relL_cons] at hv; obtain ⟨_, _, _, hv, _⟩ := hv
  rw [relL_cons] at hv; obtain ⟨_, _, hv, _, _⟩ := hv
  simp only [SV.rel, relT] at hv; exact hv.1
 have hcall := symCall_sound E21r_ok 20
 refine callsL (E := E21r) Tryz.func21 body21_eq (body21_L.trans L21_eq) hv h0 hr0 fun a0 hrel => ?_
 refine runL_sound E21r_ok hcall h0 (n := 400) (keep := keep21) hrel (Ext.refl _ _ _) ?_
 rw [first21]
 intro β1 a1 w1 h1 hr1
 refine wp_block (loopY E21r_ok hcall h0 (n := 400) (keep := keep21) (st21L n f c)
  (fun q => ∃ k : Nat, q.2 = k ∧ k ≤ n ∧ q.1 = (rdL row5 k f).foldl (stepR c) (st65 p)) (fun q => n - q.2.toNat) ?_ ⟨0, rfl, Nat.zero_le _, rfl⟩ hr1 h1)
 rintro ⟨p1, i⟩ ⟨k, hk, hkn, hp⟩
 simp only at hk hp
 subst hk
 rw [round21]
 simp only
 refine ⟨fun e1 => holds_chk ?_ ?_, fun e1 => ?_⟩
 ·have hlt := of_decide_eq_true e1
  simp only [Bool.and_eq_true, leB_true, ltB_true]; omega
 ·have hlt : k < n := by have := of_decide_eq_true e1; omega
  have hw : IntKind.i64.wrap ((k : Int) + 1) = ((k + 1 : Nat) : Int) := (rg_iff (k := .i64)).2 ⟨by simp only [loK]; omega, by simp only [hiK]; unfold maxLen at hn; omega⟩
  refine ⟨_, rfl, ⟨k + 1, by simp only; exact hw, by omega, ?_⟩, ?_⟩
  ·simp only [Int.toNat_natCast]
   rw [hp]
   simp [rdL, List.range_succ]
  ·show n - (IntKind.i64.wrap ((k : Int) + 1)).toNat < n - (k : Int).toNat
   rw [hw]; omega
 ·have hkn' : k = n := by have := of_decide_eq_false e1; omega
  subst hkn'
  intro β' a' w' h2 hr2
  simp only [Ex.toExit, Exit.inBlock, if_true]
  refine endL E21r_ok hcall h0 hr2 h2 (R := R) (fuel := 400) ?_
  rw [end21 k f c (p1, (k : Int))]
  intro β3 w3 v3 hs3 hhr3 hr3
  rw [hRd, ← hp]
  exact gives_end (E := E21r) h0 hr0 ⟨_, _, rfl, rfl, Says.refl _⟩ hs3 hhr3 hr3
noncomputable def R21 : RSumm := fun vs => match vs with
 | [.agg xs, .agg cs, .tsl ks n f] => match asAll K29 xs, asAll K20 cs with
  | some r1, some r2 => if CK.beqL ks K5 then some (true, g54 ((rdL row5 n f).foldl (stepR (c20 r2)) (st65 (t29 r1)))) else none
  | _, _ => none
 | _ => none
theorem R21_ok : RSummFn Go.Proofs.Tryz.prog 21 R21 := by
 refine rsumm_of fun vs c r h hc => ?_
 unfold R21 at h
 split at h <;> (try simp only [reduceCtorEq] at h)
 split at h <;> (try simp only [reduceCtorEq] at h)
 rename_i xs cs ks n f _ _ r1 r2 h1 h2
 split at h <;> simp only [Option.some.injEq, Prod.mk.injEq, reduceCtorEq] at h
 rename_i hk; obtain ⟨_, rfl⟩ := h
 have hk := CK.beqL_eq _ _ hk
 subst hk
 refine ⟨by simp only [deepL, SV.deep, asAll_free h1, asAll_free h2, List.append_nil], fun β0 w0 vals h0 hr0 hv => run21 h0 hr0 (t29 r1) (c20 r2) n f ?_⟩
 rw [relL_cons] at hv ⊢; obtain ⟨v1, l1, q1, hv, e1⟩ := hv
 rw [relL_cons] at hv; obtain ⟨v2, l2, q2, hv, e2⟩ := hv
 refine ⟨v1, l1, by rw [← t29_cells]; exact asAll_agg h1 q1, ?_, e1⟩
 rw [relL_cons]; exact ⟨v2, l2, by rw [← c20_cells]; exact asAll_agg h2 q2, hv, e2⟩
end Go.Proofs.YtdchdajjhofmnaaGreat
namespace Go.Proofs.YtdchdajjhofmnaaGreat
open Go Go.Sx
set_option linter.unusedVariables false
set_option linter.unusedSimpArgs false
set_option linter.constructorNameAsVariable false
set_option maxRecDepth 100000
set_option maxHeartbeats 8000000
theorem rd0 (I0 I1 I2 I3 I4 I5 I6 I7 I8 I9 : Int) (I10 : Bool) (I11 I12 I13 I14 I15 : Int) (I16 : Bool) (I17 I18 I19 I20 I21 : Int) (I22 : Bool) (I23 I24 I25 I26 I27 : Int) (I28 : Bool) (Z0 Z1 Z2 Z3 Z4 Z5 Z6 Z7 Z8 Z9 Z10 Z11 Z12 Z13 Z14 Z15 Z16 Z17 Z18 Z19 : Int) (J0 J2 J3 J4 : Int) : (f101 I0 I1 I2 I3 I4 I5 I6 I7 I8 I9 I10 I11 I12 I13 I14 I15 I16 I17 I18 I19 I20 I21 I22 I23 I24 I25 I26 I27 I28 Z0 Z1 Z2 Z3 Z4 Z5 Z6 Z7 Z8 Z9 Z10 Z11 Z12 Z13 Z14 Z15 Z16 Z17 Z18 Z19 J0 0 J2 J3 J4).snd.snd.snd = 0 → I0 ≤ J0 ∧ 0 ≤ J0 ∧ J0 ≤ 1099511627776 ∧ I1 ≠ 1099511627776 ∧ I2 ≠ 1099511627776 := by
 have e : f101 I0 I1 I2 I3 I4 I5 I6 I7 I8 I9 I10 I11 I12 I13 I14 I15 I16 I17 I18 I19 I20 I21 I22 I23 I24 I25 I26 I27 I28 Z0 Z1 Z2 Z3 Z4 Z5 Z6 Z7 Z8 Z9 Z10 Z11 Z12 Z13 Z14 Z15 Z16 Z17 Z18 Z19 J0 0 J2 J3 J4 = f61p0 I0 I1 I2 I3 I4 I5 I6 I7 I8 I9 I10 I11 I12 I13 I14 I15 I16 I17 I18 I19 I20 I21 I22 I23 I24 I25 I26 I27 I28 Z0 Z1 Z2 Z3 Z4 Z5 Z6 Z7 Z8 Z9 Z10 Z11 Z12 Z13 Z14 Z15 Z16 Z17 Z18 Z19 J0 J2 J3 J4 := rfl
 rw [e]; unfold f61p0
 simp only
 intro h
 cases h1 : (!f49 J0 0 J2 J3 J4 || I1 == 1099511627776 || I2 == 1099511627776) with
 | true => rw [h1] at h; simp only [cond_true] at h; exact absurd h (by decide)
 | false =>
  rw [h1] at h; simp only [cond_false] at h
  cases h2 : decide (J0 < I0) with
  | true => rw [h2] at h; simp only [cond_true] at h; exact absurd h (by decide)
  | false =>
   have h3 := of_decide_eq_false h2
   simp only [Bool.or_eq_false_iff, Bool.not_eq_false', beq_eq_false_iff_ne] at h1
   obtain ⟨⟨h4, h5⟩, h6⟩ := h1
   unfold f49 at h4
   simp only [Bool.and_eq_true, decide_eq_true_eq] at h4
   refine ⟨by omega, ?_, ?_, h5, h6⟩ <;> simp only [ge_iff_le] at h4 <;> omega
theorem rd1 (I0 I1 I2 I3 I4 I5 I6 I7 I8 I9 : Int) (I10 : Bool) (I11 I12 I13 I14 I15 : Int) (I16 : Bool) (I17 I18 I19 I20 I21 : Int) (I22 : Bool) (I23 I24 I25 I26 I27 : Int) (I28 : Bool) (Z0 Z1 Z2 Z3 Z4 Z5 Z6 Z7 Z8 Z9 Z10 Z11 Z12 Z13 Z14 Z15 Z16 Z17 Z18 Z19 : Int) (J0 J2 J3 J4 : Int) : (f101 I0 I1 I2 I3 I4 I5 I6 I7 I8 I9 I10 I11 I12 I13 I14 I15 I16 I17 I18 I19 I20 I21 I22 I23 I24 I25 I26 I27 I28 Z0 Z1 Z2 Z3 Z4 Z5 Z6 Z7 Z8 Z9 Z10 Z11 Z12 Z13 Z14 Z15 Z16 Z17 Z18 Z19 J0 1 J2 J3 J4).snd.snd.snd = 0 → I0 ≤ J0 ∧ 0 ≤ J0 ∧ J0 ≤ 1099511627776 ∧ I1 ≠ 1099511627776 ∧ I2 ≠ 1099511627776 := by
 have e : f101 I0 I1 I2 I3 I4 I5 I6 I7 I8 I9 I10 I11 I12 I13 I14 I15 I16 I17 I18 I19 I20 I21 I22 I23 I24 I25 I26 I27 I28 Z0 Z1 Z2 Z3 Z4 Z5 Z6 Z7 Z8 Z9 Z10 Z11 Z12 Z13 Z14 Z15 Z16 Z17 Z18 Z19 J0 1 J2 J3 J4 = f61p1 I0 I1 I2 I3 I4 I5 I6 I7 I8 I9 I10 I11 I12 I13 I14 I15 I16 I17 I18 I19 I20 I21 I22 I23 I24 I25 I26 I27 I28 Z0 Z1 Z2 Z3 Z4 Z5 Z6 Z7 Z8 Z9 Z10 Z11 Z12 Z13 Z14 Z15 Z16 Z17 Z18 Z19 J0 J2 J3 J4 := rfl
 rw [e]; unfold f61p1
 simp only
 intro h
 cases h1 : (!f49 J0 1 J2 J3 J4 || I1 == 1099511627776 || I2 == 1099511627776) with
 | true => rw [h1] at h; simp only [cond_true] at h; exact absurd h (by decide)
 | false =>
  rw [h1] at h; simp only [cond_false] at h
  cases h2 : decide (J0 < I0) with
  | true => rw [h2] at h; simp only [cond_true] at h; exact absurd h (by decide)
  | false =>
   have h3 := of_decide_eq_false h2
   simp only [Bool.or_eq_false_iff, Bool.not_eq_false', beq_eq_false_iff_ne] at h1
   obtain ⟨⟨h4, h5⟩, h6⟩ := h1
   unfold f49 at h4
   simp only [Bool.and_eq_true, decide_eq_true_eq] at h4
   refine ⟨by omega, ?_, ?_, h5, h6⟩ <;> simp only [ge_iff_le] at h4 <;> omega
theorem rd2 (I0 I1 I2 I3 I4 I5 I6 I7 I8 I9 : Int) (I10 : Bool) (I11 I12 I13 I14 I15 : Int) (I16 : Bool) (I17 I18 I19 I20 I21 : Int) (I22 : Bool) (I23 I24 I25 I26 I27 : Int) (I28 : Bool) (Z0 Z1 Z2 Z3 Z4 Z5 Z6 Z7 Z8 Z9 Z10 Z11 Z12 Z13 Z14 Z15 Z16 Z17 Z18 Z19 : Int) (J0 J2 J3 J4 : Int) : (f101 I0 I1 I2 I3 I4 I5 I6 I7 I8 I9 I10 I11 I12 I13 I14 I15 I16 I17 I18 I19 I20 I21 I22 I23 I24 I25 I26 I27 I28 Z0 Z1 Z2 Z3 Z4 Z5 Z6 Z7 Z8 Z9 Z10 Z11 Z12 Z13 Z14 Z15 Z16 Z17 Z18 Z19 J0 2 J2 J3 J4).snd.snd.snd = 0 → I0 ≤ J0 ∧ 0 ≤ J0 ∧ J0 ≤ 1099511627776 ∧ I1 ≠ 1099511627776 ∧ I2 ≠ 1099511627776 := by
 have e : f101 I0 I1 I2 I3 I4 I5 I6 I7 I8 I9 I10 I11 I12 I13 I14 I15 I16 I17 I18 I19 I20 I21 I22 I23 I24 I25 I26 I27 I28 Z0 Z1 Z2 Z3 Z4 Z5 Z6 Z7 Z8 Z9 Z10 Z11 Z12 Z13 Z14 Z15 Z16 Z17 Z18 Z19 J0 2 J2 J3 J4 = f61p2 I0 I1 I2 I3 I4 I5 I6 I7 I8 I9 I10 I11 I12 I13 I14 I15 I16 I17 I18 I19 I20 I21 I22 I23 I24 I25 I26 I27 I28 Z0 Z1 Z2 Z3 Z4 Z5 Z6 Z7 Z8 Z9 Z10 Z11 Z12 Z13 Z14 Z15 Z16 Z17 Z18 Z19 J0 J2 J3 J4 := rfl
 rw [e]; unfold f61p2
 simp only
 intro h
 cases h1 : (!f49 J0 2 J2 J3 J4 || I1 == 1099511627776 || I2 == 1099511627776) with
 | true => rw [h1] at h; simp only [cond_true] at h; exact absurd h (by decide)
 | false =>
  rw [h1] at h; simp only [cond_false] at h
  cases h2 : decide (J0 < I0) with
  | true => rw [h2] at h; simp only [cond_true] at h; exact absurd h (by decide)
  | false =>
   have h3 := of_decide_eq_false h2
   simp only [Bool.or_eq_false_iff, Bool.not_eq_false', beq_eq_false_iff_ne] at h1
   obtain ⟨⟨h4, h5⟩, h6⟩ := h1
   unfold f49 at h4
   simp only [Bool.and_eq_true, decide_eq_true_eq] at h4
   refine ⟨by omega, ?_, ?_, h5, h6⟩ <;> simp only [ge_iff_le] at h4 <;> omega
theorem rd3 (I0 I1 I2 I3 I4 I5 I6 I7 I8 I9 : Int) (I10 : Bool) (I11 I12 I13 I14 I15 : Int) (I16 : Bool) (I17 I18 I19 I20 I21 : Int) (I22 : Bool) (I23 I24 I25 I26 I27 : Int) (I28 : Bool) (Z0 Z1 Z2 Z3 Z4 Z5 Z6 Z7 Z8 Z9 Z10 Z11 Z12 Z13 Z14 Z15 Z16 Z17 Z18 Z19 : Int) (J0 J2 J3 J4 : Int) : (f101 I0 I1 I2 I3 I4 I5 I6 I7 I8 I9 I10 I11 I12 I13 I14 I15 I16 I17 I18 I19 I20 I21 I22 I23 I24 I25 I26 I27 I28 Z0 Z1 Z2 Z3 Z4 Z5 Z6 Z7 Z8 Z9 Z10 Z11 Z12 Z13 Z14 Z15 Z16 Z17 Z18 Z19 J0 3 J2 J3 J4).snd.snd.snd = 0 → I0 ≤ J0 ∧ 0 ≤ J0 ∧ J0 ≤ 1099511627776 ∧ I1 ≠ 1099511627776 ∧ I2 ≠ 1099511627776 := by
 have e : f101 I0 I1 I2 I3 I4 I5 I6 I7 I8 I9 I10 I11 I12 I13 I14 I15 I16 I17 I18 I19 I20 I21 I22 I23 I24 I25 I26 I27 I28 Z0 Z1 Z2 Z3 Z4 Z5 Z6 Z7 Z8 Z9 Z10 Z11 Z12 Z13 Z14 Z15 Z16 Z17 Z18 Z19 J0 3 J2 J3 J4 = f61p3 I0 I1 I2 I3 I4 I5 I6 I7 I8 I9 I10 I11 I12 I13 I14 I15 I16 I17 I18 I19 I20 I21 I22 I23 I24 I25 I26 I27 I28 Z0 Z1 Z2 Z3 Z4 Z5 Z6 Z7 Z8 Z9 Z10 Z11 Z12 Z13 Z14 Z15 Z16 Z17 Z18 Z19 J0 J2 J3 J4 := rfl
 rw [e]; unfold f61p3
 simp only
 intro h
 cases h1 : (!f49 J0 3 J2 J3 J4 || I1 == 1099511627776 || I2 == 1099511627776) with
 | true => rw [h1] at h; simp only [cond_true] at h; exact absurd h (by decide)
 | false =>
  rw [h1] at h; simp only [cond_false] at h
  cases h2 : decide (J0 < I0) with
  | true => rw [h2] at h; simp only [cond_true] at h; exact absurd h (by decide)
  | false =>
   have h3 := of_decide_eq_false h2
   simp only [Bool.or_eq_false_iff, Bool.not_eq_false', beq_eq_false_iff_ne] at h1
   obtain ⟨⟨h4, h5⟩, h6⟩ := h1
   unfold f49 at h4
   simp only [Bool.and_eq_true, decide_eq_true_eq] at h4
   refine ⟨by omega, ?_, ?_, h5, h6⟩ <;> simp only [ge_iff_le] at h4 <;> omega
theorem keep0 (I0 I1 I2 I3 I4 I5 I6 I7 I8 I9 : Int) (I10 : Bool) (I11 I12 I13 I14 I15 : Int) (I16 : Bool) (I17 I18 I19 I20 I21 : Int) (I22 : Bool) (I23 I24 I25 I26 I27 : Int) (I28 : Bool) (Z0 Z1 Z2 Z3 Z4 Z5 Z6 Z7 Z8 Z9 Z10 Z11 Z12 Z13 Z14 Z15 Z16 Z17 Z18 Z19 : Int) (J0 J2 J3 J4 : Int) (hs : f44 I0 I1 I2 I3 I4 I5 I6 I7 I8 I9 I10 I11 I12 I13 I14 I15 I16 I17 I18 I19 I20 I21 I22 I23 I24 I25 I26 I27 I28 = true) : ∃ b0 b1 b2 b3 b4 b5 b6 b7 b8 b9 b10 b11 b12 b13 b14 b15 b16 b17 b18 b19 b20 b21 b22 b23 b24 b25 b26 b27 b28 E, f24p0 I0 I1 I2 I3 I4 I5 I6 I7 I8 I9 I10 I11 I12 I13 I14 I15 I16 I17 I18 I19 I20 I21 I22 I23 I24 I25 I26 I27 I28 Z0 Z1 Z2 Z3 Z4 Z5 Z6 Z7 Z8 Z9 Z10 Z11 Z12 Z13 Z14 Z15 Z16 Z17 Z18 Z19 J0 J2 J3 J4 = (b0, b1, b2, b3, b4, b5, b6, b7, b8, b9, b10, b11, b12, b13, b14, b15, b16, b17, b18, b19, b20, b21, b22, b23, b24, b25, b26, b27, b28, E) ∧ f44 b0 b1 b2 b3 b4 b5 b6 b7 b8 b9 b10 b11 b12 b13 b14 b15 b16 b17 b18 b19 b20 b21 b22 b23 b24 b25 b26 b27 b28 = true ∧ ((I10 || I16 || I22 || I28) = true → (b10 || b16 || b22 || b28) = true) ∧ I0 ≤ b0 ∧ ((b1 = I1 ∧ (b2 = I2 + 1 ∨ ((1099511627776 ≤ I1 ∨ 1099511627776 ≤ I2) ∧ b2 = I2))) ∨ (b1 = I1 + 1 ∧ (b2 = I2 ∨ b2 = I2 + 1))) := by
 have hk := f54_as I0 I1 I2 I3 I4 I5 I6 I7 I8 I9 I10 I11 I12 I13 I14 I15 I16 I17 I18 I19 I20 I21 I22 I23 I24 I25 I26 I27 I28 hs
 obtain ⟨⟨t0, t1⟩, ⟨n0, n1⟩, ⟨o0, o1⟩, hq, hx, hy, hz⟩ := (f44_iff I0 I1 I2 I3 I4 I5 I6 I7 I8 I9 I10 I11 I12 I13 I14 I15 I16 I17 I18 I19 I20 I21 I22 I23 I24 I25 I26 I27 I28).1 hs
 have wn : ∀ m : Int, 0 ≤ m → m ≤ 1099511627776 → IntKind.i64.wrap (m + 1) = m + 1 := fun m h0 h1 => (rg_iff (k := .i64)).2 ⟨by simp only [loK]; omega, by simp only [hiK]; omega⟩
 have hw1 := wn I1 n0 n1
 have hw2 := wn I2 o0 o1
 have hrd := rd0 I0 I1 I2 I3 I4 I5 I6 I7 I8 I9 I10 I11 I12 I13 I14 I15 I16 I17 I18 I19 I20 I21 I22 I23 I24 I25 I26 I27 I28 Z0 Z1 Z2 Z3 Z4 Z5 Z6 Z7 Z8 Z9 Z10 Z11 Z12 Z13 Z14 Z15 Z16 Z17 Z18 Z19 J0 J2 J3 J4
 unfold f24p0
 simp only [hk]
 generalize f101 I0 I1 I2 I3 I4 I5 I6 I7 I8 I9 I10 I11 I12 I13 I14 I15 I16 I17 I18 I19 I20 I21 I22 I23 I24 I25 I26 I27 I28 Z0 Z1 Z2 Z3 Z4 Z5 Z6 Z7 Z8 Z9 Z10 Z11 Z12 Z13 Z14 Z15 Z16 Z17 Z18 Z19 J0 0 J2 J3 J4 = E at hrd ⊢
 by_cases he : E.snd.snd.snd = 0
 ·obtain ⟨r0, r1, r2, r3, r4⟩ := hrd he
  generalize IntKind.i64.wrap (mnI (IntKind.i64.wrap (J0 - I0)) 16384 * 4194304) = D
  obtain ⟨p0, v0, pp0, pv0, vv0, c0, e0, s0, g0⟩ := pred_sane I11 I12 I13 I14 I15 I16 0 D 1073741824
  obtain ⟨p1, v1, pp1, pv1, vv1, c1, e1, s1, g1⟩ := pred_sane I17 I18 I19 I20 I21 I22 0 D 1073741824
  obtain ⟨p2, v2, pp2, pv2, vv2, c2, e2, s2, g2⟩ := pred_sane I23 I24 I25 I26 I27 I28 0 D 1073741824
  obtain ⟨u0, u1, u2, u3, x0, x1, x2, cb, eq, hsq, hx0, hx1, hx2, gb⟩ := move_sane I3 I4 I5 I6 I7 I8 I9 I10 E.fst E.snd.fst E.snd.snd.fst D
  simp only [he, bne_self_eq_false, cond_false, Bool.cond_self, hw1, hw2, e0, e1, e2, eq]
  exact ⟨_, _, _, _, _, _, _, _, _, _, _, _, _, _, _, _, _, _, _, _, _, _, _, _, _, _, _, _, _, _, rfl, (f44_iff _ _ _ _ _ _ _ _ _ _ _ _ _ _ _ _ _ _ _ _ _ _ _ _ _ _ _ _ _).2 ⟨⟨by omega, by omega⟩, ⟨by omega, by omega⟩, ⟨by omega, by omega⟩, (f13_iff _ _ _ _ _ _ _ _).2 ⟨hsq, hx0, hx1, hx2⟩, s0, s1, s2⟩, (flags4 (fun h => gb (.inl h)) (fun h => g0 h) (fun h => g1 h) (fun h => g2 h)), r0, .inr ⟨rfl, .inl rfl⟩⟩
 ·have hb : (E.snd.snd.snd != 0) = true := by simpa using he
  by_cases hN : I1 < 1099511627776
  ·by_cases hO : I2 < 1099511627776
   ·exact ⟨_, _, _, _, _, _, _, _, _, _, _, _, _, _, _, _, _, _, _, _, _, _, _, _, _, _, _, _, _, _, by simp only [hb, cond_true, decide_eq_true hN, decide_eq_true hO, Bool.and_self, hw2]; rfl, (f44_iff _ _ _ _ _ _ _ _ _ _ _ _ _ _ _ _ _ _ _ _ _ _ _ _ _ _ _ _ _).2 ⟨⟨by omega, by omega⟩, ⟨by omega, by omega⟩, ⟨by omega, by omega⟩, hq, hx, hy, hz⟩, fun h => h, Int.le_refl _, .inl ⟨rfl, .inl rfl⟩⟩
   ·exact ⟨_, _, _, _, _, _, _, _, _, _, _, _, _, _, _, _, _, _, _, _, _, _, _, _, _, _, _, _, _, _, by simp only [hb, cond_true, decide_eq_false hO, Bool.and_false, cond_false]; rfl, hs, fun h => h, Int.le_refl _, .inl ⟨rfl, .inr ⟨.inr (by omega), rfl⟩⟩⟩
  ·exact ⟨_, _, _, _, _, _, _, _, _, _, _, _, _, _, _, _, _, _, _, _, _, _, _, _, _, _, _, _, _, _, by simp only [hb, cond_true, decide_eq_false hN, Bool.false_and, cond_false]; rfl, hs, fun h => h, Int.le_refl _, .inl ⟨rfl, .inr ⟨.inl (by omega), rfl⟩⟩⟩
theorem keep1 (I0 I1 I2 I3 I4 I5 I6 I7 I8 I9 : Int) (I10 : Bool) (I11 I12 I13 I14 I15 : Int) (I16 : Bool) (I17 I18 I19 I20 I21 : Int) (I22 : Bool) (I23 I24 I25 I26 I27 : Int) (I28 : Bool) (Z0 Z1 Z2 Z3 Z4 Z5 Z6 Z7 Z8 Z9 Z10 Z11 Z12 Z13 Z14 Z15 Z16 Z17 Z18 Z19 : Int) (J0 J2 J3 J4 : Int) (hs : f44 I0 I1 I2 I3 I4 I5 I6 I7 I8 I9 I10 I11 I12 I13 I14 I15 I16 I17 I18 I19 I20 I21 I22 I23 I24 I25 I26 I27 I28 = true) : ∃ b0 b1 b2 b3 b4 b5 b6 b7 b8 b9 b10 b11 b12 b13 b14 b15 b16 b17 b18 b19 b20 b21 b22 b23 b24 b25 b26 b27 b28 E, f24p1 I0 I1 I2 I3 I4 I5 I6 I7 I8 I9 I10 I11 I12 I13 I14 I15 I16 I17 I18 I19 I20 I21 I22 I23 I24 I25 I26 I27 I28 Z0 Z1 Z2 Z3 Z4 Z5 Z6 Z7 Z8 Z9 Z10 Z11 Z12 Z13 Z14 Z15 Z16 Z17 Z18 Z19 J0 J2 J3 J4 = (b0, b1, b2, b3, b4, b5, b6, b7, b8, b9, b10, b11, b12, b13, b14, b15, b16, b17, b18, b19, b20, b21, b22, b23, b24, b25, b26, b27, b28, E) ∧ f44 b0 b1 b2 b3 b4 b5 b6 b7 b8 b9 b10 b11 b12 b13 b14 b15 b16 b17 b18 b19 b20 b21 b22 b23 b24 b25 b26 b27 b28 = true ∧ ((I10 || I16 || I22 || I28) = true → (b10 || b16 || b22 || b28) = true) ∧ I0 ≤ b0 ∧ ((b1 = I1 ∧ (b2 = I2 + 1 ∨ ((1099511627776 ≤ I1 ∨ 1099511627776 ≤ I2) ∧ b2 = I2))) ∨ (b1 = I1 + 1 ∧ (b2 = I2 ∨ b2 = I2 + 1))) := by
 have hk := f54_as I0 I1 I2 I3 I4 I5 I6 I7 I8 I9 I10 I11 I12 I13 I14 I15 I16 I17 I18 I19 I20 I21 I22 I23 I24 I25 I26 I27 I28 hs
 obtain ⟨⟨t0, t1⟩, ⟨n0, n1⟩, ⟨o0, o1⟩, hq, hx, hy, hz⟩ := (f44_iff I0 I1 I2 I3 I4 I5 I6 I7 I8 I9 I10 I11 I12 I13 I14 I15 I16 I17 I18 I19 I20 I21 I22 I23 I24 I25 I26 I27 I28).1 hs
 have wn : ∀ m : Int, 0 ≤ m → m ≤ 1099511627776 → IntKind.i64.wrap (m + 1) = m + 1 := fun m h0 h1 => (rg_iff (k := .i64)).2 ⟨by simp only [loK]; omega, by simp only [hiK]; omega⟩
 have hw1 := wn I1 n0 n1
 have hw2 := wn I2 o0 o1
 have hrd := rd1 I0 I1 I2 I3 I4 I5 I6 I7 I8 I9 I10 I11 I12 I13 I14 I15 I16 I17 I18 I19 I20 I21 I22 I23 I24 I25 I26 I27 I28 Z0 Z1 Z2 Z3 Z4 Z5 Z6 Z7 Z8 Z9 Z10 Z11 Z12 Z13 Z14 Z15 Z16 Z17 Z18 Z19 J0 J2 J3 J4
 unfold f24p1
 simp only [hk]
 generalize f101 I0 I1 I2 I3 I4 I5 I6 I7 I8 I9 I10 I11 I12 I13 I14 I15 I16 I17 I18 I19 I20 I21 I22 I23 I24 I25 I26 I27 I28 Z0 Z1 Z2 Z3 Z4 Z5 Z6 Z7 Z8 Z9 Z10 Z11 Z12 Z13 Z14 Z15 Z16 Z17 Z18 Z19 J0 1 J2 J3 J4 = E at hrd ⊢
 by_cases he : E.snd.snd.snd = 0
 ·obtain ⟨r0, r1, r2, r3, r4⟩ := hrd he
  generalize IntKind.i64.wrap (mnI (IntKind.i64.wrap (J0 - I0)) 16384 * 4194304) = D
  generalize f152 (f151 I3 I4 I5 I6 E.fst E.snd.fst E.snd.snd.fst).fst (f151 I3 I4 I5 I6 E.fst E.snd.fst E.snd.snd.fst).snd.fst (f151 I3 I4 I5 I6 E.fst E.snd.fst E.snd.snd.fst).snd.snd.fst 0 0 42119241033 = G
  obtain ⟨p0, v0, pp0, pv0, vv0, c0, e0, s0, g0⟩ := pred_sane I11 I12 I13 I14 I15 I16 G.fst D 1073741824
  obtain ⟨p1, v1, pp1, pv1, vv1, c1, e1, s1, g1⟩ := pred_sane I17 I18 I19 I20 I21 I22 G.snd.fst D 1073741824
  obtain ⟨p2, v2, pp2, pv2, vv2, c2, e2, s2, g2⟩ := pred_sane I23 I24 I25 I26 I27 I28 G.snd.snd.fst D 1073741824
  obtain ⟨u0, u1, u2, u3, x0, x1, x2, cb, eq, hsq, hx0, hx1, hx2, gb⟩ := level_sane I3 I4 I5 I6 I7 I8 I9 I10 E.fst E.snd.fst E.snd.snd.fst 67108864
  simp only [he, bne_self_eq_false, cond_false, Bool.cond_self, hw1, hw2, e0, e1, e2, eq]
  exact ⟨_, _, _, _, _, _, _, _, _, _, _, _, _, _, _, _, _, _, _, _, _, _, _, _, _, _, _, _, _, _, rfl, (f44_iff _ _ _ _ _ _ _ _ _ _ _ _ _ _ _ _ _ _ _ _ _ _ _ _ _ _ _ _ _).2 ⟨⟨by omega, by omega⟩, ⟨by omega, by omega⟩, ⟨by omega, by omega⟩, (f13_iff _ _ _ _ _ _ _ _).2 ⟨hsq, hx0, hx1, hx2⟩, s0, s1, s2⟩, (flags4 (fun h => gb (.inl h)) (fun h => g0 h) (fun h => g1 h) (fun h => g2 h)), r0, .inr ⟨rfl, .inl rfl⟩⟩
 ·have hb : (E.snd.snd.snd != 0) = true := by simpa using he
  by_cases hN : I1 < 1099511627776
  ·by_cases hO : I2 < 1099511627776
   ·exact ⟨_, _, _, _, _, _, _, _, _, _, _, _, _, _, _, _, _, _, _, _, _, _, _, _, _, _, _, _, _, _, by simp only [hb, cond_true, decide_eq_true hN, decide_eq_true hO, Bool.and_self, hw2]; rfl, (f44_iff _ _ _ _ _ _ _ _ _ _ _ _ _ _ _ _ _ _ _ _ _ _ _ _ _ _ _ _ _).2 ⟨⟨by omega, by omega⟩, ⟨by omega, by omega⟩, ⟨by omega, by omega⟩, hq, hx, hy, hz⟩, fun h => h, Int.le_refl _, .inl ⟨rfl, .inl rfl⟩⟩
   ·exact ⟨_, _, _, _, _, _, _, _, _, _, _, _, _, _, _, _, _, _, _, _, _, _, _, _, _, _, _, _, _, _, by simp only [hb, cond_true, decide_eq_false hO, Bool.and_false, cond_false]; rfl, hs, fun h => h, Int.le_refl _, .inl ⟨rfl, .inr ⟨.inr (by omega), rfl⟩⟩⟩
  ·exact ⟨_, _, _, _, _, _, _, _, _, _, _, _, _, _, _, _, _, _, _, _, _, _, _, _, _, _, _, _, _, _, by simp only [hb, cond_true, decide_eq_false hN, Bool.false_and, cond_false]; rfl, hs, fun h => h, Int.le_refl _, .inl ⟨rfl, .inr ⟨.inl (by omega), rfl⟩⟩⟩
theorem keep2 (I0 I1 I2 I3 I4 I5 I6 I7 I8 I9 : Int) (I10 : Bool) (I11 I12 I13 I14 I15 : Int) (I16 : Bool) (I17 I18 I19 I20 I21 : Int) (I22 : Bool) (I23 I24 I25 I26 I27 : Int) (I28 : Bool) (Z0 Z1 Z2 Z3 Z4 Z5 Z6 Z7 Z8 Z9 Z10 Z11 Z12 Z13 Z14 Z15 Z16 Z17 Z18 Z19 : Int) (J0 J2 J3 J4 : Int) (hs : f44 I0 I1 I2 I3 I4 I5 I6 I7 I8 I9 I10 I11 I12 I13 I14 I15 I16 I17 I18 I19 I20 I21 I22 I23 I24 I25 I26 I27 I28 = true) : ∃ b0 b1 b2 b3 b4 b5 b6 b7 b8 b9 b10 b11 b12 b13 b14 b15 b16 b17 b18 b19 b20 b21 b22 b23 b24 b25 b26 b27 b28 E, f24p2 I0 I1 I2 I3 I4 I5 I6 I7 I8 I9 I10 I11 I12 I13 I14 I15 I16 I17 I18 I19 I20 I21 I22 I23 I24 I25 I26 I27 I28 Z0 Z1 Z2 Z3 Z4 Z5 Z6 Z7 Z8 Z9 Z10 Z11 Z12 Z13 Z14 Z15 Z16 Z17 Z18 Z19 J0 J2 J3 J4 = (b0, b1, b2, b3, b4, b5, b6, b7, b8, b9, b10, b11, b12, b13, b14, b15, b16, b17, b18, b19, b20, b21, b22, b23, b24, b25, b26, b27, b28, E) ∧ f44 b0 b1 b2 b3 b4 b5 b6 b7 b8 b9 b10 b11 b12 b13 b14 b15 b16 b17 b18 b19 b20 b21 b22 b23 b24 b25 b26 b27 b28 = true ∧ ((I10 || I16 || I22 || I28) = true → (b10 || b16 || b22 || b28) = true) ∧ I0 ≤ b0 ∧ ((b1 = I1 ∧ (b2 = I2 + 1 ∨ ((1099511627776 ≤ I1 ∨ 1099511627776 ≤ I2) ∧ b2 = I2))) ∨ (b1 = I1 + 1 ∧ (b2 = I2 ∨ b2 = I2 + 1))) := by
 have hk := f54_as I0 I1 I2 I3 I4 I5 I6 I7 I8 I9 I10 I11 I12 I13 I14 I15 I16 I17 I18 I19 I20 I21 I22 I23 I24 I25 I26 I27 I28 hs
 obtain ⟨⟨t0, t1⟩, ⟨n0, n1⟩, ⟨o0, o1⟩, hq, hx, hy, hz⟩ := (f44_iff I0 I1 I2 I3 I4 I5 I6 I7 I8 I9 I10 I11 I12 I13 I14 I15 I16 I17 I18 I19 I20 I21 I22 I23 I24 I25 I26 I27 I28).1 hs
 have wn : ∀ m : Int, 0 ≤ m → m ≤ 1099511627776 → IntKind.i64.wrap (m + 1) = m + 1 := fun m h0 h1 => (rg_iff (k := .i64)).2 ⟨by simp only [loK]; omega, by simp only [hiK]; omega⟩
 have hw1 := wn I1 n0 n1
 have hw2 := wn I2 o0 o1
 have hrd := rd2 I0 I1 I2 I3 I4 I5 I6 I7 I8 I9 I10 I11 I12 I13 I14 I15 I16 I17 I18 I19 I20 I21 I22 I23 I24 I25 I26 I27 I28 Z0 Z1 Z2 Z3 Z4 Z5 Z6 Z7 Z8 Z9 Z10 Z11 Z12 Z13 Z14 Z15 Z16 Z17 Z18 Z19 J0 J2 J3 J4
 unfold f24p2
 simp only [hk]
 generalize f101 I0 I1 I2 I3 I4 I5 I6 I7 I8 I9 I10 I11 I12 I13 I14 I15 I16 I17 I18 I19 I20 I21 I22 I23 I24 I25 I26 I27 I28 Z0 Z1 Z2 Z3 Z4 Z5 Z6 Z7 Z8 Z9 Z10 Z11 Z12 Z13 Z14 Z15 Z16 Z17 Z18 Z19 J0 2 J2 J3 J4 = E at hrd ⊢
 by_cases he : E.snd.snd.snd = 0
 ·obtain ⟨r0, r1, r2, r3, r4⟩ := hrd he
  generalize IntKind.i64.wrap (mnI (IntKind.i64.wrap (J0 - I0)) 16384 * 4194304) = D
  obtain ⟨p0, v0, pp0, pv0, vv0, c0, e0, s0, g0⟩ := pred_sane I11 I12 I13 I14 I15 I16 0 D 1073741824
  obtain ⟨p1, v1, pp1, pv1, vv1, c1, e1, s1, g1⟩ := pred_sane I17 I18 I19 I20 I21 I22 0 D 1073741824
  obtain ⟨p2, v2, pp2, pv2, vv2, c2, e2, s2, g2⟩ := pred_sane I23 I24 I25 I26 I27 I28 0 D 1073741824
  simp only [e0, e1, e2]
  obtain ⟨y0, yv0, yp0, yq0, yw0, d0, i0, m0, ms0, mg0⟩ := upd_sane p0 v0 pp0 pv0 vv0 c0 E.fst 4294967296 68719476736
  obtain ⟨y1, yv1, yp1, yq1, yw1, d1, i1, m1, ms1, mg1⟩ := upd_sane p1 v1 pp1 pv1 vv1 c1 E.snd.fst 4294967296 68719476736
  obtain ⟨y2, yv2, yp2, yq2, yw2, d2, i2, m2, ms2, mg2⟩ := upd_sane p2 v2 pp2 pv2 vv2 c2 E.snd.snd.fst 4294967296 68719476736
  simp only [he, bne_self_eq_false, cond_false, Bool.cond_self, hw1, hw2, m0, m1, m2]
  generalize (!(i0 && i1 && i2)) = X
  cases X
  ·simp only [cond_true, cond_false]
   exact ⟨_, _, _, _, _, _, _, _, _, _, _, _, _, _, _, _, _, _, _, _, _, _, _, _, _, _, _, _, _, _, rfl, (f44_iff _ _ _ _ _ _ _ _ _ _ _ _ _ _ _ _ _ _ _ _ _ _ _ _ _ _ _ _ _).2 ⟨⟨by omega, by omega⟩, ⟨by omega, by omega⟩, ⟨by omega, by omega⟩, hq, ms0, ms1, ms2⟩, (flags4 (fun h => h) (fun h => mg0 (g0 h)) (fun h => mg1 (g1 h)) (fun h => mg2 (g2 h))), r0, .inr ⟨rfl, .inl rfl⟩⟩
  ·simp only [cond_true, cond_false]
   exact ⟨_, _, _, _, _, _, _, _, _, _, _, _, _, _, _, _, _, _, _, _, _, _, _, _, _, _, _, _, _, _, rfl, (f44_iff _ _ _ _ _ _ _ _ _ _ _ _ _ _ _ _ _ _ _ _ _ _ _ _ _ _ _ _ _).2 ⟨⟨by omega, by omega⟩, ⟨by omega, by omega⟩, ⟨by omega, by omega⟩, hq, ms0, ms1, ms2⟩, (flags4 (fun h => h) (fun h => mg0 (g0 h)) (fun h => mg1 (g1 h)) (fun h => mg2 (g2 h))), r0, .inr ⟨rfl, .inr rfl⟩⟩
 ·have hb : (E.snd.snd.snd != 0) = true := by simpa using he
  by_cases hN : I1 < 1099511627776
  ·by_cases hO : I2 < 1099511627776
   ·exact ⟨_, _, _, _, _, _, _, _, _, _, _, _, _, _, _, _, _, _, _, _, _, _, _, _, _, _, _, _, _, _, by simp only [hb, cond_true, decide_eq_true hN, decide_eq_true hO, Bool.and_self, hw2]; rfl, (f44_iff _ _ _ _ _ _ _ _ _ _ _ _ _ _ _ _ _ _ _ _ _ _ _ _ _ _ _ _ _).2 ⟨⟨by omega, by omega⟩, ⟨by omega, by omega⟩, ⟨by omega, by omega⟩, hq, hx, hy, hz⟩, fun h => h, Int.le_refl _, .inl ⟨rfl, .inl rfl⟩⟩
   ·exact ⟨_, _, _, _, _, _, _, _, _, _, _, _, _, _, _, _, _, _, _, _, _, _, _, _, _, _, _, _, _, _, by simp only [hb, cond_true, decide_eq_false hO, Bool.and_false, cond_false]; rfl, hs, fun h => h, Int.le_refl _, .inl ⟨rfl, .inr ⟨.inr (by omega), rfl⟩⟩⟩
  ·exact ⟨_, _, _, _, _, _, _, _, _, _, _, _, _, _, _, _, _, _, _, _, _, _, _, _, _, _, _, _, _, _, by simp only [hb, cond_true, decide_eq_false hN, Bool.false_and, cond_false]; rfl, hs, fun h => h, Int.le_refl _, .inl ⟨rfl, .inr ⟨.inl (by omega), rfl⟩⟩⟩
theorem keep3 (I0 I1 I2 I3 I4 I5 I6 I7 I8 I9 : Int) (I10 : Bool) (I11 I12 I13 I14 I15 : Int) (I16 : Bool) (I17 I18 I19 I20 I21 : Int) (I22 : Bool) (I23 I24 I25 I26 I27 : Int) (I28 : Bool) (Z0 Z1 Z2 Z3 Z4 Z5 Z6 Z7 Z8 Z9 Z10 Z11 Z12 Z13 Z14 Z15 Z16 Z17 Z18 Z19 : Int) (J0 J2 J3 J4 : Int) (hs : f44 I0 I1 I2 I3 I4 I5 I6 I7 I8 I9 I10 I11 I12 I13 I14 I15 I16 I17 I18 I19 I20 I21 I22 I23 I24 I25 I26 I27 I28 = true) : ∃ b0 b1 b2 b3 b4 b5 b6 b7 b8 b9 b10 b11 b12 b13 b14 b15 b16 b17 b18 b19 b20 b21 b22 b23 b24 b25 b26 b27 b28 E, f24p3 I0 I1 I2 I3 I4 I5 I6 I7 I8 I9 I10 I11 I12 I13 I14 I15 I16 I17 I18 I19 I20 I21 I22 I23 I24 I25 I26 I27 I28 Z0 Z1 Z2 Z3 Z4 Z5 Z6 Z7 Z8 Z9 Z10 Z11 Z12 Z13 Z14 Z15 Z16 Z17 Z18 Z19 J0 J2 J3 J4 = (b0, b1, b2, b3, b4, b5, b6, b7, b8, b9, b10, b11, b12, b13, b14, b15, b16, b17, b18, b19, b20, b21, b22, b23, b24, b25, b26, b27, b28, E) ∧ f44 b0 b1 b2 b3 b4 b5 b6 b7 b8 b9 b10 b11 b12 b13 b14 b15 b16 b17 b18 b19 b20 b21 b22 b23 b24 b25 b26 b27 b28 = true ∧ ((I10 || I16 || I22 || I28) = true → (b10 || b16 || b22 || b28) = true) ∧ I0 ≤ b0 ∧ ((b1 = I1 ∧ (b2 = I2 + 1 ∨ ((1099511627776 ≤ I1 ∨ 1099511627776 ≤ I2) ∧ b2 = I2))) ∨ (b1 = I1 + 1 ∧ (b2 = I2 ∨ b2 = I2 + 1))) := by
 have hk := f54_as I0 I1 I2 I3 I4 I5 I6 I7 I8 I9 I10 I11 I12 I13 I14 I15 I16 I17 I18 I19 I20 I21 I22 I23 I24 I25 I26 I27 I28 hs
 obtain ⟨⟨t0, t1⟩, ⟨n0, n1⟩, ⟨o0, o1⟩, hq, hx, hy, hz⟩ := (f44_iff I0 I1 I2 I3 I4 I5 I6 I7 I8 I9 I10 I11 I12 I13 I14 I15 I16 I17 I18 I19 I20 I21 I22 I23 I24 I25 I26 I27 I28).1 hs
 have wn : ∀ m : Int, 0 ≤ m → m ≤ 1099511627776 → IntKind.i64.wrap (m + 1) = m + 1 := fun m h0 h1 => (rg_iff (k := .i64)).2 ⟨by simp only [loK]; omega, by simp only [hiK]; omega⟩
 have hw1 := wn I1 n0 n1
 have hw2 := wn I2 o0 o1
 have hrd := rd3 I0 I1 I2 I3 I4 I5 I6 I7 I8 I9 I10 I11 I12 I13 I14 I15 I16 I17 I18 I19 I20 I21 I22 I23 I24 I25 I26 I27 I28 Z0 Z1 Z2 Z3 Z4 Z5 Z6 Z7 Z8 Z9 Z10 Z11 Z12 Z13 Z14 Z15 Z16 Z17 Z18 Z19 J0 J2 J3 J4
 unfold f24p3
 simp only [hk]
 generalize f101 I0 I1 I2 I3 I4 I5 I6 I7 I8 I9 I10 I11 I12 I13 I14 I15 I16 I17 I18 I19 I20 I21 I22 I23 I24 I25 I26 I27 I28 Z0 Z1 Z2 Z3 Z4 Z5 Z6 Z7 Z8 Z9 Z10 Z11 Z12 Z13 Z14 Z15 Z16 Z17 Z18 Z19 J0 3 J2 J3 J4 = E at hrd ⊢
 by_cases he : E.snd.snd.snd = 0
 ·obtain ⟨r0, r1, r2, r3, r4⟩ := hrd he
  generalize IntKind.i64.wrap (mnI (IntKind.i64.wrap (J0 - I0)) 16384 * 4194304) = D
  obtain ⟨p0, v0, pp0, pv0, vv0, c0, e0, s0, g0⟩ := pred_sane I11 I12 I13 I14 I15 I16 0 D 1073741824
  obtain ⟨p1, v1, pp1, pv1, vv1, c1, e1, s1, g1⟩ := pred_sane I17 I18 I19 I20 I21 I22 0 D 1073741824
  obtain ⟨p2, v2, pp2, pv2, vv2, c2, e2, s2, g2⟩ := pred_sane I23 I24 I25 I26 I27 I28 0 D 1073741824
  simp only [e0, e1, e2]
  obtain ⟨y2, yv2, yp2, yq2, yw2, d2, i2, m2, ms2, mg2⟩ := upd_sane p2 v2 pp2 pv2 vv2 c2 E.fst 1073741824 68719476736
  simp only [he, bne_self_eq_false, cond_false, Bool.cond_self, hw1, hw2, m2]
  generalize (!i2) = X
  cases X
  ·simp only [cond_true, cond_false]
   exact ⟨_, _, _, _, _, _, _, _, _, _, _, _, _, _, _, _, _, _, _, _, _, _, _, _, _, _, _, _, _, _, rfl, (f44_iff _ _ _ _ _ _ _ _ _ _ _ _ _ _ _ _ _ _ _ _ _ _ _ _ _ _ _ _ _).2 ⟨⟨by omega, by omega⟩, ⟨by omega, by omega⟩, ⟨by omega, by omega⟩, hq, s0, s1, ms2⟩, (flags4 (fun h => h) (fun h => g0 h) (fun h => g1 h) (fun h => mg2 (g2 h))), r0, .inr ⟨rfl, .inl rfl⟩⟩
  ·simp only [cond_true, cond_false]
   exact ⟨_, _, _, _, _, _, _, _, _, _, _, _, _, _, _, _, _, _, _, _, _, _, _, _, _, _, _, _, _, _, rfl, (f44_iff _ _ _ _ _ _ _ _ _ _ _ _ _ _ _ _ _ _ _ _ _ _ _ _ _ _ _ _ _).2 ⟨⟨by omega, by omega⟩, ⟨by omega, by omega⟩, ⟨by omega, by omega⟩, hq, s0, s1, ms2⟩, (flags4 (fun h => h) (fun h => g0 h) (fun h => g1 h) (fun h => mg2 (g2 h))), r0, .inr ⟨rfl, .inr rfl⟩⟩
 ·have hb : (E.snd.snd.snd != 0) = true := by simpa using he
  by_cases hN : I1 < 1099511627776
  ·by_cases hO : I2 < 1099511627776
   ·exact ⟨_, _, _, _, _, _, _, _, _, _, _, _, _, _, _, _, _, _, _, _, _, _, _, _, _, _, _, _, _, _, by simp only [hb, cond_true, decide_eq_true hN, decide_eq_true hO, Bool.and_self, hw2]; rfl, (f44_iff _ _ _ _ _ _ _ _ _ _ _ _ _ _ _ _ _ _ _ _ _ _ _ _ _ _ _ _ _).2 ⟨⟨by omega, by omega⟩, ⟨by omega, by omega⟩, ⟨by omega, by omega⟩, hq, hx, hy, hz⟩, fun h => h, Int.le_refl _, .inl ⟨rfl, .inl rfl⟩⟩
   ·exact ⟨_, _, _, _, _, _, _, _, _, _, _, _, _, _, _, _, _, _, _, _, _, _, _, _, _, _, _, _, _, _, by simp only [hb, cond_true, decide_eq_false hO, Bool.and_false, cond_false]; rfl, hs, fun h => h, Int.le_refl _, .inl ⟨rfl, .inr ⟨.inr (by omega), rfl⟩⟩⟩
  ·exact ⟨_, _, _, _, _, _, _, _, _, _, _, _, _, _, _, _, _, _, _, _, _, _, _, _, _, _, _, _, _, _, by simp only [hb, cond_true, decide_eq_false hN, Bool.false_and, cond_false]; rfl, hs, fun h => h, Int.le_refl _, .inl ⟨rfl, .inr ⟨.inl (by omega), rfl⟩⟩⟩
theorem keepe (I0 I1 I2 I3 I4 I5 I6 I7 I8 I9 : Int) (I10 : Bool) (I11 I12 I13 I14 I15 : Int) (I16 : Bool) (I17 I18 I19 I20 I21 : Int) (I22 : Bool) (I23 I24 I25 I26 I27 : Int) (I28 : Bool) (Z0 Z1 Z2 Z3 Z4 Z5 Z6 Z7 Z8 Z9 Z10 Z11 Z12 Z13 Z14 Z15 Z16 Z17 Z18 Z19 : Int) (J0 J1 J2 J3 J4 : Int) (hs : f44 I0 I1 I2 I3 I4 I5 I6 I7 I8 I9 I10 I11 I12 I13 I14 I15 I16 I17 I18 I19 I20 I21 I22 I23 I24 I25 I26 I27 I28 = true) : ∃ b0 b1 b2 b3 b4 b5 b6 b7 b8 b9 b10 b11 b12 b13 b14 b15 b16 b17 b18 b19 b20 b21 b22 b23 b24 b25 b26 b27 b28 E, f24pe I0 I1 I2 I3 I4 I5 I6 I7 I8 I9 I10 I11 I12 I13 I14 I15 I16 I17 I18 I19 I20 I21 I22 I23 I24 I25 I26 I27 I28 Z0 Z1 Z2 Z3 Z4 Z5 Z6 Z7 Z8 Z9 Z10 Z11 Z12 Z13 Z14 Z15 Z16 Z17 Z18 Z19 J0 J1 J2 J3 J4 = (b0, b1, b2, b3, b4, b5, b6, b7, b8, b9, b10, b11, b12, b13, b14, b15, b16, b17, b18, b19, b20, b21, b22, b23, b24, b25, b26, b27, b28, E) ∧ f44 b0 b1 b2 b3 b4 b5 b6 b7 b8 b9 b10 b11 b12 b13 b14 b15 b16 b17 b18 b19 b20 b21 b22 b23 b24 b25 b26 b27 b28 = true ∧ ((I10 || I16 || I22 || I28) = true → (b10 || b16 || b22 || b28) = true) ∧ I0 ≤ b0 ∧ ((b1 = I1 ∧ (b2 = I2 + 1 ∨ ((1099511627776 ≤ I1 ∨ 1099511627776 ≤ I2) ∧ b2 = I2))) ∨ (b1 = I1 + 1 ∧ (b2 = I2 ∨ b2 = I2 + 1))) := by
 have hk := f54_as I0 I1 I2 I3 I4 I5 I6 I7 I8 I9 I10 I11 I12 I13 I14 I15 I16 I17 I18 I19 I20 I21 I22 I23 I24 I25 I26 I27 I28 hs
 obtain ⟨⟨t0, t1⟩, ⟨n0, n1⟩, ⟨o0, o1⟩, hq, hx, hy, hz⟩ := (f44_iff I0 I1 I2 I3 I4 I5 I6 I7 I8 I9 I10 I11 I12 I13 I14 I15 I16 I17 I18 I19 I20 I21 I22 I23 I24 I25 I26 I27 I28).1 hs
 have wn : ∀ m : Int, 0 ≤ m → m ≤ 1099511627776 → IntKind.i64.wrap (m + 1) = m + 1 := fun m h0 h1 => (rg_iff (k := .i64)).2 ⟨by simp only [loK]; omega, by simp only [hiK]; omega⟩
 have hw1 := wn I1 n0 n1
 have hw2 := wn I2 o0 o1
 unfold f24pe
 simp only [hk]
 by_cases hN : I1 < 1099511627776
 ·by_cases hO : I2 < 1099511627776
  ·exact ⟨_, _, _, _, _, _, _, _, _, _, _, _, _, _, _, _, _, _, _, _, _, _, _, _, _, _, _, _, _, _, by simp only [decide_eq_true hN, decide_eq_true hO, Bool.and_self, cond_true, hw2]; rfl, (f44_iff _ _ _ _ _ _ _ _ _ _ _ _ _ _ _ _ _ _ _ _ _ _ _ _ _ _ _ _ _).2 ⟨⟨by omega, by omega⟩, ⟨by omega, by omega⟩, ⟨by omega, by omega⟩, hq, hx, hy, hz⟩, fun h => h, Int.le_refl _, .inl ⟨rfl, .inl rfl⟩⟩
  ·exact ⟨_, _, _, _, _, _, _, _, _, _, _, _, _, _, _, _, _, _, _, _, _, _, _, _, _, _, _, _, _, _, by simp only [decide_eq_false hO, Bool.and_false, cond_false]; rfl, hs, fun h => h, Int.le_refl _, .inl ⟨rfl, .inr ⟨.inr (by omega), rfl⟩⟩⟩
 ·exact ⟨_, _, _, _, _, _, _, _, _, _, _, _, _, _, _, _, _, _, _, _, _, _, _, _, _, _, _, _, _, _, by simp only [decide_eq_false hN, Bool.false_and, cond_false]; rfl, hs, fun h => h, Int.le_refl _, .inl ⟨rfl, .inr ⟨.inl (by omega), rfl⟩⟩⟩
theorem keep (I0 I1 I2 I3 I4 I5 I6 I7 I8 I9 : Int) (I10 : Bool) (I11 I12 I13 I14 I15 : Int) (I16 : Bool) (I17 I18 I19 I20 I21 : Int) (I22 : Bool) (I23 I24 I25 I26 I27 : Int) (I28 : Bool) (Z0 Z1 Z2 Z3 Z4 Z5 Z6 Z7 Z8 Z9 Z10 Z11 Z12 Z13 Z14 Z15 Z16 Z17 Z18 Z19 : Int) (J0 J1 J2 J3 J4 : Int) (hs : f44 I0 I1 I2 I3 I4 I5 I6 I7 I8 I9 I10 I11 I12 I13 I14 I15 I16 I17 I18 I19 I20 I21 I22 I23 I24 I25 I26 I27 I28 = true) : ∃ b0 b1 b2 b3 b4 b5 b6 b7 b8 b9 b10 b11 b12 b13 b14 b15 b16 b17 b18 b19 b20 b21 b22 b23 b24 b25 b26 b27 b28 E, f59 I0 I1 I2 I3 I4 I5 I6 I7 I8 I9 I10 I11 I12 I13 I14 I15 I16 I17 I18 I19 I20 I21 I22 I23 I24 I25 I26 I27 I28 Z0 Z1 Z2 Z3 Z4 Z5 Z6 Z7 Z8 Z9 Z10 Z11 Z12 Z13 Z14 Z15 Z16 Z17 Z18 Z19 J0 J1 J2 J3 J4 = (b0, b1, b2, b3, b4, b5, b6, b7, b8, b9, b10, b11, b12, b13, b14, b15, b16, b17, b18, b19, b20, b21, b22, b23, b24, b25, b26, b27, b28, E) ∧ f44 b0 b1 b2 b3 b4 b5 b6 b7 b8 b9 b10 b11 b12 b13 b14 b15 b16 b17 b18 b19 b20 b21 b22 b23 b24 b25 b26 b27 b28 = true ∧ ((I10 || I16 || I22 || I28) = true → (b10 || b16 || b22 || b28) = true) ∧ I0 ≤ b0 ∧ ((b1 = I1 ∧ (b2 = I2 + 1 ∨ ((1099511627776 ≤ I1 ∨ 1099511627776 ≤ I2) ∧ b2 = I2))) ∨ (b1 = I1 + 1 ∧ (b2 = I2 ∨ b2 = I2 + 1))) := by
 unfold f59
 cases (J1 == 0)
 ·cases (J1 == 1)
  ·cases (J1 == 2)
   ·cases (J1 == 3)
    ·simp only [cond_false]; exact keepe I0 I1 I2 I3 I4 I5 I6 I7 I8 I9 I10 I11 I12 I13 I14 I15 I16 I17 I18 I19 I20 I21 I22 I23 I24 I25 I26 I27 I28 Z0 Z1 Z2 Z3 Z4 Z5 Z6 Z7 Z8 Z9 Z10 Z11 Z12 Z13 Z14 Z15 Z16 Z17 Z18 Z19 J0 J1 J2 J3 J4 hs
    ·simp only [cond_true, cond_false]; exact keep3 I0 I1 I2 I3 I4 I5 I6 I7 I8 I9 I10 I11 I12 I13 I14 I15 I16 I17 I18 I19 I20 I21 I22 I23 I24 I25 I26 I27 I28 Z0 Z1 Z2 Z3 Z4 Z5 Z6 Z7 Z8 Z9 Z10 Z11 Z12 Z13 Z14 Z15 Z16 Z17 Z18 Z19 J0 J2 J3 J4 hs
   ·simp only [cond_true, cond_false]; exact keep2 I0 I1 I2 I3 I4 I5 I6 I7 I8 I9 I10 I11 I12 I13 I14 I15 I16 I17 I18 I19 I20 I21 I22 I23 I24 I25 I26 I27 I28 Z0 Z1 Z2 Z3 Z4 Z5 Z6 Z7 Z8 Z9 Z10 Z11 Z12 Z13 Z14 Z15 Z16 Z17 Z18 Z19 J0 J2 J3 J4 hs
  ·simp only [cond_true, cond_false]; exact keep1 I0 I1 I2 I3 I4 I5 I6 I7 I8 I9 I10 I11 I12 I13 I14 I15 I16 I17 I18 I19 I20 I21 I22 I23 I24 I25 I26 I27 I28 Z0 Z1 Z2 Z3 Z4 Z5 Z6 Z7 Z8 Z9 Z10 Z11 Z12 Z13 Z14 Z15 Z16 Z17 Z18 Z19 J0 J2 J3 J4 hs
 ·simp only [cond_true, cond_false]; exact keep0 I0 I1 I2 I3 I4 I5 I6 I7 I8 I9 I10 I11 I12 I13 I14 I15 I16 I17 I18 I19 I20 I21 I22 I23 I24 I25 I26 I27 I28 Z0 Z1 Z2 Z3 Z4 Z5 Z6 Z7 Z8 Z9 Z10 Z11 Z12 Z13 Z14 Z15 Z16 Z17 Z18 Z19 J0 J2 J3 J4 hs
def Cn (p y : T29) : Prop := p.1 ≤ y.1 ∧ ((y.2.1 = p.2.1 ∧ (y.2.2.1 = p.2.2.1 + 1 ∨ ((1099511627776 ≤ p.2.1 ∨ 1099511627776 ≤ p.2.2.1) ∧ y.2.2.1 = p.2.2.1))) ∨ (y.2.1 = p.2.1 + 1 ∧ (y.2.2.1 = p.2.2.1 ∨ y.2.2.1 = p.2.2.1 + 1)))
theorem step_keeps (c : C20) (p : T29) (s : S5) (h : Sn p) : Sn (stepR c p s) ∧ (Bd p = true → Bd (stepR c p s) = true) ∧ Cn p (stepR c p s) := by
 obtain ⟨b0, b1, b2, b3, b4, b5, b6, b7, b8, b9, b10, b11, b12, b13, b14, b15, b16, b17, b18, b19, b20, b21, b22, b23, b24, b25, b26, b27, b28, E, he, h1, h2, h3, h4⟩ := keep p.1 p.2.1 p.2.2.1 p.2.2.2.1 p.2.2.2.2.1 p.2.2.2.2.2.1 p.2.2.2.2.2.2.1 p.2.2.2.2.2.2.2.1 p.2.2.2.2.2.2.2.2.1 p.2.2.2.2.2.2.2.2.2.1 p.2.2.2.2.2.2.2.2.2.2.1 p.2.2.2.2.2.2.2.2.2.2.2.1 p.2.2.2.2.2.2.2.2.2.2.2.2.1 p.2.2.2.2.2.2.2.2.2.2.2.2.2.1 p.2.2.2.2.2.2.2.2.2.2.2.2.2.2.1 p.2.2.2.2.2.2.2.2.2.2.2.2.2.2.2.1 p.2.2.2.2.2.2.2.2.2.2.2.2.2.2.2.2.1 p.2.2.2.2.2.2.2.2.2.2.2.2.2.2.2.2.2.1 p.2.2.2.2.2.2.2.2.2.2.2.2.2.2.2.2.2.2.1 p.2.2.2.2.2.2.2.2.2.2.2.2.2.2.2.2.2.2.2.1 p.2.2.2.2.2.2.2.2.2.2.2.2.2.2.2.2.2.2.2.2.1 p.2.2.2.2.2.2.2.2.2.2.2.2.2.2.2.2.2.2.2.2.2.1 p.2.2.2.2.2.2.2.2.2.2.2.2.2.2.2.2.2.2.2.2.2.2.1 p.2.2.2.2.2.2.2.2.2.2.2.2.2.2.2.2.2.2.2.2.2.2.2.1 p.2.2.2.2.2.2.2.2.2.2.2.2.2.2.2.2.2.2.2.2.2.2.2.2.1 p.2.2.2.2.2.2.2.2.2.2.2.2.2.2.2.2.2.2.2.2.2.2.2.2.2.1 p.2.2.2.2.2.2.2.2.2.2.2.2.2.2.2.2.2.2.2.2.2.2.2.2.2.2.1 p.2.2.2.2.2.2.2.2.2.2.2.2.2.2.2.2.2.2.2.2.2.2.2.2.2.2.2.1 p.2.2.2.2.2.2.2.2.2.2.2.2.2.2.2.2.2.2.2.2.2.2.2.2.2.2.2.2 c.1 c.2.1 c.2.2.1 c.2.2.2.1 c.2.2.2.2.1 c.2.2.2.2.2.1 c.2.2.2.2.2.2.1 c.2.2.2.2.2.2.2.1 c.2.2.2.2.2.2.2.2.1 c.2.2.2.2.2.2.2.2.2.1 c.2.2.2.2.2.2.2.2.2.2.1 c.2.2.2.2.2.2.2.2.2.2.2.1 c.2.2.2.2.2.2.2.2.2.2.2.2.1 c.2.2.2.2.2.2.2.2.2.2.2.2.2.1 c.2.2.2.2.2.2.2.2.2.2.2.2.2.2.1 c.2.2.2.2.2.2.2.2.2.2.2.2.2.2.2.1 c.2.2.2.2.2.2.2.2.2.2.2.2.2.2.2.2.1 c.2.2.2.2.2.2.2.2.2.2.2.2.2.2.2.2.2.1 c.2.2.2.2.2.2.2.2.2.2.2.2.2.2.2.2.2.2.1 c.2.2.2.2.2.2.2.2.2.2.2.2.2.2.2.2.2.2.2 s.1 s.2.1 s.2.2.1 s.2.2.2.1 s.2.2.2.2 h
 have hst : stepR c p s = (b0, b1, b2, b3, b4, b5, b6, b7, b8, b9, b10, b11, b12, b13, b14, b15, b16, b17, b18, b19, b20, b21, b22, b23, b24, b25, b26, b27, b28) := by unfold stepR feed; rw [he]
 rw [hst]
 exact ⟨h1, h2, h3, h4⟩
end Go.Proofs.YtdchdajjhofmnaaGreat
namespace Go.Proofs.YtdchdajjhofmnaaGreat
open Go Go.RowKit Go.Proofs Go.Sx
set_option linter.unusedVariables false
set_option linter.unusedSimpArgs false
set_option linter.constructorNameAsVariable false
set_option maxRecDepth 1000000
set_option maxHeartbeats 100000000
abbrev RunF : Type := C20 → T29 → List S5 → T29
noncomputable def Rv (F : RunF) : RSumm := fun vs => match vs with
 | [.agg xs, .agg cs, .tsl ks n f] => match asAll K29 xs, asAll K20 cs with
  | some r1, some r2 => if CK.beqL ks K5 then some (true, g54 (F (c20 r2) (t29 r1) (rdL row5 n f))) else none
  | _, _ => none
 | _ => none
noncomputable def runP : RunF := fun c p l => l.foldl (stepR c) (st60 p)
noncomputable def runQ : RunF := fun c p l => l.foldl (stepR c) (st65 p)
theorem R20_v : R20 = Rv runP := by kernel_rfl
theorem R21_v : R21 = Rv runQ := by kernel_rfl
noncomputable def E4 (F G : RunF) : Env := ⟨Go.Proofs.Tryz.prog, [(17, S17), (22, S22), (19, S19)], 3, 336, false, [], [], [], [(20, Rv F), (21, Rv G)]⟩
theorem E4_ok : (E4 runP runQ).Ok := envOkR' (S := [(17, S17), (22, S22), (19, S19)]) (HS := []) (RS := [(20, Rv runP), (21, Rv runQ)]) ⟨S17_ok, S22_ok, S19_ok, trivial⟩ trivial ⟨R20_v ▸ R20_ok, R21_v ▸ R21_ok, trivial⟩
noncomputable def eq40 (p q : T29) : Bool := match eqS Go.Proofs.Tryz.prog 12 40 (g54 p) (g54 q) with | some b => b.val | none => false
def valB (r : SV × SHeap) : Bool := match r.1 with | .bool b => b.val | _ => false
def zz (n : Nat) (z : Int) : Int := (bitsv BinOp.and IntKind.i64 z 65535).tmod (IntKind.i64.wrap ((n : Int) + 1))
theorem ev4 (F G : RunF) (c : C20) (n : Nat) (f : Nat → Nat → Tr) (z : Int) : T.mapX valB (symCall (E4 F G) 30 4 [svC c, .tsl K5 n f, iv z] []) =
  .ite (decide ((n : Int) > 60)) (.ret true) (.ite (ltB 0 (IntKind.i64.wrap ((n : Int) + 1))) (.ite true (.ite (leB 0 (zz n z) && leB (zz n z) n) (.ite true (.ite (leB 0 (zz n z) && (leB (zz n z) n && leB n n)) (.ite true
   (.ite (!(eq40 (F c f17 (rdL row5 n f)) (F c (F c f17 (rdL row5 (zz n z).toNat (fun i => f (0 + i)))) (rdL row5 (n - (zz n z).toNat) (fun i => f ((zz n z).toNat + i)))) == true) || true)
    (.ret (eq40 (F c f17 (rdL row5 n f)) (F c (F c f17 (rdL row5 (zz n z).toNat (fun i => f (0 + i)))) (rdL row5 (n - (zz n z).toNat) (fun i => f ((zz n z).toNat + i)))) && eq40 (F c f17 (rdL row5 n f)) (G c f22 (rdL row5 n f)))) .fail) .fail) .fail) .fail) .fail) .fail) .fail) := by kernel_rfl
theorem andB_val (x y : SB) : (andB x y).val = (x.val && y.val) := by
 cases x with
 | lit b => cases b <;> cases y <;> rfl
 | sym a => cases y with
  | lit b => cases b <;> simp [andB, SB.val]
  | sym b => rfl
theorem mkB_val (l b : Bool) : (mkB l b).val = b := by cases l <;> rfl
theorem eqF_self {P : Program} {eq : TypeId → SV → SV → Option SB} (h : ∀ t x r, eq t x x = some r → r.val = true) (xs : List SV) : ∀ (fs : List Field) (r : SB), eqF P eq xs xs fs = some r → r.val = true
 | [], r, hr => by simp only [eqF, Option.some.injEq] at hr; subst hr; rfl
 | f :: fs, r, hr => by
  unfold eqF at hr
  split at hr <;> (try simp only [reduceCtorEq] at hr)
  split at hr <;> (try simp only [reduceCtorEq] at hr)
  rename_i a b ha hb
  rw [ha] at hb; simp only [Option.some.injEq] at hb; subst hb
  split at hr <;> simp only [Option.some.injEq, reduceCtorEq] at hr
  rename_i r1 r2 h1 h2
  subst hr
  rw [andB_val, h _ _ _ h1, eqF_self h xs fs _ h2]; rfl
theorem eqA_self {P : Program} {eq : TypeId → SV → SV → Option SB} (h : ∀ t x r, eq t x x = some r → r.val = true) (e : TypeId) (s : Nat) (xs : List SV) : ∀ (n i : Nat) (r : SB), eqA P eq e s xs xs i n = some r → r.val = true
 | 0, i, r, hr => by simp only [eqA, Option.some.injEq] at hr; subst hr; rfl
 | n + 1, i, r, hr => by
  unfold eqA at hr
  split at hr <;> (try simp only [reduceCtorEq] at hr)
  rename_i a b ha hb
  rw [ha] at hb; simp only [Option.some.injEq] at hb; subst hb
  split at hr <;> simp only [Option.some.injEq, reduceCtorEq] at hr
  rename_i r1 r2 h1 h2
  subst hr
  rw [andB_val, h _ _ _ h1, eqA_self h e s xs n (i + 1) _ h2]; rfl
theorem eqS_self {P : Program} : ∀ (d : Nat) (t : TypeId) (x : SV) (r : SB), eqS P d t x x = some r → r.val = true
 | 0, _, _, r, h => by simp [eqS] at h
 | d + 1, t, x, r, h => by
  unfold eqS at h
  split at h <;> (try simp only [reduceCtorEq] at h)
  ·cases x <;> simp only [Option.some.injEq, reduceCtorEq] at h
   subst h; rw [eqB, mkB_val]; simp
  ·cases x <;> (try simp only [reduceCtorEq] at h)
   split at h <;> simp only [Option.some.injEq, reduceCtorEq] at h
   subst h; rw [eqI, mkB_val]; simp
  ·cases x <;> simp only [Option.some.injEq, reduceCtorEq] at h
   subst h; rfl
  ·cases x <;> (try simp only [reduceCtorEq] at h)
   split at h <;> (try simp only [reduceCtorEq] at h)
   exact eqF_self (fun t x r => eqS_self d t x r) _ _ _ h
  ·cases x <;> (try simp only [reduceCtorEq] at h)
   rw [Option.bind_eq_some_iff] at h
   obtain ⟨s, _, h⟩ := h
   exact eqA_self (fun t x r => eqS_self d t x r) _ _ _ _ _ _ h
theorem eq40_some (p q : T29) : (match eqS Go.Proofs.Tryz.prog 12 40 (g54 p) (g54 q) with | some _ => true | none => false) = true := by kernel_rfl
theorem eq40_self (p : T29) : eq40 p p = true := by
 have h := eq40_some p p
 unfold eq40
 split at h
 ·rename_i r hr; exact eqS_self _ _ _ _ hr
 ·cases h
theorem foldl_sn (c : C20) : ∀ (l : List S5) (p : T29), Sn p → Sn (l.foldl (stepR c) p)
 | [], _, h => h
 | s :: l, p, h => foldl_sn c l _ (step_keeps c p s h).1
theorem runP_app (c : C20) (p : T29) (l m : List S5) : runP c (runP c p l) m = runP c p (l ++ m) := by
 unfold runP
 rw [List.foldl_append, st60_sane _ (foldl_sn c l _ (st60_sn p))]
theorem rdL_app (n : Nat) (k : Nat) (hk : k ≤ n) (f : Nat → Nat → Tr) : rdL row5 k (fun i => f (0 + i)) ++ rdL row5 (n - k) (fun i => f (k + i)) = rdL row5 n f := by
 unfold rdL
 have h : n = k + (n - k) := by omega
 conv => rhs; rw [h, List.range_add, List.map_append, List.map_map]
 simp [Function.comp_def]
theorem zz_ok {n : Nat} (hn : n ≤ 60) (z : Int) : 0 ≤ zz n z ∧ zz n z ≤ n := by
 have hw : IntKind.i64.wrap ((n : Int) + 1) = (n : Int) + 1 := (rg_iff (k := .i64)).2 ⟨by simp only [loK]; omega, by simp only [hiK]; omega⟩
 unfold zz
 rw [hw]
 have h0 : 0 ≤ bitsv BinOp.and IntKind.i64 z 65535 := by rw [and_mask (.inl rfl) z 16 (by omega) 65535 rfl]; exact Int.emod_nonneg _ (by decide)
 have := Int.tmod_nonneg ((n : Int) + 1) h0
 have := Int.tmod_lt_of_pos (bitsv BinOp.and IntKind.i64 z 65535) (b := (n : Int) + 1) (by omega)
 omega
theorem start_eq : f22 = f17 := by kernel_rfl
theorem valB_yes (r : SV × SHeap) (h : valB r = true) : Yes r := by
 obtain ⟨v, H⟩ := r
 cases v <;> simp only [valB, Bool.false_eq_true] at h
 exact ⟨_, rfl, h⟩
theorem yes_of {t : Go.Sx.T (SV × SHeap)} (h : (T.mapX valB t).Holds (· = true)) : t.Holds Yes := T.Holds.mono valB_yes (T.mapX_holds h)
theorem yes_calls' {E : Env} (hE : E.Ok) {d : Nat} {f : FuncId} {W : World} {vs : List SV} {vals : List Value} (hv : relL (labW W) vs vals) {t : Go.Sx.T (SV × SHeap)} (ht : t = symCall E d f vs []) (hK : t.Holds Yes) :
  Calls E.P f vals.toArray W fun e W' => e = .returned (.bool true) ∧ Below W.heap.size W W' := by
 subst ht; exact yes_calls hE d f hv hK
theorem yes4 (c : C20) (n : Nat) (f : Nat → Nat → Tr) (z : Int) (t : Go.Sx.T (SV × SHeap)) (ht : t = symCall (E4 runP runQ) 30 4 [svC c, .tsl K5 n f, iv z] []) : t.Holds Yes := by
 have h := (congrArg (T.mapX valB) ht).trans (ev4 runP runQ c n f z)
 refine yes_of ?_
 rw [h]
 refine ⟨fun _ => rfl, fun e0 => ?_⟩
 have hn : n ≤ 60 := by have := of_decide_eq_false e0; omega
 obtain ⟨h0, h1⟩ := zz_ok hn z
 have hw : IntKind.i64.wrap ((n : Int) + 1) = (n : Int) + 1 := (rg_iff (k := .i64)).2 ⟨by simp only [loK]; omega, by simp only [hiK]; omega⟩
 refine holds_chk (by rw [hw, ltB_true]; omega) (holds_chk rfl (holds_chk ?_ (holds_chk rfl (holds_chk ?_ (holds_chk rfl (holds_chk ?_ ?_))))))
 ·rw [Bool.and_eq_true, leB_true, leB_true]; exact ⟨h0, h1⟩
 ·rw [Bool.and_eq_true, Bool.and_eq_true, leB_true, leB_true, leB_true]; exact ⟨h0, h1, Int.le_refl _⟩
 ·exact Bool.or_true _
 ·show (_ && _) = true
  have hk : (zz n z).toNat ≤ n := by omega
  have h3 : runQ c f22 (rdL row5 n f) = runP c f17 (rdL row5 n f) := by unfold runQ runP; rw [e65, start_eq]
  rw [runP_app, rdL_app n _ hk, h3, eq40_self]; rfl
theorem calls4 {W : World} (c : C20) (n : Nat) (f : Nat → Nat → Tr) (z : Int) {vals : List Value} (hv : relL (labW W) [svC c, .tsl K5 n f, .int .i64 (.sym z)] vals) :
  Calls Go.Proofs.Tryz.prog 4 vals.toArray W fun e W' => e = .returned (.bool true) ∧ Below W.heap.size W W' := by
 obtain ⟨t, ht⟩ : ∃ t, t = symCall (E4 runP runQ) 30 4 [svC c, .tsl K5 n f, iv z] [] := ⟨_, rfl⟩
 exact yes_calls' E4_ok hv ht (yes4 c n f z t ht)
def cC (g : Nat → Tr) : C20 := ((g 0).i, (g 1).i, (g 2).i, (g 3).i, (g 4).i, (g 5).i, (g 6).i, (g 7).i, (g 8).i, (g 9).i, (g 10).i, (g 11).i, (g 12).i, (g 13).i, (g 14).i, (g 15).i, (g 16).i, (g 17).i, (g 18).i, (g 19).i)
theorem cC_cells (g : Nat → Tr) : SV.agg (cellsT g 0 K20) = svC (cC g) := by kernel_rfl
theorem row4 {W : World} {v0 v1 v2 : Value} (g0 : Nat → Tr) (g1 g2 : Tr) (e0 : SV.rel (labW W) (.agg (cellsT g0 0 K20)) v0) (e1 : SV.rel (labW W) (cellT (fun _ => g1) 0 (.sl K5)) v1) (e2 : SV.rel (labW W) (cellT (fun _ => g2) 0 (.int .i64)) v2) :
  Calls Go.Proofs.Tryz.prog 4 #[v0, v1, v2] W fun e W' => e = .returned (.bool true) ∧ Below W.heap.size W W' :=
 calls4 (vals := [v0, v1, v2]) (cC g0) g1.n g1.f g2.i (relL_cons.2 ⟨v0, _, cC_cells g0 ▸ e0, relL_cons.2 ⟨v1, _, e1, relL_cons.2 ⟨v2, _, e2, rfl, rfl⟩, rfl⟩, rfl⟩)
end Go.Proofs.YtdchdajjhofmnaaGreat
