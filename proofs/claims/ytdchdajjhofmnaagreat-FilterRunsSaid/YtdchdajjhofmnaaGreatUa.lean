/- The methods of a pose at work: they write one object. -/
import Derived.Test.YtdchdajjhofmnaaGreatGh
namespace Go.Proofs.YtdchdajjhofmnaaGreat
open Go Go.Sx Go.RowKit Go.Proofs
noncomputable def Eu263 : Env := ⟨Go.Proofs.Tryz.prog, [], 3, 336, true, [], [], [], []⟩
theorem Eu263_ok : Eu263.Ok := envOkU' (S := []) (HS := []) (US := []) (NS := []) trivial trivial trivial trivial
noncomputable def workH (x0 x1 x2 x3 x4 x5 x6 : Int) (b : Bool) (t u : Tag) : SHeap :=
 [some ([.int .i64 (.sym x0), .int .i64 (.sym x1), .int .i64 (.sym x2), .int .i64 (.sym x3), .int .i64 (.sym x4), .int .i64 (.sym x5), .int .i64 (.sym x6), .bool (.sym b), .func 306 [] [.ptr 1 0]], t), some ([.ptr 0 0], u)]
theorem vecE (x0 x1 x2 x3 x4 x5 x6 : Int) (b : Bool) (v0 v1 v2 : Int) (c : Bool) (t u : Tag) :
  symCall Eu263 30 263 [.ptr 0 0, .agg [iv v0, iv v1, iv v2], bv c] (workH x0 x1 x2 x3 x4 x5 x6 b t u) =
   .ret (.agg [.int .i64 (.sym v0), .int .i64 (.sym v1), .int .i64 (.sym v2)], workH x0 x1 x2 x3 x4 x5 x6 (b || c) (t.wr 7 1) u ++ [some ([.int .i64 (.sym v0), .int .i64 (.sym v1), .int .i64 (.sym v2)], ⟨26, none, 0, [], none⟩), some ([.int .i64 (.sym v0), .int .i64 (.sym v1), .int .i64 (.sym v2)], ⟨26, none, 1, [1, 1, 1], none⟩)]) := by kernel_rfl
def two (b0 b1 : Nat) : Lab := ⟨fun i => if i = 0 then some b0 else if i = 1 then some b1 else none, fun _ => false, fun _ => none⟩
noncomputable def U263 : USumm := fun vs H => match vs with
 | [.ptr l 0, .agg [.int .i64 v0, .int .i64 v1, .int .i64 v2], .bool c] => match hpOf H l with
  | some ([.int .i64 x0, .int .i64 x1, .int .i64 x2, .int .i64 x3, .int .i64 x4, .int .i64 x5, .int .i64 x6, .bool b, .func 306 [] [.ptr k 0]], ⟨ty, none, st, vr, none⟩) => match hpOf H k with
   | some ([.ptr l2 0], _) => if Nat.beq l2 l && !(Nat.beq l k) then
     some (.agg [.int .i64 v0, .int .i64 v1, .int .i64 v2], l, ([.int .i64 x0, .int .i64 x1, .int .i64 x2, .int .i64 x3, .int .i64 x4, .int .i64 x5, .int .i64 x6, .bool (.sym (b.val || c.val)), .func 306 [] [.ptr k 0]], (⟨ty, none, st, vr, none⟩ : Tag).wr 7 1)) else none
   | _ => none
  | _ => none
 | _ => none
theorem U263_pure : UPure U263 := by
 intro vs H r l ob h
 unfold U263 at h
 split at h <;> (try simp only [reduceCtorEq] at h)
 split at h <;> (try simp only [reduceCtorEq] at h)
 rename_i l' v0 v1 v2 c _ x0 x1 x2 x3 x4 x5 x6 b k ty st vr ho
 split at h <;> (try simp only [reduceCtorEq] at h)
 split at h <;> simp only [Option.some.injEq, Prod.mk.injEq, reduceCtorEq] at h
 obtain ⟨rfl, rfl, rfl⟩ := h
 refine ⟨_, ho, fun i => ?_, fun i e => ?_⟩
 ·simp only [Tag.wr, verAt_bump]; omega
 ·simp only [Tag.wr, verAt_bump] at e
  have : i ≠ 7 := fun hh => by rw [if_pos (by omega)] at e; omega
  match i with
  | 0 => rfl
  | 1 => rfl
  | 2 => rfl
  | 3 => rfl
  | 4 => rfl
  | 5 => rfl
  | 6 => rfl
  | 7 => exact absurd rfl this
  | 8 => rfl
  | _ + 9 => rfl
theorem U263_ok : USummFn Go.Proofs.Tryz.prog 263 U263 := by
 refine ⟨U263_pure, ?_⟩
 intro vs H r l ob h β w vals hv hr hfree
 unfold U263 at h
 split at h <;> (try simp only [reduceCtorEq] at h)
 split at h <;> (try simp only [reduceCtorEq] at h)
 rename_i l' v0 v1 v2 c _ x0 x1 x2 x3 x4 x5 x6 b k ty st vr ho
 split at h <;> (try simp only [reduceCtorEq] at h)
 rename_i l2 u hk
 split at h <;> simp only [Option.some.injEq, Prod.mk.injEq, reduceCtorEq] at h
 rename_i hc
 simp only [Bool.and_eq_true, Nat.beq_eq, Bool.not_eq_true'] at hc
 obtain ⟨e1, hne⟩ := hc
 have hne' : l' ≠ k := fun e => by rw [e] at hne; simp at hne
 subst e1
 obtain ⟨rfl, rfl, rfl⟩ := h
 obtain ⟨b0, cs0, rest0, hb0, hc0, hw0, hd0, ht0⟩ := hr.obj _ _ ho
 obtain ⟨b1, cs1, rest1, hb1, hc1, hw1, hd1, ht1⟩ := hr.obj _ _ hk
 have hbb : b0 ≠ b1 := fun e => hne' (hr.inj _ _ b0 hd0 hd1 hb0 (e ▸ hb1))
 have lt0 := hr.lt _ _ hd0 hb0
 have lt1 := hr.lt _ _ hd1 hb1
 obtain ⟨g, hg⟩ : ∃ g : Lab, g = two b0 b1 := ⟨_, rfl⟩
 have g0 : g 0 = some b0 := by rw [hg]; rfl
 have g1 : g 1 = some b1 := by rw [hg]; rfl
 have gn : ∀ i, 2 ≤ i → g i = none := fun i hi => by rw [hg]; show (if i = 0 then some b0 else if i = 1 then some b1 else none) = none; rw [if_neg (by omega), if_neg (by omega)]
 have gi : ∀ i b, g i = some b → (i = 0 ∧ b = b0) ∨ (i = 1 ∧ b = b1) := fun i b hi => by
  rcases Nat.lt_or_ge i 2 with h | h
  ·rcases (show i = 0 ∨ i = 1 by omega) with rfl | rfl
   ·rw [g0] at hi; simp only [Option.some.injEq] at hi; exact .inl ⟨rfl, hi.symm⟩
   ·rw [g1] at hi; simp only [Option.some.injEq] at hi; exact .inr ⟨rfl, hi.symm⟩
  ·rw [gn i h] at hi; simp at hi
 simp only [relL_cons, relL_nil, SV.rel] at hc0 hc1 hv
 obtain ⟨_, _, ⟨rfl, q0⟩, ⟨_, _, ⟨rfl, q1⟩, ⟨_, _, ⟨rfl, q2⟩, ⟨_, _, ⟨rfl, q3⟩, ⟨_, _, ⟨rfl, q4⟩, ⟨_, _, ⟨rfl, q5⟩, ⟨_, _, ⟨rfl, q6⟩, ⟨_, _, rfl, ⟨_, _, ⟨_, _, rfl, ⟨_, _, ⟨bk, hbk, rfl⟩, rfl, rfl⟩, rfl⟩, rfl, rfl⟩, rfl⟩, rfl⟩, rfl⟩, rfl⟩, rfl⟩, rfl⟩, rfl⟩, rfl⟩ := hc0
 obtain ⟨_, _, ⟨bl, hbl, rfl⟩, rfl, rfl⟩ := hc1
 rw [hb1] at hbk; simp only [Option.some.injEq] at hbk; subst hbk
 rw [hb0] at hbl; simp only [Option.some.injEq] at hbl; subst hbl
 obtain ⟨_, _, ⟨bl, hbl, rfl⟩, ⟨_, _, ⟨_, ⟨_, _, ⟨rfl, r0⟩, ⟨_, _, ⟨rfl, r1⟩, ⟨_, _, ⟨rfl, r2⟩, rfl, rfl⟩, rfl⟩, rfl⟩, rfl⟩, ⟨_, _, rfl, rfl, rfl⟩, rfl⟩, rfl⟩ := hv
 rw [hb0] at hbl; simp only [Option.some.injEq] at hbl; subst hbl
 have hgr : HR g (hpOf (workH x0.val x1.val x2.val x3.val x4.val x5.val x6.val b.val ⟨ty, none, st, vr, none⟩ ⟨u.ty, none, u.stamp, u.ver, none⟩)) w := by
  refine ⟨fun i o hi => ?_, fun i j bb _ _ h1 h2 => ?_, fun i bb _ h1 => ?_, fun b c h => by rw [hg] at h; simp [two] at h⟩
  ·match i with
   | 0 =>
    simp only [hpOf, workH, nth, Option.some.injEq] at hi; subst hi
    refine ⟨b0, _, rest0, g0, ?_, hw0, by rw [hg]; rfl, tagOk.nil rfl rfl⟩
    simp only [relL_cons, relL_nil, SV.rel, SI.val, SB.val]
    exact ⟨_, _, ⟨rfl, q0⟩, ⟨_, _, ⟨rfl, q1⟩, ⟨_, _, ⟨rfl, q2⟩, ⟨_, _, ⟨rfl, q3⟩, ⟨_, _, ⟨rfl, q4⟩, ⟨_, _, ⟨rfl, q5⟩, ⟨_, _, ⟨rfl, q6⟩, ⟨_, _, rfl, ⟨_, _, ⟨_, _, rfl, ⟨_, _, ⟨b1, g1, rfl⟩, rfl, rfl⟩, rfl⟩, rfl, rfl⟩, rfl⟩, rfl⟩, rfl⟩, rfl⟩, rfl⟩, rfl⟩, rfl⟩, rfl⟩
   | 1 =>
    simp only [hpOf, workH, nth, Option.some.injEq] at hi; subst hi
    refine ⟨b1, _, rest1, g1, ?_, hw1, by rw [hg]; rfl, tagOk.nil rfl rfl⟩
    simp only [relL_cons, relL_nil, SV.rel]
    exact ⟨_, _, ⟨b0, g0, rfl⟩, rfl, rfl⟩
   | i + 2 => simp [hpOf, workH, nth] at hi
  ·rcases gi _ _ h1 with ⟨rfl, rfl⟩ | ⟨rfl, rfl⟩ <;> rcases gi _ _ h2 with ⟨rfl, h3⟩ | ⟨rfl, h3⟩
   ·rfl
   ·exact absurd h3 hbb
   ·exact absurd h3.symm hbb
   ·rfl
  ·rcases gi _ _ h1 with ⟨_, rfl⟩ | ⟨_, rfl⟩
   ·exact lt0
   ·exact lt1
 refine symCall_sound Eu263_ok 30 263 [.ptr 0 0, .agg [iv v0.val, iv v1.val, iv v2.val], bv c.val] (workH x0.val x1.val x2.val x3.val x4.val x5.val x6.val b.val ⟨ty, none, st, vr, none⟩ ⟨u.ty, none, u.stamp, u.ver, none⟩) g w _ _ ?_ hgr (fun i hi => gn i (by simpa [workH] using hi)) ?_
 ·simp only [relL_cons, relL_nil, SV.rel, SI.val, SB.val]
  exact ⟨_, _, ⟨b0, g0, rfl⟩, ⟨_, _, ⟨_, ⟨_, _, ⟨rfl, r0⟩, ⟨_, _, ⟨rfl, r1⟩, ⟨_, _, ⟨rfl, r2⟩, rfl, rfl⟩, rfl⟩, rfl⟩, rfl⟩, ⟨_, _, rfl, rfl, rfl⟩, rfl⟩, rfl⟩
 ·rw [vecE]
  intro β' w' val he hr' _ hrel
  refine ⟨⟨val, rfl, flat_rel (β := β') _ _ rfl (by simpa only [SV.rel, relL_cons, relL_nil, SI.val] using hrel)⟩, fun bb hb hne2 => he.frame bb hb fun i hi => ?_, he.size, he.os, he.tape, he.output, ?_⟩
  ·rcases gi _ _ hi with ⟨rfl, rfl⟩ | ⟨rfl, rfl⟩
   ·exact absurd hb0 hne2
   ·rfl
  ·obtain ⟨b0', cs, rest, k1, k2, k3, _, _⟩ := hr'.obj 0 _ rfl
   have e0 := he.ext _ _ g0
   rw [k1] at e0; simp only [Option.some.injEq] at e0; subst e0
   have e1 := he.ext _ _ g1
   refine ⟨b0', cs, rest, hb0, ?_, k3, hd0, tagOk.nil rfl rfl⟩
   simp only [relL_cons, relL_nil, SV.rel, SI.val, SB.val] at k2 ⊢
   obtain ⟨_, _, ⟨rfl, q0⟩, ⟨_, _, ⟨rfl, q1⟩, ⟨_, _, ⟨rfl, q2⟩, ⟨_, _, ⟨rfl, q3⟩, ⟨_, _, ⟨rfl, q4⟩, ⟨_, _, ⟨rfl, q5⟩, ⟨_, _, ⟨rfl, q6⟩, ⟨_, _, rfl, ⟨_, _, ⟨_, _, rfl, ⟨_, _, ⟨bk, hbk, rfl⟩, rfl, rfl⟩, rfl⟩, rfl, rfl⟩, rfl⟩, rfl⟩, rfl⟩, rfl⟩, rfl⟩, rfl⟩, rfl⟩, rfl⟩ := k2
   rw [e1] at hbk; simp only [Option.some.injEq] at hbk; subst hbk
   exact ⟨_, _, ⟨rfl, q0⟩, ⟨_, _, ⟨rfl, q1⟩, ⟨_, _, ⟨rfl, q2⟩, ⟨_, _, ⟨rfl, q3⟩, ⟨_, _, ⟨rfl, q4⟩, ⟨_, _, ⟨rfl, q5⟩, ⟨_, _, ⟨rfl, q6⟩, ⟨_, _, rfl, ⟨_, _, ⟨_, _, rfl, ⟨_, _, ⟨b1, hb1, rfl⟩, rfl, rfl⟩, rfl⟩, rfl, rfl⟩, rfl⟩, rfl⟩, rfl⟩, rfl⟩, rfl⟩, rfl⟩, rfl⟩, rfl⟩
noncomputable def Eu307 : Env := ⟨Go.Proofs.Tryz.prog, [], 3, 336, true, [], [], [], []⟩
noncomputable def U307 : USumm := firstU Eu307 30 307
theorem U307_ok : USummFn Go.Proofs.Tryz.prog 307 U307 := firstU_ok (E := Eu307) (envOkU' (S := []) (HS := []) (US := []) (NS := []) trivial trivial trivial trivial)
noncomputable def Eu262 : Env := ⟨Go.Proofs.Tryz.prog, [(200, S200), (309, S309), (308, S308)], 3, 336, true, [], [(307, U307)], [], []⟩
noncomputable def U262 : USumm := firstU Eu262 30 262
theorem U262_ok : USummFn Go.Proofs.Tryz.prog 262 U262 := firstU_ok (E := Eu262) (envOkU' (S := [(200, S200), (309, S309), (308, S308)]) (HS := []) (US := [(307, U307)]) (NS := []) ⟨S200_ok, S309_ok, S308_ok, trivial⟩ trivial ⟨U307_ok, trivial⟩ trivial)
end Go.Proofs.YtdchdajjhofmnaaGreat
