/- filter.Run over a list that lies in memory: a fold of filter.Feed. -/
import Derived.Test.YtmnglkcodbecbaaGreatNd
import Derived.Test.YtmnglkcodbecbaaGreatX
namespace Go.Proofs.YtmnglkcodbecbaaGreat
open Go Go.RowKit Go.Proofs Go.Sx
set_option linter.unusedVariables false
set_option linter.unusedSimpArgs false
set_option linter.constructorNameAsVariable false
set_option maxRecDepth 1000000
set_option maxHeartbeats 100000000
abbrev T29 : Type := Int × Int × Int × Int × Int × Int × Int × Int × Int × Int × Bool × Int × Int × Int × Int × Int × Bool × Int × Int × Int × Int × Int × Bool × Int × Int × Int × Int × Int × Bool
abbrev C20 : Type := Int × Int × Int × Int × Int × Int × Int × Int × Int × Int × Int × Int × Int × Int × Int × Int × Int × Int × Int × Int
abbrev S5 : Type := Int × Int × Int × Int × Int
def svC (c : C20) : SV := .agg [.int .i64 (.sym c.1), .int .i64 (.sym c.2.1), .int .i64 (.sym c.2.2.1), .int .i64 (.sym c.2.2.2.1), .int .i64 (.sym c.2.2.2.2.1), .int .i64 (.sym c.2.2.2.2.2.1), .int .i64 (.sym c.2.2.2.2.2.2.1), .int .i64 (.sym c.2.2.2.2.2.2.2.1), .int .i64 (.sym c.2.2.2.2.2.2.2.2.1), .int .i64 (.sym c.2.2.2.2.2.2.2.2.2.1), .int .i64 (.sym c.2.2.2.2.2.2.2.2.2.2.1), .int .i64 (.sym c.2.2.2.2.2.2.2.2.2.2.2.1), .int .i64 (.sym c.2.2.2.2.2.2.2.2.2.2.2.2.1), .int .i64 (.sym c.2.2.2.2.2.2.2.2.2.2.2.2.2.1), .int .i64 (.sym c.2.2.2.2.2.2.2.2.2.2.2.2.2.2.1), .int .i64 (.sym c.2.2.2.2.2.2.2.2.2.2.2.2.2.2.2.1), .int .i64 (.sym c.2.2.2.2.2.2.2.2.2.2.2.2.2.2.2.2.1), .int .i64 (.sym c.2.2.2.2.2.2.2.2.2.2.2.2.2.2.2.2.2.1), .int .i64 (.sym c.2.2.2.2.2.2.2.2.2.2.2.2.2.2.2.2.2.2.1), .int .i64 (.sym c.2.2.2.2.2.2.2.2.2.2.2.2.2.2.2.2.2.2.2)]
def svS (c : S5) : SV := .agg [.int .i64 (.sym c.1), .int .i64 (.sym c.2.1), .int .i64 (.sym c.2.2.1), .int .i64 (.sym c.2.2.2.1), .int .i64 (.sym c.2.2.2.2)]
noncomputable def st60 (p : T29) : T29 := f60 p.1 p.2.1 p.2.2.1 p.2.2.2.1 p.2.2.2.2.1 p.2.2.2.2.2.1 p.2.2.2.2.2.2.1 p.2.2.2.2.2.2.2.1 p.2.2.2.2.2.2.2.2.1 p.2.2.2.2.2.2.2.2.2.1 p.2.2.2.2.2.2.2.2.2.2.1 p.2.2.2.2.2.2.2.2.2.2.2.1 p.2.2.2.2.2.2.2.2.2.2.2.2.1 p.2.2.2.2.2.2.2.2.2.2.2.2.2.1 p.2.2.2.2.2.2.2.2.2.2.2.2.2.2.1 p.2.2.2.2.2.2.2.2.2.2.2.2.2.2.2.1 p.2.2.2.2.2.2.2.2.2.2.2.2.2.2.2.2.1 p.2.2.2.2.2.2.2.2.2.2.2.2.2.2.2.2.2.1 p.2.2.2.2.2.2.2.2.2.2.2.2.2.2.2.2.2.2.1 p.2.2.2.2.2.2.2.2.2.2.2.2.2.2.2.2.2.2.2.1 p.2.2.2.2.2.2.2.2.2.2.2.2.2.2.2.2.2.2.2.2.1 p.2.2.2.2.2.2.2.2.2.2.2.2.2.2.2.2.2.2.2.2.2.1 p.2.2.2.2.2.2.2.2.2.2.2.2.2.2.2.2.2.2.2.2.2.2.1 p.2.2.2.2.2.2.2.2.2.2.2.2.2.2.2.2.2.2.2.2.2.2.2.1 p.2.2.2.2.2.2.2.2.2.2.2.2.2.2.2.2.2.2.2.2.2.2.2.2.1 p.2.2.2.2.2.2.2.2.2.2.2.2.2.2.2.2.2.2.2.2.2.2.2.2.2.1 p.2.2.2.2.2.2.2.2.2.2.2.2.2.2.2.2.2.2.2.2.2.2.2.2.2.2.1 p.2.2.2.2.2.2.2.2.2.2.2.2.2.2.2.2.2.2.2.2.2.2.2.2.2.2.2.1 p.2.2.2.2.2.2.2.2.2.2.2.2.2.2.2.2.2.2.2.2.2.2.2.2.2.2.2.2
noncomputable def feed (c : C20) (p : T29) (s : S5) : Int × Int × Int × Int × Int × Int × Int × Int × Int × Int × Bool × Int × Int × Int × Int × Int × Bool × Int × Int × Int × Int × Int × Bool × Int × Int × Int × Int × Int × Bool × Int := f24 p.1 p.2.1 p.2.2.1 p.2.2.2.1 p.2.2.2.2.1 p.2.2.2.2.2.1 p.2.2.2.2.2.2.1 p.2.2.2.2.2.2.2.1 p.2.2.2.2.2.2.2.2.1 p.2.2.2.2.2.2.2.2.2.1 p.2.2.2.2.2.2.2.2.2.2.1 p.2.2.2.2.2.2.2.2.2.2.2.1 p.2.2.2.2.2.2.2.2.2.2.2.2.1 p.2.2.2.2.2.2.2.2.2.2.2.2.2.1 p.2.2.2.2.2.2.2.2.2.2.2.2.2.2.1 p.2.2.2.2.2.2.2.2.2.2.2.2.2.2.2.1 p.2.2.2.2.2.2.2.2.2.2.2.2.2.2.2.2.1 p.2.2.2.2.2.2.2.2.2.2.2.2.2.2.2.2.2.1 p.2.2.2.2.2.2.2.2.2.2.2.2.2.2.2.2.2.2.1 p.2.2.2.2.2.2.2.2.2.2.2.2.2.2.2.2.2.2.2.1 p.2.2.2.2.2.2.2.2.2.2.2.2.2.2.2.2.2.2.2.2.1 p.2.2.2.2.2.2.2.2.2.2.2.2.2.2.2.2.2.2.2.2.2.1 p.2.2.2.2.2.2.2.2.2.2.2.2.2.2.2.2.2.2.2.2.2.2.1 p.2.2.2.2.2.2.2.2.2.2.2.2.2.2.2.2.2.2.2.2.2.2.2.1 p.2.2.2.2.2.2.2.2.2.2.2.2.2.2.2.2.2.2.2.2.2.2.2.2.1 p.2.2.2.2.2.2.2.2.2.2.2.2.2.2.2.2.2.2.2.2.2.2.2.2.2.1 p.2.2.2.2.2.2.2.2.2.2.2.2.2.2.2.2.2.2.2.2.2.2.2.2.2.2.1 p.2.2.2.2.2.2.2.2.2.2.2.2.2.2.2.2.2.2.2.2.2.2.2.2.2.2.2.1 p.2.2.2.2.2.2.2.2.2.2.2.2.2.2.2.2.2.2.2.2.2.2.2.2.2.2.2.2 c.1 c.2.1 c.2.2.1 c.2.2.2.1 c.2.2.2.2.1 c.2.2.2.2.2.1 c.2.2.2.2.2.2.1 c.2.2.2.2.2.2.2.1 c.2.2.2.2.2.2.2.2.1 c.2.2.2.2.2.2.2.2.2.1 c.2.2.2.2.2.2.2.2.2.2.1 c.2.2.2.2.2.2.2.2.2.2.2.1 c.2.2.2.2.2.2.2.2.2.2.2.2.1 c.2.2.2.2.2.2.2.2.2.2.2.2.2.1 c.2.2.2.2.2.2.2.2.2.2.2.2.2.2.1 c.2.2.2.2.2.2.2.2.2.2.2.2.2.2.2.1 c.2.2.2.2.2.2.2.2.2.2.2.2.2.2.2.2.1 c.2.2.2.2.2.2.2.2.2.2.2.2.2.2.2.2.2.1 c.2.2.2.2.2.2.2.2.2.2.2.2.2.2.2.2.2.2.1 c.2.2.2.2.2.2.2.2.2.2.2.2.2.2.2.2.2.2.2 s.1 s.2.1 s.2.2.1 s.2.2.2.1 s.2.2.2.2
noncomputable def stepR (c : C20) (p : T29) (s : S5) : T29 := ((feed c p s).1, (feed c p s).2.1, (feed c p s).2.2.1, (feed c p s).2.2.2.1, (feed c p s).2.2.2.2.1, (feed c p s).2.2.2.2.2.1, (feed c p s).2.2.2.2.2.2.1, (feed c p s).2.2.2.2.2.2.2.1, (feed c p s).2.2.2.2.2.2.2.2.1, (feed c p s).2.2.2.2.2.2.2.2.2.1, (feed c p s).2.2.2.2.2.2.2.2.2.2.1, (feed c p s).2.2.2.2.2.2.2.2.2.2.2.1, (feed c p s).2.2.2.2.2.2.2.2.2.2.2.2.1, (feed c p s).2.2.2.2.2.2.2.2.2.2.2.2.2.1, (feed c p s).2.2.2.2.2.2.2.2.2.2.2.2.2.2.1, (feed c p s).2.2.2.2.2.2.2.2.2.2.2.2.2.2.2.1, (feed c p s).2.2.2.2.2.2.2.2.2.2.2.2.2.2.2.2.1, (feed c p s).2.2.2.2.2.2.2.2.2.2.2.2.2.2.2.2.2.1, (feed c p s).2.2.2.2.2.2.2.2.2.2.2.2.2.2.2.2.2.2.1, (feed c p s).2.2.2.2.2.2.2.2.2.2.2.2.2.2.2.2.2.2.2.1, (feed c p s).2.2.2.2.2.2.2.2.2.2.2.2.2.2.2.2.2.2.2.2.1, (feed c p s).2.2.2.2.2.2.2.2.2.2.2.2.2.2.2.2.2.2.2.2.2.1, (feed c p s).2.2.2.2.2.2.2.2.2.2.2.2.2.2.2.2.2.2.2.2.2.2.1, (feed c p s).2.2.2.2.2.2.2.2.2.2.2.2.2.2.2.2.2.2.2.2.2.2.2.1, (feed c p s).2.2.2.2.2.2.2.2.2.2.2.2.2.2.2.2.2.2.2.2.2.2.2.2.1, (feed c p s).2.2.2.2.2.2.2.2.2.2.2.2.2.2.2.2.2.2.2.2.2.2.2.2.2.1, (feed c p s).2.2.2.2.2.2.2.2.2.2.2.2.2.2.2.2.2.2.2.2.2.2.2.2.2.2.1, (feed c p s).2.2.2.2.2.2.2.2.2.2.2.2.2.2.2.2.2.2.2.2.2.2.2.2.2.2.2.1, (feed c p s).2.2.2.2.2.2.2.2.2.2.2.2.2.2.2.2.2.2.2.2.2.2.2.2.2.2.2.2.1)
def sampleAt (w : World) (a : Addr) : S5 := (intAt w (a.add 0), intAt w (a.add 1), intAt w (a.add 2), intAt w (a.add 3), intAt w (a.add 4))
def K5 : List CK := [.int .i64, .int .i64, .int .i64, .int .i64, .int .i64]
def kinds41 (t : TypeId) : Option (List CK) := bif Nat.beq t 41 then some K5 else none
def readL (w : World) (a : Addr) (n : Nat) : List S5 := (List.range n).map fun i => sampleAt w (a.add (i * 5))
def samplesOk (w : World) (a : Addr) (n : Nat) : Prop := a.block < w.heap.size ∧ ∀ i, i < n → cellsOk w (a.add (i * 5)) 0 K5
noncomputable def runR (c : C20) (p : T29) (l : List S5) : T29 := l.foldl (stepR c) (st60 p)
noncomputable def orc32 (w0 : World) : Orc := orcOf E32 w0 kinds41 []
theorem orc32_ok (w0 : World) : OrcOk Go.Proofs.Tryz.prog w0 (orc32 w0) := orcOf_ok (E := E32) E32_ok (w0 := w0) (kinds := kinds41) (X := []) trivial
noncomputable def body32 : Code := match Tryz.f32.body with | some c => c | _ => .skip
noncomputable def fst32 : Code → Code | .seq a _ => a | _ => .skip
noncomputable def snd32 : Code → Code | .seq _ b => b | _ => .skip
noncomputable def a32 : Code := .seq (fst32 body32) (.seq (fst32 (snd32 body32)) (fst32 (fst32 (snd32 (snd32 body32)))))
noncomputable def b32 : Code := match snd32 (fst32 (snd32 (snd32 body32))) with | .block 0 (.loop x) => x | _ => .skip
noncomputable def e32 : Code := snd32 (snd32 (snd32 body32))
theorem body32_eq : Tryz.f32.body = some (.seq (fst32 body32) (.seq (fst32 (snd32 body32)) (.seq (.seq (fst32 (fst32 (snd32 (snd32 body32)))) (.block 0 (.loop b32))) e32))) := by kernel_rfl
abbrev LP : Type := T29 × Int × Nat × List Nat
noncomputable def stL (a : Addr) (n cap : Nat) (c : C20) (z : List SV) (q : LP) : St := ⟨[.none, .none, .none, .val (.ptr 0 0), .val (.ptr 1 0), .none, .val (.ptr 2 0), .none, .none, .none, .none, .val (.raw (.slice (some a) n cap)), .val (.int .i64 (.sym (n : Int))), .val (.int .i64 (.sym q.2.1))] ++ List.replicate 12 .none,
  [some ((g60 q.1).cells, ⟨36, none, q.2.2.1, q.2.2.2⟩), some ((svC c).cells, .plain 39), some (z, .plain 36)]⟩
noncomputable def st32 (p : T29) (c : C20) (v : Value) : St := ⟨[g60 p, svC c, .raw v].map .val ++ List.replicate 23 (.val undefS), []⟩
def keep32 : List Nat := [3, 4, 6, 11, 12, 1013]
noncomputable def zero36 : List SV := match ((Go.Proofs.Tryz.prog.info? 36).bind (·.zero)).bind ofVal with | some z => z.cells | none => []
theorem first32 (w0 : World) (p : T29) (c : C20) (a : Addr) (n cap : Nat) : runX E32 (symCall E32 20) (orc32 w0) 400 keep32 3 a32 (st32 p c (.slice (some a) n cap)) =
    .ite (dec (n ≤ maxLen)) (.ret (.normal, stL a n cap c zero36 (st60 p, 0, 1, bump [] 0 29))) .fail := by kernel_rfl
theorem round32 (w0 : World) (c : C20) (a : Addr) (n cap : Nat) (q : LP) : runX E32 (symCall E32 20) (orc32 w0) 400 keep32 3 b32 (stL a n cap c zero36 q) =
    .ite (decide (q.2.1 < (n : Int))) (.ite (dec (0 ≤ q.2.1 ∧ q.2.1 < (n : Int))) (.ite (dec (cellsOk w0 (a.add (q.2.1.toNat * 5)) 0 K5 ∧ (a.add (q.2.1.toNat * 5)).block < w0.heap.size))
      (.ret (.normal, stL a n cap c zero36 (stepR c q.1 (sampleAt w0 (a.add (q.2.1.toNat * 5))), IntKind.i64.wrap (q.2.1 + 1), q.2.2.1 + 1, bump q.2.2.2 0 29))) .fail) .fail)
      (.ret (.exit 0, stL a n cap c zero36 q)) := by kernel_rfl
theorem end32 (w0 : World) (c : C20) (a : Addr) (n cap : Nat) (q : LP) : symEnd E32 (symCall E32 20) (orc32 w0) 400 e32 Tryz.f32 (stL a n cap c zero36 q) = .ret (g60 q.1) := by kernel_rfl
theorem g60_flat (p : T29) : (g60 p).flat = true := rfl
theorem run32 (w : World) (p : T29) (c : C20) (a : Addr) (n cap : Nat) (hn : n ≤ maxLen) (hs : samplesOk w a n) (vals : List Value) (hv : relL noLab [g60 p, svC c, .raw (.slice (some a) n cap)] vals) :
    Calls Go.Proofs.Tryz.prog 32 vals.toArray w fun e w' => (∃ v, e = .returned v ∧ SV.rel noLab (g60 (runR c p (readL w a n))) v) ∧ Below w.heap.size w w' := by
  obtain ⟨R, hRd⟩ : ∃ R : Ending → World → Prop, R = fun e w' => (∃ v, e = .returned v ∧ SV.rel noLab (g60 (runR c p (readL w a n))) v) ∧ Below w.heap.size w w' := ⟨_, rfl⟩
  rw [← hRd]
  have hcall := symCall_sound E32_ok 20
  have ho := orc32_ok w
  refine callsX (E := E32) Tryz.func32 body32_eq hv fun a0 hrel => ?_
  have hst : (⟨[g60 p, svC c, .raw (.slice (some a) n cap)].map .val ++ List.replicate (Tryz.f32.ntmps - [g60 p, svC c, .raw (.slice (some a) n cap)].length) (.val undefS), []⟩ : St) = st32 p c (.slice (some a) n cap) := by kernel_rfl
  rw [hst] at hrel
  have hA : (runX E32 (symCall E32 20) (orc32 w) 400 keep32 3 a32 (st32 p c (.slice (some a) n cap))).Holds fun r => r = (.normal, stL a n cap c zero36 (st60 p, 0, 1, bump [] 0 29)) := by
    rw [first32]; exact ⟨fun _ => rfl, fun e => by rw [dec_true.2 hn] at e; cases e⟩
  -- what stands ahead of the loop
  refine wp_seq3 E32_ok hcall ho (n := 400) (keep := keep32) (k := 3) hrel (Ext.refl _ _ _) (T.Holds.mono ?_ hA)
  rintro r rfl β1 a1 w1 h1 hr1
  refine ⟨rfl, ?_⟩
  refine wp_block (loopX E32_ok hcall ho (n := 400) (keep := keep32) (k := 3) (stL a n cap c zero36)
    (fun q => ∃ k : Nat, q.2.1 = k ∧ k ≤ n ∧ q.1 = (readL w a k).foldl (stepR c) (st60 p)) (fun q => n - q.2.1.toNat) ?_ ⟨0, rfl, Nat.zero_le _, rfl⟩ hr1 h1)
  rintro ⟨p1, i, s, vr⟩ ⟨k, hk, hkn, hp⟩
  simp only at hk hp
  subst hk
  rw [round32]
  simp only
  refine ⟨fun e1 => ⟨fun e2 => ⟨fun e3 => ?_, fun e3 => ?_⟩, fun e2 => ?_⟩, fun e1 => ?_⟩
  · have hlt : k < n := by have := of_decide_eq_true e1; omega
    have hw : IntKind.i64.wrap ((k : Int) + 1) = ((k + 1 : Nat) : Int) := (rg_iff (k := .i64)).2 ⟨by simp only [loK]; omega, by simp only [hiK]; unfold maxLen at hn; omega⟩
    refine ⟨_, rfl, ⟨k + 1, by simp only; exact hw, by omega, ?_⟩, ?_⟩
    · simp only [Int.toNat_natCast]
      rw [hp]
      simp [readL, List.range_succ]
    · show n - (IntKind.i64.wrap ((k : Int) + 1)).toNat < n - (k : Int).toNat
      rw [hw]; omega
  · have hlt : k < n := by have := of_decide_eq_true e1; omega
    have := dec_true.2 (show cellsOk w (a.add ((k : Int).toNat * 5)) 0 K5 ∧ (a.add ((k : Int).toNat * 5)).block < w.heap.size from ⟨by rw [Int.toNat_natCast]; exact hs.2 k hlt, by rw [add_block]; exact hs.1⟩)
    rw [this] at e3; cases e3
  · have hlt := of_decide_eq_true e1
    have := dec_true.2 (show 0 ≤ (k : Int) ∧ (k : Int) < (n : Int) from ⟨by omega, hlt⟩)
    rw [this] at e2; cases e2
  · have hkn' : k = n := by have := of_decide_eq_false e1; omega
    subst hkn'
    intro β' a' w' h2 hr2
    simp only [Ex.toExit, Exit.inBlock, if_true]
    refine endX E32_ok hcall ho hr2 h2 (R := R) (fuel := 400) ?_
    rw [end32]
    intro β3 w3 v3 hb hr3
    rw [hRd]
    refine ⟨⟨v3, rfl, ?_⟩, hb⟩
    have := flat_rel (β' := noLab) _ _ (g60_flat _) hr3
    simp only at this hp ⊢
    rw [hp] at this
    exact this
end Go.Proofs.YtmnglkcodbecbaaGreat
