/- FilterKeeps: walked by the executor over the list as it lies; what it comes to is true. -/
import Derived.Test.YtmnglkcodbecbaaGreatRh
import Derived.Test.YtmnglkcodbecbaaGreatF0
import Derived.Test.YtmnglkcodbecbaaGreatKp
namespace Go.Proofs.YtmnglkcodbecbaaGreat
open Go Go.RowKit Go.Proofs Go.Sx
set_option linter.unusedVariables false
set_option linter.unusedSimpArgs false
set_option linter.constructorNameAsVariable false
set_option maxRecDepth 1000000
set_option maxHeartbeats 100000000
noncomputable def E6 : Env := ⟨Go.Proofs.Tryz.prog, [(13, S13), (15, S15), (23, S23), (26, S26), (28, S28), (30, S30), (34, S34), (35, S35), (60, S60)], 3, 215, true, [(32, H32)], [], []⟩
theorem E6_ok : E6.Ok := envOkU' (S := [(13, S13), (15, S15), (23, S23), (26, S26), (28, S28), (30, S30), (34, S34), (35, S35), (60, S60)]) (HS := [(32, H32)]) (US := []) (NS := []) ⟨S13_ok, S15_ok, S23_ok, S26_ok, S28_ok, S30_ok, S34_ok, S35_ok, S60_ok, trivial⟩ ⟨H32_ok, trivial⟩ trivial trivial
noncomputable def orc6 (w0 : World) : Orc := orcOf E6 w0 kinds41 [(32, X32 w0)]
theorem orc6_ok (w0 : World) : OrcOk Go.Proofs.Tryz.prog w0 (orc6 w0) := orcOf_ok (E := E6) E6_ok (w0 := w0) (kinds := kinds41) (X := [(32, X32 w0)]) ⟨X32_ok w0, trivial⟩
noncomputable def B26 (p : T29) : Bool := f26 p.1 p.2.1 p.2.2.1 p.2.2.2.1 p.2.2.2.2.1 p.2.2.2.2.2.1 p.2.2.2.2.2.2.1 p.2.2.2.2.2.2.2.1 p.2.2.2.2.2.2.2.2.1 p.2.2.2.2.2.2.2.2.2.1 p.2.2.2.2.2.2.2.2.2.2.1 p.2.2.2.2.2.2.2.2.2.2.2.1 p.2.2.2.2.2.2.2.2.2.2.2.2.1 p.2.2.2.2.2.2.2.2.2.2.2.2.2.1 p.2.2.2.2.2.2.2.2.2.2.2.2.2.2.1 p.2.2.2.2.2.2.2.2.2.2.2.2.2.2.2.1 p.2.2.2.2.2.2.2.2.2.2.2.2.2.2.2.2.1 p.2.2.2.2.2.2.2.2.2.2.2.2.2.2.2.2.2.1 p.2.2.2.2.2.2.2.2.2.2.2.2.2.2.2.2.2.2.1 p.2.2.2.2.2.2.2.2.2.2.2.2.2.2.2.2.2.2.2.1 p.2.2.2.2.2.2.2.2.2.2.2.2.2.2.2.2.2.2.2.2.1 p.2.2.2.2.2.2.2.2.2.2.2.2.2.2.2.2.2.2.2.2.2.1 p.2.2.2.2.2.2.2.2.2.2.2.2.2.2.2.2.2.2.2.2.2.2.1 p.2.2.2.2.2.2.2.2.2.2.2.2.2.2.2.2.2.2.2.2.2.2.2.1 p.2.2.2.2.2.2.2.2.2.2.2.2.2.2.2.2.2.2.2.2.2.2.2.2.1 p.2.2.2.2.2.2.2.2.2.2.2.2.2.2.2.2.2.2.2.2.2.2.2.2.2.1 p.2.2.2.2.2.2.2.2.2.2.2.2.2.2.2.2.2.2.2.2.2.2.2.2.2.2.1 p.2.2.2.2.2.2.2.2.2.2.2.2.2.2.2.2.2.2.2.2.2.2.2.2.2.2.2.1 p.2.2.2.2.2.2.2.2.2.2.2.2.2.2.2.2.2.2.2.2.2.2.2.2.2.2.2.2
noncomputable def B30 (p : T29) : Bool := f30 p.1 p.2.1 p.2.2.1 p.2.2.2.1 p.2.2.2.2.1 p.2.2.2.2.2.1 p.2.2.2.2.2.2.1 p.2.2.2.2.2.2.2.1 p.2.2.2.2.2.2.2.2.1 p.2.2.2.2.2.2.2.2.2.1 p.2.2.2.2.2.2.2.2.2.2.1 p.2.2.2.2.2.2.2.2.2.2.2.1 p.2.2.2.2.2.2.2.2.2.2.2.2.1 p.2.2.2.2.2.2.2.2.2.2.2.2.2.1 p.2.2.2.2.2.2.2.2.2.2.2.2.2.2.1 p.2.2.2.2.2.2.2.2.2.2.2.2.2.2.2.1 p.2.2.2.2.2.2.2.2.2.2.2.2.2.2.2.2.1 p.2.2.2.2.2.2.2.2.2.2.2.2.2.2.2.2.2.1 p.2.2.2.2.2.2.2.2.2.2.2.2.2.2.2.2.2.2.1 p.2.2.2.2.2.2.2.2.2.2.2.2.2.2.2.2.2.2.2.1 p.2.2.2.2.2.2.2.2.2.2.2.2.2.2.2.2.2.2.2.2.1 p.2.2.2.2.2.2.2.2.2.2.2.2.2.2.2.2.2.2.2.2.2.1 p.2.2.2.2.2.2.2.2.2.2.2.2.2.2.2.2.2.2.2.2.2.2.1 p.2.2.2.2.2.2.2.2.2.2.2.2.2.2.2.2.2.2.2.2.2.2.2.1 p.2.2.2.2.2.2.2.2.2.2.2.2.2.2.2.2.2.2.2.2.2.2.2.2.1 p.2.2.2.2.2.2.2.2.2.2.2.2.2.2.2.2.2.2.2.2.2.2.2.2.2.1 p.2.2.2.2.2.2.2.2.2.2.2.2.2.2.2.2.2.2.2.2.2.2.2.2.2.2.1 p.2.2.2.2.2.2.2.2.2.2.2.2.2.2.2.2.2.2.2.2.2.2.2.2.2.2.2.1 p.2.2.2.2.2.2.2.2.2.2.2.2.2.2.2.2.2.2.2.2.2.2.2.2.2.2.2.2
/-- what FilterKeeps comes to, behind the samples -/
noncomputable def F6 (x : T29) (n : Int) (y : T29) : Bool :=
  bif (decide (y.2.2.2.2.2.2.2.2.2.2.2.2.2.1 < 4096) || decide (y.2.2.2.2.2.2.2.2.2.2.2.2.2.1 > 4503599627370496) || decide (y.2.2.2.2.2.2.2.2.2.2.2.2.2.2.2.1 < 4096) || decide (y.2.2.2.2.2.2.2.2.2.2.2.2.2.2.2.1 > 4503599627370496)) then false else bif (decide (y.2.2.2.2.2.2.2.2.2.2.2.2.2.2.2.2.2.2.2.1 < 4096) || decide (y.2.2.2.2.2.2.2.2.2.2.2.2.2.2.2.2.2.2.2.1 > 4503599627370496) || decide (y.2.2.2.2.2.2.2.2.2.2.2.2.2.2.2.2.2.2.2.2.2.1 < 4096) || decide (y.2.2.2.2.2.2.2.2.2.2.2.2.2.2.2.2.2.2.2.2.2.1 > 4503599627370496)) then false else bif (decide (y.2.2.2.2.2.2.2.2.2.2.2.2.2.2.2.2.2.2.2.2.2.2.2.2.2.1 < 4096) || decide (y.2.2.2.2.2.2.2.2.2.2.2.2.2.2.2.2.2.2.2.2.2.2.2.2.2.1 > 4503599627370496) || decide (y.2.2.2.2.2.2.2.2.2.2.2.2.2.2.2.2.2.2.2.2.2.2.2.2.2.2.2.1 < 4096) || decide (y.2.2.2.2.2.2.2.2.2.2.2.2.2.2.2.2.2.2.2.2.2.2.2.2.2.2.2.1 > 4503599627370496)) then false else
  bif (!B26 y || (f34 y.2.2.2.1 y.2.2.2.2.1 y.2.2.2.2.2.1 y.2.2.2.2.2.2.1).snd || decide ((f34 y.2.2.2.1 y.2.2.2.2.1 y.2.2.2.2.2.1 y.2.2.2.2.2.2.1).fst < 4294967040) || decide ((f34 y.2.2.2.1 y.2.2.2.2.1 y.2.2.2.2.2.1 y.2.2.2.2.2.2.1).fst > 4294967552) || (B30 x && !B30 y)) then false else
  bif f23 then bif (!B26 x || (decide (x.2.1 > 549755813888) || decide (x.2.2.1 > 549755813888))) then true else
    bif decide (IntKind.i64.wrap (y.2.1 - x.2.1) ≤ n) then (decide (IntKind.i64.wrap (IntKind.i64.wrap (IntKind.i64.wrap (y.2.1 - x.2.1) + y.2.2.1) - x.2.2.1) ≥ n) && decide (y.1 ≥ x.1)) else false
  else false
noncomputable def C6 (w0 : World) (x : T29) (c : C20) (a : Addr) (n : Nat) (y : T29) : Bool :=
  bif dec (n ≤ maxLen) then bif decide ((n : Int) > 60) then f23 else bif dec (n ≤ maxLen ∧ samplesOk w0 a n) then
  bif (decide (y.2.2.2.2.2.2.2.2.2.2.2.2.2.1 < 4096) || decide (y.2.2.2.2.2.2.2.2.2.2.2.2.2.1 > 4503599627370496) || decide (y.2.2.2.2.2.2.2.2.2.2.2.2.2.2.2.1 < 4096) || decide (y.2.2.2.2.2.2.2.2.2.2.2.2.2.2.2.1 > 4503599627370496)) then false else bif (decide (y.2.2.2.2.2.2.2.2.2.2.2.2.2.2.2.2.2.2.2.1 < 4096) || decide (y.2.2.2.2.2.2.2.2.2.2.2.2.2.2.2.2.2.2.2.1 > 4503599627370496) || decide (y.2.2.2.2.2.2.2.2.2.2.2.2.2.2.2.2.2.2.2.2.2.1 < 4096) || decide (y.2.2.2.2.2.2.2.2.2.2.2.2.2.2.2.2.2.2.2.2.2.1 > 4503599627370496)) then false else bif (decide (y.2.2.2.2.2.2.2.2.2.2.2.2.2.2.2.2.2.2.2.2.2.2.2.2.2.1 < 4096) || decide (y.2.2.2.2.2.2.2.2.2.2.2.2.2.2.2.2.2.2.2.2.2.2.2.2.2.1 > 4503599627370496) || decide (y.2.2.2.2.2.2.2.2.2.2.2.2.2.2.2.2.2.2.2.2.2.2.2.2.2.2.2.1 < 4096) || decide (y.2.2.2.2.2.2.2.2.2.2.2.2.2.2.2.2.2.2.2.2.2.2.2.2.2.2.2.1 > 4503599627370496)) then false else
  bif (!B26 y || (f34 y.2.2.2.1 y.2.2.2.2.1 y.2.2.2.2.2.1 y.2.2.2.2.2.2.1).snd || decide ((f34 y.2.2.2.1 y.2.2.2.2.1 y.2.2.2.2.2.1 y.2.2.2.2.2.2.1).fst < 4294967040) || decide ((f34 y.2.2.2.1 y.2.2.2.2.1 y.2.2.2.2.2.1 y.2.2.2.2.2.2.1).fst > 4294967552) || (B30 x && !B30 y)) then false else
  bif f23 then bif (!B26 x || (decide (x.2.1 > 549755813888) || decide (x.2.2.1 > 549755813888))) then true else
    bif dec (n ≤ maxLen) then bif decide (IntKind.i64.wrap (y.2.1 - x.2.1) ≤ (n : Int)) then bif dec (n ≤ maxLen) then (decide (IntKind.i64.wrap (IntKind.i64.wrap (IntKind.i64.wrap (y.2.1 - x.2.1) + y.2.2.1) - x.2.2.1) ≥ (n : Int)) && decide (y.1 ≥ x.1)) else false else false else false
  else false
  else false else false
theorem ev6 (w0 : World) (x : T29) (c : C20) (a : Addr) (n cap : Nat) : (symBodyX E6 (symCall E6 20) (orc6 w0) Tryz.f6 400 [g60 x, svC c, .raw (.slice (some a) n cap)]).yes = C6 w0 x c a n (runR c x (readL w0 a n)) := by kernel_rfl
/-- .. where there is no list -/
noncomputable def F6n (x y : T29) : Bool :=
  bif (decide (y.2.2.2.2.2.2.2.2.2.2.2.2.2.1 < 4096) || decide (y.2.2.2.2.2.2.2.2.2.2.2.2.2.1 > 4503599627370496) || decide (y.2.2.2.2.2.2.2.2.2.2.2.2.2.2.2.1 < 4096) || decide (y.2.2.2.2.2.2.2.2.2.2.2.2.2.2.2.1 > 4503599627370496)) then false else bif (decide (y.2.2.2.2.2.2.2.2.2.2.2.2.2.2.2.2.2.2.2.1 < 4096) || decide (y.2.2.2.2.2.2.2.2.2.2.2.2.2.2.2.2.2.2.2.1 > 4503599627370496) || decide (y.2.2.2.2.2.2.2.2.2.2.2.2.2.2.2.2.2.2.2.2.2.1 < 4096) || decide (y.2.2.2.2.2.2.2.2.2.2.2.2.2.2.2.2.2.2.2.2.2.1 > 4503599627370496)) then false else bif (decide (y.2.2.2.2.2.2.2.2.2.2.2.2.2.2.2.2.2.2.2.2.2.2.2.2.2.1 < 4096) || decide (y.2.2.2.2.2.2.2.2.2.2.2.2.2.2.2.2.2.2.2.2.2.2.2.2.2.1 > 4503599627370496) || decide (y.2.2.2.2.2.2.2.2.2.2.2.2.2.2.2.2.2.2.2.2.2.2.2.2.2.2.2.1 < 4096) || decide (y.2.2.2.2.2.2.2.2.2.2.2.2.2.2.2.2.2.2.2.2.2.2.2.2.2.2.2.1 > 4503599627370496)) then false else
  bif (!B26 y || (f34 y.2.2.2.1 y.2.2.2.2.1 y.2.2.2.2.2.1 y.2.2.2.2.2.2.1).snd || decide ((f34 y.2.2.2.1 y.2.2.2.2.1 y.2.2.2.2.2.1 y.2.2.2.2.2.2.1).fst < 4294967040) || decide ((f34 y.2.2.2.1 y.2.2.2.2.1 y.2.2.2.2.2.1 y.2.2.2.2.2.2.1).fst > 4294967552) || (B30 x && !B30 y)) then false else
  (f23 && ((!B26 x || (decide (x.2.1 > 549755813888) || decide (x.2.2.1 > 549755813888))) || (decide (IntKind.i64.wrap (y.2.1 - x.2.1) ≤ 0) && decide (IntKind.i64.wrap (IntKind.i64.wrap (IntKind.i64.wrap (y.2.1 - x.2.1) + y.2.2.1) - x.2.2.1) ≥ 0) && decide (y.1 ≥ x.1))))
theorem ev6n (w0 : World) (x : T29) (c : C20) : (symBodyX E6 (symCall E6 20) (orc6 w0) Tryz.f6 400 [g60 x, svC c, .raw (.slice none 0 0)]).yes = F6n x (st60 x) := by kernel_rfl
theorem startB : f26 0 0 0 4294967296 0 0 0 0 0 0 true 0 0 17592186044416 0 17592186044416 false 0 0 17592186044416 0 17592186044416 false 0 0 17592186044416 0 17592186044416 false = true := by kernel_rfl
theorem st60_sane (p : T29) (h : Sn p) : st60 p = p := by
  unfold st60
  rw [f60_as _ _ _ _ _ _ _ _ _ _ _ _ _ _ _ _ _ _ _ _ _ _ _ _ _ _ _ _ _ h]
theorem st60_bad (p : T29) (h : ¬ Sn p) : st60 p = (0, 0, 0, 4294967296, 0, 0, 0, 0, 0, 0, true, 0, 0, 17592186044416, 0, 17592186044416, false, 0, 0, 17592186044416, 0, 17592186044416, false, 0, 0, 17592186044416, 0, 17592186044416, false) := by
  have hf : f26 p.1 p.2.1 p.2.2.1 p.2.2.2.1 p.2.2.2.2.1 p.2.2.2.2.2.1 p.2.2.2.2.2.2.1 p.2.2.2.2.2.2.2.1 p.2.2.2.2.2.2.2.2.1 p.2.2.2.2.2.2.2.2.2.1 p.2.2.2.2.2.2.2.2.2.2.1 p.2.2.2.2.2.2.2.2.2.2.2.1 p.2.2.2.2.2.2.2.2.2.2.2.2.1 p.2.2.2.2.2.2.2.2.2.2.2.2.2.1 p.2.2.2.2.2.2.2.2.2.2.2.2.2.2.1 p.2.2.2.2.2.2.2.2.2.2.2.2.2.2.2.1 p.2.2.2.2.2.2.2.2.2.2.2.2.2.2.2.2.1 p.2.2.2.2.2.2.2.2.2.2.2.2.2.2.2.2.2.1 p.2.2.2.2.2.2.2.2.2.2.2.2.2.2.2.2.2.2.1 p.2.2.2.2.2.2.2.2.2.2.2.2.2.2.2.2.2.2.2.1 p.2.2.2.2.2.2.2.2.2.2.2.2.2.2.2.2.2.2.2.2.1 p.2.2.2.2.2.2.2.2.2.2.2.2.2.2.2.2.2.2.2.2.2.1 p.2.2.2.2.2.2.2.2.2.2.2.2.2.2.2.2.2.2.2.2.2.2.1 p.2.2.2.2.2.2.2.2.2.2.2.2.2.2.2.2.2.2.2.2.2.2.2.1 p.2.2.2.2.2.2.2.2.2.2.2.2.2.2.2.2.2.2.2.2.2.2.2.2.1 p.2.2.2.2.2.2.2.2.2.2.2.2.2.2.2.2.2.2.2.2.2.2.2.2.2.1 p.2.2.2.2.2.2.2.2.2.2.2.2.2.2.2.2.2.2.2.2.2.2.2.2.2.2.1 p.2.2.2.2.2.2.2.2.2.2.2.2.2.2.2.2.2.2.2.2.2.2.2.2.2.2.2.1 p.2.2.2.2.2.2.2.2.2.2.2.2.2.2.2.2.2.2.2.2.2.2.2.2.2.2.2.2 = false := by simpa [Sn] using h
  have h28 : f28 = (0, 0, 0, 4294967296, 0, 0, 0, 0, 0, 0, false, 0, 0, 17592186044416, 0, 17592186044416, false, 0, 0, 17592186044416, 0, 17592186044416, false, 0, 0, 17592186044416, 0, 17592186044416, false) := by kernel_rfl
  unfold st60 f60
  simp only [hf, h28, cond_false, Bool.not_false, Bool.true_or]
theorem st60_sn (p : T29) : Sn (st60 p) := by
  by_cases h : Sn p
  · rw [st60_sane p h]; exact h
  · rw [st60_bad p h]; exact startB
theorem bad30 (p : T29) : B30 p = Bd (st60 p) := by
  unfold B30 Bd f30 st60
  simp only [first_any3]
  cases (f60 p.1 p.2.1 p.2.2.1 p.2.2.2.1 p.2.2.2.2.1 p.2.2.2.2.2.1 p.2.2.2.2.2.2.1 p.2.2.2.2.2.2.2.1 p.2.2.2.2.2.2.2.2.1 p.2.2.2.2.2.2.2.2.2.1 p.2.2.2.2.2.2.2.2.2.2.1 p.2.2.2.2.2.2.2.2.2.2.2.1 p.2.2.2.2.2.2.2.2.2.2.2.2.1 p.2.2.2.2.2.2.2.2.2.2.2.2.2.1 p.2.2.2.2.2.2.2.2.2.2.2.2.2.2.1 p.2.2.2.2.2.2.2.2.2.2.2.2.2.2.2.1 p.2.2.2.2.2.2.2.2.2.2.2.2.2.2.2.2.1 p.2.2.2.2.2.2.2.2.2.2.2.2.2.2.2.2.2.1 p.2.2.2.2.2.2.2.2.2.2.2.2.2.2.2.2.2.2.1 p.2.2.2.2.2.2.2.2.2.2.2.2.2.2.2.2.2.2.2.1 p.2.2.2.2.2.2.2.2.2.2.2.2.2.2.2.2.2.2.2.2.1 p.2.2.2.2.2.2.2.2.2.2.2.2.2.2.2.2.2.2.2.2.2.1 p.2.2.2.2.2.2.2.2.2.2.2.2.2.2.2.2.2.2.2.2.2.2.1 p.2.2.2.2.2.2.2.2.2.2.2.2.2.2.2.2.2.2.2.2.2.2.2.1 p.2.2.2.2.2.2.2.2.2.2.2.2.2.2.2.2.2.2.2.2.2.2.2.2.1 p.2.2.2.2.2.2.2.2.2.2.2.2.2.2.2.2.2.2.2.2.2.2.2.2.2.1 p.2.2.2.2.2.2.2.2.2.2.2.2.2.2.2.2.2.2.2.2.2.2.2.2.2.2.1 p.2.2.2.2.2.2.2.2.2.2.2.2.2.2.2.2.2.2.2.2.2.2.2.2.2.2.2.1 p.2.2.2.2.2.2.2.2.2.2.2.2.2.2.2.2.2.2.2.2.2.2.2.2.2.2.2.2).snd.snd.snd.snd.snd.snd.snd.snd.snd.snd.fst <;> simp [Bool.or_assoc]
theorem fold_sn (c : C20) : ∀ (l : List S5) (p : T29), Sn p → Sn (l.foldl (stepR c) p) ∧ (Bd p = true → Bd (l.foldl (stepR c) p) = true) ∧ p.1 ≤ (l.foldl (stepR c) p).1
  | [], p, h => ⟨h, id, Int.le_refl _⟩
  | s :: l, p, h => by
    obtain ⟨h1, h2, h3, _⟩ := step_keeps c p s h
    obtain ⟨k1, k2, k3⟩ := fold_sn c l _ h1
    exact ⟨k1, fun hb => k2 (h2 hb), Int.le_trans h3 k3⟩
theorem fold_cn (c : C20) : ∀ (l : List S5) (p : T29), Sn p → p.2.1 + l.length ≤ 1099511627776 → p.2.2.1 + l.length ≤ 1099511627776 →
    p.2.1 ≤ (l.foldl (stepR c) p).2.1 ∧ (l.foldl (stepR c) p).2.1 ≤ p.2.1 + l.length ∧ p.2.2.1 ≤ (l.foldl (stepR c) p).2.2.1 ∧ (l.foldl (stepR c) p).2.2.1 ≤ p.2.2.1 + l.length ∧ p.2.1 + p.2.2.1 + l.length ≤ (l.foldl (stepR c) p).2.1 + (l.foldl (stepR c) p).2.2.1
  | [], p, h, _, _ => by simp
  | s :: l, p, h, hn, ho => by
    obtain ⟨h1, h2, h3, h4⟩ := step_keeps c p s h
    simp only [List.length_cons, Int.natCast_add, Int.natCast_one] at hn ho ⊢
    have := fold_cn c l (stepR c p s) h1 (by omega) (by omega)
    simp only [List.foldl_cons]
    omega
theorem rngs {y : T29} (h : Sn y) : (decide (y.2.2.2.2.2.2.2.2.2.2.2.2.2.1 < 4096) || decide (y.2.2.2.2.2.2.2.2.2.2.2.2.2.1 > 4503599627370496) || decide (y.2.2.2.2.2.2.2.2.2.2.2.2.2.2.2.1 < 4096) || decide (y.2.2.2.2.2.2.2.2.2.2.2.2.2.2.2.1 > 4503599627370496)) = false ∧ (decide (y.2.2.2.2.2.2.2.2.2.2.2.2.2.2.2.2.2.2.2.1 < 4096) || decide (y.2.2.2.2.2.2.2.2.2.2.2.2.2.2.2.2.2.2.2.1 > 4503599627370496) || decide (y.2.2.2.2.2.2.2.2.2.2.2.2.2.2.2.2.2.2.2.2.2.1 < 4096) || decide (y.2.2.2.2.2.2.2.2.2.2.2.2.2.2.2.2.2.2.2.2.2.1 > 4503599627370496)) = false ∧ (decide (y.2.2.2.2.2.2.2.2.2.2.2.2.2.2.2.2.2.2.2.2.2.2.2.2.2.1 < 4096) || decide (y.2.2.2.2.2.2.2.2.2.2.2.2.2.2.2.2.2.2.2.2.2.2.2.2.2.1 > 4503599627370496) || decide (y.2.2.2.2.2.2.2.2.2.2.2.2.2.2.2.2.2.2.2.2.2.2.2.2.2.2.2.1 < 4096) || decide (y.2.2.2.2.2.2.2.2.2.2.2.2.2.2.2.2.2.2.2.2.2.2.2.2.2.2.2.1 > 4503599627370496)) = false ∧ B26 y = true ∧ ∃ m, f34 y.2.2.2.1 y.2.2.2.2.1 y.2.2.2.2.2.1 y.2.2.2.2.2.2.1 = (m, false) ∧ 4294967040 ≤ m ∧ m ≤ 4294967552 := by
  obtain ⟨-, -, -, hq, hx, hy, hz⟩ := (f26_iff _ _ _ _ _ _ _ _ _ _ _ _ _ _ _ _ _ _ _ _ _ _ _ _ _ _ _ _ _).1 h
  have key : ∀ {p v pp pv vv : Int} {b : Bool}, f72 p v pp pv vv b = true → (decide (pp < 4096) || decide (pp > 4503599627370496) || decide (vv < 4096) || decide (vv > 4503599627370496)) = false := by
    intro p v pp pv vv b hh
    unfold f72 f134 at hh
    simp only [Bool.and_eq_true, decide_eq_true_eq] at hh
    simp only [Bool.or_eq_false_iff, decide_eq_false_iff_not]
    omega
  obtain ⟨hsq, -⟩ := (f13_iff _ _ _ _ _ _ _ _).1 hq
  obtain ⟨m, h1, -, h2, h3⟩ := hsq.norm
  exact ⟨key hx, key hy, key hz, h, m, h1, h2, h3⟩
theorem wIn {m : Int} (h0 : -9223372036854775808 ≤ m) (h1 : m ≤ 9223372036854775807) : IntKind.i64.wrap m = m := (rg_iff (k := .i64)).2 ⟨h0, h1⟩
theorem F6_counts (c : C20) (x : T29) (l : List S5) (hl : l.length ≤ 60) (hx : (!B26 x || (decide (x.2.1 > 549755813888) || decide (x.2.2.1 > 549755813888))) = false) :
    decide (IntKind.i64.wrap ((runR c x l).2.1 - x.2.1) ≤ (l.length : Int)) = true ∧ decide (IntKind.i64.wrap (IntKind.i64.wrap (IntKind.i64.wrap ((runR c x l).2.1 - x.2.1) + (runR c x l).2.2.1) - x.2.2.1) ≥ (l.length : Int)) = true ∧ decide ((runR c x l).1 ≥ x.1) = true := by
  simp only [Bool.or_eq_false_iff, Bool.not_eq_false', decide_eq_false_iff_not] at hx
  obtain ⟨h1, h2, h3⟩ := hx
  have hs : Sn x := h1
  obtain ⟨-, ⟨n0, n1⟩, ⟨o0, o1⟩, -⟩ := (f26_iff _ _ _ _ _ _ _ _ _ _ _ _ _ _ _ _ _ _ _ _ _ _ _ _ _ _ _ _ _).1 hs
  have hc := fold_cn c l x hs (by omega) (by omega)
  have ht := (fold_sn c l x hs).2.2
  have hr : runR c x l = l.foldl (stepR c) x := by unfold runR; rw [st60_sane x hs]
  rw [hr]
  generalize l.foldl (stepR c) x = y at hc ht
  rw [wIn (m := y.2.1 - x.2.1) (by omega) (by omega), wIn (m := y.2.1 - x.2.1 + y.2.2.1) (by omega) (by omega), wIn (m := y.2.1 - x.2.1 + y.2.2.1 - x.2.2.1) (by omega) (by omega)]
  simp only [decide_eq_true_eq]
  omega
theorem B30_mono (c : C20) (x : T29) (l : List S5) : (B30 x && !B30 (runR c x l)) = false := by
  cases h : B30 x with
  | false => rfl
  | true =>
    rw [bad30] at h
    obtain ⟨k1, k2, -⟩ := fold_sn c l (st60 x) (st60_sn x)
    have : B30 (runR c x l) = true := by rw [bad30]; show Bd (st60 (l.foldl (stepR c) (st60 x))) = true; rw [st60_sane _ k1]; exact k2 h
    rw [this]; rfl
theorem f23_true : f23 = true := by kernel_rfl
theorem C6_true (w0 : World) (x : T29) (c : C20) (a : Addr) (n : Nat) (hn : n ≤ maxLen) (hs : samplesOk w0 a n) : C6 w0 x c a n (runR c x (readL w0 a n)) = true := by
  unfold C6
  rw [dec_true.2 hn, dec_true.2 (show n ≤ maxLen ∧ samplesOk w0 a n from ⟨hn, hs⟩), f23_true]
  simp only [cond_true]
  cases h60 : decide ((n : Int) > 60) with
  | true => rfl
  | false =>
    have h60' := of_decide_eq_false h60
    have hlen : (readL w0 a n).length = n := by simp [readL]
    generalize readL w0 a n = l at hlen
    subst hlen
    obtain ⟨k1, -, -⟩ := fold_sn c l (st60 x) (st60_sn x)
    have k1' : Sn (runR c x l) := k1
    obtain ⟨r0, r1, r2, r3, m, r4, r5, r6⟩ := rngs k1'
    have hm1 : decide (m < 4294967040) = false := decide_eq_false (by omega)
    have hm2 : decide (m > 4294967552) = false := decide_eq_false (by omega)
    rw [r0, r1, r2, r3, r4, B30_mono, hm1, hm2]
    simp only [cond_false, Bool.not_true, Bool.or_self]
    cases hx : (!B26 x || (decide (x.2.1 > 549755813888) || decide (x.2.2.1 > 549755813888))) with
    | true => rfl
    | false =>
      obtain ⟨e1, e2, e3⟩ := F6_counts c x l (by omega) hx
      rw [e1, e2, e3]; rfl
theorem F6n_true (c : C20) (x : T29) : F6n x (st60 x) = true := by
  unfold F6n
  obtain ⟨r0, r1, r2, r3, m, r4, r5, r6⟩ := rngs (st60_sn x)
  have hm1 : decide (m < 4294967040) = false := decide_eq_false (by omega)
  have hm2 : decide (m > 4294967552) = false := decide_eq_false (by omega)
  have hb : (B30 x && !B30 (st60 x)) = false := B30_mono c x []
  rw [r0, r1, r2, r3, r4, hb, hm1, hm2, f23_true]
  simp only [cond_false, Bool.not_true, Bool.or_self, Bool.true_and]
  cases hx : (!B26 x || (decide (x.2.1 > 549755813888) || decide (x.2.2.1 > 549755813888))) with
  | true => rfl
  | false =>
    obtain ⟨e1, e2, e3⟩ := F6_counts c x [] (by simp) hx
    have h1 : decide (IntKind.i64.wrap ((st60 x).2.1 - x.2.1) ≤ 0) = true := e1
    have h2 : decide (IntKind.i64.wrap (IntKind.i64.wrap (IntKind.i64.wrap ((st60 x).2.1 - x.2.1) + (st60 x).2.2.1) - x.2.2.1) ≥ 0) = true := e2
    have h3 : decide ((st60 x).1 ≥ x.1) = true := e3
    rw [h1, h2, h3]; rfl
theorem calls6 (w : World) (x : T29) (c : C20) (a : Addr) (n cap : Nat) (hn : n ≤ maxLen) (hs : samplesOk w a n) (vals : List Value) (hv : relL noLab [g60 x, svC c, .raw (.slice (some a) n cap)] vals) :
    Calls Go.Proofs.Tryz.prog 6 vals.toArray w fun e w' => e = .returned (.bool true) ∧ Below w.heap.size w w' :=
  sx_yes E6_ok (symCall_sound E6_ok 20) (orc6_ok w) Tryz.func6 (fuel := 400) hv (by rw [ev6]; exact C6_true w x c a n hn hs)
theorem calls6n (w : World) (x : T29) (c : C20) (vals : List Value) (hv : relL noLab [g60 x, svC c, .raw (.slice none 0 0)] vals) :
    Calls Go.Proofs.Tryz.prog 6 vals.toArray w fun e w' => e = .returned (.bool true) ∧ Below w.heap.size w w' :=
  sx_yes E6_ok (symCall_sound E6_ok 20) (orc6_ok w) Tryz.func6 (fuel := 400) hv (by rw [ev6n]; exact F6n_true c x)
end Go.Proofs.YtmnglkcodbecbaaGreat
