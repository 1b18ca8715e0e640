/- A wide number as an argument: opened and shut. -/
import Derived.Test.YtejlbofmlaclpaaRows
import Derived.ProofKit
import Derived.Carry
namespace Go.Proofs.Ytejlbofmlaclpaa
open Go.ChangeShapes Go.WideShapes Go.ChangeAt Go.RowKit
theorem cells23 : Try.prog.cellsOf 23 = 2 := by kernel_rfl
theorem cells3' : Try.prog.cellsOf 3 = 1 := by kernel_rfl
theorem open_wide {H : Type} {enc : TypeId × Value → H} {W : World} {base b0 : Nat} {r : Reach} {sp : Nat → Bool} {held : Bool} {v : Value} {d : DataW H} {ps : List MemPlace}
    (hval : Value.okWide Try.prog W r b0 23 v) (h : DataW.Trod enc Try.prog W base sp held 23 v d ps) :
    ∃ a b, v = .agg #[.int .i64 a, .int .i64 b] ∧ d = .agg [.lit (.int .i64 a), .lit (.int .i64 b)] ∧ ps = [] ∧ (Lit.int .i64 a).wf = true ∧ (Lit.int .i64 b).wf = true := by
  obtain ⟨cs, rfl, hsz⟩ := okWide_struct Try.underlying23 hval
  obtain ⟨fuel, hf⟩ := h
  rw [cells23] at hsz
  obtain ⟨l⟩ := cs
  match l, hsz with
  | [c0, c1], _ =>
    simp only [Value.cells] at hf
    obtain ⟨y0, y1, n, hx, _, t0, t1⟩ := trod_struct2 Try.underlying23 hf
    simp only [cells3', List.drop, List.take] at t0 t1
    obtain ⟨a, hc0, rfl, wa⟩ := DataW.trod_int Try.underlying3 t0
    obtain ⟨b, hc1, rfl, wb⟩ := DataW.trod_int Try.underlying3 t1
    simp only [List.cons.injEq, and_true] at hc0 hc1
    subst hc0; subst hc1
    simp only [Prod.mk.injEq] at hx
    obtain ⟨rfl, rfl⟩ := hx
    exact ⟨a, b, rfl, rfl, rfl, wa, wb⟩
theorem shut_wide {H : Type} {enc : TypeId × Value → H} {W : World} {base : Nat} {sp : Nat → Bool} {held : Bool} {a b : Int} (wa : (Lit.int .i64 a).wf = true) (wb : (Lit.int .i64 b).wf = true) :
    DataW.Trod enc Try.prog W base sp held 23 (.agg #[.int .i64 a, .int .i64 b]) (.agg [.lit (.int .i64 a), .lit (.int .i64 b)]) [] := by
  refine ⟨2, ?_⟩
  exact trod_struct2_mk (cs := [.int .i64 a, .int .i64 b]) (y0 := (.lit (.int .i64 a), [])) (y1 := (.lit (.int .i64 b), [])) Try.underlying23 (by rw [cells23]; rfl) (by simpa [cells3'] using trod_int_mk 0 Try.underlying3 wa) (by simpa [cells3'] using trod_int_mk 0 Try.underlying3 wb)
end Go.Proofs.Ytejlbofmlaclpaa
