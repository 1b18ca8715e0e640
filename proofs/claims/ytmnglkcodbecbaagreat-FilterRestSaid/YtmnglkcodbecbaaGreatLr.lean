/- FilterRest: walked by the executor for each number of samples; what it comes to is true. -/
import Derived.Test.YtmnglkcodbecbaaGreatFr
import Derived.Test.YtmnglkcodbecbaaGreatSp
namespace Go.Proofs.YtmnglkcodbecbaaGreat
open Go Go.RowKit Go.Proofs Go.Sx
set_option linter.unusedVariables false
set_option linter.unusedSimpArgs false
set_option linter.constructorNameAsVariable false
set_option maxRecDepth 1000000
set_option maxHeartbeats 100000000
noncomputable def E7 : Env := ⟨Go.Proofs.Tryz.prog, [(15, S15), (23, S23), (26, S26), (28, S28), (30, S30), (35, S35), (60, S60)], 3, 215, true, [(32, R32)], [], []⟩
theorem E7_ok : E7.Ok := envOkU' (S := [(15, S15), (23, S23), (26, S26), (28, S28), (30, S30), (35, S35), (60, S60)]) (HS := [(32, R32)]) (US := []) (NS := []) ⟨S15_ok, S23_ok, S26_ok, S28_ok, S30_ok, S35_ok, S60_ok, trivial⟩ ⟨R32_ok, trivial⟩ trivial trivial
def orc0 : Orc := fun _ _ _ => none
theorem orc0_ok (P : Program) (w0 : World) : OrcOk P w0 orc0 := fun _ _ _ _ h => by cases h
noncomputable def t7 (n : SI) (step : Int) : T SV := symBodyX E7 (symCall E7 20) orc0 Tryz.f7 400 [.int .i64 n, .int .i64 (.sym step)]
/-- what FilterRest comes to -/
noncomputable def F7 (y : T29) (n step : Int) : Bool :=
  bif (decide (step < 0) || decide (step > 64)) then f23 else bif (y.2.2.2.2.2.2.2.2.2.2.2.1 != 0 || y.2.2.2.2.2.2.2.2.2.2.2.2.1 != 0) then false else bif (y.2.2.2.2.2.2.2.2.2.2.2.2.2.2.2.2.2.1 != 0 || y.2.2.2.2.2.2.2.2.2.2.2.2.2.2.2.2.2.2.1 != 0) then false else bif (y.2.2.2.2.2.2.2.2.2.2.2.2.2.2.2.2.2.2.2.2.2.2.2.1 != 0 || y.2.2.2.2.2.2.2.2.2.2.2.2.2.2.2.2.2.2.2.2.2.2.2.2.1 != 0) then false else
  (f23 && ((y.2.2.2.1 == f15.1) && ((y.2.2.2.2.1 == f15.2.1) && ((y.2.2.2.2.2.1 == f15.2.2.1) && (y.2.2.2.2.2.2.1 == f15.2.2.2.1))) && ((y.2.2.2.2.2.2.2.1 == f15.2.2.2.2.1) && ((y.2.2.2.2.2.2.2.2.1 == f15.2.2.2.2.2.1) && (y.2.2.2.2.2.2.2.2.2.1 == f15.2.2.2.2.2.2.1)) && (y.2.2.2.2.2.2.2.2.2.2.1 == f15.2.2.2.2.2.2.2))) && y.2.1 == n && y.2.2.1 == 0 && y.1 == IntKind.i64.wrap (n * step) && !f30 y.1 y.2.1 y.2.2.1 y.2.2.2.1 y.2.2.2.2.1 y.2.2.2.2.2.1 y.2.2.2.2.2.2.1 y.2.2.2.2.2.2.2.1 y.2.2.2.2.2.2.2.2.1 y.2.2.2.2.2.2.2.2.2.1 y.2.2.2.2.2.2.2.2.2.2.1 y.2.2.2.2.2.2.2.2.2.2.2.1 y.2.2.2.2.2.2.2.2.2.2.2.2.1 y.2.2.2.2.2.2.2.2.2.2.2.2.2.1 y.2.2.2.2.2.2.2.2.2.2.2.2.2.2.1 y.2.2.2.2.2.2.2.2.2.2.2.2.2.2.2.1 y.2.2.2.2.2.2.2.2.2.2.2.2.2.2.2.2.1 y.2.2.2.2.2.2.2.2.2.2.2.2.2.2.2.2.2.1 y.2.2.2.2.2.2.2.2.2.2.2.2.2.2.2.2.2.2.1 y.2.2.2.2.2.2.2.2.2.2.2.2.2.2.2.2.2.2.2.1 y.2.2.2.2.2.2.2.2.2.2.2.2.2.2.2.2.2.2.2.2.1 y.2.2.2.2.2.2.2.2.2.2.2.2.2.2.2.2.2.2.2.2.2.1 y.2.2.2.2.2.2.2.2.2.2.2.2.2.2.2.2.2.2.2.2.2.2.1 y.2.2.2.2.2.2.2.2.2.2.2.2.2.2.2.2.2.2.2.2.2.2.2.1 y.2.2.2.2.2.2.2.2.2.2.2.2.2.2.2.2.2.2.2.2.2.2.2.2.1 y.2.2.2.2.2.2.2.2.2.2.2.2.2.2.2.2.2.2.2.2.2.2.2.2.2.1 y.2.2.2.2.2.2.2.2.2.2.2.2.2.2.2.2.2.2.2.2.2.2.2.2.2.2.1 y.2.2.2.2.2.2.2.2.2.2.2.2.2.2.2.2.2.2.2.2.2.2.2.2.2.2.2.1 y.2.2.2.2.2.2.2.2.2.2.2.2.2.2.2.2.2.2.2.2.2.2.2.2.2.2.2.2)
theorem ev7_0 (step : Int) : (t7 (.lit 0) step).yes = F7 (runR f35 f28 (restL step 0)) 0 step := by kernel_rfl
theorem ev7_1 (step : Int) : (t7 (.lit 1) step).yes = F7 (runR f35 f28 (restL step 1)) 1 step := by kernel_rfl
theorem ev7_2 (step : Int) : (t7 (.lit 2) step).yes = F7 (runR f35 f28 (restL step 2)) 2 step := by kernel_rfl
theorem ev7_3 (step : Int) : (t7 (.lit 3) step).yes = F7 (runR f35 f28 (restL step 3)) 3 step := by kernel_rfl
theorem ev7_4 (step : Int) : (t7 (.lit 4) step).yes = F7 (runR f35 f28 (restL step 4)) 4 step := by kernel_rfl
theorem ev7_5 (step : Int) : (t7 (.lit 5) step).yes = F7 (runR f35 f28 (restL step 5)) 5 step := by kernel_rfl
theorem ev7_6 (step : Int) : (t7 (.lit 6) step).yes = F7 (runR f35 f28 (restL step 6)) 6 step := by kernel_rfl
theorem ev7_7 (step : Int) : (t7 (.lit 7) step).yes = F7 (runR f35 f28 (restL step 7)) 7 step := by kernel_rfl
theorem ev7_8 (step : Int) : (t7 (.lit 8) step).yes = F7 (runR f35 f28 (restL step 8)) 8 step := by kernel_rfl
theorem ev7_9 (step : Int) : (t7 (.lit 9) step).yes = F7 (runR f35 f28 (restL step 9)) 9 step := by kernel_rfl
theorem ev7_10 (step : Int) : (t7 (.lit 10) step).yes = F7 (runR f35 f28 (restL step 10)) 10 step := by kernel_rfl
theorem ev7_11 (step : Int) : (t7 (.lit 11) step).yes = F7 (runR f35 f28 (restL step 11)) 11 step := by kernel_rfl
theorem ev7_12 (step : Int) : (t7 (.lit 12) step).yes = F7 (runR f35 f28 (restL step 12)) 12 step := by kernel_rfl
theorem ev7_13 (step : Int) : (t7 (.lit 13) step).yes = F7 (runR f35 f28 (restL step 13)) 13 step := by kernel_rfl
theorem ev7_14 (step : Int) : (t7 (.lit 14) step).yes = F7 (runR f35 f28 (restL step 14)) 14 step := by kernel_rfl
theorem ev7_15 (step : Int) : (t7 (.lit 15) step).yes = F7 (runR f35 f28 (restL step 15)) 15 step := by kernel_rfl
theorem ev7_16 (step : Int) : (t7 (.lit 16) step).yes = F7 (runR f35 f28 (restL step 16)) 16 step := by kernel_rfl
theorem ev7_17 (step : Int) : (t7 (.lit 17) step).yes = F7 (runR f35 f28 (restL step 17)) 17 step := by kernel_rfl
theorem ev7_18 (step : Int) : (t7 (.lit 18) step).yes = F7 (runR f35 f28 (restL step 18)) 18 step := by kernel_rfl
theorem ev7_19 (step : Int) : (t7 (.lit 19) step).yes = F7 (runR f35 f28 (restL step 19)) 19 step := by kernel_rfl
theorem ev7_20 (step : Int) : (t7 (.lit 20) step).yes = F7 (runR f35 f28 (restL step 20)) 20 step := by kernel_rfl
theorem ev7_21 (step : Int) : (t7 (.lit 21) step).yes = F7 (runR f35 f28 (restL step 21)) 21 step := by kernel_rfl
theorem ev7_22 (step : Int) : (t7 (.lit 22) step).yes = F7 (runR f35 f28 (restL step 22)) 22 step := by kernel_rfl
theorem ev7_23 (step : Int) : (t7 (.lit 23) step).yes = F7 (runR f35 f28 (restL step 23)) 23 step := by kernel_rfl
theorem ev7_24 (step : Int) : (t7 (.lit 24) step).yes = F7 (runR f35 f28 (restL step 24)) 24 step := by kernel_rfl
theorem ev7_25 (step : Int) : (t7 (.lit 25) step).yes = F7 (runR f35 f28 (restL step 25)) 25 step := by kernel_rfl
theorem ev7_26 (step : Int) : (t7 (.lit 26) step).yes = F7 (runR f35 f28 (restL step 26)) 26 step := by kernel_rfl
theorem ev7_27 (step : Int) : (t7 (.lit 27) step).yes = F7 (runR f35 f28 (restL step 27)) 27 step := by kernel_rfl
theorem ev7_28 (step : Int) : (t7 (.lit 28) step).yes = F7 (runR f35 f28 (restL step 28)) 28 step := by kernel_rfl
theorem ev7_29 (step : Int) : (t7 (.lit 29) step).yes = F7 (runR f35 f28 (restL step 29)) 29 step := by kernel_rfl
theorem ev7_30 (step : Int) : (t7 (.lit 30) step).yes = F7 (runR f35 f28 (restL step 30)) 30 step := by kernel_rfl
theorem out7 (n step : Int) : (t7 (.sym n) step).isIte = true ∧ (t7 (.sym n) step).cond = (decide (n < 0) || decide (n > 30) || decide (step < 0) || decide (step > 64)) ∧ (t7 (.sym n) step).left.yes = f23 := ⟨by kernel_rfl, by kernel_rfl, by kernel_rfl⟩
theorem yes_left : ∀ {t : T SV}, t.isIte = true → t.cond = true → t.left.yes = true → t.yes = true
  | .ite b x y, _, h2, h3 => by
    have h4 : b = true := h2
    subst h4; exact h3
  | .ret _, h, _, _ => by cases h
  | .fail, h, _, _ => by cases h
theorem f23_yes : f23 = true := by kernel_rfl
theorem F7_true (k : Nat) (hk : k ≤ 30) (step : Int) : F7 (runR f35 f28 (restL step k)) k step = true := by
  unfold F7
  cases hc : (decide (step < 0) || decide (step > 64)) with
  | true => exact f23_yes
  | false =>
    simp only [Bool.or_eq_false_iff, decide_eq_false_iff_not] at hc
    have s0 : 0 ≤ step := by omega
    have s1 : step ≤ 64 := by omega
    have hr := rest_all step s0 s1 k hk
    have hm : (0 : Int) ≤ k * step := Int.mul_nonneg (by omega) s0
    have hm1 : (k : Int) * step ≤ 30 * 64 := Int.mul_le_mul (by omega) s1 s0 (by omega)
    have hsn := rst_sane hr (by omega) (by omega) hm (by omega)
    have hst : st60 f28 = f28 := by kernel_rfl
    have hrun : runR f35 f28 (restL step k) = (restL step k).foldl (stepR plainC) f28 := by unfold runR; rw [hst]; rfl
    rw [hrun]
    obtain ⟨pp, pv, vv, -, e⟩ := hr
    rw [e] at hsn ⊢
    have h60 := f60_as (k * step) k 0 4294967296 0 0 0 0 0 0 false 0 0 pp pv vv false 0 0 pp pv vv false 0 0 pp pv vv false hsn
    have h30 : f30 (k * step) k 0 4294967296 0 0 0 0 0 0 false 0 0 pp pv vv false 0 0 pp pv vv false 0 0 pp pv vv false = false := by
      unfold f30; simp only [h60, cond_false]; rfl
    have hw : IntKind.i64.wrap ((k : Int) * step) = k * step := wS (by omega) (by omega)
    simp only [h30, hw, f23_yes, show f15 = (4294967296, 0, 0, 0, 0, 0, 0, false) from by kernel_rfl, bne_self_eq_false, Bool.or_self, cond_false, beq_self_eq_true, Bool.and_self, Bool.not_false]
end Go.Proofs.YtmnglkcodbecbaaGreat
