/- outriggerref16.Order and Fits as summaries over data. -/
import Derived.Test.YtidnooaccbahpaaUb
set_option linter.unusedVariables false
set_option linter.unusedSimpArgs false
namespace Go.Proofs.Ytidnooaccbahpaa
open Go.RowKit Go.Proofs Go.Sx
theorem lstD_of {β : Lab} {hp : HP} {w : World} (hr : HR β hp w) {n : Nat} {f : Nat → Nat → Tr} {v : Value} (h : relT β.fz (.sl n f) (.sl KA) v) : LstD w v (acts n f) :=
  ⟨n, f, relT_mono (fun b c hc => (hr.fz b c hc).1) _ _ _ h, rfl⟩
noncomputable def R10 : RSumm := fun vs => match vs with
  | [.tsl ks n f] => if CK.beqL ks KA then some (true, ordV (orderL (acts n f))) else none
  | _ => none
theorem R10_ok : RSummFn Go.Proofs.Try.prog 10 R10 := by
  refine rsumm_of fun vs c r h hc => ?_
  unfold R10 at h
  split at h <;> (try simp only [reduceCtorEq] at h)
  rename_i ks n f
  split at h <;> simp only [Option.some.injEq, Prod.mk.injEq, reduceCtorEq] at h
  rename_i hk; obtain ⟨_, rfl⟩ := h
  have hk := CK.beqL_eq _ _ hk
  subst hk
  refine ⟨by simp [deepL, SV.deep], fun β0 w0 vals h0 hr0 hv => ?_⟩
  rw [relL_cons] at hv; obtain ⟨v1, l1, q1, hv, rfl⟩ := hv
  rw [relL_nil] at hv; subst hv
  simp only [SV.rel] at q1
  have hcalls := ref_order_calls _ v1 w0 (lstD_of hr0 q1)
  rw [refOrder_eq] at hcalls
  refine hcalls.mono ?_
  rintro e w' ⟨hB, h⟩
  refine ⟨?_, hB⟩
  cases ho : orderL (acts n f) with
  | none =>
    rw [ho] at h
    refine ⟨_, h, ?_⟩
    simp only [ordV, Option.getD_none, Option.isSome_none, SV.rel]
    refine ⟨_, ?_, rfl⟩
    rw [relL_cons]; refine ⟨_, _, ?_, ?_, rfl⟩
    · simp only [intsV, SV.rel]; exact tsl_nil _ _ _
    · rw [relL_cons]; exact ⟨_, _, rfl, by rw [relL_nil], rfl⟩
  | some o =>
    rw [ho] at h
    obtain ⟨lv, base, rfl, hb, hrow⟩ := h
    obtain ⟨h1, h2, h3, _, _⟩ := orderL_props ho
    have h7 := sane_len h1
    refine ⟨_, rfl, ?_⟩
    simp only [ordV, Option.getD_some, Option.isSome_some, SV.rel]
    refine ⟨_, ?_, rfl⟩
    rw [relL_cons]; refine ⟨_, _, ?_, ?_, rfl⟩
    · refine own_tsl (base := base) (by rw [← ints_eq]; simpa [ordI] using hrow) hb ?_ (by simp [ordI, maxLen]; omega)
      intro x hx
      simp only [ordI, List.mem_map] at hx
      obtain ⟨i, hi, rfl⟩ := hx
      have := h3 i hi
      exact (rg_iff (k := .i64)).2 ⟨by simp only [loK]; omega, by simp only [hiK]; omega⟩
    · rw [relL_cons]; exact ⟨_, _, rfl, by rw [relL_nil], rfl⟩
noncomputable def R14 : RSumm := fun vs => match vs with
  | [.tsl ks n f, .tsl ks' m g] => if CK.beqL ks KA && CK.beqL ks' KI then some (Nat.ble m 1000000000000, .bool (.sym (fitsP (acts n f) (nums m g)))) else none
  | _ => none
theorem R14_ok : RSummFn Go.Proofs.Try.prog 14 R14 := by
  refine rsumm_of fun vs c r h hc => ?_
  unfold R14 at h
  split at h <;> (try simp only [reduceCtorEq] at h)
  rename_i ks n f ks' m g
  split at h <;> simp only [Option.some.injEq, Prod.mk.injEq, reduceCtorEq] at h
  rename_i hk; obtain ⟨hm, rfl⟩ := h
  simp only [Bool.and_eq_true] at hk
  have hk1 := CK.beqL_eq _ _ hk.1
  have hk2 := CK.beqL_eq _ _ hk.2
  subst hk1 hk2
  refine ⟨by simp [deepL, SV.deep], fun β0 w0 vals h0 hr0 hv => ?_⟩
  rw [relL_cons] at hv; obtain ⟨v1, l1, q1, hv, rfl⟩ := hv
  rw [relL_cons] at hv; obtain ⟨v2, l2, q2, hv, rfl⟩ := hv
  rw [relL_nil] at hv; subst hv
  simp only [SV.rel] at q1 q2
  have hm' : m ≤ 1000000000000 := by rw [← hm] at hc; exact Nat.le_of_ble_eq_true hc
  refine (ref_fits_calls _ _ v1 v2 w0 (lstD_of hr0 q1) (lstI_of hr0 q2 hm')).mono ?_
  rintro e w' ⟨rfl, hB⟩
  exact ⟨⟨_, rfl, by simp [SV.rel, SB.val, refFits_eq]⟩, hB⟩
end Go.Proofs.Ytidnooaccbahpaa
