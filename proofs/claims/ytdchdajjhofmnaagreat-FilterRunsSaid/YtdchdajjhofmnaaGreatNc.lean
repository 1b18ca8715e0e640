/- What sensors do: the list of it, and each. -/
import Derived.Test.YtdchdajjhofmnaaGreatGp
namespace Go.Proofs.YtdchdajjhofmnaaGreat
open Go Go.RowKit Go.Proofs Go.Sx
set_option linter.unusedVariables false
set_option linter.unusedSimpArgs false
noncomputable def E64 : Env := ⟨Go.Proofs.Tryz.prog, [], 3, 336, true, [], [], [], []⟩
theorem E64_ok : E64.Ok := envOkU' (S := []) (HS := []) (US := []) (NS := []) trivial trivial trivial trivial
noncomputable def doesV : SV := .agg [.func 158 [] [], .func 159 [] [], .func 160 [] [], .func 161 [] []]
noncomputable def H104 : HSumm := fun vs _ => match vs with
 | [] => some (.agg [.func 158 [] [], .func 159 [] [], .func 160 [] [], .func 161 [] []])
 | _ => none
noncomputable def retIs (v : SV) (n : Nat) : T (SV × SHeap) → Bool
 | .ret (.agg [.func a [] [], .func b [] [], .func c [] [], .func d [] []], _) => Nat.beq a n && Nat.beq b (n + 1) && Nat.beq c (n + 2) && Nat.beq d (n + 3)
 | _ => false
theorem retIs_ret {v : SV} {n : Nat} {t : T (SV × SHeap)} (h : retIs v n t = true) : ∃ H, t = .ret (.agg [.func n [] [], .func (n + 1) [] [], .func (n + 2) [] [], .func (n + 3) [] []], H) := by
 unfold retIs at h
 split at h
 ·rename_i a b c d H
  simp only [Bool.and_eq_true, Nat.beq_eq] at h
  obtain ⟨⟨⟨rfl, rfl⟩, rfl⟩, rfl⟩ := h
  exact ⟨H, rfl⟩
 ·cases h
theorem H104_ok : HSummFn Go.Proofs.Tryz.prog 104 H104 := by
 refine HSummFn.of ?_
 intro vs H r h β w vals hv _ _
 unfold H104 at h
 split at h
 ·simp only [Option.some.injEq] at h; subst h
  rw [relL_nil] at hv; subst hv
  obtain ⟨H', e⟩ := retIs_ret (v := doesV) (n := 158) (t := symCall E64 30 104 [] []) (by kernel_rfl)
  refine symCall_sound E64_ok 30 104 [] [] noLab w [] _ (relL_nil.2 rfl) ⟨fun l o h => by simp [hpOf, nth] at h, fun l l' b _ _ h => by simp [noLab] at h, fun l b _ h => by simp [noLab] at h, fun b c h => by simp [noLab] at h⟩ (fun _ _ => rfl) ?_
  rw [e]
  intro β' w' val he _ _ hrel
  refine ⟨⟨val, rfl, ?_⟩, he.below (fun _ => rfl)⟩
  simp only [SV.rel, relL] at hrel ⊢; exact hrel
 ·cases h
noncomputable def Eu158 : Env := ⟨Go.Proofs.Tryz.prog, [(208, S208)], 3, 336, true, [], [], [], []⟩
noncomputable def U158 : USumm := firstU Eu158 30 158
theorem U158_ok : USummFn Go.Proofs.Tryz.prog 158 U158 := firstU_ok (E := Eu158) (envOkU' (S := [(208, S208)]) (HS := []) (US := []) (NS := []) ⟨S208_ok, trivial⟩ trivial trivial trivial)
noncomputable def Eu159 : Env := ⟨Go.Proofs.Tryz.prog, [(209, S209)], 3, 336, true, [], [], [], []⟩
noncomputable def U159 : USumm := firstU Eu159 30 159
theorem U159_ok : USummFn Go.Proofs.Tryz.prog 159 U159 := firstU_ok (E := Eu159) (envOkU' (S := [(209, S209)]) (HS := []) (US := []) (NS := []) ⟨S209_ok, trivial⟩ trivial trivial trivial)
noncomputable def Eu160 : Env := ⟨Go.Proofs.Tryz.prog, [(267, S267)], 3, 336, true, [], [], [], []⟩
noncomputable def U160 : USumm := firstU Eu160 30 160
theorem U160_ok : USummFn Go.Proofs.Tryz.prog 160 U160 := firstU_ok (E := Eu160) (envOkU' (S := [(267, S267)]) (HS := []) (US := []) (NS := []) ⟨S267_ok, trivial⟩ trivial trivial trivial)
noncomputable def Eu161 : Env := ⟨Go.Proofs.Tryz.prog, [(267, S267)], 3, 336, true, [], [], [], []⟩
noncomputable def U161 : USumm := firstU Eu161 30 161
theorem U161_ok : USummFn Go.Proofs.Tryz.prog 161 U161 := firstU_ok (E := Eu161) (envOkU' (S := [(267, S267)]) (HS := []) (US := []) (NS := []) ⟨S267_ok, trivial⟩ trivial trivial trivial)
end Go.Proofs.YtdchdajjhofmnaaGreat
