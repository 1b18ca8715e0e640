/- What sensors do: the list of it, and each. -/
import Derived.Test.YtmnglkcodbecbaaGreatGp
namespace Go.Proofs.YtmnglkcodbecbaaGreat
open Go Go.RowKit Go.Proofs Go.Sx
set_option linter.unusedVariables false
set_option linter.unusedSimpArgs false
noncomputable def E64 : Env := ⟨Go.Proofs.Tryz.prog, [], 3, 215, true, [], [], []⟩
theorem E64_ok : E64.Ok := envOkU' (S := []) (HS := []) (US := []) (NS := []) trivial trivial trivial trivial
noncomputable def doesV : SV := .agg [.func 119 [] [], .func 120 [] [], .func 121 [] [], .func 122 [] []]
noncomputable def H64 : HSumm := fun vs _ => match vs with
  | [] => some (.agg [.func 119 [] [], .func 120 [] [], .func 121 [] [], .func 122 [] []])
  | _ => none
/-- a tree that is a value that bears no label -/
noncomputable def retIs (v : SV) (n : Nat) : T (SV × SHeap) → Bool
  | .ret (.agg [.func a [] [], .func b [] [], .func c [] [], .func d [] []], _) => Nat.beq a n && Nat.beq b (n + 1) && Nat.beq c (n + 2) && Nat.beq d (n + 3)
  | _ => false
theorem retIs_ret {v : SV} {n : Nat} {t : T (SV × SHeap)} (h : retIs v n t = true) : ∃ H, t = .ret (.agg [.func n [] [], .func (n + 1) [] [], .func (n + 2) [] [], .func (n + 3) [] []], H) := by
  unfold retIs at h
  split at h
  · rename_i a b c d H
    simp only [Bool.and_eq_true, Nat.beq_eq] at h
    obtain ⟨⟨⟨rfl, rfl⟩, rfl⟩, rfl⟩ := h
    exact ⟨H, rfl⟩
  · cases h
theorem H64_ok : HSummFn Go.Proofs.Tryz.prog 64 H64 := by
  intro vs H r h β w vals hv _ _
  unfold H64 at h
  split at h
  · simp only [Option.some.injEq] at h; subst h
    rw [relL_nil] at hv; subst hv
    obtain ⟨H', e⟩ := retIs_ret (v := doesV) (n := 119) (t := symCall E64 30 64 [] []) (by kernel_rfl)
    refine symCall_sound E64_ok 30 64 [] [] noLab w [] _ (relL_nil.2 rfl) ⟨fun l o h => by simp [hpOf, nth] at h, fun l l' b _ _ h => by simp [noLab] at h, fun l b _ h => by simp [noLab] at h⟩ (fun _ _ => rfl) ?_
    rw [e]
    intro β' w' val he _ _ hrel
    refine ⟨⟨val, rfl, ?_⟩, he.below (fun _ => rfl)⟩
    have h1 := rel_cutD (n := 0) _ val (fun l hl => by simp [SV.deep, deepL] at hl) hrel
    exact SV.rel_mono (fun l b hb => by rw [Lab.cut_blk] at hb; simp at hb) _ _ h1
  · cases h
noncomputable def Eu119 : Env := ⟨Go.Proofs.Tryz.prog, [(19, S19)], 3, 215, true, [], [], []⟩
noncomputable def U119 : USumm := firstU Eu119 30 119
theorem U119_ok : USummFn Go.Proofs.Tryz.prog 119 U119 := firstU_ok (E := Eu119) (envOkU' (S := [(19, S19)]) (HS := []) (US := []) (NS := []) ⟨S19_ok, trivial⟩ trivial trivial trivial)
noncomputable def Eu120 : Env := ⟨Go.Proofs.Tryz.prog, [(21, S21)], 3, 215, true, [], [], []⟩
noncomputable def U120 : USumm := firstU Eu120 30 120
theorem U120_ok : USummFn Go.Proofs.Tryz.prog 120 U120 := firstU_ok (E := Eu120) (envOkU' (S := [(21, S21)]) (HS := []) (US := []) (NS := []) ⟨S21_ok, trivial⟩ trivial trivial trivial)
noncomputable def Eu121 : Env := ⟨Go.Proofs.Tryz.prog, [(202, S202)], 3, 215, true, [], [], []⟩
noncomputable def U121 : USumm := firstU Eu121 30 121
theorem U121_ok : USummFn Go.Proofs.Tryz.prog 121 U121 := firstU_ok (E := Eu121) (envOkU' (S := [(202, S202)]) (HS := []) (US := []) (NS := []) ⟨S202_ok, trivial⟩ trivial trivial trivial)
noncomputable def Eu122 : Env := ⟨Go.Proofs.Tryz.prog, [(202, S202)], 3, 215, true, [], [], []⟩
noncomputable def U122 : USumm := firstU Eu122 30 122
theorem U122_ok : USummFn Go.Proofs.Tryz.prog 122 U122 := firstU_ok (E := Eu122) (envOkU' (S := [(202, S202)]) (HS := []) (US := []) (NS := []) ⟨S202_ok, trivial⟩ trivial trivial trivial)
end Go.Proofs.YtmnglkcodbecbaaGreat
