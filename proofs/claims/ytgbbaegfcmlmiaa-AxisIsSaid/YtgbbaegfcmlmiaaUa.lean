/- The methods that keep whether something was clamped: they write one object. -/
import Derived.Test.YtgbbaegfcmlmiaaGb
namespace Go.Proofs.Ytgbbaegfcmlmiaa
open Go Go.Sx
noncomputable def Eu44 : Env := ⟨Go.Proofs.Try.prog, [], 3, 88, true, [], []⟩
noncomputable def U44 : USumm := firstU Eu44 30 44
theorem U44_ok : USummFn Go.Proofs.Try.prog 44 U44 := firstU_ok (E := Eu44) (envOkU' (S := []) (HS := []) (US := []) trivial trivial trivial)
noncomputable def Eu25 : Env := ⟨Go.Proofs.Try.prog, [(46, S46)], 3, 88, true, [], [(44, U44)]⟩
noncomputable def U25 : USumm := firstU Eu25 30 25
theorem U25_ok : USummFn Go.Proofs.Try.prog 25 U25 := firstU_ok (E := Eu25) (envOkU' (S := [(46, S46)]) (HS := []) (US := [(44, U44)]) ⟨S46_ok, trivial⟩ trivial ⟨U44_ok, trivial⟩)
noncomputable def Eu24 : Env := ⟨Go.Proofs.Try.prog, [(45, S45)], 3, 88, true, [], [(44, U44)]⟩
noncomputable def U24 : USumm := firstU Eu24 30 24
theorem U24_ok : USummFn Go.Proofs.Try.prog 24 U24 := firstU_ok (E := Eu24) (envOkU' (S := [(45, S45)]) (HS := []) (US := [(44, U44)]) ⟨S45_ok, trivial⟩ trivial ⟨U44_ok, trivial⟩)
noncomputable def Eu29 : Env := ⟨Go.Proofs.Try.prog, [(27, S27)], 3, 88, true, [], [(44, U44)]⟩
noncomputable def U29 : USumm := firstU Eu29 30 29
theorem U29_ok : USummFn Go.Proofs.Try.prog 29 U29 := firstU_ok (E := Eu29) (envOkU' (S := [(27, S27)]) (HS := []) (US := [(44, U44)]) ⟨S27_ok, trivial⟩ trivial ⟨U44_ok, trivial⟩)
noncomputable def Eu28 : Env := ⟨Go.Proofs.Try.prog, [(51, S51)], 3, 88, true, [], [(44, U44)]⟩
noncomputable def U28 : USumm := firstU Eu28 30 28
theorem U28_ok : USummFn Go.Proofs.Try.prog 28 U28 := firstU_ok (E := Eu28) (envOkU' (S := [(51, S51)]) (HS := []) (US := [(44, U44)]) ⟨S51_ok, trivial⟩ trivial ⟨U44_ok, trivial⟩)
end Go.Proofs.Ytgbbaegfcmlmiaa
