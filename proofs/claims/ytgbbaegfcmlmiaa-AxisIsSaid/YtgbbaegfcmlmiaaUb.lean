/- The reference's methods that keep whether something was clamped: they write one object. -/
import Derived.Test.YtgbbaegfcmlmiaaGc
import Derived.Test.YtgbbaegfcmlmiaaUa
namespace Go.Proofs.Ytgbbaegfcmlmiaa
open Go Go.Sx
noncomputable def Eu54 : Env := ⟨Go.Proofs.Try.prog, [], 3, 88, true, [], []⟩
noncomputable def U54 : USumm := firstU Eu54 30 54
theorem U54_ok : USummFn Go.Proofs.Try.prog 54 U54 := firstU_ok (E := Eu54) (envOkU' (S := []) (HS := []) (US := []) trivial trivial trivial)
noncomputable def Eu34 : Env := ⟨Go.Proofs.Try.prog, [(55, S55)], 3, 88, true, [], [(54, U54)]⟩
noncomputable def U34 : USumm := firstU Eu34 30 34
theorem U34_ok : USummFn Go.Proofs.Try.prog 34 U34 := firstU_ok (E := Eu34) (envOkU' (S := [(55, S55)]) (HS := []) (US := [(54, U54)]) ⟨S55_ok, trivial⟩ trivial ⟨U54_ok, trivial⟩)
noncomputable def Eu33 : Env := ⟨Go.Proofs.Try.prog, [(53, S53)], 3, 88, true, [], [(54, U54)]⟩
noncomputable def U33 : USumm := firstU Eu33 30 33
theorem U33_ok : USummFn Go.Proofs.Try.prog 33 U33 := firstU_ok (E := Eu33) (envOkU' (S := [(53, S53)]) (HS := []) (US := [(54, U54)]) ⟨S53_ok, trivial⟩ trivial ⟨U54_ok, trivial⟩)
noncomputable def Eu39 : Env := ⟨Go.Proofs.Try.prog, [(36, S36)], 3, 88, true, [], [(54, U54)]⟩
noncomputable def U39 : USumm := firstU Eu39 30 39
theorem U39_ok : USummFn Go.Proofs.Try.prog 39 U39 := firstU_ok (E := Eu39) (envOkU' (S := [(36, S36)]) (HS := []) (US := [(54, U54)]) ⟨S36_ok, trivial⟩ trivial ⟨U54_ok, trivial⟩)
noncomputable def Eu38 : Env := ⟨Go.Proofs.Try.prog, [(60, S60)], 3, 88, true, [], [(54, U54)]⟩
noncomputable def U38 : USumm := firstU Eu38 30 38
theorem U38_ok : USummFn Go.Proofs.Try.prog 38 U38 := firstU_ok (E := Eu38) (envOkU' (S := [(60, S60)]) (HS := []) (US := [(54, U54)]) ⟨S60_ok, trivial⟩ trivial ⟨U54_ok, trivial⟩)
end Go.Proofs.Ytgbbaegfcmlmiaa
