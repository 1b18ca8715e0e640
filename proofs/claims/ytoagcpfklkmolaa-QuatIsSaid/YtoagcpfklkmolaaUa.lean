/- The methods of a pose at work: they write one object. -/
import Derived.Test.YtoagcpfklkmolaaGh
namespace Go.Proofs.Ytoagcpfklkmolaa
open Go Go.Sx
noncomputable def Eu61 : Env := ⟨Go.Proofs.Try.prog, [], 3, 130, true, [], [], []⟩
noncomputable def U61 : USumm := firstU Eu61 30 61
theorem U61_ok : USummFn Go.Proofs.Try.prog 61 U61 := firstU_ok (E := Eu61) (envOkU' (S := []) (HS := []) (US := []) (NS := []) trivial trivial trivial trivial)
noncomputable def Eu94 : Env := ⟨Go.Proofs.Try.prog, [], 3, 130, true, [], [], []⟩
noncomputable def U94 : USumm := firstU Eu94 30 94
theorem U94_ok : USummFn Go.Proofs.Try.prog 94 U94 := firstU_ok (E := Eu94) (envOkU' (S := []) (HS := []) (US := []) (NS := []) trivial trivial trivial trivial)
noncomputable def Eu60 : Env := ⟨Go.Proofs.Try.prog, [(15, S15), (19, S19), (21, S21)], 3, 130, true, [], [(94, U94)], []⟩
noncomputable def U60 : USumm := firstU Eu60 30 60
theorem U60_ok : USummFn Go.Proofs.Try.prog 60 U60 := firstU_ok (E := Eu60) (envOkU' (S := [(15, S15), (19, S19), (21, S21)]) (HS := []) (US := [(94, U94)]) (NS := []) ⟨S15_ok, S19_ok, S21_ok, trivial⟩ trivial ⟨U94_ok, trivial⟩ trivial)
end Go.Proofs.Ytoagcpfklkmolaa
