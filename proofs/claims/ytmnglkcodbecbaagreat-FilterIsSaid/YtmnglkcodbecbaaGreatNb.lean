/- Summaries told the memory: does a list contain what a function says? The methods that keep whether something was clamped. -/
import Derived.Test.YtmnglkcodbecbaaGreatGm
import Derived.Test.YtmnglkcodbecbaaGreatUa
namespace Go.Proofs.YtmnglkcodbecbaaGreat
open Go Go.RowKit Go.Proofs Go.Sx
set_option linter.unusedVariables false
set_option linter.unusedSimpArgs false
noncomputable def E80 : Env := ⟨Go.Proofs.Tryz.prog, [(82, S82), (168, S168)], 3, 215, true, [], [], []⟩
theorem E80_ok : E80.Ok := envOkU' (S := [(82, S82), (168, S168)]) (HS := []) (US := []) (NS := []) ⟨S82_ok, S168_ok, trivial⟩ trivial trivial trivial
noncomputable def H80 : HSumm := fun vs H => oneVal E80 30 80 vs H
theorem H80_ok : HSummFn Go.Proofs.Tryz.prog 80 H80 := fun _ _ _ h _ _ _ hv hr hf => (oneVal_sound E80_ok h hv hr hf).2
noncomputable def E74 : Env := ⟨Go.Proofs.Tryz.prog, [(72, S72)], 3, 215, true, [], [], []⟩
theorem E74_ok : E74.Ok := envOkU' (S := [(72, S72)]) (HS := []) (US := []) (NS := []) ⟨S72_ok, trivial⟩ trivial trivial trivial
noncomputable def H74 : HSumm := fun vs H => oneVal E74 30 74 vs H
theorem H74_ok : HSummFn Go.Proofs.Tryz.prog 74 H74 := fun _ _ _ h _ _ _ hv hr hf => (oneVal_sound E74_ok h hv hr hf).2
noncomputable def Eu169 : Env := ⟨Go.Proofs.Tryz.prog, [], 3, 215, true, [], [], []⟩
noncomputable def U169 : USumm := firstU Eu169 30 169
theorem U169_ok : USummFn Go.Proofs.Tryz.prog 169 U169 := firstU_ok (E := Eu169) (envOkU' (S := []) (HS := []) (US := []) (NS := []) trivial trivial trivial trivial)
noncomputable def Eu117 : Env := ⟨Go.Proofs.Tryz.prog, [(170, S170)], 3, 215, true, [], [(169, U169)], []⟩
noncomputable def U117 : USumm := firstU Eu117 30 117
theorem U117_ok : USummFn Go.Proofs.Tryz.prog 117 U117 := firstU_ok (E := Eu117) (envOkU' (S := [(170, S170)]) (HS := []) (US := [(169, U169)]) (NS := []) ⟨S170_ok, trivial⟩ trivial ⟨U169_ok, trivial⟩ trivial)
noncomputable def Eu210 : Env := ⟨Go.Proofs.Tryz.prog, [(98, S98)], 3, 215, true, [], [(169, U169)], []⟩
noncomputable def U210 : USumm := firstU Eu210 30 210
theorem U210_ok : USummFn Go.Proofs.Tryz.prog 210 U210 := firstU_ok (E := Eu210) (envOkU' (S := [(98, S98)]) (HS := []) (US := [(169, U169)]) (NS := []) ⟨S98_ok, trivial⟩ trivial ⟨U169_ok, trivial⟩ trivial)
noncomputable def Eu116 : Env := ⟨Go.Proofs.Tryz.prog, [(96, S96)], 3, 215, true, [], [(169, U169)], []⟩
noncomputable def U116 : USumm := firstU Eu116 30 116
theorem U116_ok : USummFn Go.Proofs.Tryz.prog 116 U116 := firstU_ok (E := Eu116) (envOkU' (S := [(96, S96)]) (HS := []) (US := [(169, U169)]) (NS := []) ⟨S96_ok, trivial⟩ trivial ⟨U169_ok, trivial⟩ trivial)
noncomputable def Eu212 : Env := ⟨Go.Proofs.Tryz.prog, [(105, S105)], 3, 215, true, [], [(169, U169)], []⟩
noncomputable def U212 : USumm := firstU Eu212 30 212
theorem U212_ok : USummFn Go.Proofs.Tryz.prog 212 U212 := firstU_ok (E := Eu212) (envOkU' (S := [(105, S105)]) (HS := []) (US := [(169, U169)]) (NS := []) ⟨S105_ok, trivial⟩ trivial ⟨U169_ok, trivial⟩ trivial)
noncomputable def Eu174 : Env := ⟨Go.Proofs.Tryz.prog, [], 3, 215, true, [], [], []⟩
noncomputable def U174 : USumm := firstU Eu174 30 174
theorem U174_ok : USummFn Go.Proofs.Tryz.prog 174 U174 := firstU_ok (E := Eu174) (envOkU' (S := []) (HS := []) (US := []) (NS := []) trivial trivial trivial trivial)
noncomputable def Eu128 : Env := ⟨Go.Proofs.Tryz.prog, [(175, S175)], 3, 215, true, [], [(174, U174)], []⟩
noncomputable def U128 : USumm := firstU Eu128 30 128
theorem U128_ok : USummFn Go.Proofs.Tryz.prog 128 U128 := firstU_ok (E := Eu128) (envOkU' (S := [(175, S175)]) (HS := []) (US := [(174, U174)]) (NS := []) ⟨S175_ok, trivial⟩ trivial ⟨U174_ok, trivial⟩ trivial)
noncomputable def Eu130 : Env := ⟨Go.Proofs.Tryz.prog, [(99, S99)], 3, 215, true, [], [(174, U174)], []⟩
noncomputable def U130 : USumm := firstU Eu130 30 130
theorem U130_ok : USummFn Go.Proofs.Tryz.prog 130 U130 := firstU_ok (E := Eu130) (envOkU' (S := [(99, S99)]) (HS := []) (US := [(174, U174)]) (NS := []) ⟨S99_ok, trivial⟩ trivial ⟨U174_ok, trivial⟩ trivial)
noncomputable def Eu127 : Env := ⟨Go.Proofs.Tryz.prog, [(100, S100)], 3, 215, true, [], [(174, U174)], []⟩
noncomputable def U127 : USumm := firstU Eu127 30 127
theorem U127_ok : USummFn Go.Proofs.Tryz.prog 127 U127 := firstU_ok (E := Eu127) (envOkU' (S := [(100, S100)]) (HS := []) (US := [(174, U174)]) (NS := []) ⟨S100_ok, trivial⟩ trivial ⟨U174_ok, trivial⟩ trivial)
noncomputable def Eu133 : Env := ⟨Go.Proofs.Tryz.prog, [(109, S109)], 3, 215, true, [], [(174, U174)], []⟩
noncomputable def U133 : USumm := firstU Eu133 30 133
theorem U133_ok : USummFn Go.Proofs.Tryz.prog 133 U133 := firstU_ok (E := Eu133) (envOkU' (S := [(109, S109)]) (HS := []) (US := [(174, U174)]) (NS := []) ⟨S109_ok, trivial⟩ trivial ⟨U174_ok, trivial⟩ trivial)
end Go.Proofs.YtmnglkcodbecbaaGreat
