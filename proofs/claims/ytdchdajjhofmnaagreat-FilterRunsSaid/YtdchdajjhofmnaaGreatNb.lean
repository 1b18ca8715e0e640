/- Summaries told the memory: does a list contain what a function says? The methods that keep whether something was clamped. -/
import Derived.Test.YtdchdajjhofmnaaGreatGm
import Derived.Test.YtdchdajjhofmnaaGreatUa
namespace Go.Proofs.YtdchdajjhofmnaaGreat
open Go Go.RowKit Go.Proofs Go.Sx
set_option linter.unusedVariables false
set_option linter.unusedSimpArgs false
noncomputable def E80 : Env := ⟨Go.Proofs.Tryz.prog, [(99, S99), (199, S199)], 3, 336, true, [], [], [], []⟩
theorem E80_ok : E80.Ok := envOkU' (S := [(99, S99), (199, S199)]) (HS := []) (US := []) (NS := []) ⟨S99_ok, S199_ok, trivial⟩ trivial trivial trivial
noncomputable def H187 : HSumm := fun vs H => oneVal E80 30 187 vs H
theorem H187_ok : HSummFn Go.Proofs.Tryz.prog 187 H187 := HSummFn.of fun _ _ _ h _ _ _ hv hr hf => (oneVal_sound E80_ok h hv hr hf).2
noncomputable def E74 : Env := ⟨Go.Proofs.Tryz.prog, [(91, S91)], 3, 336, true, [], [], [], []⟩
theorem E74_ok : E74.Ok := envOkU' (S := [(91, S91)]) (HS := []) (US := []) (NS := []) ⟨S91_ok, trivial⟩ trivial trivial trivial
noncomputable def H55 : HSumm := fun vs H => oneVal E74 30 55 vs H
theorem H55_ok : HSummFn Go.Proofs.Tryz.prog 55 H55 := HSummFn.of fun _ _ _ h _ _ _ hv hr hf => (oneVal_sound E74_ok h hv hr hf).2
noncomputable def Eu205 : Env := ⟨Go.Proofs.Tryz.prog, [], 3, 336, true, [], [], [], []⟩
noncomputable def U205 : USumm := firstU Eu205 30 205
theorem U205_ok : USummFn Go.Proofs.Tryz.prog 205 U205 := firstU_ok (E := Eu205) (envOkU' (S := []) (HS := []) (US := []) (NS := []) trivial trivial trivial trivial)
noncomputable def Eu156 : Env := ⟨Go.Proofs.Tryz.prog, [(207, S207)], 3, 336, true, [], [(205, U205)], [], []⟩
noncomputable def U156 : USumm := firstU Eu156 30 156
theorem U156_ok : USummFn Go.Proofs.Tryz.prog 156 U156 := firstU_ok (E := Eu156) (envOkU' (S := [(207, S207)]) (HS := []) (US := [(205, U205)]) (NS := []) ⟨S207_ok, trivial⟩ trivial ⟨U205_ok, trivial⟩ trivial)
noncomputable def Eu314 : Env := ⟨Go.Proofs.Tryz.prog, [(204, S204)], 3, 336, true, [], [(205, U205)], [], []⟩
noncomputable def U314 : USumm := firstU Eu314 30 314
theorem U314_ok : USummFn Go.Proofs.Tryz.prog 314 U314 := firstU_ok (E := Eu314) (envOkU' (S := [(204, S204)]) (HS := []) (US := [(205, U205)]) (NS := []) ⟨S204_ok, trivial⟩ trivial ⟨U205_ok, trivial⟩ trivial)
noncomputable def Eu155 : Env := ⟨Go.Proofs.Tryz.prog, [(206, S206)], 3, 336, true, [], [(205, U205)], [], []⟩
noncomputable def U155 : USumm := firstU Eu155 30 155
theorem U155_ok : USummFn Go.Proofs.Tryz.prog 155 U155 := firstU_ok (E := Eu155) (envOkU' (S := [(206, S206)]) (HS := []) (US := [(205, U205)]) (NS := []) ⟨S206_ok, trivial⟩ trivial ⟨U205_ok, trivial⟩ trivial)
noncomputable def Eu316 : Env := ⟨Go.Proofs.Tryz.prog, [(312, S312)], 3, 336, true, [], [(205, U205)], [], []⟩
noncomputable def U316 : USumm := firstU Eu316 30 316
theorem U316_ok : USummFn Go.Proofs.Tryz.prog 316 U316 := firstU_ok (E := Eu316) (envOkU' (S := [(312, S312)]) (HS := []) (US := [(205, U205)]) (NS := []) ⟨S312_ok, trivial⟩ trivial ⟨U205_ok, trivial⟩ trivial)
noncomputable def Eu216 : Env := ⟨Go.Proofs.Tryz.prog, [], 3, 336, true, [], [], [], []⟩
noncomputable def U216 : USumm := firstU Eu216 30 216
theorem U216_ok : USummFn Go.Proofs.Tryz.prog 216 U216 := firstU_ok (E := Eu216) (envOkU' (S := []) (HS := []) (US := []) (NS := []) trivial trivial trivial trivial)
noncomputable def Eu169 : Env := ⟨Go.Proofs.Tryz.prog, [(217, S217)], 3, 336, true, [], [(216, U216)], [], []⟩
noncomputable def U169 : USumm := firstU Eu169 30 169
theorem U169_ok : USummFn Go.Proofs.Tryz.prog 169 U169 := firstU_ok (E := Eu169) (envOkU' (S := [(217, S217)]) (HS := []) (US := [(216, U216)]) (NS := []) ⟨S217_ok, trivial⟩ trivial ⟨U216_ok, trivial⟩ trivial)
noncomputable def Eu177 : Env := ⟨Go.Proofs.Tryz.prog, [(166, S166)], 3, 336, true, [], [(216, U216)], [], []⟩
noncomputable def U177 : USumm := firstU Eu177 30 177
theorem U177_ok : USummFn Go.Proofs.Tryz.prog 177 U177 := firstU_ok (E := Eu177) (envOkU' (S := [(166, S166)]) (HS := []) (US := [(216, U216)]) (NS := []) ⟨S166_ok, trivial⟩ trivial ⟨U216_ok, trivial⟩ trivial)
noncomputable def Eu168 : Env := ⟨Go.Proofs.Tryz.prog, [(179, S179)], 3, 336, true, [], [(216, U216)], [], []⟩
noncomputable def U168 : USumm := firstU Eu168 30 168
theorem U168_ok : USummFn Go.Proofs.Tryz.prog 168 U168 := firstU_ok (E := Eu168) (envOkU' (S := [(179, S179)]) (HS := []) (US := [(216, U216)]) (NS := []) ⟨S179_ok, trivial⟩ trivial ⟨U216_ok, trivial⟩ trivial)
noncomputable def Eu181 : Env := ⟨Go.Proofs.Tryz.prog, [(222, S222)], 3, 336, true, [], [(216, U216)], [], []⟩
noncomputable def U181 : USumm := firstU Eu181 30 181
theorem U181_ok : USummFn Go.Proofs.Tryz.prog 181 U181 := firstU_ok (E := Eu181) (envOkU' (S := [(222, S222)]) (HS := []) (US := [(216, U216)]) (NS := []) ⟨S222_ok, trivial⟩ trivial ⟨U216_ok, trivial⟩ trivial)
end Go.Proofs.YtdchdajjhofmnaaGreat
