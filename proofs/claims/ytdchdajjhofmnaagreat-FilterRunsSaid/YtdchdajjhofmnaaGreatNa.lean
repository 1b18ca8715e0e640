/- Summaries told the memory, and one that lays down a new object, for the turns. -/
import Derived.Test.YtdchdajjhofmnaaGreatV4
namespace Go.Proofs.YtdchdajjhofmnaaGreat
open Go Go.RowKit Go.Proofs Go.Sx
noncomputable def En250 : Env := ⟨Go.Proofs.Tryz.prog, [], 3, 336, true, [], [], [], []⟩
noncomputable def N250 : NSumm := newVal En250 30 250
theorem N250_ok : NSummFn Go.Proofs.Tryz.prog 250 N250 := newVal_ok (E := En250) (envOk' trivial)
noncomputable def E5 : Env := ⟨Go.Proofs.Tryz.prog, [(99, S99)], 3, 336, true, [], [], [], []⟩
theorem E5_ok : E5.Ok := envOk' (S := [(99, S99)]) ⟨S99_ok, trivial⟩
noncomputable def H254 : HSumm := fun vs H => oneVal E5 30 254 vs H
theorem H254_ok : HSummFn Go.Proofs.Tryz.prog 254 H254 := HSummFn.of fun _ _ _ h _ _ _ hv hr hf => (oneVal_sound E5_ok h hv hr hf).2
end Go.Proofs.YtdchdajjhofmnaaGreat
