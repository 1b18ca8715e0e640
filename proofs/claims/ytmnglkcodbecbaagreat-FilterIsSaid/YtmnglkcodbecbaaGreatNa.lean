/- Summaries told the memory, and one that lays down a new object, for the turns. -/
import Derived.Test.YtmnglkcodbecbaaGreatV4
namespace Go.Proofs.YtmnglkcodbecbaaGreat
open Go Go.RowKit Go.Proofs Go.Sx
noncomputable def En148 : Env := ⟨Go.Proofs.Tryz.prog, [], 3, 215, true, [], [], []⟩
/-- a number's way round, as a function -/
noncomputable def N148 : NSumm := newVal En148 30 148
theorem N148_ok : NSummFn Go.Proofs.Tryz.prog 148 N148 := newVal_ok (E := En148) (envOk' trivial)
noncomputable def E5 : Env := ⟨Go.Proofs.Tryz.prog, [(82, S82)], 3, 215, true, [], [], []⟩
theorem E5_ok : E5.Ok := envOk' (S := [(82, S82)]) ⟨S82_ok, trivial⟩
/-- was one of a row's numbers clamped? -/
noncomputable def H152 : HSumm := fun vs H => oneVal E5 30 152 vs H
theorem H152_ok : HSummFn Go.Proofs.Tryz.prog 152 H152 := fun _ _ _ h _ _ _ hv hr hf => (oneVal_sound E5_ok h hv hr hf).2
end Go.Proofs.YtmnglkcodbecbaaGreat
