/- Summaries told the memory, and one that lays down a new object, for the turns. -/
import Derived.Test.YtoagcpfklkmolaaV4
namespace Go.Proofs.Ytoagcpfklkmolaa
open Go Go.RowKit Go.Proofs Go.Sx
noncomputable def En40 : Env := ⟨Go.Proofs.Try.prog, [], 3, 130, true, [], [], []⟩
/-- a number's way round, as a function -/
noncomputable def N40 : NSumm := newVal En40 30 40
theorem N40_ok : NSummFn Go.Proofs.Try.prog 40 N40 := newVal_ok (E := En40) (envOk' trivial)
noncomputable def E5 : Env := ⟨Go.Proofs.Try.prog, [(29, S29)], 3, 130, true, [], [], []⟩
theorem E5_ok : E5.Ok := envOk' (S := [(29, S29)]) ⟨S29_ok, trivial⟩
/-- was one of a row's numbers clamped? -/
noncomputable def H44 : HSumm := fun vs H => oneVal E5 30 44 vs H
theorem H44_ok : HSummFn Go.Proofs.Try.prog 44 H44 := fun _ _ _ h _ _ _ hv hr hf => (oneVal_sound E5_ok h hv hr hf).2
end Go.Proofs.Ytoagcpfklkmolaa
