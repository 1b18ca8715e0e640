/- sum.Dot of the program and of the reference, as summaries that are told the memory: run by the executor where they are called. -/
import Derived.Test.YtejlbofmlaclpaaV3
import Derived.Test.YtejlbofmlaclpaaGd
namespace Go.Proofs.Ytejlbofmlaclpaa
open Go Go.RowKit Go.Proofs Go.Sx
noncomputable def E1 : Env := ⟨Go.Proofs.Try.prog, [(16, S16), (25, S25), (29, S29), (30, S30)], 3, 110, true, [(92, H92), (94, H94)], [], []⟩
theorem E1_ok : E1.Ok := envOkH' (S := [(16, S16), (25, S25), (29, S29), (30, S30)]) (HS := [(92, H92), (94, H94)]) ⟨S16_ok, S25_ok, S29_ok, S30_ok, trivial⟩ ⟨H92_ok, H94_ok, trivial⟩
noncomputable def H78 : HSumm := fun vs H => oneVal E1 20 78 vs H
theorem H78_ok : HSummFn Go.Proofs.Try.prog 78 H78 := fun _ _ _ h _ _ _ hv hr hf => (oneVal_sound E1_ok h hv hr hf).2
noncomputable def E2 : Env := ⟨Go.Proofs.Try.prog, [(17, S17), (52, S52), (57, S57), (63, S63)], 3, 110, true, [], [], []⟩
theorem E2_ok : E2.Ok := envOk' (S := [(17, S17), (52, S52), (57, S57), (63, S63)]) ⟨S17_ok, S52_ok, S57_ok, S63_ok, trivial⟩
noncomputable def H82 : HSumm := fun vs H => oneVal E2 20 82 vs H
theorem H82_ok : HSummFn Go.Proofs.Try.prog 82 H82 := fun _ _ _ h _ _ _ hv hr hf => (oneVal_sound E2_ok h hv hr hf).2
end Go.Proofs.Ytejlbofmlaclpaa
