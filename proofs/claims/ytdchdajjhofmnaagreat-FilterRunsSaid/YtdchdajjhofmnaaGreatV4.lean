/- sum.Dot of the program and of the reference, as summaries that are told the memory: run by the executor where they are called. -/
import Derived.Test.YtdchdajjhofmnaaGreatV3
import Derived.Test.YtdchdajjhofmnaaGreatGd
namespace Go.Proofs.YtdchdajjhofmnaaGreat
open Go Go.RowKit Go.Proofs Go.Sx
noncomputable def E1 : Env := ⟨Go.Proofs.Tryz.prog, [(258, S258), (99, S99), (259, S259), (284, S284)], 3, 336, true, [(232, H232), (234, H234)], [], [], []⟩
theorem E1_ok : E1.Ok := envOkH' (S := [(258, S258), (99, S99), (259, S259), (284, S284)]) (HS := [(232, H232), (234, H234)]) ⟨S258_ok, S99_ok, S259_ok, S284_ok, trivial⟩ ⟨H232_ok, H234_ok, trivial⟩
noncomputable def H255 : HSumm := fun vs H => oneVal E1 20 255 vs H
theorem H255_ok : HSummFn Go.Proofs.Tryz.prog 255 H255 := HSummFn.of fun _ _ _ h _ _ _ hv hr hf => (oneVal_sound E1_ok h hv hr hf).2
noncomputable def E2 : Env := ⟨Go.Proofs.Tryz.prog, [(226, S226), (276, S276), (225, S225), (182, S182)], 3, 336, true, [], [], [], []⟩
theorem E2_ok : E2.Ok := envOk' (S := [(226, S226), (276, S276), (225, S225), (182, S182)]) ⟨S226_ok, S276_ok, S225_ok, S182_ok, trivial⟩
noncomputable def H215 : HSumm := fun vs H => oneVal E2 20 215 vs H
theorem H215_ok : HSummFn Go.Proofs.Tryz.prog 215 H215 := HSummFn.of fun _ _ _ h _ _ _ hv hr hf => (oneVal_sound E2_ok h hv hr hf).2
end Go.Proofs.YtdchdajjhofmnaaGreat
