/- sum.Dot of the program and of the reference, as summaries that are told the memory: run by the executor where they are called. -/
import Derived.Test.YtoagcpfklkmolaaV3
import Derived.Test.YtoagcpfklkmolaaGd
namespace Go.Proofs.Ytoagcpfklkmolaa
open Go Go.RowKit Go.Proofs Go.Sx
noncomputable def E1 : Env := ⟨Go.Proofs.Try.prog, [(71, S71), (29, S29), (89, S89), (100, S100)], 3, 130, true, [(72, H72), (74, H74)], [], []⟩
theorem E1_ok : E1.Ok := envOkH' (S := [(71, S71), (29, S29), (89, S89), (100, S100)]) (HS := [(72, H72), (74, H74)]) ⟨S71_ok, S29_ok, S89_ok, S100_ok, trivial⟩ ⟨H72_ok, H74_ok, trivial⟩
noncomputable def H45 : HSumm := fun vs H => oneVal E1 20 45 vs H
theorem H45_ok : HSummFn Go.Proofs.Try.prog 45 H45 := fun _ _ _ h _ _ _ hv hr hf => (oneVal_sound E1_ok h hv hr hf).2
noncomputable def E2 : Env := ⟨Go.Proofs.Try.prog, [(78, S78), (109, S109), (90, S90), (76, S76)], 3, 130, true, [], [], []⟩
theorem E2_ok : E2.Ok := envOk' (S := [(78, S78), (109, S109), (90, S90), (76, S76)]) ⟨S78_ok, S109_ok, S90_ok, S76_ok, trivial⟩
noncomputable def H48 : HSumm := fun vs H => oneVal E2 20 48 vs H
theorem H48_ok : HSummFn Go.Proofs.Try.prog 48 H48 := fun _ _ _ h _ _ _ hv hr hf => (oneVal_sound E2_ok h hv hr hf).2
end Go.Proofs.Ytoagcpfklkmolaa
