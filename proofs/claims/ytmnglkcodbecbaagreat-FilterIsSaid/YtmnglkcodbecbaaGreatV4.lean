/- sum.Dot of the program and of the reference, as summaries that are told the memory: run by the executor where they are called. -/
import Derived.Test.YtmnglkcodbecbaaGreatV3
import Derived.Test.YtmnglkcodbecbaaGreatGd
namespace Go.Proofs.YtmnglkcodbecbaaGreat
open Go Go.RowKit Go.Proofs Go.Sx
noncomputable def E1 : Env := ⟨Go.Proofs.Tryz.prog, [(157, S157), (82, S82), (158, S158), (178, S178)], 3, 215, true, [(138, H138), (140, H140)], [], []⟩
theorem E1_ok : E1.Ok := envOkH' (S := [(157, S157), (82, S82), (158, S158), (178, S178)]) (HS := [(138, H138), (140, H140)]) ⟨S157_ok, S82_ok, S158_ok, S178_ok, trivial⟩ ⟨H138_ok, H140_ok, trivial⟩
noncomputable def H107 : HSumm := fun vs H => oneVal E1 20 107 vs H
theorem H107_ok : HSummFn Go.Proofs.Tryz.prog 107 H107 := fun _ _ _ h _ _ _ hv hr hf => (oneVal_sound E1_ok h hv hr hf).2
noncomputable def E2 : Env := ⟨Go.Proofs.Tryz.prog, [(160, S160), (187, S187), (161, S161), (146, S146)], 3, 215, true, [], [], []⟩
theorem E2_ok : E2.Ok := envOk' (S := [(160, S160), (187, S187), (161, S161), (146, S146)]) ⟨S160_ok, S187_ok, S161_ok, S146_ok, trivial⟩
noncomputable def H155 : HSumm := fun vs H => oneVal E2 20 155 vs H
theorem H155_ok : HSummFn Go.Proofs.Tryz.prog 155 H155 := fun _ _ _ h _ _ _ hv hr hf => (oneVal_sound E2_ok h hv hr hf).2
end Go.Proofs.YtmnglkcodbecbaaGreat
