/- Run over a list that is known. -/
import Derived.Test.YtmnglkcodbecbaaGreatGq
namespace Go.Proofs.YtmnglkcodbecbaaGreat
open Go Go.RowKit Go.Proofs Go.Sx
noncomputable def E32 : Env := ⟨Go.Proofs.Tryz.prog, [(24, S24), (60, S60)], 3, 215, true, [], [], []⟩
theorem E32_ok : E32.Ok := envOkU' (S := [(24, S24), (60, S60)]) (HS := []) (US := []) (NS := []) ⟨S24_ok, S60_ok, trivial⟩ trivial trivial trivial
noncomputable def H32 : HSumm := fun vs H => oneVal E32 30 32 vs H
theorem H32_ok : HSummFn Go.Proofs.Tryz.prog 32 H32 := fun _ _ _ h _ _ _ hv hr hf => (oneVal_sound E32_ok h hv hr hf).2
end Go.Proofs.YtmnglkcodbecbaaGreat
