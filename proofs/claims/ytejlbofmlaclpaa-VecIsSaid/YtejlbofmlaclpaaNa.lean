/- A summary of what lays down one new object. -/
import Derived.Test.YtejlbofmlaclpaaV4
namespace Go.Proofs.Ytejlbofmlaclpaa
open Go Go.RowKit Go.Proofs Go.Sx
noncomputable def En83 : Env := ⟨Go.Proofs.Try.prog, [], 3, 110, true, [], [], []⟩
/-- three numbers, as a list -/
noncomputable def N83 : NSumm := newVal En83 30 83
theorem N83_ok : NSummFn Go.Proofs.Try.prog 83 N83 := newVal_ok (E := En83) (envOkU' (S := []) (HS := []) (US := []) (NS := []) trivial trivial trivial trivial)
end Go.Proofs.Ytejlbofmlaclpaa
