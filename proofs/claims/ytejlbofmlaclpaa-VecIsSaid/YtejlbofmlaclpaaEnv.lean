/- What the machine's program of this seat owes the executor: its functions are entered by calls, its order is drawn. -/
import Derived.Test.YtejlbofmlaclpaaSx
import Derived.Test.YtejlbofmlaclpaaProg
namespace Go.Proofs.Ytejlbofmlaclpaa
open Go.Sx
theorem follows' : Go.Proofs.Try.prog.follows .mixedOrders = true := by kernel_rfl
theorem enters' : (List.range' 3 (110 - 3)).all (okEnter Go.Proofs.Try.prog) = true := by kernel_rfl
theorem envOk' {S : Summs} {j : Bool} (h : SummsOk Go.Proofs.Try.prog S) : (Env.mk Go.Proofs.Try.prog S 3 110 j [] [] []).Ok := envOk enters' follows' h trivial trivial trivial
theorem envOkH' {S : Summs} {j : Bool} {HS : HSumms} (h : SummsOk Go.Proofs.Try.prog S) (h' : HSummsOk Go.Proofs.Try.prog HS) : (Env.mk Go.Proofs.Try.prog S 3 110 j HS [] []).Ok := envOk enters' follows' h h' trivial trivial
theorem envOkU' {S : Summs} {j : Bool} {HS : HSumms} {US : USumms} {NS : NSumms} (h : SummsOk Go.Proofs.Try.prog S) (h' : HSummsOk Go.Proofs.Try.prog HS) (hu : USummsOk Go.Proofs.Try.prog US) (hn : NSummsOk Go.Proofs.Try.prog NS) : (Env.mk Go.Proofs.Try.prog S 3 110 j HS US NS).Ok := envOk enters' follows' h h' hu hn
end Go.Proofs.Ytejlbofmlaclpaa
