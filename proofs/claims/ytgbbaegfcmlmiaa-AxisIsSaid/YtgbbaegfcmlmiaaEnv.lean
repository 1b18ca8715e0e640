/- What the machine's program of this seat owes the executor: its functions are entered by calls, its order is drawn. -/
import Derived.Test.YtgbbaegfcmlmiaaSx
import Derived.Test.YtgbbaegfcmlmiaaProg
namespace Go.Proofs.Ytgbbaegfcmlmiaa
open Go.Sx
theorem follows' : Go.Proofs.Try.prog.follows .mixedOrders = true := by kernel_rfl
theorem enters' : (List.range' 3 (88 - 3)).all (okEnter Go.Proofs.Try.prog) = true := by kernel_rfl
theorem envOk' {S : Summs} {j : Bool} (h : SummsOk Go.Proofs.Try.prog S) : (Env.mk Go.Proofs.Try.prog S 3 88 j [] []).Ok := envOk enters' follows' h trivial trivial
theorem envOkH' {S : Summs} {j : Bool} {HS : HSumms} (h : SummsOk Go.Proofs.Try.prog S) (h' : HSummsOk Go.Proofs.Try.prog HS) : (Env.mk Go.Proofs.Try.prog S 3 88 j HS []).Ok := envOk enters' follows' h h' trivial
theorem envOkU' {S : Summs} {j : Bool} {HS : HSumms} {US : USumms} (h : SummsOk Go.Proofs.Try.prog S) (h' : HSummsOk Go.Proofs.Try.prog HS) (hu : USummsOk Go.Proofs.Try.prog US) : (Env.mk Go.Proofs.Try.prog S 3 88 j HS US).Ok := envOk enters' follows' h h' hu
end Go.Proofs.Ytgbbaegfcmlmiaa
