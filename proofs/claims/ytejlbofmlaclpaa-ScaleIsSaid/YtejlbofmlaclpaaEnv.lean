/- What the machine's program of this seat owes the executor: its functions are entered by calls, its order is drawn. -/
import Derived.Test.YtejlbofmlaclpaaSx
import Derived.Test.YtejlbofmlaclpaaProg
namespace Go.Proofs.Ytejlbofmlaclpaa
open Go.Sx
theorem follows' : Go.Proofs.Try.prog.follows .mixedOrders = true := by kernel_rfl
theorem enters' : (List.range' 3 (110 - 3)).all (okEnter Go.Proofs.Try.prog) = true := by kernel_rfl
theorem envOk' {S : Summs} (h : SummsOk Go.Proofs.Try.prog S) : (Env.mk Go.Proofs.Try.prog S 3 110).Ok := envOk enters' follows' h
end Go.Proofs.Ytejlbofmlaclpaa
