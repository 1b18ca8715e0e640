/- What the machine's program of this seat owes the executor: its functions are entered by calls, its order is drawn. -/
import Derived.Test.YtidnooaccbahpaaSx
import Derived.Test.YtidnooaccbahpaaProg
namespace Go.Proofs.Ytidnooaccbahpaa
open Go.Sx
theorem follows' : Go.Proofs.Try.prog.follows .mixedOrders = true := by kernel_rfl
theorem enters' : (List.range' 3 (50 - 3)).all (okEnter Go.Proofs.Try.prog) = true := by kernel_rfl
theorem envOk' {S : Summs} {j : Bool} (h : SummsOk Go.Proofs.Try.prog S) : (Env.mk Go.Proofs.Try.prog S 3 50 j [] [] [] []).Ok := envOk enters' follows' h trivial trivial trivial trivial
theorem envOkH' {S : Summs} {j : Bool} {HS : HSumms} (h : SummsOk Go.Proofs.Try.prog S) (h' : HSummsOk Go.Proofs.Try.prog HS) : (Env.mk Go.Proofs.Try.prog S 3 50 j HS [] [] []).Ok := envOk enters' follows' h h' trivial trivial trivial
theorem envOkU' {S : Summs} {j : Bool} {HS : HSumms} {US : USumms} {NS : NSumms} (h : SummsOk Go.Proofs.Try.prog S) (h' : HSummsOk Go.Proofs.Try.prog HS) (hu : USummsOk Go.Proofs.Try.prog US) (hn : NSummsOk Go.Proofs.Try.prog NS) : (Env.mk Go.Proofs.Try.prog S 3 50 j HS US NS []).Ok := envOk enters' follows' h h' hu hn trivial
theorem envOkR' {S : Summs} {j : Bool} {HS : HSumms} {RS : RSumms} (h : SummsOk Go.Proofs.Try.prog S) (h' : HSummsOk Go.Proofs.Try.prog HS) (hr : RSummsOk Go.Proofs.Try.prog RS) : (Env.mk Go.Proofs.Try.prog S 3 50 j HS [] [] RS).Ok := envOk enters' follows' h h' trivial trivial hr
end Go.Proofs.Ytidnooaccbahpaa
