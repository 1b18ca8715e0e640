/- What the machine's program of this seat owes the executor: its functions are entered by calls, its order is drawn. -/
import Derived.Test.YtmnglkcodbecbaaGreatSx
import Derived.Test.YtmnglkcodbecbaaGreatProg
namespace Go.Proofs.YtmnglkcodbecbaaGreat
open Go.Sx
theorem follows' : Go.Proofs.Tryz.prog.follows .mixedOrders = true := by kernel_rfl
theorem enters' : (List.range' 3 (215 - 3)).all (okEnter Go.Proofs.Tryz.prog) = true := by kernel_rfl
theorem envOk' {S : Summs} {j : Bool} (h : SummsOk Go.Proofs.Tryz.prog S) : (Env.mk Go.Proofs.Tryz.prog S 3 215 j [] [] []).Ok := envOk enters' follows' h trivial trivial trivial
theorem envOkH' {S : Summs} {j : Bool} {HS : HSumms} (h : SummsOk Go.Proofs.Tryz.prog S) (h' : HSummsOk Go.Proofs.Tryz.prog HS) : (Env.mk Go.Proofs.Tryz.prog S 3 215 j HS [] []).Ok := envOk enters' follows' h h' trivial trivial
theorem envOkU' {S : Summs} {j : Bool} {HS : HSumms} {US : USumms} {NS : NSumms} (h : SummsOk Go.Proofs.Tryz.prog S) (h' : HSummsOk Go.Proofs.Tryz.prog HS) (hu : USummsOk Go.Proofs.Tryz.prog US) (hn : NSummsOk Go.Proofs.Tryz.prog NS) : (Env.mk Go.Proofs.Tryz.prog S 3 215 j HS US NS).Ok := envOk enters' follows' h h' hu hn
end Go.Proofs.YtmnglkcodbecbaaGreat
