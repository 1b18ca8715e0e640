/- What the machine's program of this seat owes the executor: its functions are entered by calls, its order is drawn. -/
import Derived.Test.YtdchdajjhofmnaaGreatSx
import Derived.Test.YtdchdajjhofmnaaGreatProg
namespace Go.Proofs.YtdchdajjhofmnaaGreat
open Go.Sx
theorem follows' : Go.Proofs.Tryz.prog.follows .mixedOrders = true := by kernel_rfl
theorem enters' : (List.range' 3 (336 - 3)).all (okEnter Go.Proofs.Tryz.prog) = true := by kernel_rfl
theorem envOk' {S : Summs} {j : Bool} (h : SummsOk Go.Proofs.Tryz.prog S) : (Env.mk Go.Proofs.Tryz.prog S 3 336 j [] [] [] []).Ok := envOk enters' follows' h trivial trivial trivial trivial
theorem envOkH' {S : Summs} {j : Bool} {HS : HSumms} (h : SummsOk Go.Proofs.Tryz.prog S) (h' : HSummsOk Go.Proofs.Tryz.prog HS) : (Env.mk Go.Proofs.Tryz.prog S 3 336 j HS [] [] []).Ok := envOk enters' follows' h h' trivial trivial trivial
theorem envOkU' {S : Summs} {j : Bool} {HS : HSumms} {US : USumms} {NS : NSumms} (h : SummsOk Go.Proofs.Tryz.prog S) (h' : HSummsOk Go.Proofs.Tryz.prog HS) (hu : USummsOk Go.Proofs.Tryz.prog US) (hn : NSummsOk Go.Proofs.Tryz.prog NS) : (Env.mk Go.Proofs.Tryz.prog S 3 336 j HS US NS []).Ok := envOk enters' follows' h h' hu hn trivial
theorem envOkR' {S : Summs} {j : Bool} {HS : HSumms} {RS : RSumms} (h : SummsOk Go.Proofs.Tryz.prog S) (h' : HSummsOk Go.Proofs.Tryz.prog HS) (hr : RSummsOk Go.Proofs.Tryz.prog RS) : (Env.mk Go.Proofs.Tryz.prog S 3 336 j HS [] [] RS).Ok := envOk enters' follows' h h' trivial trivial hr
end Go.Proofs.YtdchdajjhofmnaaGreat
