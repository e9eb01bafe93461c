/- A part of a proof over the abstract machine. No conditions. -/
import Derived.Test.YtofafocfemikcaaGreatSeatA
namespace Go.Proofs.YtofafocfemikcaaGreat.Kn
open Go Go.Ab Go.Fa
set_option maxRecDepth 100000
theorem run10:isT (callR (conf S) (tab S) 1000 100 10 [] FH.empty) = true:=by kernel_rfl
theorem ran:∃ h',W (conf S) 10 [] H.empty = some (.ret (.one (.bool true)) h'):=closed S_ok run10
theorem W_S:CallsOk Tryz.prog (W (conf S)):=conf_W S_ok
end Go.Proofs.YtofafocfemikcaaGreat.Kn
