/- A part of a proof over the abstract machine. No conditions. -/
import Derived.Test.YtmhbdpgflomihaaGreatSeatE3
/- Calls that the kernel ran apart. No conditions. -/
namespace Go.Proofs.YtmhbdpgflomihaaGreat
open Go Go.Ab Go.Fa
set_option maxRecDepth 1000000
set_option maxHeartbeats 0
theorem run3_o : isT (callR (confO S [(8, [e11, e8412])]) (tabO (tab S) [(8, [e11, e8412])]) 1000 100 3 [] FH.empty) = true := by kernel_rfl
theorem run3 : ∃ h', W (conf S) 3 [] H.empty = some (.ret (.one (.bool true)) h') := closedO S_ok (o := [(8, [e11, e8412])]) (orc_cons (es_cons e11_ok (es_cons e8412_ok (es_nil))) (orc_nil)) run3_o
end Go.Proofs.YtmhbdpgflomihaaGreat
