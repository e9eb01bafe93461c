/- A part of a proof over the abstract machine. No conditions. -/
import Derived.Test.YtnmbbekfnaaggaaGreatSeatE2
import Derived.Test.YtnmbbekfnaaggaaGreatSeatE5
import Derived.Test.YtnmbbekfnaaggaaGreatSeatE7
import Derived.Test.YtnmbbekfnaaggaaGreatSeatE9
/- The rest, run by the kernel. No conditions. -/
namespace Go.Proofs.YtnmbbekfnaaggaaGreat
open Go Go.Ab Go.Fa
set_option maxRecDepth 1000000
set_option maxHeartbeats 0
theorem run3_o : isT (callR (confO S [(5,[e11,e7902,e18480,e25781]),(13,[e33106])]) (tabO (tab S) [(5,[e11,e7902,e18480,e25781]),(13,[e33106])]) 2000 200 3 [] FH.empty) = true := by kernel_rfl
theorem run3 : ∃ h', W (conf S) 3 [] H.empty = some (.ret (.one (.bool true)) h') := closedO S_ok (o := [(5,[e11,e7902,e18480,e25781]),(13,[e33106])]) (orc_cons (es_cons e11_ok (es_cons e7902_ok (es_cons e18480_ok (es_cons e25781_ok (es_nil))))) (orc_cons (es_cons e33106_ok (es_nil)) (orc_nil))) run3_o
end Go.Proofs.YtnmbbekfnaaggaaGreat
