/- A part of a proof over the abstract machine. No conditions. -/
import Derived.Test.YtdpefokmdfeabaaGreatSeatA
/- MoverNumbers: the kernel ran it. No conditions. -/
namespace Go.Proofs.YtdpefokmdfeabaaGreat
open Go Go.Ab Go.Fa
set_option maxRecDepth 100000
theorem run3 : isT (callR (conf S) (tab S) 1000 100 3 [] FH.empty) = true := by kernel_rfl
end Go.Proofs.YtdpefokmdfeabaaGreat
