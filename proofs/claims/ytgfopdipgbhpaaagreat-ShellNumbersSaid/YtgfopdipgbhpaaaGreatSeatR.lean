/- A part of a proof over the abstract machine. No conditions. -/
import Derived.Test.YtgfopdipgbhpaaaGreatSeatA
/- ShellNumbers: the kernel ran it. No conditions. -/
namespace Go.Proofs.YtgfopdipgbhpaaaGreat
open Go Go.Ab Go.Fa
set_option maxRecDepth 100000
theorem run3 : isT (callR (conf S) (tab S) 1000 100 3 [] FH.empty) = true := by kernel_rfl
end Go.Proofs.YtgfopdipgbhpaaaGreat
