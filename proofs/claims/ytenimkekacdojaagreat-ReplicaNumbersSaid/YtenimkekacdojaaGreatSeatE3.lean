/- A part of a proof over the abstract machine. No conditions. -/
import Derived.Test.YtenimkekacdojaaGreatSeatD2
/- Calls that the kernel ran apart. No conditions. -/
namespace Go.Proofs.YtenimkekacdojaaGreat
open Go Go.Ab Go.Fa
set_option maxRecDepth 1000000
set_option maxHeartbeats 0
theorem e8830_run : entryR S [] 2000 200 7 e8830 = true := by kernel_rfl
theorem e8830_ok : EntryOk (conf S) 7 e8830 := entry_ok S_ok (o := []) (orc_nil) e8830_run
theorem e11032_run : entryR S [] 2000 200 7 e11032 = true := by kernel_rfl
theorem e11032_ok : EntryOk (conf S) 7 e11032 := entry_ok S_ok (o := []) (orc_nil) e11032_run
end Go.Proofs.YtenimkekacdojaaGreat
