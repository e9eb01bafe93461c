/- A part of a proof over the abstract machine. No conditions. -/
import Derived.Test.YtenimkekacdojaaGreatSeatD2
/- Calls that the kernel ran apart. No conditions. -/
namespace Go.Proofs.YtenimkekacdojaaGreat
open Go Go.Ab Go.Fa
set_option maxRecDepth 1000000
set_option maxHeartbeats 0
theorem e48582_run : entryR S [] 2000 200 7 e48582 = true := by kernel_rfl
theorem e48582_ok : EntryOk (conf S) 7 e48582 := entry_ok S_ok (o := []) (orc_nil) e48582_run
theorem e50723_run : entryR S [] 2000 200 7 e50723 = true := by kernel_rfl
theorem e50723_ok : EntryOk (conf S) 7 e50723 := entry_ok S_ok (o := []) (orc_nil) e50723_run
end Go.Proofs.YtenimkekacdojaaGreat
