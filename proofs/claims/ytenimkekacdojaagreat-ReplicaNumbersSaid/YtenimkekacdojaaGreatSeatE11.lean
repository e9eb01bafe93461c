/- A part of a proof over the abstract machine. No conditions. -/
import Derived.Test.YtenimkekacdojaaGreatSeatD2
/- Calls that the kernel ran apart. No conditions. -/
namespace Go.Proofs.YtenimkekacdojaaGreat
open Go Go.Ab Go.Fa
set_option maxRecDepth 1000000
set_option maxHeartbeats 0
theorem e44362_run : entryR S [] 2000 200 7 e44362 = true := by kernel_rfl
theorem e44362_ok : EntryOk (conf S) 7 e44362 := entry_ok S_ok (o := []) (orc_nil) e44362_run
theorem e46375_run : entryR S [] 2000 200 7 e46375 = true := by kernel_rfl
theorem e46375_ok : EntryOk (conf S) 7 e46375 := entry_ok S_ok (o := []) (orc_nil) e46375_run
end Go.Proofs.YtenimkekacdojaaGreat
