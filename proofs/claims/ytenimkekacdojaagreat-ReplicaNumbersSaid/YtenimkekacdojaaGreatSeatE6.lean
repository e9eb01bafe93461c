/- A part of a proof over the abstract machine. No conditions. -/
import Derived.Test.YtenimkekacdojaaGreatSeatD2
/- Calls that the kernel ran apart. No conditions. -/
namespace Go.Proofs.YtenimkekacdojaaGreat
open Go Go.Ab Go.Fa
set_option maxRecDepth 1000000
set_option maxHeartbeats 0
theorem e22082_run : entryR S [] 2000 200 7 e22082 = true := by kernel_rfl
theorem e22082_ok : EntryOk (conf S) 7 e22082 := entry_ok S_ok (o := []) (orc_nil) e22082_run
theorem e24231_run : entryR S [] 2000 200 7 e24231 = true := by kernel_rfl
theorem e24231_ok : EntryOk (conf S) 7 e24231 := entry_ok S_ok (o := []) (orc_nil) e24231_run
end Go.Proofs.YtenimkekacdojaaGreat
