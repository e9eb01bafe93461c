/- A part of a proof over the abstract machine. No conditions. -/
import Derived.Test.YtenimkekacdojaaGreatSeatD2
/- Calls that the kernel ran apart. No conditions. -/
namespace Go.Proofs.YtenimkekacdojaaGreat
open Go Go.Ab Go.Fa
set_option maxRecDepth 1000000
set_option maxHeartbeats 0
theorem e13165_run : entryR S [] 2000 200 7 e13165 = true := by kernel_rfl
theorem e13165_ok : EntryOk (conf S) 7 e13165 := entry_ok S_ok (o := []) (orc_nil) e13165_run
theorem e15314_run : entryR S [] 2000 200 7 e15314 = true := by kernel_rfl
theorem e15314_ok : EntryOk (conf S) 7 e15314 := entry_ok S_ok (o := []) (orc_nil) e15314_run
end Go.Proofs.YtenimkekacdojaaGreat
