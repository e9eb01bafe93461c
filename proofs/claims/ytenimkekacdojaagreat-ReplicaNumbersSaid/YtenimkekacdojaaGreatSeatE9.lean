/- A part of a proof over the abstract machine. No conditions. -/
import Derived.Test.YtenimkekacdojaaGreatSeatD2
/- Calls that the kernel ran apart. No conditions. -/
namespace Go.Proofs.YtenimkekacdojaaGreat
open Go Go.Ab Go.Fa
set_option maxRecDepth 1000000
set_option maxHeartbeats 0
theorem e35388_run : entryR S [] 2000 200 7 e35388 = true := by kernel_rfl
theorem e35388_ok : EntryOk (conf S) 7 e35388 := entry_ok S_ok (o := []) (orc_nil) e35388_run
theorem e37541_run : entryR S [] 2000 200 7 e37541 = true := by kernel_rfl
theorem e37541_ok : EntryOk (conf S) 7 e37541 := entry_ok S_ok (o := []) (orc_nil) e37541_run
end Go.Proofs.YtenimkekacdojaaGreat
