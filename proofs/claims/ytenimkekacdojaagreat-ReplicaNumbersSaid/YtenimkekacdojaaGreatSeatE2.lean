/- A part of a proof over the abstract machine. No conditions. -/
import Derived.Test.YtenimkekacdojaaGreatSeatD2
/- Calls that the kernel ran apart. No conditions. -/
namespace Go.Proofs.YtenimkekacdojaaGreat
open Go Go.Ab Go.Fa
set_option maxRecDepth 1000000
set_option maxHeartbeats 0
theorem e4528_run : entryR S [] 2000 200 7 e4528 = true := by kernel_rfl
theorem e4528_ok : EntryOk (conf S) 7 e4528 := entry_ok S_ok (o := []) (orc_nil) e4528_run
theorem e6677_run : entryR S [] 2000 200 7 e6677 = true := by kernel_rfl
theorem e6677_ok : EntryOk (conf S) 7 e6677 := entry_ok S_ok (o := []) (orc_nil) e6677_run
end Go.Proofs.YtenimkekacdojaaGreat
