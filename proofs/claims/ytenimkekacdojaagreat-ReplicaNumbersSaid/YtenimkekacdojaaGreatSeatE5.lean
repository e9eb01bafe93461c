/- A part of a proof over the abstract machine. No conditions. -/
import Derived.Test.YtenimkekacdojaaGreatSeatD2
/- Calls that the kernel ran apart. No conditions. -/
namespace Go.Proofs.YtenimkekacdojaaGreat
open Go Go.Ab Go.Fa
set_option maxRecDepth 1000000
set_option maxHeartbeats 0
theorem e17873_run : entryR S [] 2000 200 7 e17873 = true := by kernel_rfl
theorem e17873_ok : EntryOk (conf S) 7 e17873 := entry_ok S_ok (o := []) (orc_nil) e17873_run
theorem e19949_run : entryR S [] 2000 200 7 e19949 = true := by kernel_rfl
theorem e19949_ok : EntryOk (conf S) 7 e19949 := entry_ok S_ok (o := []) (orc_nil) e19949_run
end Go.Proofs.YtenimkekacdojaaGreat
