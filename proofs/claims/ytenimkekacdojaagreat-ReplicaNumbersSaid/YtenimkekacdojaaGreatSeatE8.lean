/- A part of a proof over the abstract machine. No conditions. -/
import Derived.Test.YtenimkekacdojaaGreatSeatD2
/- Calls that the kernel ran apart. No conditions. -/
namespace Go.Proofs.YtenimkekacdojaaGreat
open Go Go.Ab Go.Fa
set_option maxRecDepth 1000000
set_option maxHeartbeats 0
theorem e30719_run : entryR S [] 2000 200 7 e30719 = true := by kernel_rfl
theorem e30719_ok : EntryOk (conf S) 7 e30719 := entry_ok S_ok (o := []) (orc_nil) e30719_run
theorem e33047_run : entryR S [] 2000 200 7 e33047 = true := by kernel_rfl
theorem e33047_ok : EntryOk (conf S) 7 e33047 := entry_ok S_ok (o := []) (orc_nil) e33047_run
theorem e33160_run : entryR S [] 2000 200 7 e33160 = true := by kernel_rfl
theorem e33160_ok : EntryOk (conf S) 7 e33160 := entry_ok S_ok (o := []) (orc_nil) e33160_run
theorem e33273_run : entryR S [] 2000 200 7 e33273 = true := by kernel_rfl
theorem e33273_ok : EntryOk (conf S) 7 e33273 := entry_ok S_ok (o := []) (orc_nil) e33273_run
end Go.Proofs.YtenimkekacdojaaGreat
