/- A part of a proof over the abstract machine. No conditions. -/
import Derived.Test.YtenimkekacdojaaGreatSeatD2
/- Calls that the kernel ran apart. No conditions. -/
namespace Go.Proofs.YtenimkekacdojaaGreat
open Go Go.Ab Go.Fa
set_option maxRecDepth 1000000
set_option maxHeartbeats 0
theorem e39743_run : entryR S [] 2000 200 7 e39743 = true := by kernel_rfl
theorem e39743_ok : EntryOk (conf S) 7 e39743 := entry_ok S_ok (o := []) (orc_nil) e39743_run
theorem e41876_run : entryR S [] 2000 200 7 e41876 = true := by kernel_rfl
theorem e41876_ok : EntryOk (conf S) 7 e41876 := entry_ok S_ok (o := []) (orc_nil) e41876_run
end Go.Proofs.YtenimkekacdojaaGreat
