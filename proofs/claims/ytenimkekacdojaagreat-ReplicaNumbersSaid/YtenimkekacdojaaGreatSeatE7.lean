/- A part of a proof over the abstract machine. No conditions. -/
import Derived.Test.YtenimkekacdojaaGreatSeatD2
/- Calls that the kernel ran apart. No conditions. -/
namespace Go.Proofs.YtenimkekacdojaaGreat
open Go Go.Ab Go.Fa
set_option maxRecDepth 1000000
set_option maxHeartbeats 0
theorem e26384_run : entryR S [] 2000 200 7 e26384 = true := by kernel_rfl
theorem e26384_ok : EntryOk (conf S) 7 e26384 := entry_ok S_ok (o := []) (orc_nil) e26384_run
theorem e28586_run : entryR S [] 2000 200 7 e28586 = true := by kernel_rfl
theorem e28586_ok : EntryOk (conf S) 7 e28586 := entry_ok S_ok (o := []) (orc_nil) e28586_run
end Go.Proofs.YtenimkekacdojaaGreat
