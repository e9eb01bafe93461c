/- A part of a proof over the abstract machine. No conditions. -/
import Derived.Test.YtenimkekacdojaaGreatSeatD2
/- Calls that the kernel ran apart. No conditions. -/
namespace Go.Proofs.YtenimkekacdojaaGreat
open Go Go.Ab Go.Fa
set_option maxRecDepth 1000000
set_option maxHeartbeats 0
theorem e57219_run : entryR S [] 2000 200 7 e57219 = true := by kernel_rfl
theorem e57219_ok : EntryOk (conf S) 7 e57219 := entry_ok S_ok (o := []) (orc_nil) e57219_run
theorem e59628_run : entryR S [] 2000 200 7 e59628 = true := by kernel_rfl
theorem e59628_ok : EntryOk (conf S) 7 e59628 := entry_ok S_ok (o := []) (orc_nil) e59628_run
theorem e61468_run : entryR S [] 2000 200 7 e61468 = true := by kernel_rfl
theorem e61468_ok : EntryOk (conf S) 7 e61468 := entry_ok S_ok (o := []) (orc_nil) e61468_run
theorem e61572_run : entryR S [] 2000 200 7 e61572 = true := by kernel_rfl
theorem e61572_ok : EntryOk (conf S) 7 e61572 := entry_ok S_ok (o := []) (orc_nil) e61572_run
end Go.Proofs.YtenimkekacdojaaGreat
