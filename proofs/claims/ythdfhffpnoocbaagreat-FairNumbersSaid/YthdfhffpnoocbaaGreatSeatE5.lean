/- A part of a proof over the abstract machine. No conditions. -/
import Derived.Test.YthdfhffpnoocbaaGreatSeatD1
/- Calls that the kernel ran apart. No conditions. -/
namespace Go.Proofs.YthdfhffpnoocbaaGreat
open Go Go.Ab Go.Fa
set_option maxRecDepth 1000000
set_option maxHeartbeats 0
theorem e20067_run : entryR S [] 2000 200 5 e20067 = true := by kernel_rfl
theorem e20067_ok : EntryOk (conf S) 5 e20067 := entry_ok S_ok (o := []) (orc_nil) e20067_run
theorem e20397_run : entryR S [] 2000 200 5 e20397 = true := by kernel_rfl
theorem e20397_ok : EntryOk (conf S) 5 e20397 := entry_ok S_ok (o := []) (orc_nil) e20397_run
theorem e20742_run : entryR S [] 2000 200 5 e20742 = true := by kernel_rfl
theorem e20742_ok : EntryOk (conf S) 5 e20742 := entry_ok S_ok (o := []) (orc_nil) e20742_run
theorem e21057_run : entryR S [] 2000 200 5 e21057 = true := by kernel_rfl
theorem e21057_ok : EntryOk (conf S) 5 e21057 := entry_ok S_ok (o := []) (orc_nil) e21057_run
theorem e21372_run : entryR S [] 2000 200 5 e21372 = true := by kernel_rfl
theorem e21372_ok : EntryOk (conf S) 5 e21372 := entry_ok S_ok (o := []) (orc_nil) e21372_run
theorem e21688_run : entryR S [] 2000 200 5 e21688 = true := by kernel_rfl
theorem e21688_ok : EntryOk (conf S) 5 e21688 := entry_ok S_ok (o := []) (orc_nil) e21688_run
theorem e22021_run : entryR S [] 2000 200 5 e22021 = true := by kernel_rfl
theorem e22021_ok : EntryOk (conf S) 5 e22021 := entry_ok S_ok (o := []) (orc_nil) e22021_run
theorem e22353_run : entryR S [] 2000 200 5 e22353 = true := by kernel_rfl
theorem e22353_ok : EntryOk (conf S) 5 e22353 := entry_ok S_ok (o := []) (orc_nil) e22353_run
theorem e22701_run : entryR S [] 2000 200 5 e22701 = true := by kernel_rfl
theorem e22701_ok : EntryOk (conf S) 5 e22701 := entry_ok S_ok (o := []) (orc_nil) e22701_run
theorem e23017_run : entryR S [] 2000 200 5 e23017 = true := by kernel_rfl
theorem e23017_ok : EntryOk (conf S) 5 e23017 := entry_ok S_ok (o := []) (orc_nil) e23017_run
theorem e23333_run : entryR S [] 2000 200 5 e23333 = true := by kernel_rfl
theorem e23333_ok : EntryOk (conf S) 5 e23333 := entry_ok S_ok (o := []) (orc_nil) e23333_run
theorem e23650_run : entryR S [] 2000 200 5 e23650 = true := by kernel_rfl
theorem e23650_ok : EntryOk (conf S) 5 e23650 := entry_ok S_ok (o := []) (orc_nil) e23650_run
theorem e23985_run : entryR S [] 2000 200 5 e23985 = true := by kernel_rfl
theorem e23985_ok : EntryOk (conf S) 5 e23985 := entry_ok S_ok (o := []) (orc_nil) e23985_run
theorem e24319_run : entryR S [] 2000 200 5 e24319 = true := by kernel_rfl
theorem e24319_ok : EntryOk (conf S) 5 e24319 := entry_ok S_ok (o := []) (orc_nil) e24319_run
theorem e24670_run : entryR S [] 2000 200 5 e24670 = true := by kernel_rfl
theorem e24670_ok : EntryOk (conf S) 5 e24670 := entry_ok S_ok (o := []) (orc_nil) e24670_run
theorem e24987_run : entryR S [] 2000 200 5 e24987 = true := by kernel_rfl
theorem e24987_ok : EntryOk (conf S) 5 e24987 := entry_ok S_ok (o := []) (orc_nil) e24987_run
end Go.Proofs.YthdfhffpnoocbaaGreat
