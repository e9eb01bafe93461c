/- A part of a proof over the abstract machine. No conditions. -/
import Derived.Test.YtenimkekacdojaaGreatSeatD2
/- Calls that the kernel ran apart. No conditions. -/
namespace Go.Proofs.YtenimkekacdojaaGreat
open Go Go.Ab Go.Fa
set_option maxRecDepth 1000000
set_option maxHeartbeats 0
theorem e137_run : entryR S [] 2000 200 7 e137 = true := by kernel_rfl
theorem e137_ok : EntryOk (conf S) 7 e137 := entry_ok S_ok (o := []) (orc_nil) e137_run
theorem e168_run : entryR S [] 2000 200 7 e168 = true := by kernel_rfl
theorem e168_ok : EntryOk (conf S) 7 e168 := entry_ok S_ok (o := []) (orc_nil) e168_run
theorem e199_run : entryR S [] 2000 200 7 e199 = true := by kernel_rfl
theorem e199_ok : EntryOk (conf S) 7 e199 := entry_ok S_ok (o := []) (orc_nil) e199_run
theorem e643_run : entryR S [] 2000 200 7 e643 = true := by kernel_rfl
theorem e643_ok : EntryOk (conf S) 7 e643 := entry_ok S_ok (o := []) (orc_nil) e643_run
theorem e747_run : entryR S [] 2000 200 7 e747 = true := by kernel_rfl
theorem e747_ok : EntryOk (conf S) 7 e747 := entry_ok S_ok (o := []) (orc_nil) e747_run
theorem e851_run : entryR S [] 2000 200 7 e851 = true := by kernel_rfl
theorem e851_ok : EntryOk (conf S) 7 e851 := entry_ok S_ok (o := []) (orc_nil) e851_run
theorem e955_run : entryR S [] 2000 200 7 e955 = true := by kernel_rfl
theorem e955_ok : EntryOk (conf S) 7 e955 := entry_ok S_ok (o := []) (orc_nil) e955_run
theorem e1059_run : entryR S [] 2000 200 7 e1059 = true := by kernel_rfl
theorem e1059_ok : EntryOk (conf S) 7 e1059 := entry_ok S_ok (o := []) (orc_nil) e1059_run
theorem e1163_run : entryR S [] 2000 200 7 e1163 = true := by kernel_rfl
theorem e1163_ok : EntryOk (conf S) 7 e1163 := entry_ok S_ok (o := []) (orc_nil) e1163_run
theorem e1267_run : entryR S [] 2000 200 7 e1267 = true := by kernel_rfl
theorem e1267_ok : EntryOk (conf S) 7 e1267 := entry_ok S_ok (o := []) (orc_nil) e1267_run
theorem e1371_run : entryR S [] 2000 200 7 e1371 = true := by kernel_rfl
theorem e1371_ok : EntryOk (conf S) 7 e1371 := entry_ok S_ok (o := []) (orc_nil) e1371_run
theorem e1475_run : entryR S [] 2000 200 7 e1475 = true := by kernel_rfl
theorem e1475_ok : EntryOk (conf S) 7 e1475 := entry_ok S_ok (o := []) (orc_nil) e1475_run
theorem e1579_run : entryR S [] 2000 200 7 e1579 = true := by kernel_rfl
theorem e1579_ok : EntryOk (conf S) 7 e1579 := entry_ok S_ok (o := []) (orc_nil) e1579_run
theorem e1683_run : entryR S [] 2000 200 7 e1683 = true := by kernel_rfl
theorem e1683_ok : EntryOk (conf S) 7 e1683 := entry_ok S_ok (o := []) (orc_nil) e1683_run
theorem e1787_run : entryR S [] 2000 200 7 e1787 = true := by kernel_rfl
theorem e1787_ok : EntryOk (conf S) 7 e1787 := entry_ok S_ok (o := []) (orc_nil) e1787_run
theorem e1891_run : entryR S [] 2000 200 7 e1891 = true := by kernel_rfl
theorem e1891_ok : EntryOk (conf S) 7 e1891 := entry_ok S_ok (o := []) (orc_nil) e1891_run
theorem e1995_run : entryR S [] 2000 200 7 e1995 = true := by kernel_rfl
theorem e1995_ok : EntryOk (conf S) 7 e1995 := entry_ok S_ok (o := []) (orc_nil) e1995_run
theorem e2099_run : entryR S [] 2000 200 7 e2099 = true := by kernel_rfl
theorem e2099_ok : EntryOk (conf S) 7 e2099 := entry_ok S_ok (o := []) (orc_nil) e2099_run
theorem e2203_run : entryR S [] 2000 200 7 e2203 = true := by kernel_rfl
theorem e2203_ok : EntryOk (conf S) 7 e2203 := entry_ok S_ok (o := []) (orc_nil) e2203_run
theorem e2307_run : entryR S [] 2000 200 7 e2307 = true := by kernel_rfl
theorem e2307_ok : EntryOk (conf S) 7 e2307 := entry_ok S_ok (o := []) (orc_nil) e2307_run
theorem e2623_run : entryR S [] 2000 200 7 e2623 = true := by kernel_rfl
theorem e2623_ok : EntryOk (conf S) 7 e2623 := entry_ok S_ok (o := []) (orc_nil) e2623_run
end Go.Proofs.YtenimkekacdojaaGreat
