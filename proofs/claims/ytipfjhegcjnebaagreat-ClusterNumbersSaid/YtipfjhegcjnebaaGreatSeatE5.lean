/- A part of a proof over the abstract machine. No conditions. -/
import Derived.Test.YtipfjhegcjnebaaGreatSeatD2
namespace Go.Proofs.YtipfjhegcjnebaaGreat
open Go Go.Ab Go.Fa
set_option maxRecDepth 1000000
set_option maxHeartbeats 0
theorem e23230_run : entryR S [] 2000 200 9 e23230 = true := by kernel_rfl
theorem e23230_ok : EntryOk (conf S) 9 e23230 := entry_ok S_ok (o := []) (orc_nil) e23230_run
theorem e23635_run : entryR S [] 2000 200 9 e23635 = true := by kernel_rfl
theorem e23635_ok : EntryOk (conf S) 9 e23635 := entry_ok S_ok (o := []) (orc_nil) e23635_run
theorem e24040_run : entryR S [] 2000 200 9 e24040 = true := by kernel_rfl
theorem e24040_ok : EntryOk (conf S) 9 e24040 := entry_ok S_ok (o := []) (orc_nil) e24040_run
theorem e24445_run : entryR S [] 2000 200 9 e24445 = true := by kernel_rfl
theorem e24445_ok : EntryOk (conf S) 9 e24445 := entry_ok S_ok (o := []) (orc_nil) e24445_run
theorem e24850_run : entryR S [] 2000 200 9 e24850 = true := by kernel_rfl
theorem e24850_ok : EntryOk (conf S) 9 e24850 := entry_ok S_ok (o := []) (orc_nil) e24850_run
theorem e25255_run : entryR S [] 2000 200 9 e25255 = true := by kernel_rfl
theorem e25255_ok : EntryOk (conf S) 9 e25255 := entry_ok S_ok (o := []) (orc_nil) e25255_run
theorem e25660_run : entryR S [] 2000 200 9 e25660 = true := by kernel_rfl
theorem e25660_ok : EntryOk (conf S) 9 e25660 := entry_ok S_ok (o := []) (orc_nil) e25660_run
theorem e26065_run : entryR S [] 2000 200 9 e26065 = true := by kernel_rfl
theorem e26065_ok : EntryOk (conf S) 9 e26065 := entry_ok S_ok (o := []) (orc_nil) e26065_run
theorem e26470_run : entryR S [] 2000 200 9 e26470 = true := by kernel_rfl
theorem e26470_ok : EntryOk (conf S) 9 e26470 := entry_ok S_ok (o := []) (orc_nil) e26470_run
theorem e28332_run : entryR S [] 2000 200 39 e28332 = true := by kernel_rfl
theorem e28332_ok : EntryOk (conf S) 39 e28332 := entry_ok S_ok (o := []) (orc_nil) e28332_run
theorem e28763_run : entryR S [] 2000 200 39 e28763 = true := by kernel_rfl
theorem e28763_ok : EntryOk (conf S) 39 e28763 := entry_ok S_ok (o := []) (orc_nil) e28763_run
theorem e29029_run : entryR S [] 2000 200 39 e29029 = true := by kernel_rfl
theorem e29029_ok : EntryOk (conf S) 39 e29029 := entry_ok S_ok (o := []) (orc_nil) e29029_run
theorem e29530_run : entryR S [] 2000 200 39 e29530 = true := by kernel_rfl
theorem e29530_ok : EntryOk (conf S) 39 e29530 := entry_ok S_ok (o := []) (orc_nil) e29530_run
theorem e31834_run : entryR S [] 2000 200 39 e31834 = true := by kernel_rfl
theorem e31834_ok : EntryOk (conf S) 39 e31834 := entry_ok S_ok (o := []) (orc_nil) e31834_run
end Go.Proofs.YtipfjhegcjnebaaGreat
