/- A part of a proof over the abstract machine. No conditions. -/
import Derived.Test.YtipfjhegcjnebaaGreatSeatD2
namespace Go.Proofs.YtipfjhegcjnebaaGreat
open Go Go.Ab Go.Fa
set_option maxRecDepth 1000000
set_option maxHeartbeats 0
theorem e98698_run : entryR S [] 2000 200 39 e98698 = true := by kernel_rfl
theorem e98698_ok : EntryOk (conf S) 39 e98698 := entry_ok S_ok (o := []) (orc_nil) e98698_run
theorem e99606_run : entryR S [] 2000 200 39 e99606 = true := by kernel_rfl
theorem e99606_ok : EntryOk (conf S) 39 e99606 := entry_ok S_ok (o := []) (orc_nil) e99606_run
theorem e100229_run : entryR S [] 2000 200 39 e100229 = true := by kernel_rfl
theorem e100229_ok : EntryOk (conf S) 39 e100229 := entry_ok S_ok (o := []) (orc_nil) e100229_run
theorem e101396_run : entryR S [] 2000 200 39 e101396 = true := by kernel_rfl
theorem e101396_ok : EntryOk (conf S) 39 e101396 := entry_ok S_ok (o := []) (orc_nil) e101396_run
theorem e102520_run : entryR S [] 2000 200 39 e102520 = true := by kernel_rfl
theorem e102520_ok : EntryOk (conf S) 39 e102520 := entry_ok S_ok (o := []) (orc_nil) e102520_run
theorem e103361_run : entryR S [] 2000 200 39 e103361 = true := by kernel_rfl
theorem e103361_ok : EntryOk (conf S) 39 e103361 := entry_ok S_ok (o := []) (orc_nil) e103361_run
end Go.Proofs.YtipfjhegcjnebaaGreat
