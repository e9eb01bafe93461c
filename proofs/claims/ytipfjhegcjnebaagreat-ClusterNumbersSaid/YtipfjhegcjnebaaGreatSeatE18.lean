/- A part of a proof over the abstract machine. No conditions. -/
import Derived.Test.YtipfjhegcjnebaaGreatSeatD2
namespace Go.Proofs.YtipfjhegcjnebaaGreat
open Go Go.Ab Go.Fa
set_option maxRecDepth 1000000
set_option maxHeartbeats 0
theorem e84599_run : entryR S [] 2000 200 39 e84599 = true := by kernel_rfl
theorem e84599_ok : EntryOk (conf S) 39 e84599 := entry_ok S_ok (o := []) (orc_nil) e84599_run
theorem e85462_run : entryR S [] 2000 200 39 e85462 = true := by kernel_rfl
theorem e85462_ok : EntryOk (conf S) 39 e85462 := entry_ok S_ok (o := []) (orc_nil) e85462_run
theorem e85944_run : entryR S [] 2000 200 39 e85944 = true := by kernel_rfl
theorem e85944_ok : EntryOk (conf S) 39 e85944 := entry_ok S_ok (o := []) (orc_nil) e85944_run
theorem e86737_run : entryR S [] 2000 200 39 e86737 = true := by kernel_rfl
theorem e86737_ok : EntryOk (conf S) 39 e86737 := entry_ok S_ok (o := []) (orc_nil) e86737_run
theorem e87569_run : entryR S [] 2000 200 39 e87569 = true := by kernel_rfl
theorem e87569_ok : EntryOk (conf S) 39 e87569 := entry_ok S_ok (o := []) (orc_nil) e87569_run
theorem e89362_run : entryR S [] 2000 200 39 e89362 = true := by kernel_rfl
theorem e89362_ok : EntryOk (conf S) 39 e89362 := entry_ok S_ok (o := []) (orc_nil) e89362_run
theorem e90997_run : entryR S [] 2000 200 39 e90997 = true := by kernel_rfl
theorem e90997_ok : EntryOk (conf S) 39 e90997 := entry_ok S_ok (o := []) (orc_nil) e90997_run
end Go.Proofs.YtipfjhegcjnebaaGreat
