/- A part of a proof over the abstract machine. No conditions. -/
import Derived.Test.YtipfjhegcjnebaaGreatSeatD2
namespace Go.Proofs.YtipfjhegcjnebaaGreat
open Go Go.Ab Go.Fa
set_option maxRecDepth 1000000
set_option maxHeartbeats 0
theorem e44496_run : entryR S [] 2000 200 39 e44496 = true := by kernel_rfl
theorem e44496_ok : EntryOk (conf S) 39 e44496 := entry_ok S_ok (o := []) (orc_nil) e44496_run
theorem e45399_run : entryR S [] 2000 200 39 e45399 = true := by kernel_rfl
theorem e45399_ok : EntryOk (conf S) 39 e45399 := entry_ok S_ok (o := []) (orc_nil) e45399_run
theorem e45986_run : entryR S [] 2000 200 39 e45986 = true := by kernel_rfl
theorem e45986_ok : EntryOk (conf S) 39 e45986 := entry_ok S_ok (o := []) (orc_nil) e45986_run
theorem e46719_run : entryR S [] 2000 200 39 e46719 = true := by kernel_rfl
theorem e46719_ok : EntryOk (conf S) 39 e46719 := entry_ok S_ok (o := []) (orc_nil) e46719_run
theorem e47503_run : entryR S [] 2000 200 39 e47503 = true := by kernel_rfl
theorem e47503_ok : EntryOk (conf S) 39 e47503 := entry_ok S_ok (o := []) (orc_nil) e47503_run
theorem e48146_run : entryR S [] 2000 200 39 e48146 = true := by kernel_rfl
theorem e48146_ok : EntryOk (conf S) 39 e48146 := entry_ok S_ok (o := []) (orc_nil) e48146_run
theorem e49368_run : entryR S [] 2000 200 39 e49368 = true := by kernel_rfl
theorem e49368_ok : EntryOk (conf S) 39 e49368 := entry_ok S_ok (o := []) (orc_nil) e49368_run
theorem e49861_run : entryR S [] 2000 200 39 e49861 = true := by kernel_rfl
theorem e49861_ok : EntryOk (conf S) 39 e49861 := entry_ok S_ok (o := []) (orc_nil) e49861_run
end Go.Proofs.YtipfjhegcjnebaaGreat
