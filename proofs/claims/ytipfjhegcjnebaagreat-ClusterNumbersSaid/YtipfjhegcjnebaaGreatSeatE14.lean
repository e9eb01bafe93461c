/- A part of a proof over the abstract machine. No conditions. -/
import Derived.Test.YtipfjhegcjnebaaGreatSeatD2
namespace Go.Proofs.YtipfjhegcjnebaaGreat
open Go Go.Ab Go.Fa
set_option maxRecDepth 1000000
set_option maxHeartbeats 0
theorem e67003_run : entryR S [] 2000 200 39 e67003 = true := by kernel_rfl
theorem e67003_ok : EntryOk (conf S) 39 e67003 := entry_ok S_ok (o := []) (orc_nil) e67003_run
theorem e67233_run : entryR S [] 2000 200 39 e67233 = true := by kernel_rfl
theorem e67233_ok : EntryOk (conf S) 39 e67233 := entry_ok S_ok (o := []) (orc_nil) e67233_run
theorem e67580_run : entryR S [] 2000 200 39 e67580 = true := by kernel_rfl
theorem e67580_ok : EntryOk (conf S) 39 e67580 := entry_ok S_ok (o := []) (orc_nil) e67580_run
theorem e69152_run : entryR S [] 2000 200 39 e69152 = true := by kernel_rfl
theorem e69152_ok : EntryOk (conf S) 39 e69152 := entry_ok S_ok (o := []) (orc_nil) e69152_run
theorem e69907_run : entryR S [] 2000 200 39 e69907 = true := by kernel_rfl
theorem e69907_ok : EntryOk (conf S) 39 e69907 := entry_ok S_ok (o := []) (orc_nil) e69907_run
theorem e70337_run : entryR S [] 2000 200 39 e70337 = true := by kernel_rfl
theorem e70337_ok : EntryOk (conf S) 39 e70337 := entry_ok S_ok (o := []) (orc_nil) e70337_run
theorem e71182_run : entryR S [] 2000 200 39 e71182 = true := by kernel_rfl
theorem e71182_ok : EntryOk (conf S) 39 e71182 := entry_ok S_ok (o := []) (orc_nil) e71182_run
theorem e71657_run : entryR S [] 2000 200 39 e71657 = true := by kernel_rfl
theorem e71657_ok : EntryOk (conf S) 39 e71657 := entry_ok S_ok (o := []) (orc_nil) e71657_run
end Go.Proofs.YtipfjhegcjnebaaGreat
