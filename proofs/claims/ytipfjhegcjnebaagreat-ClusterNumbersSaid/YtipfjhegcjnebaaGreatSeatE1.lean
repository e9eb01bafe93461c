/- A part of a proof over the abstract machine. No conditions. -/
import Derived.Test.YtipfjhegcjnebaaGreatSeatD2
namespace Go.Proofs.YtipfjhegcjnebaaGreat
open Go Go.Ab Go.Fa
set_option maxRecDepth 1000000
set_option maxHeartbeats 0
theorem e682_run : entryR S [] 2000 200 9 e682 = true := by kernel_rfl
theorem e682_ok : EntryOk (conf S) 9 e682 := entry_ok S_ok (o := []) (orc_nil) e682_run
theorem e2170_run : entryR S [] 2000 200 9 e2170 = true := by kernel_rfl
theorem e2170_ok : EntryOk (conf S) 9 e2170 := entry_ok S_ok (o := []) (orc_nil) e2170_run
theorem e2575_run : entryR S [] 2000 200 9 e2575 = true := by kernel_rfl
theorem e2575_ok : EntryOk (conf S) 9 e2575 := entry_ok S_ok (o := []) (orc_nil) e2575_run
theorem e2980_run : entryR S [] 2000 200 9 e2980 = true := by kernel_rfl
theorem e2980_ok : EntryOk (conf S) 9 e2980 := entry_ok S_ok (o := []) (orc_nil) e2980_run
theorem e3385_run : entryR S [] 2000 200 9 e3385 = true := by kernel_rfl
theorem e3385_ok : EntryOk (conf S) 9 e3385 := entry_ok S_ok (o := []) (orc_nil) e3385_run
theorem e3790_run : entryR S [] 2000 200 9 e3790 = true := by kernel_rfl
theorem e3790_ok : EntryOk (conf S) 9 e3790 := entry_ok S_ok (o := []) (orc_nil) e3790_run
theorem e4195_run : entryR S [] 2000 200 9 e4195 = true := by kernel_rfl
theorem e4195_ok : EntryOk (conf S) 9 e4195 := entry_ok S_ok (o := []) (orc_nil) e4195_run
theorem e4600_run : entryR S [] 2000 200 9 e4600 = true := by kernel_rfl
theorem e4600_ok : EntryOk (conf S) 9 e4600 := entry_ok S_ok (o := []) (orc_nil) e4600_run
theorem e5005_run : entryR S [] 2000 200 9 e5005 = true := by kernel_rfl
theorem e5005_ok : EntryOk (conf S) 9 e5005 := entry_ok S_ok (o := []) (orc_nil) e5005_run
theorem e5410_run : entryR S [] 2000 200 9 e5410 = true := by kernel_rfl
theorem e5410_ok : EntryOk (conf S) 9 e5410 := entry_ok S_ok (o := []) (orc_nil) e5410_run
theorem e5815_run : entryR S [] 2000 200 9 e5815 = true := by kernel_rfl
theorem e5815_ok : EntryOk (conf S) 9 e5815 := entry_ok S_ok (o := []) (orc_nil) e5815_run
end Go.Proofs.YtipfjhegcjnebaaGreat
