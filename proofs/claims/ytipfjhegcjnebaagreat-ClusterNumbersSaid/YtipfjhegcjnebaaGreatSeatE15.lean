/- A part of a proof over the abstract machine. No conditions. -/
import Derived.Test.YtipfjhegcjnebaaGreatSeatD2
namespace Go.Proofs.YtipfjhegcjnebaaGreat
open Go Go.Ab Go.Fa
set_option maxRecDepth 1000000
set_option maxHeartbeats 0
theorem e72646_run : entryR S [] 2000 200 39 e72646 = true := by kernel_rfl
theorem e72646_ok : EntryOk (conf S) 39 e72646 := entry_ok S_ok (o := []) (orc_nil) e72646_run
theorem e73337_run : entryR S [] 2000 200 39 e73337 = true := by kernel_rfl
theorem e73337_ok : EntryOk (conf S) 39 e73337 := entry_ok S_ok (o := []) (orc_nil) e73337_run
theorem e73820_run : entryR S [] 2000 200 39 e73820 = true := by kernel_rfl
theorem e73820_ok : EntryOk (conf S) 39 e73820 := entry_ok S_ok (o := []) (orc_nil) e73820_run
theorem e74346_run : entryR S [] 2000 200 39 e74346 = true := by kernel_rfl
theorem e74346_ok : EntryOk (conf S) 39 e74346 := entry_ok S_ok (o := []) (orc_nil) e74346_run
theorem e75135_run : entryR S [] 2000 200 39 e75135 = true := by kernel_rfl
theorem e75135_ok : EntryOk (conf S) 39 e75135 := entry_ok S_ok (o := []) (orc_nil) e75135_run
theorem e75373_run : entryR S [] 2000 200 39 e75373 = true := by kernel_rfl
theorem e75373_ok : EntryOk (conf S) 39 e75373 := entry_ok S_ok (o := []) (orc_nil) e75373_run
theorem e75796_run : entryR S [] 2000 200 39 e75796 = true := by kernel_rfl
theorem e75796_ok : EntryOk (conf S) 39 e75796 := entry_ok S_ok (o := []) (orc_nil) e75796_run
theorem e76165_run : entryR S [] 2000 200 39 e76165 = true := by kernel_rfl
theorem e76165_ok : EntryOk (conf S) 39 e76165 := entry_ok S_ok (o := []) (orc_nil) e76165_run
theorem e76993_run : entryR S [] 2000 200 39 e76993 = true := by kernel_rfl
theorem e76993_ok : EntryOk (conf S) 39 e76993 := entry_ok S_ok (o := []) (orc_nil) e76993_run
theorem e77326_run : entryR S [] 2000 200 39 e77326 = true := by kernel_rfl
theorem e77326_ok : EntryOk (conf S) 39 e77326 := entry_ok S_ok (o := []) (orc_nil) e77326_run
end Go.Proofs.YtipfjhegcjnebaaGreat
