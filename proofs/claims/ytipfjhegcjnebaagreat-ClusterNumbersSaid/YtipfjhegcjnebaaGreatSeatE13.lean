/- A part of a proof over the abstract machine. No conditions. -/
import Derived.Test.YtipfjhegcjnebaaGreatSeatD2
namespace Go.Proofs.YtipfjhegcjnebaaGreat
open Go Go.Ab Go.Fa
set_option maxRecDepth 1000000
set_option maxHeartbeats 0
theorem e61491_run : entryR S [] 2000 200 39 e61491 = true := by kernel_rfl
theorem e61491_ok : EntryOk (conf S) 39 e61491 := entry_ok S_ok (o := []) (orc_nil) e61491_run
theorem e62047_run : entryR S [] 2000 200 39 e62047 = true := by kernel_rfl
theorem e62047_ok : EntryOk (conf S) 39 e62047 := entry_ok S_ok (o := []) (orc_nil) e62047_run
theorem e62435_run : entryR S [] 2000 200 39 e62435 = true := by kernel_rfl
theorem e62435_ok : EntryOk (conf S) 39 e62435 := entry_ok S_ok (o := []) (orc_nil) e62435_run
theorem e62872_run : entryR S [] 2000 200 39 e62872 = true := by kernel_rfl
theorem e62872_ok : EntryOk (conf S) 39 e62872 := entry_ok S_ok (o := []) (orc_nil) e62872_run
theorem e63171_run : entryR S [] 2000 200 39 e63171 = true := by kernel_rfl
theorem e63171_ok : EntryOk (conf S) 39 e63171 := entry_ok S_ok (o := []) (orc_nil) e63171_run
theorem e63506_run : entryR S [] 2000 200 39 e63506 = true := by kernel_rfl
theorem e63506_ok : EntryOk (conf S) 39 e63506 := entry_ok S_ok (o := []) (orc_nil) e63506_run
theorem e63950_run : entryR S [] 2000 200 39 e63950 = true := by kernel_rfl
theorem e63950_ok : EntryOk (conf S) 39 e63950 := entry_ok S_ok (o := []) (orc_nil) e63950_run
theorem e65190_run : entryR S [] 2000 200 39 e65190 = true := by kernel_rfl
theorem e65190_ok : EntryOk (conf S) 39 e65190 := entry_ok S_ok (o := []) (orc_nil) e65190_run
theorem e65681_run : entryR S [] 2000 200 39 e65681 = true := by kernel_rfl
theorem e65681_ok : EntryOk (conf S) 39 e65681 := entry_ok S_ok (o := []) (orc_nil) e65681_run
theorem e65979_run : entryR S [] 2000 200 39 e65979 = true := by kernel_rfl
theorem e65979_ok : EntryOk (conf S) 39 e65979 := entry_ok S_ok (o := []) (orc_nil) e65979_run
theorem e66391_run : entryR S [] 2000 200 39 e66391 = true := by kernel_rfl
theorem e66391_ok : EntryOk (conf S) 39 e66391 := entry_ok S_ok (o := []) (orc_nil) e66391_run
theorem e66704_run : entryR S [] 2000 200 39 e66704 = true := by kernel_rfl
theorem e66704_ok : EntryOk (conf S) 39 e66704 := entry_ok S_ok (o := []) (orc_nil) e66704_run
end Go.Proofs.YtipfjhegcjnebaaGreat
