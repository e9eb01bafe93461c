/- A part of a proof over the abstract machine. No conditions. -/
import Derived.Test.YtipfjhegcjnebaaGreatSeatD2
namespace Go.Proofs.YtipfjhegcjnebaaGreat
open Go Go.Ab Go.Fa
set_option maxRecDepth 1000000
set_option maxHeartbeats 0
theorem e50812_run : entryR S [] 2000 200 39 e50812 = true := by kernel_rfl
theorem e50812_ok : EntryOk (conf S) 39 e50812 := entry_ok S_ok (o := []) (orc_nil) e50812_run
theorem e51545_run : entryR S [] 2000 200 39 e51545 = true := by kernel_rfl
theorem e51545_ok : EntryOk (conf S) 39 e51545 := entry_ok S_ok (o := []) (orc_nil) e51545_run
theorem e51992_run : entryR S [] 2000 200 39 e51992 = true := by kernel_rfl
theorem e51992_ok : EntryOk (conf S) 39 e51992 := entry_ok S_ok (o := []) (orc_nil) e51992_run
theorem e52730_run : entryR S [] 2000 200 39 e52730 = true := by kernel_rfl
theorem e52730_ok : EntryOk (conf S) 39 e52730 := entry_ok S_ok (o := []) (orc_nil) e52730_run
theorem e53923_run : entryR S [] 2000 200 39 e53923 = true := by kernel_rfl
theorem e53923_ok : EntryOk (conf S) 39 e53923 := entry_ok S_ok (o := []) (orc_nil) e53923_run
end Go.Proofs.YtipfjhegcjnebaaGreat
