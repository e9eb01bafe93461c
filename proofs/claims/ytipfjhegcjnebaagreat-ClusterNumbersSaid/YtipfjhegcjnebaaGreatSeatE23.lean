/- A part of a proof over the abstract machine. No conditions. -/
import Derived.Test.YtipfjhegcjnebaaGreatSeatD2
namespace Go.Proofs.YtipfjhegcjnebaaGreat
open Go Go.Ab Go.Fa
set_option maxRecDepth 1000000
set_option maxHeartbeats 0
theorem e107751_run : entryR S [] 20000 200 39 e107751 = true := by kernel_rfl
theorem e107751_ok : EntryOk (conf S) 39 e107751 := entry_ok S_ok (o := []) (orc_nil) e107751_run
theorem e108990_run : entryR S [] 20000 200 39 e108990 = true := by kernel_rfl
theorem e108990_ok : EntryOk (conf S) 39 e108990 := entry_ok S_ok (o := []) (orc_nil) e108990_run
theorem e110143_run : entryR S [] 20000 200 39 e110143 = true := by kernel_rfl
theorem e110143_ok : EntryOk (conf S) 39 e110143 := entry_ok S_ok (o := []) (orc_nil) e110143_run
end Go.Proofs.YtipfjhegcjnebaaGreat
