/- A part of a proof over the abstract machine. No conditions. -/
import Derived.Test.YtipfjhegcjnebaaGreatSeatD2
namespace Go.Proofs.YtipfjhegcjnebaaGreat
open Go Go.Ab Go.Fa
set_option maxRecDepth 1000000
set_option maxHeartbeats 0
theorem e118175_run : entryR S [] 20000 200 9 e118175 = true := by kernel_rfl
theorem e118175_ok : EntryOk (conf S) 9 e118175 := entry_ok S_ok (o := []) (orc_nil) e118175_run
end Go.Proofs.YtipfjhegcjnebaaGreat
