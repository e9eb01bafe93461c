/- A part of a proof over the abstract machine. No conditions. -/
import Derived.Test.YtipfjhegcjnebaaGreatSeatD3
namespace Go.Proofs.YtipfjhegcjnebaaGreat
open Go Go.Ab Go.Fa
set_option maxRecDepth 1000000
set_option maxHeartbeats 0
theorem e115711_run : entryR S [] 20000 200 55 e115711 = true := by kernel_rfl
theorem e115711_ok : EntryOk (conf S) 55 e115711 := entry_ok S_ok (o := []) (orc_nil) e115711_run
end Go.Proofs.YtipfjhegcjnebaaGreat
