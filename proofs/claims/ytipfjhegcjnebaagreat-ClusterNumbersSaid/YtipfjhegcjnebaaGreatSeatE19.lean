/- A part of a proof over the abstract machine. No conditions. -/
import Derived.Test.YtipfjhegcjnebaaGreatSeatD2
import Derived.Test.YtipfjhegcjnebaaGreatSeatE17
import Derived.Test.YtipfjhegcjnebaaGreatSeatE18
namespace Go.Proofs.YtipfjhegcjnebaaGreat
open Go Go.Ab Go.Fa
set_option maxRecDepth 1000000
set_option maxHeartbeats 0
theorem e83021_run : entryR S [(39,[e83792,e84599,e85462,e85944,e86737,e87569,e89362,e90997])] 2000 200 8 e83021 = true := by kernel_rfl
theorem e83021_ok : EntryOk (conf S) 8 e83021 := entry_ok S_ok (o := [(39,[e83792,e84599,e85462,e85944,e86737,e87569,e89362,e90997])]) (orc_cons (es_cons e83792_ok (es_cons e84599_ok (es_cons e85462_ok (es_cons e85944_ok (es_cons e86737_ok (es_cons e87569_ok (es_cons e89362_ok (es_cons e90997_ok (es_nil))))))))) (orc_nil)) e83021_run
end Go.Proofs.YtipfjhegcjnebaaGreat
