/- A part of a proof over the abstract machine. No conditions. -/
import Derived.Test.YtipfjhegcjnebaaGreatSeatD2
import Derived.Test.YtipfjhegcjnebaaGreatSeatE8
import Derived.Test.YtipfjhegcjnebaaGreatSeatE9
import Derived.Test.YtipfjhegcjnebaaGreatSeatE10
namespace Go.Proofs.YtipfjhegcjnebaaGreat
open Go Go.Ab Go.Fa
set_option maxRecDepth 1000000
set_option maxHeartbeats 0
theorem e42966_run : entryR S [(39,[e43745,e44496,e45399,e45986,e46719,e47503,e48146,e49368,e49861,e50812,e51545,e51992,e52730,e53923])] 2000 200 8 e42966 = true := by kernel_rfl
theorem e42966_ok : EntryOk (conf S) 8 e42966 := entry_ok S_ok (o := [(39,[e43745,e44496,e45399,e45986,e46719,e47503,e48146,e49368,e49861,e50812,e51545,e51992,e52730,e53923])]) (orc_cons (es_cons e43745_ok (es_cons e44496_ok (es_cons e45399_ok (es_cons e45986_ok (es_cons e46719_ok (es_cons e47503_ok (es_cons e48146_ok (es_cons e49368_ok (es_cons e49861_ok (es_cons e50812_ok (es_cons e51545_ok (es_cons e51992_ok (es_cons e52730_ok (es_cons e53923_ok (es_nil))))))))))))))) (orc_nil)) e42966_run
end Go.Proofs.YtipfjhegcjnebaaGreat
