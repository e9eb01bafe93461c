/- A part of a proof over the abstract machine. No conditions. -/
import Derived.Test.YtipfjhegcjnebaaGreatSeatD2
import Derived.Test.YtipfjhegcjnebaaGreatSeatE5
import Derived.Test.YtipfjhegcjnebaaGreatSeatE6
namespace Go.Proofs.YtipfjhegcjnebaaGreat
open Go Go.Ab Go.Fa
set_option maxRecDepth 1000000
set_option maxHeartbeats 0
theorem e27521_run : entryR S [(39,[e28332,e28763,e29029,e29530,e31834,e32471,e33146,e33536,e34211,e34934,e35375,e36563,e37031,e37402])] 2000 200 8 e27521 = true := by kernel_rfl
theorem e27521_ok : EntryOk (conf S) 8 e27521 := entry_ok S_ok (o := [(39,[e28332,e28763,e29029,e29530,e31834,e32471,e33146,e33536,e34211,e34934,e35375,e36563,e37031,e37402])]) (orc_cons (es_cons e28332_ok (es_cons e28763_ok (es_cons e29029_ok (es_cons e29530_ok (es_cons e31834_ok (es_cons e32471_ok (es_cons e33146_ok (es_cons e33536_ok (es_cons e34211_ok (es_cons e34934_ok (es_cons e35375_ok (es_cons e36563_ok (es_cons e37031_ok (es_cons e37402_ok (es_nil))))))))))))))) (orc_nil)) e27521_run
end Go.Proofs.YtipfjhegcjnebaaGreat
