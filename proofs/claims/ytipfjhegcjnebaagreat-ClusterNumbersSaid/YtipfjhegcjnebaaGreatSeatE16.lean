/- A part of a proof over the abstract machine. No conditions. -/
import Derived.Test.YtipfjhegcjnebaaGreatSeatD2
import Derived.Test.YtipfjhegcjnebaaGreatSeatE12
import Derived.Test.YtipfjhegcjnebaaGreatSeatE13
import Derived.Test.YtipfjhegcjnebaaGreatSeatE14
import Derived.Test.YtipfjhegcjnebaaGreatSeatE15
namespace Go.Proofs.YtipfjhegcjnebaaGreat
open Go Go.Ab Go.Fa
set_option maxRecDepth 1000000
set_option maxHeartbeats 0
theorem e59955_run : entryR S [(39,[e60738,e61205,e61491,e62047,e62435,e62872,e63171,e63506,e63950,e65190,e65681,e65979,e66391,e66704,e67003,e67233,e67580,e69152,e69907,e70337,e71182,e71657,e72646,e73337,e73820,e74346,e75135,e75373,e75796,e76165,e76993,e77326])] 2000 200 8 e59955 = true := by kernel_rfl
theorem e59955_ok : EntryOk (conf S) 8 e59955 := entry_ok S_ok (o := [(39,[e60738,e61205,e61491,e62047,e62435,e62872,e63171,e63506,e63950,e65190,e65681,e65979,e66391,e66704,e67003,e67233,e67580,e69152,e69907,e70337,e71182,e71657,e72646,e73337,e73820,e74346,e75135,e75373,e75796,e76165,e76993,e77326])]) (orc_cons (es_cons e60738_ok (es_cons e61205_ok (es_cons e61491_ok (es_cons e62047_ok (es_cons e62435_ok (es_cons e62872_ok (es_cons e63171_ok (es_cons e63506_ok (es_cons e63950_ok (es_cons e65190_ok (es_cons e65681_ok (es_cons e65979_ok (es_cons e66391_ok (es_cons e66704_ok (es_cons e67003_ok (es_cons e67233_ok (es_cons e67580_ok (es_cons e69152_ok (es_cons e69907_ok (es_cons e70337_ok (es_cons e71182_ok (es_cons e71657_ok (es_cons e72646_ok (es_cons e73337_ok (es_cons e73820_ok (es_cons e74346_ok (es_cons e75135_ok (es_cons e75373_ok (es_cons e75796_ok (es_cons e76165_ok (es_cons e76993_ok (es_cons e77326_ok (es_nil))))))))))))))))))))))))))))))))) (orc_nil)) e59955_run
end Go.Proofs.YtipfjhegcjnebaaGreat
