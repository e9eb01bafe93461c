/- A part of a proof over the abstract machine. No conditions. -/
import Derived.Test.YtipfjhegcjnebaaGreatSeatD2
import Derived.Test.YtipfjhegcjnebaaGreatSeatE20
import Derived.Test.YtipfjhegcjnebaaGreatSeatE21
import Derived.Test.YtipfjhegcjnebaaGreatSeatE22
import Derived.Test.YtipfjhegcjnebaaGreatSeatE23
namespace Go.Proofs.YtipfjhegcjnebaaGreat
open Go Go.Ab Go.Fa
set_option maxRecDepth 1000000
set_option maxHeartbeats 0
theorem e97174_run : entryR S [(39,[e97953,e98698,e99606,e100229,e101396,e102520,e103361,e104088,e104534,e105281,e106795,e107751,e108990,e110143])] 20000 200 8 e97174 = true := by kernel_rfl
theorem e97174_ok : EntryOk (conf S) 8 e97174 := entry_ok S_ok (o := [(39,[e97953,e98698,e99606,e100229,e101396,e102520,e103361,e104088,e104534,e105281,e106795,e107751,e108990,e110143])]) (orc_cons (es_cons e97953_ok (es_cons e98698_ok (es_cons e99606_ok (es_cons e100229_ok (es_cons e101396_ok (es_cons e102520_ok (es_cons e103361_ok (es_cons e104088_ok (es_cons e104534_ok (es_cons e105281_ok (es_cons e106795_ok (es_cons e107751_ok (es_cons e108990_ok (es_cons e110143_ok (es_nil))))))))))))))) (orc_nil)) e97174_run
end Go.Proofs.YtipfjhegcjnebaaGreat
