/- A part of a proof over the abstract machine. No conditions. -/
import Derived.Test.YtipfjhegcjnebaaGreatSeatD2
namespace Go.Proofs.YtipfjhegcjnebaaGreat
open Go Go.Ab Go.Fa
set_option maxRecDepth 1000000
set_option maxHeartbeats 0
theorem e104088_run : entryR S [] 20000 200 39 e104088 = true := by kernel_rfl
theorem e104088_ok : EntryOk (conf S) 39 e104088 := entry_ok S_ok (o := []) (orc_nil) e104088_run
theorem e104534_run : entryR S [] 20000 200 39 e104534 = true := by kernel_rfl
theorem e104534_ok : EntryOk (conf S) 39 e104534 := entry_ok S_ok (o := []) (orc_nil) e104534_run
theorem e105281_run : entryR S [] 20000 200 39 e105281 = true := by kernel_rfl
theorem e105281_ok : EntryOk (conf S) 39 e105281 := entry_ok S_ok (o := []) (orc_nil) e105281_run
theorem e106795_run : entryR S [] 20000 200 39 e106795 = true := by kernel_rfl
theorem e106795_ok : EntryOk (conf S) 39 e106795 := entry_ok S_ok (o := []) (orc_nil) e106795_run
end Go.Proofs.YtipfjhegcjnebaaGreat
