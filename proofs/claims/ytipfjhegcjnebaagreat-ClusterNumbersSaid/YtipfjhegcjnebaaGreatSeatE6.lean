/- A part of a proof over the abstract machine. No conditions. -/
import Derived.Test.YtipfjhegcjnebaaGreatSeatD2
namespace Go.Proofs.YtipfjhegcjnebaaGreat
open Go Go.Ab Go.Fa
set_option maxRecDepth 1000000
set_option maxHeartbeats 0
theorem e32471_run : entryR S [] 2000 200 39 e32471 = true := by kernel_rfl
theorem e32471_ok : EntryOk (conf S) 39 e32471 := entry_ok S_ok (o := []) (orc_nil) e32471_run
theorem e33146_run : entryR S [] 2000 200 39 e33146 = true := by kernel_rfl
theorem e33146_ok : EntryOk (conf S) 39 e33146 := entry_ok S_ok (o := []) (orc_nil) e33146_run
theorem e33536_run : entryR S [] 2000 200 39 e33536 = true := by kernel_rfl
theorem e33536_ok : EntryOk (conf S) 39 e33536 := entry_ok S_ok (o := []) (orc_nil) e33536_run
theorem e34211_run : entryR S [] 2000 200 39 e34211 = true := by kernel_rfl
theorem e34211_ok : EntryOk (conf S) 39 e34211 := entry_ok S_ok (o := []) (orc_nil) e34211_run
theorem e34934_run : entryR S [] 2000 200 39 e34934 = true := by kernel_rfl
theorem e34934_ok : EntryOk (conf S) 39 e34934 := entry_ok S_ok (o := []) (orc_nil) e34934_run
theorem e35375_run : entryR S [] 2000 200 39 e35375 = true := by kernel_rfl
theorem e35375_ok : EntryOk (conf S) 39 e35375 := entry_ok S_ok (o := []) (orc_nil) e35375_run
theorem e36563_run : entryR S [] 2000 200 39 e36563 = true := by kernel_rfl
theorem e36563_ok : EntryOk (conf S) 39 e36563 := entry_ok S_ok (o := []) (orc_nil) e36563_run
theorem e37031_run : entryR S [] 2000 200 39 e37031 = true := by kernel_rfl
theorem e37031_ok : EntryOk (conf S) 39 e37031 := entry_ok S_ok (o := []) (orc_nil) e37031_run
theorem e37402_run : entryR S [] 2000 200 39 e37402 = true := by kernel_rfl
theorem e37402_ok : EntryOk (conf S) 39 e37402 := entry_ok S_ok (o := []) (orc_nil) e37402_run
end Go.Proofs.YtipfjhegcjnebaaGreat
