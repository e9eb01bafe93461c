/- A part of a proof over the abstract machine. No conditions. -/
import Derived.Test.YtipfjhegcjnebaaGreatSeatD2
import Derived.Test.YtipfjhegcjnebaaGreatSeatE19
namespace Go.Proofs.YtipfjhegcjnebaaGreat
open Go Go.Ab Go.Fa
set_option maxRecDepth 1000000
set_option maxHeartbeats 0
theorem e82758_run : entryR S [(8,[e83021])] 2000 200 9 e82758 = true := by kernel_rfl
theorem e82758_ok : EntryOk (conf S) 9 e82758 := entry_ok S_ok (o := [(8,[e83021])]) (orc_cons (es_cons e83021_ok (es_nil)) (orc_nil)) e82758_run
theorem e92257_run : entryR S [] 2000 200 9 e92257 = true := by kernel_rfl
theorem e92257_ok : EntryOk (conf S) 9 e92257 := entry_ok S_ok (o := []) (orc_nil) e92257_run
theorem e92662_run : entryR S [] 2000 200 9 e92662 = true := by kernel_rfl
theorem e92662_ok : EntryOk (conf S) 9 e92662 := entry_ok S_ok (o := []) (orc_nil) e92662_run
theorem e93067_run : entryR S [] 2000 200 9 e93067 = true := by kernel_rfl
theorem e93067_ok : EntryOk (conf S) 9 e93067 := entry_ok S_ok (o := []) (orc_nil) e93067_run
theorem e93472_run : entryR S [] 2000 200 9 e93472 = true := by kernel_rfl
theorem e93472_ok : EntryOk (conf S) 9 e93472 := entry_ok S_ok (o := []) (orc_nil) e93472_run
theorem e93877_run : entryR S [] 2000 200 9 e93877 = true := by kernel_rfl
theorem e93877_ok : EntryOk (conf S) 9 e93877 := entry_ok S_ok (o := []) (orc_nil) e93877_run
theorem e94282_run : entryR S [] 2000 200 9 e94282 = true := by kernel_rfl
theorem e94282_ok : EntryOk (conf S) 9 e94282 := entry_ok S_ok (o := []) (orc_nil) e94282_run
theorem e94687_run : entryR S [] 2000 200 9 e94687 = true := by kernel_rfl
theorem e94687_ok : EntryOk (conf S) 9 e94687 := entry_ok S_ok (o := []) (orc_nil) e94687_run
theorem e95092_run : entryR S [] 2000 200 9 e95092 = true := by kernel_rfl
theorem e95092_ok : EntryOk (conf S) 9 e95092 := entry_ok S_ok (o := []) (orc_nil) e95092_run
theorem e95497_run : entryR S [] 2000 200 9 e95497 = true := by kernel_rfl
theorem e95497_ok : EntryOk (conf S) 9 e95497 := entry_ok S_ok (o := []) (orc_nil) e95497_run
theorem e95902_run : entryR S [] 2000 200 9 e95902 = true := by kernel_rfl
theorem e95902_ok : EntryOk (conf S) 9 e95902 := entry_ok S_ok (o := []) (orc_nil) e95902_run
theorem e96307_run : entryR S [] 2000 200 9 e96307 = true := by kernel_rfl
theorem e96307_ok : EntryOk (conf S) 9 e96307 := entry_ok S_ok (o := []) (orc_nil) e96307_run
theorem e97953_run : entryR S [] 2000 200 39 e97953 = true := by kernel_rfl
theorem e97953_ok : EntryOk (conf S) 39 e97953 := entry_ok S_ok (o := []) (orc_nil) e97953_run
end Go.Proofs.YtipfjhegcjnebaaGreat
