/- A part of a proof over the abstract machine. No conditions. -/
import Derived.Test.YtipfjhegcjnebaaGreatSeatD2
import Derived.Test.YtipfjhegcjnebaaGreatSeatE24
namespace Go.Proofs.YtipfjhegcjnebaaGreat
open Go Go.Ab Go.Fa
set_option maxRecDepth 1000000
set_option maxHeartbeats 0
theorem e96911_run : entryR S [(8,[e97174])] 20000 200 9 e96911 = true := by kernel_rfl
theorem e96911_ok : EntryOk (conf S) 9 e96911 := entry_ok S_ok (o := [(8,[e97174])]) (orc_cons (es_cons e97174_ok (es_nil)) (orc_nil)) e96911_run
theorem e111050_run : entryR S [] 20000 200 9 e111050 = true := by kernel_rfl
theorem e111050_ok : EntryOk (conf S) 9 e111050 := entry_ok S_ok (o := []) (orc_nil) e111050_run
theorem e111455_run : entryR S [] 20000 200 9 e111455 = true := by kernel_rfl
theorem e111455_ok : EntryOk (conf S) 9 e111455 := entry_ok S_ok (o := []) (orc_nil) e111455_run
theorem e111860_run : entryR S [] 20000 200 9 e111860 = true := by kernel_rfl
theorem e111860_ok : EntryOk (conf S) 9 e111860 := entry_ok S_ok (o := []) (orc_nil) e111860_run
theorem e112265_run : entryR S [] 20000 200 9 e112265 = true := by kernel_rfl
theorem e112265_ok : EntryOk (conf S) 9 e112265 := entry_ok S_ok (o := []) (orc_nil) e112265_run
theorem e112670_run : entryR S [] 20000 200 9 e112670 = true := by kernel_rfl
theorem e112670_ok : EntryOk (conf S) 9 e112670 := entry_ok S_ok (o := []) (orc_nil) e112670_run
theorem e113075_run : entryR S [] 20000 200 9 e113075 = true := by kernel_rfl
theorem e113075_ok : EntryOk (conf S) 9 e113075 := entry_ok S_ok (o := []) (orc_nil) e113075_run
theorem e113480_run : entryR S [] 20000 200 9 e113480 = true := by kernel_rfl
theorem e113480_ok : EntryOk (conf S) 9 e113480 := entry_ok S_ok (o := []) (orc_nil) e113480_run
theorem e113885_run : entryR S [] 20000 200 9 e113885 = true := by kernel_rfl
theorem e113885_ok : EntryOk (conf S) 9 e113885 := entry_ok S_ok (o := []) (orc_nil) e113885_run
theorem e114290_run : entryR S [] 20000 200 9 e114290 = true := by kernel_rfl
theorem e114290_ok : EntryOk (conf S) 9 e114290 := entry_ok S_ok (o := []) (orc_nil) e114290_run
theorem e114695_run : entryR S [] 20000 200 9 e114695 = true := by kernel_rfl
theorem e114695_ok : EntryOk (conf S) 9 e114695 := entry_ok S_ok (o := []) (orc_nil) e114695_run
theorem e115100_run : entryR S [] 20000 200 9 e115100 = true := by kernel_rfl
theorem e115100_ok : EntryOk (conf S) 9 e115100 := entry_ok S_ok (o := []) (orc_nil) e115100_run
end Go.Proofs.YtipfjhegcjnebaaGreat
