/- A part of a proof over the abstract machine. No conditions. -/
import Derived.Test.YtipfjhegcjnebaaGreatSeatD2
import Derived.Test.YtipfjhegcjnebaaGreatSeatE16
namespace Go.Proofs.YtipfjhegcjnebaaGreat
open Go Go.Ab Go.Fa
set_option maxRecDepth 1000000
set_option maxHeartbeats 0
theorem e59692_run : entryR S [(8,[e59955])] 2000 200 9 e59692 = true := by kernel_rfl
theorem e59692_ok : EntryOk (conf S) 9 e59692 := entry_ok S_ok (o := [(8,[e59955])]) (orc_cons (es_cons e59955_ok (es_nil)) (orc_nil)) e59692_run
theorem e77900_run : entryR S [] 2000 200 9 e77900 = true := by kernel_rfl
theorem e77900_ok : EntryOk (conf S) 9 e77900 := entry_ok S_ok (o := []) (orc_nil) e77900_run
theorem e78305_run : entryR S [] 2000 200 9 e78305 = true := by kernel_rfl
theorem e78305_ok : EntryOk (conf S) 9 e78305 := entry_ok S_ok (o := []) (orc_nil) e78305_run
theorem e78710_run : entryR S [] 2000 200 9 e78710 = true := by kernel_rfl
theorem e78710_ok : EntryOk (conf S) 9 e78710 := entry_ok S_ok (o := []) (orc_nil) e78710_run
theorem e79115_run : entryR S [] 2000 200 9 e79115 = true := by kernel_rfl
theorem e79115_ok : EntryOk (conf S) 9 e79115 := entry_ok S_ok (o := []) (orc_nil) e79115_run
theorem e79520_run : entryR S [] 2000 200 9 e79520 = true := by kernel_rfl
theorem e79520_ok : EntryOk (conf S) 9 e79520 := entry_ok S_ok (o := []) (orc_nil) e79520_run
theorem e79925_run : entryR S [] 2000 200 9 e79925 = true := by kernel_rfl
theorem e79925_ok : EntryOk (conf S) 9 e79925 := entry_ok S_ok (o := []) (orc_nil) e79925_run
theorem e80330_run : entryR S [] 2000 200 9 e80330 = true := by kernel_rfl
theorem e80330_ok : EntryOk (conf S) 9 e80330 := entry_ok S_ok (o := []) (orc_nil) e80330_run
theorem e80735_run : entryR S [] 2000 200 9 e80735 = true := by kernel_rfl
theorem e80735_ok : EntryOk (conf S) 9 e80735 := entry_ok S_ok (o := []) (orc_nil) e80735_run
theorem e81140_run : entryR S [] 2000 200 9 e81140 = true := by kernel_rfl
theorem e81140_ok : EntryOk (conf S) 9 e81140 := entry_ok S_ok (o := []) (orc_nil) e81140_run
theorem e81545_run : entryR S [] 2000 200 9 e81545 = true := by kernel_rfl
theorem e81545_ok : EntryOk (conf S) 9 e81545 := entry_ok S_ok (o := []) (orc_nil) e81545_run
theorem e81950_run : entryR S [] 2000 200 9 e81950 = true := by kernel_rfl
theorem e81950_ok : EntryOk (conf S) 9 e81950 := entry_ok S_ok (o := []) (orc_nil) e81950_run
theorem e83792_run : entryR S [] 2000 200 39 e83792 = true := by kernel_rfl
theorem e83792_ok : EntryOk (conf S) 39 e83792 := entry_ok S_ok (o := []) (orc_nil) e83792_run
end Go.Proofs.YtipfjhegcjnebaaGreat
