/- A part of a proof over the abstract machine. No conditions. -/
import Derived.Test.YtipfjhegcjnebaaGreatSeatD2
import Derived.Test.YtipfjhegcjnebaaGreatSeatE7
namespace Go.Proofs.YtipfjhegcjnebaaGreat
open Go Go.Ab Go.Fa
set_option maxRecDepth 1000000
set_option maxHeartbeats 0
theorem e27242_run : entryR S [(8,[e27521])] 2000 200 9 e27242 = true := by kernel_rfl
theorem e27242_ok : EntryOk (conf S) 9 e27242 := entry_ok S_ok (o := [(8,[e27521])]) (orc_cons (es_cons e27521_ok (es_nil)) (orc_nil)) e27242_run
theorem e37845_run : entryR S [] 2000 200 9 e37845 = true := by kernel_rfl
theorem e37845_ok : EntryOk (conf S) 9 e37845 := entry_ok S_ok (o := []) (orc_nil) e37845_run
theorem e38250_run : entryR S [] 2000 200 9 e38250 = true := by kernel_rfl
theorem e38250_ok : EntryOk (conf S) 9 e38250 := entry_ok S_ok (o := []) (orc_nil) e38250_run
theorem e38655_run : entryR S [] 2000 200 9 e38655 = true := by kernel_rfl
theorem e38655_ok : EntryOk (conf S) 9 e38655 := entry_ok S_ok (o := []) (orc_nil) e38655_run
theorem e39060_run : entryR S [] 2000 200 9 e39060 = true := by kernel_rfl
theorem e39060_ok : EntryOk (conf S) 9 e39060 := entry_ok S_ok (o := []) (orc_nil) e39060_run
theorem e39465_run : entryR S [] 2000 200 9 e39465 = true := by kernel_rfl
theorem e39465_ok : EntryOk (conf S) 9 e39465 := entry_ok S_ok (o := []) (orc_nil) e39465_run
theorem e39870_run : entryR S [] 2000 200 9 e39870 = true := by kernel_rfl
theorem e39870_ok : EntryOk (conf S) 9 e39870 := entry_ok S_ok (o := []) (orc_nil) e39870_run
theorem e40275_run : entryR S [] 2000 200 9 e40275 = true := by kernel_rfl
theorem e40275_ok : EntryOk (conf S) 9 e40275 := entry_ok S_ok (o := []) (orc_nil) e40275_run
theorem e40680_run : entryR S [] 2000 200 9 e40680 = true := by kernel_rfl
theorem e40680_ok : EntryOk (conf S) 9 e40680 := entry_ok S_ok (o := []) (orc_nil) e40680_run
theorem e41085_run : entryR S [] 2000 200 9 e41085 = true := by kernel_rfl
theorem e41085_ok : EntryOk (conf S) 9 e41085 := entry_ok S_ok (o := []) (orc_nil) e41085_run
theorem e41490_run : entryR S [] 2000 200 9 e41490 = true := by kernel_rfl
theorem e41490_ok : EntryOk (conf S) 9 e41490 := entry_ok S_ok (o := []) (orc_nil) e41490_run
theorem e41895_run : entryR S [] 2000 200 9 e41895 = true := by kernel_rfl
theorem e41895_ok : EntryOk (conf S) 9 e41895 := entry_ok S_ok (o := []) (orc_nil) e41895_run
theorem e43745_run : entryR S [] 2000 200 39 e43745 = true := by kernel_rfl
theorem e43745_ok : EntryOk (conf S) 39 e43745 := entry_ok S_ok (o := []) (orc_nil) e43745_run
end Go.Proofs.YtipfjhegcjnebaaGreat
