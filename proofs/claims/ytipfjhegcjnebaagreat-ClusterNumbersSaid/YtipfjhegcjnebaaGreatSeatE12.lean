/- A part of a proof over the abstract machine. No conditions. -/
import Derived.Test.YtipfjhegcjnebaaGreatSeatD2
import Derived.Test.YtipfjhegcjnebaaGreatSeatE11
namespace Go.Proofs.YtipfjhegcjnebaaGreat
open Go Go.Ab Go.Fa
set_option maxRecDepth 1000000
set_option maxHeartbeats 0
theorem e42703_run : entryR S [(8,[e42966])] 2000 200 9 e42703 = true := by kernel_rfl
theorem e42703_ok : EntryOk (conf S) 9 e42703 := entry_ok S_ok (o := [(8,[e42966])]) (orc_cons (es_cons e42966_ok (es_nil)) (orc_nil)) e42703_run
theorem e54834_run : entryR S [] 2000 200 9 e54834 = true := by kernel_rfl
theorem e54834_ok : EntryOk (conf S) 9 e54834 := entry_ok S_ok (o := []) (orc_nil) e54834_run
theorem e55239_run : entryR S [] 2000 200 9 e55239 = true := by kernel_rfl
theorem e55239_ok : EntryOk (conf S) 9 e55239 := entry_ok S_ok (o := []) (orc_nil) e55239_run
theorem e55644_run : entryR S [] 2000 200 9 e55644 = true := by kernel_rfl
theorem e55644_ok : EntryOk (conf S) 9 e55644 := entry_ok S_ok (o := []) (orc_nil) e55644_run
theorem e56049_run : entryR S [] 2000 200 9 e56049 = true := by kernel_rfl
theorem e56049_ok : EntryOk (conf S) 9 e56049 := entry_ok S_ok (o := []) (orc_nil) e56049_run
theorem e56454_run : entryR S [] 2000 200 9 e56454 = true := by kernel_rfl
theorem e56454_ok : EntryOk (conf S) 9 e56454 := entry_ok S_ok (o := []) (orc_nil) e56454_run
theorem e56859_run : entryR S [] 2000 200 9 e56859 = true := by kernel_rfl
theorem e56859_ok : EntryOk (conf S) 9 e56859 := entry_ok S_ok (o := []) (orc_nil) e56859_run
theorem e57264_run : entryR S [] 2000 200 9 e57264 = true := by kernel_rfl
theorem e57264_ok : EntryOk (conf S) 9 e57264 := entry_ok S_ok (o := []) (orc_nil) e57264_run
theorem e57669_run : entryR S [] 2000 200 9 e57669 = true := by kernel_rfl
theorem e57669_ok : EntryOk (conf S) 9 e57669 := entry_ok S_ok (o := []) (orc_nil) e57669_run
theorem e58074_run : entryR S [] 2000 200 9 e58074 = true := by kernel_rfl
theorem e58074_ok : EntryOk (conf S) 9 e58074 := entry_ok S_ok (o := []) (orc_nil) e58074_run
theorem e58479_run : entryR S [] 2000 200 9 e58479 = true := by kernel_rfl
theorem e58479_ok : EntryOk (conf S) 9 e58479 := entry_ok S_ok (o := []) (orc_nil) e58479_run
theorem e58884_run : entryR S [] 2000 200 9 e58884 = true := by kernel_rfl
theorem e58884_ok : EntryOk (conf S) 9 e58884 := entry_ok S_ok (o := []) (orc_nil) e58884_run
theorem e60738_run : entryR S [] 2000 200 39 e60738 = true := by kernel_rfl
theorem e60738_ok : EntryOk (conf S) 39 e60738 := entry_ok S_ok (o := []) (orc_nil) e60738_run
theorem e61205_run : entryR S [] 2000 200 39 e61205 = true := by kernel_rfl
theorem e61205_ok : EntryOk (conf S) 39 e61205 := entry_ok S_ok (o := []) (orc_nil) e61205_run
end Go.Proofs.YtipfjhegcjnebaaGreat
