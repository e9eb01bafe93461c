/- A part of a proof over the abstract machine. No conditions. -/
import Derived.Test.YtipfjhegcjnebaaGreatSeatD2
namespace Go.Proofs.YtipfjhegcjnebaaGreat
open Go Go.Ab Go.Fa
set_option maxRecDepth 1000000
set_option maxHeartbeats 0
theorem e6220_run : entryR S [] 2000 200 9 e6220 = true := by kernel_rfl
theorem e6220_ok : EntryOk (conf S) 9 e6220 := entry_ok S_ok (o := []) (orc_nil) e6220_run
theorem e6625_run : entryR S [] 2000 200 9 e6625 = true := by kernel_rfl
theorem e6625_ok : EntryOk (conf S) 9 e6625 := entry_ok S_ok (o := []) (orc_nil) e6625_run
theorem e7030_run : entryR S [] 2000 200 9 e7030 = true := by kernel_rfl
theorem e7030_ok : EntryOk (conf S) 9 e7030 := entry_ok S_ok (o := []) (orc_nil) e7030_run
theorem e7435_run : entryR S [] 2000 200 9 e7435 = true := by kernel_rfl
theorem e7435_ok : EntryOk (conf S) 9 e7435 := entry_ok S_ok (o := []) (orc_nil) e7435_run
theorem e7840_run : entryR S [] 2000 200 9 e7840 = true := by kernel_rfl
theorem e7840_ok : EntryOk (conf S) 9 e7840 := entry_ok S_ok (o := []) (orc_nil) e7840_run
theorem e8245_run : entryR S [] 2000 200 9 e8245 = true := by kernel_rfl
theorem e8245_ok : EntryOk (conf S) 9 e8245 := entry_ok S_ok (o := []) (orc_nil) e8245_run
theorem e8650_run : entryR S [] 2000 200 9 e8650 = true := by kernel_rfl
theorem e8650_ok : EntryOk (conf S) 9 e8650 := entry_ok S_ok (o := []) (orc_nil) e8650_run
theorem e9055_run : entryR S [] 2000 200 9 e9055 = true := by kernel_rfl
theorem e9055_ok : EntryOk (conf S) 9 e9055 := entry_ok S_ok (o := []) (orc_nil) e9055_run
theorem e9460_run : entryR S [] 2000 200 9 e9460 = true := by kernel_rfl
theorem e9460_ok : EntryOk (conf S) 9 e9460 := entry_ok S_ok (o := []) (orc_nil) e9460_run
theorem e9865_run : entryR S [] 2000 200 9 e9865 = true := by kernel_rfl
theorem e9865_ok : EntryOk (conf S) 9 e9865 := entry_ok S_ok (o := []) (orc_nil) e9865_run
theorem e10270_run : entryR S [] 2000 200 9 e10270 = true := by kernel_rfl
theorem e10270_ok : EntryOk (conf S) 9 e10270 := entry_ok S_ok (o := []) (orc_nil) e10270_run
theorem e10675_run : entryR S [] 2000 200 9 e10675 = true := by kernel_rfl
theorem e10675_ok : EntryOk (conf S) 9 e10675 := entry_ok S_ok (o := []) (orc_nil) e10675_run
theorem e11080_run : entryR S [] 2000 200 9 e11080 = true := by kernel_rfl
theorem e11080_ok : EntryOk (conf S) 9 e11080 := entry_ok S_ok (o := []) (orc_nil) e11080_run
theorem e11485_run : entryR S [] 2000 200 9 e11485 = true := by kernel_rfl
theorem e11485_ok : EntryOk (conf S) 9 e11485 := entry_ok S_ok (o := []) (orc_nil) e11485_run
end Go.Proofs.YtipfjhegcjnebaaGreat
