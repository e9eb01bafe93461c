/- A part of a proof over the abstract machine. No conditions. -/
import Derived.Test.YtipfjhegcjnebaaGreatSeatD2
namespace Go.Proofs.YtipfjhegcjnebaaGreat
open Go Go.Ab Go.Fa
set_option maxRecDepth 1000000
set_option maxHeartbeats 0
theorem e11890_run : entryR S [] 2000 200 9 e11890 = true := by kernel_rfl
theorem e11890_ok : EntryOk (conf S) 9 e11890 := entry_ok S_ok (o := []) (orc_nil) e11890_run
theorem e12295_run : entryR S [] 2000 200 9 e12295 = true := by kernel_rfl
theorem e12295_ok : EntryOk (conf S) 9 e12295 := entry_ok S_ok (o := []) (orc_nil) e12295_run
theorem e12700_run : entryR S [] 2000 200 9 e12700 = true := by kernel_rfl
theorem e12700_ok : EntryOk (conf S) 9 e12700 := entry_ok S_ok (o := []) (orc_nil) e12700_run
theorem e13105_run : entryR S [] 2000 200 9 e13105 = true := by kernel_rfl
theorem e13105_ok : EntryOk (conf S) 9 e13105 := entry_ok S_ok (o := []) (orc_nil) e13105_run
theorem e13510_run : entryR S [] 2000 200 9 e13510 = true := by kernel_rfl
theorem e13510_ok : EntryOk (conf S) 9 e13510 := entry_ok S_ok (o := []) (orc_nil) e13510_run
theorem e13915_run : entryR S [] 2000 200 9 e13915 = true := by kernel_rfl
theorem e13915_ok : EntryOk (conf S) 9 e13915 := entry_ok S_ok (o := []) (orc_nil) e13915_run
theorem e14320_run : entryR S [] 2000 200 9 e14320 = true := by kernel_rfl
theorem e14320_ok : EntryOk (conf S) 9 e14320 := entry_ok S_ok (o := []) (orc_nil) e14320_run
theorem e14725_run : entryR S [] 2000 200 9 e14725 = true := by kernel_rfl
theorem e14725_ok : EntryOk (conf S) 9 e14725 := entry_ok S_ok (o := []) (orc_nil) e14725_run
theorem e15130_run : entryR S [] 2000 200 9 e15130 = true := by kernel_rfl
theorem e15130_ok : EntryOk (conf S) 9 e15130 := entry_ok S_ok (o := []) (orc_nil) e15130_run
theorem e15535_run : entryR S [] 2000 200 9 e15535 = true := by kernel_rfl
theorem e15535_ok : EntryOk (conf S) 9 e15535 := entry_ok S_ok (o := []) (orc_nil) e15535_run
theorem e15940_run : entryR S [] 2000 200 9 e15940 = true := by kernel_rfl
theorem e15940_ok : EntryOk (conf S) 9 e15940 := entry_ok S_ok (o := []) (orc_nil) e15940_run
theorem e16345_run : entryR S [] 2000 200 9 e16345 = true := by kernel_rfl
theorem e16345_ok : EntryOk (conf S) 9 e16345 := entry_ok S_ok (o := []) (orc_nil) e16345_run
theorem e16750_run : entryR S [] 2000 200 9 e16750 = true := by kernel_rfl
theorem e16750_ok : EntryOk (conf S) 9 e16750 := entry_ok S_ok (o := []) (orc_nil) e16750_run
theorem e17155_run : entryR S [] 2000 200 9 e17155 = true := by kernel_rfl
theorem e17155_ok : EntryOk (conf S) 9 e17155 := entry_ok S_ok (o := []) (orc_nil) e17155_run
end Go.Proofs.YtipfjhegcjnebaaGreat
