/- A part of a proof over the abstract machine. No conditions. -/
import Derived.Test.YthdfhffpnoocbaaGreatSeatD1
/- Calls that the kernel ran apart. No conditions. -/
namespace Go.Proofs.YthdfhffpnoocbaaGreat
open Go Go.Ab Go.Fa
set_option maxRecDepth 1000000
set_option maxHeartbeats 0
theorem e9870_run : entryR S [] 2000 200 5 e9870 = true := by kernel_rfl
theorem e9870_ok : EntryOk (conf S) 5 e9870 := entry_ok S_ok (o := []) (orc_nil) e9870_run
theorem e10132_run : entryR S [] 2000 200 5 e10132 = true := by kernel_rfl
theorem e10132_ok : EntryOk (conf S) 5 e10132 := entry_ok S_ok (o := []) (orc_nil) e10132_run
theorem e10393_run : entryR S [] 2000 200 5 e10393 = true := by kernel_rfl
theorem e10393_ok : EntryOk (conf S) 5 e10393 := entry_ok S_ok (o := []) (orc_nil) e10393_run
theorem e10666_run : entryR S [] 2000 200 5 e10666 = true := by kernel_rfl
theorem e10666_ok : EntryOk (conf S) 5 e10666 := entry_ok S_ok (o := []) (orc_nil) e10666_run
theorem e10915_run : entryR S [] 2000 200 5 e10915 = true := by kernel_rfl
theorem e10915_ok : EntryOk (conf S) 5 e10915 := entry_ok S_ok (o := []) (orc_nil) e10915_run
theorem e11164_run : entryR S [] 2000 200 5 e11164 = true := by kernel_rfl
theorem e11164_ok : EntryOk (conf S) 5 e11164 := entry_ok S_ok (o := []) (orc_nil) e11164_run
theorem e11414_run : entryR S [] 2000 200 5 e11414 = true := by kernel_rfl
theorem e11414_ok : EntryOk (conf S) 5 e11414 := entry_ok S_ok (o := []) (orc_nil) e11414_run
theorem e11678_run : entryR S [] 2000 200 5 e11678 = true := by kernel_rfl
theorem e11678_ok : EntryOk (conf S) 5 e11678 := entry_ok S_ok (o := []) (orc_nil) e11678_run
theorem e11941_run : entryR S [] 2000 200 5 e11941 = true := by kernel_rfl
theorem e11941_ok : EntryOk (conf S) 5 e11941 := entry_ok S_ok (o := []) (orc_nil) e11941_run
theorem e12217_run : entryR S [] 2000 200 5 e12217 = true := by kernel_rfl
theorem e12217_ok : EntryOk (conf S) 5 e12217 := entry_ok S_ok (o := []) (orc_nil) e12217_run
theorem e12467_run : entryR S [] 2000 200 5 e12467 = true := by kernel_rfl
theorem e12467_ok : EntryOk (conf S) 5 e12467 := entry_ok S_ok (o := []) (orc_nil) e12467_run
theorem e12717_run : entryR S [] 2000 200 5 e12717 = true := by kernel_rfl
theorem e12717_ok : EntryOk (conf S) 5 e12717 := entry_ok S_ok (o := []) (orc_nil) e12717_run
theorem e12968_run : entryR S [] 2000 200 5 e12968 = true := by kernel_rfl
theorem e12968_ok : EntryOk (conf S) 5 e12968 := entry_ok S_ok (o := []) (orc_nil) e12968_run
theorem e13234_run : entryR S [] 2000 200 5 e13234 = true := by kernel_rfl
theorem e13234_ok : EntryOk (conf S) 5 e13234 := entry_ok S_ok (o := []) (orc_nil) e13234_run
theorem e13499_run : entryR S [] 2000 200 5 e13499 = true := by kernel_rfl
theorem e13499_ok : EntryOk (conf S) 5 e13499 := entry_ok S_ok (o := []) (orc_nil) e13499_run
theorem e13778_run : entryR S [] 2000 200 5 e13778 = true := by kernel_rfl
theorem e13778_ok : EntryOk (conf S) 5 e13778 := entry_ok S_ok (o := []) (orc_nil) e13778_run
theorem e14029_run : entryR S [] 2000 200 5 e14029 = true := by kernel_rfl
theorem e14029_ok : EntryOk (conf S) 5 e14029 := entry_ok S_ok (o := []) (orc_nil) e14029_run
theorem e14280_run : entryR S [] 2000 200 5 e14280 = true := by kernel_rfl
theorem e14280_ok : EntryOk (conf S) 5 e14280 := entry_ok S_ok (o := []) (orc_nil) e14280_run
theorem e14532_run : entryR S [] 2000 200 5 e14532 = true := by kernel_rfl
theorem e14532_ok : EntryOk (conf S) 5 e14532 := entry_ok S_ok (o := []) (orc_nil) e14532_run
theorem e14800_run : entryR S [] 2000 200 5 e14800 = true := by kernel_rfl
theorem e14800_ok : EntryOk (conf S) 5 e14800 := entry_ok S_ok (o := []) (orc_nil) e14800_run
end Go.Proofs.YthdfhffpnoocbaaGreat
