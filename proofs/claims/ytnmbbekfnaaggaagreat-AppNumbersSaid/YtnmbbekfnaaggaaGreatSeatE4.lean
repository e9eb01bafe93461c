/- A part of a proof over the abstract machine. No conditions. -/
import Derived.Test.YtnmbbekfnaaggaaGreatSeatD1
/- Calls that the kernel ran apart. No conditions. -/
namespace Go.Proofs.YtnmbbekfnaaggaaGreat
open Go Go.Ab Go.Fa
set_option maxRecDepth 1000000
set_option maxHeartbeats 0
theorem e13377_run : entryR S [] 2000 200 14 e13377 = true := by kernel_rfl
theorem e13377_ok : EntryOk (conf S) 14 e13377 := entry_ok S_ok (o := []) (orc_nil) e13377_run
theorem e13527_run : entryR S [] 2000 200 12 e13527 = true := by kernel_rfl
theorem e13527_ok : EntryOk (conf S) 12 e13527 := entry_ok S_ok (o := []) (orc_nil) e13527_run
theorem e13594_run : entryR S [] 2000 200 13 e13594 = true := by kernel_rfl
theorem e13594_ok : EntryOk (conf S) 13 e13594 := entry_ok S_ok (o := []) (orc_nil) e13594_run
theorem e13798_run : entryR S [] 2000 200 14 e13798 = true := by kernel_rfl
theorem e13798_ok : EntryOk (conf S) 14 e13798 := entry_ok S_ok (o := []) (orc_nil) e13798_run
theorem e13971_run : entryR S [] 2000 200 12 e13971 = true := by kernel_rfl
theorem e13971_ok : EntryOk (conf S) 12 e13971 := entry_ok S_ok (o := []) (orc_nil) e13971_run
theorem e13991_run : entryR S [] 2000 200 13 e13991 = true := by kernel_rfl
theorem e13991_ok : EntryOk (conf S) 13 e13991 := entry_ok S_ok (o := []) (orc_nil) e13991_run
theorem e14054_run : entryR S [] 2000 200 14 e14054 = true := by kernel_rfl
theorem e14054_ok : EntryOk (conf S) 14 e14054 := entry_ok S_ok (o := []) (orc_nil) e14054_run
theorem e14170_run : entryR S [] 2000 200 12 e14170 = true := by kernel_rfl
theorem e14170_ok : EntryOk (conf S) 12 e14170 := entry_ok S_ok (o := []) (orc_nil) e14170_run
theorem e14191_run : entryR S [] 2000 200 13 e14191 = true := by kernel_rfl
theorem e14191_ok : EntryOk (conf S) 13 e14191 := entry_ok S_ok (o := []) (orc_nil) e14191_run
theorem e14192_run : entryR S [] 2000 200 14 e14192 = true := by kernel_rfl
theorem e14192_ok : EntryOk (conf S) 14 e14192 := entry_ok S_ok (o := []) (orc_nil) e14192_run
theorem e14277_run : entryR S [] 2000 200 12 e14277 = true := by kernel_rfl
theorem e14277_ok : EntryOk (conf S) 12 e14277 := entry_ok S_ok (o := []) (orc_nil) e14277_run
theorem e14319_run : entryR S [] 2000 200 13 e14319 = true := by kernel_rfl
theorem e14319_ok : EntryOk (conf S) 13 e14319 := entry_ok S_ok (o := []) (orc_nil) e14319_run
theorem e14403_run : entryR S [] 2000 200 14 e14403 = true := by kernel_rfl
theorem e14403_ok : EntryOk (conf S) 14 e14403 := entry_ok S_ok (o := []) (orc_nil) e14403_run
theorem e14525_run : entryR S [] 2000 200 12 e14525 = true := by kernel_rfl
theorem e14525_ok : EntryOk (conf S) 12 e14525 := entry_ok S_ok (o := []) (orc_nil) e14525_run
theorem e14558_run : entryR S [] 2000 200 13 e14558 = true := by kernel_rfl
theorem e14558_ok : EntryOk (conf S) 13 e14558 := entry_ok S_ok (o := []) (orc_nil) e14558_run
theorem e14633_run : entryR S [] 2000 200 14 e14633 = true := by kernel_rfl
theorem e14633_ok : EntryOk (conf S) 14 e14633 := entry_ok S_ok (o := []) (orc_nil) e14633_run
theorem e14751_run : entryR S [] 2000 200 12 e14751 = true := by kernel_rfl
theorem e14751_ok : EntryOk (conf S) 12 e14751 := entry_ok S_ok (o := []) (orc_nil) e14751_run
theorem e14804_run : entryR S [] 2000 200 13 e14804 = true := by kernel_rfl
theorem e14804_ok : EntryOk (conf S) 13 e14804 := entry_ok S_ok (o := []) (orc_nil) e14804_run
theorem e14909_run : entryR S [] 2000 200 14 e14909 = true := by kernel_rfl
theorem e14909_ok : EntryOk (conf S) 14 e14909 := entry_ok S_ok (o := []) (orc_nil) e14909_run
theorem e15043_run : entryR S [] 2000 200 12 e15043 = true := by kernel_rfl
theorem e15043_ok : EntryOk (conf S) 12 e15043 := entry_ok S_ok (o := []) (orc_nil) e15043_run
theorem e15072_run : entryR S [] 2000 200 13 e15072 = true := by kernel_rfl
theorem e15072_ok : EntryOk (conf S) 13 e15072 := entry_ok S_ok (o := []) (orc_nil) e15072_run
theorem e15147_run : entryR S [] 2000 200 14 e15147 = true := by kernel_rfl
theorem e15147_ok : EntryOk (conf S) 14 e15147 := entry_ok S_ok (o := []) (orc_nil) e15147_run
theorem e15268_run : entryR S [] 2000 200 12 e15268 = true := by kernel_rfl
theorem e15268_ok : EntryOk (conf S) 12 e15268 := entry_ok S_ok (o := []) (orc_nil) e15268_run
theorem e15309_run : entryR S [] 2000 200 13 e15309 = true := by kernel_rfl
theorem e15309_ok : EntryOk (conf S) 13 e15309 := entry_ok S_ok (o := []) (orc_nil) e15309_run
theorem e15413_run : entryR S [] 2000 200 14 e15413 = true := by kernel_rfl
theorem e15413_ok : EntryOk (conf S) 14 e15413 := entry_ok S_ok (o := []) (orc_nil) e15413_run
theorem e15543_run : entryR S [] 2000 200 12 e15543 = true := by kernel_rfl
theorem e15543_ok : EntryOk (conf S) 12 e15543 := entry_ok S_ok (o := []) (orc_nil) e15543_run
theorem e15597_run : entryR S [] 2000 200 13 e15597 = true := by kernel_rfl
theorem e15597_ok : EntryOk (conf S) 13 e15597 := entry_ok S_ok (o := []) (orc_nil) e15597_run
theorem e15794_run : entryR S [] 2000 200 14 e15794 = true := by kernel_rfl
theorem e15794_ok : EntryOk (conf S) 14 e15794 := entry_ok S_ok (o := []) (orc_nil) e15794_run
theorem e15948_run : entryR S [] 2000 200 12 e15948 = true := by kernel_rfl
theorem e15948_ok : EntryOk (conf S) 12 e15948 := entry_ok S_ok (o := []) (orc_nil) e15948_run
theorem e15968_run : entryR S [] 2000 200 13 e15968 = true := by kernel_rfl
theorem e15968_ok : EntryOk (conf S) 13 e15968 := entry_ok S_ok (o := []) (orc_nil) e15968_run
theorem e16031_run : entryR S [] 2000 200 14 e16031 = true := by kernel_rfl
theorem e16031_ok : EntryOk (conf S) 14 e16031 := entry_ok S_ok (o := []) (orc_nil) e16031_run
theorem e16147_run : entryR S [] 2000 200 12 e16147 = true := by kernel_rfl
theorem e16147_ok : EntryOk (conf S) 12 e16147 := entry_ok S_ok (o := []) (orc_nil) e16147_run
theorem e16168_run : entryR S [] 2000 200 13 e16168 = true := by kernel_rfl
theorem e16168_ok : EntryOk (conf S) 13 e16168 := entry_ok S_ok (o := []) (orc_nil) e16168_run
theorem e16169_run : entryR S [] 2000 200 14 e16169 = true := by kernel_rfl
theorem e16169_ok : EntryOk (conf S) 14 e16169 := entry_ok S_ok (o := []) (orc_nil) e16169_run
theorem e16254_run : entryR S [] 2000 200 12 e16254 = true := by kernel_rfl
theorem e16254_ok : EntryOk (conf S) 12 e16254 := entry_ok S_ok (o := []) (orc_nil) e16254_run
theorem e16296_run : entryR S [] 2000 200 13 e16296 = true := by kernel_rfl
theorem e16296_ok : EntryOk (conf S) 13 e16296 := entry_ok S_ok (o := []) (orc_nil) e16296_run
theorem e16380_run : entryR S [] 2000 200 14 e16380 = true := by kernel_rfl
theorem e16380_ok : EntryOk (conf S) 14 e16380 := entry_ok S_ok (o := []) (orc_nil) e16380_run
theorem e16502_run : entryR S [] 2000 200 12 e16502 = true := by kernel_rfl
theorem e16502_ok : EntryOk (conf S) 12 e16502 := entry_ok S_ok (o := []) (orc_nil) e16502_run
theorem e16535_run : entryR S [] 2000 200 13 e16535 = true := by kernel_rfl
theorem e16535_ok : EntryOk (conf S) 13 e16535 := entry_ok S_ok (o := []) (orc_nil) e16535_run
theorem e16610_run : entryR S [] 2000 200 14 e16610 = true := by kernel_rfl
theorem e16610_ok : EntryOk (conf S) 14 e16610 := entry_ok S_ok (o := []) (orc_nil) e16610_run
theorem e16728_run : entryR S [] 2000 200 12 e16728 = true := by kernel_rfl
theorem e16728_ok : EntryOk (conf S) 12 e16728 := entry_ok S_ok (o := []) (orc_nil) e16728_run
theorem e16781_run : entryR S [] 2000 200 13 e16781 = true := by kernel_rfl
theorem e16781_ok : EntryOk (conf S) 13 e16781 := entry_ok S_ok (o := []) (orc_nil) e16781_run
theorem e16886_run : entryR S [] 2000 200 14 e16886 = true := by kernel_rfl
theorem e16886_ok : EntryOk (conf S) 14 e16886 := entry_ok S_ok (o := []) (orc_nil) e16886_run
theorem e17020_run : entryR S [] 2000 200 12 e17020 = true := by kernel_rfl
theorem e17020_ok : EntryOk (conf S) 12 e17020 := entry_ok S_ok (o := []) (orc_nil) e17020_run
theorem e17049_run : entryR S [] 2000 200 13 e17049 = true := by kernel_rfl
theorem e17049_ok : EntryOk (conf S) 13 e17049 := entry_ok S_ok (o := []) (orc_nil) e17049_run
theorem e17124_run : entryR S [] 2000 200 14 e17124 = true := by kernel_rfl
theorem e17124_ok : EntryOk (conf S) 14 e17124 := entry_ok S_ok (o := []) (orc_nil) e17124_run
theorem e17245_run : entryR S [] 2000 200 12 e17245 = true := by kernel_rfl
theorem e17245_ok : EntryOk (conf S) 12 e17245 := entry_ok S_ok (o := []) (orc_nil) e17245_run
theorem e17313_run : entryR S [] 2000 200 13 e17313 = true := by kernel_rfl
theorem e17313_ok : EntryOk (conf S) 13 e17313 := entry_ok S_ok (o := []) (orc_nil) e17313_run
theorem e17540_run : entryR S [] 2000 200 14 e17540 = true := by kernel_rfl
theorem e17540_ok : EntryOk (conf S) 14 e17540 := entry_ok S_ok (o := []) (orc_nil) e17540_run
theorem e17713_run : entryR S [] 2000 200 12 e17713 = true := by kernel_rfl
theorem e17713_ok : EntryOk (conf S) 12 e17713 := entry_ok S_ok (o := []) (orc_nil) e17713_run
theorem e17825_run : entryR S [] 2000 200 13 e17825 = true := by kernel_rfl
theorem e17825_ok : EntryOk (conf S) 13 e17825 := entry_ok S_ok (o := []) (orc_nil) e17825_run
theorem e18179_run : entryR S [] 2000 200 14 e18179 = true := by kernel_rfl
theorem e18179_ok : EntryOk (conf S) 14 e18179 := entry_ok S_ok (o := []) (orc_nil) e18179_run
end Go.Proofs.YtnmbbekfnaaggaaGreat
