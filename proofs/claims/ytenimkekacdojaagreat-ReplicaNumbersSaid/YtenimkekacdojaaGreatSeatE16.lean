/- A part of a proof over the abstract machine. No conditions. -/
import Derived.Test.YtenimkekacdojaaGreatSeatD2
/- Calls that the kernel ran apart. No conditions. -/
namespace Go.Proofs.YtenimkekacdojaaGreat
open Go Go.Ab Go.Fa
set_option maxRecDepth 1000000
set_option maxHeartbeats 0
theorem e61676_run : entryR S [] 2000 200 7 e61676 = true := by kernel_rfl
theorem e61676_ok : EntryOk (conf S) 7 e61676 := entry_ok S_ok (o := []) (orc_nil) e61676_run
theorem e61780_run : entryR S [] 2000 200 7 e61780 = true := by kernel_rfl
theorem e61780_ok : EntryOk (conf S) 7 e61780 := entry_ok S_ok (o := []) (orc_nil) e61780_run
theorem e61884_run : entryR S [] 2000 200 7 e61884 = true := by kernel_rfl
theorem e61884_ok : EntryOk (conf S) 7 e61884 := entry_ok S_ok (o := []) (orc_nil) e61884_run
theorem e61988_run : entryR S [] 2000 200 7 e61988 = true := by kernel_rfl
theorem e61988_ok : EntryOk (conf S) 7 e61988 := entry_ok S_ok (o := []) (orc_nil) e61988_run
theorem e62092_run : entryR S [] 2000 200 7 e62092 = true := by kernel_rfl
theorem e62092_ok : EntryOk (conf S) 7 e62092 := entry_ok S_ok (o := []) (orc_nil) e62092_run
theorem e62196_run : entryR S [] 2000 200 7 e62196 = true := by kernel_rfl
theorem e62196_ok : EntryOk (conf S) 7 e62196 := entry_ok S_ok (o := []) (orc_nil) e62196_run
theorem e62300_run : entryR S [] 2000 200 7 e62300 = true := by kernel_rfl
theorem e62300_ok : EntryOk (conf S) 7 e62300 := entry_ok S_ok (o := []) (orc_nil) e62300_run
theorem e62404_run : entryR S [] 2000 200 7 e62404 = true := by kernel_rfl
theorem e62404_ok : EntryOk (conf S) 7 e62404 := entry_ok S_ok (o := []) (orc_nil) e62404_run
theorem e62508_run : entryR S [] 2000 200 7 e62508 = true := by kernel_rfl
theorem e62508_ok : EntryOk (conf S) 7 e62508 := entry_ok S_ok (o := []) (orc_nil) e62508_run
theorem e62612_run : entryR S [] 2000 200 7 e62612 = true := by kernel_rfl
theorem e62612_ok : EntryOk (conf S) 7 e62612 := entry_ok S_ok (o := []) (orc_nil) e62612_run
theorem e62716_run : entryR S [] 2000 200 7 e62716 = true := by kernel_rfl
theorem e62716_ok : EntryOk (conf S) 7 e62716 := entry_ok S_ok (o := []) (orc_nil) e62716_run
theorem e62820_run : entryR S [] 2000 200 7 e62820 = true := by kernel_rfl
theorem e62820_ok : EntryOk (conf S) 7 e62820 := entry_ok S_ok (o := []) (orc_nil) e62820_run
theorem e62924_run : entryR S [] 2000 200 7 e62924 = true := by kernel_rfl
theorem e62924_ok : EntryOk (conf S) 7 e62924 := entry_ok S_ok (o := []) (orc_nil) e62924_run
theorem e63028_run : entryR S [] 2000 200 7 e63028 = true := by kernel_rfl
theorem e63028_ok : EntryOk (conf S) 7 e63028 := entry_ok S_ok (o := []) (orc_nil) e63028_run
theorem e63132_run : entryR S [] 2000 200 7 e63132 = true := by kernel_rfl
theorem e63132_ok : EntryOk (conf S) 7 e63132 := entry_ok S_ok (o := []) (orc_nil) e63132_run
theorem e63236_run : entryR S [] 2000 200 7 e63236 = true := by kernel_rfl
theorem e63236_ok : EntryOk (conf S) 7 e63236 := entry_ok S_ok (o := []) (orc_nil) e63236_run
theorem e63340_run : entryR S [] 2000 200 7 e63340 = true := by kernel_rfl
theorem e63340_ok : EntryOk (conf S) 7 e63340 := entry_ok S_ok (o := []) (orc_nil) e63340_run
theorem e63444_run : entryR S [] 2000 200 7 e63444 = true := by kernel_rfl
theorem e63444_ok : EntryOk (conf S) 7 e63444 := entry_ok S_ok (o := []) (orc_nil) e63444_run
theorem e63548_run : entryR S [] 2000 200 7 e63548 = true := by kernel_rfl
theorem e63548_ok : EntryOk (conf S) 7 e63548 := entry_ok S_ok (o := []) (orc_nil) e63548_run
theorem e63652_run : entryR S [] 2000 200 7 e63652 = true := by kernel_rfl
theorem e63652_ok : EntryOk (conf S) 7 e63652 := entry_ok S_ok (o := []) (orc_nil) e63652_run
theorem e63756_run : entryR S [] 2000 200 7 e63756 = true := by kernel_rfl
theorem e63756_ok : EntryOk (conf S) 7 e63756 := entry_ok S_ok (o := []) (orc_nil) e63756_run
theorem e63860_run : entryR S [] 2000 200 7 e63860 = true := by kernel_rfl
theorem e63860_ok : EntryOk (conf S) 7 e63860 := entry_ok S_ok (o := []) (orc_nil) e63860_run
theorem e63964_run : entryR S [] 2000 200 7 e63964 = true := by kernel_rfl
theorem e63964_ok : EntryOk (conf S) 7 e63964 := entry_ok S_ok (o := []) (orc_nil) e63964_run
theorem e64068_run : entryR S [] 2000 200 7 e64068 = true := by kernel_rfl
theorem e64068_ok : EntryOk (conf S) 7 e64068 := entry_ok S_ok (o := []) (orc_nil) e64068_run
theorem e64172_run : entryR S [] 2000 200 7 e64172 = true := by kernel_rfl
theorem e64172_ok : EntryOk (conf S) 7 e64172 := entry_ok S_ok (o := []) (orc_nil) e64172_run
theorem e64276_run : entryR S [] 2000 200 7 e64276 = true := by kernel_rfl
theorem e64276_ok : EntryOk (conf S) 7 e64276 := entry_ok S_ok (o := []) (orc_nil) e64276_run
theorem e64380_run : entryR S [] 2000 200 7 e64380 = true := by kernel_rfl
theorem e64380_ok : EntryOk (conf S) 7 e64380 := entry_ok S_ok (o := []) (orc_nil) e64380_run
theorem e64484_run : entryR S [] 2000 200 7 e64484 = true := by kernel_rfl
theorem e64484_ok : EntryOk (conf S) 7 e64484 := entry_ok S_ok (o := []) (orc_nil) e64484_run
theorem e64588_run : entryR S [] 2000 200 7 e64588 = true := by kernel_rfl
theorem e64588_ok : EntryOk (conf S) 7 e64588 := entry_ok S_ok (o := []) (orc_nil) e64588_run
theorem e64692_run : entryR S [] 2000 200 7 e64692 = true := by kernel_rfl
theorem e64692_ok : EntryOk (conf S) 7 e64692 := entry_ok S_ok (o := []) (orc_nil) e64692_run
theorem e64796_run : entryR S [] 2000 200 7 e64796 = true := by kernel_rfl
theorem e64796_ok : EntryOk (conf S) 7 e64796 := entry_ok S_ok (o := []) (orc_nil) e64796_run
theorem e64900_run : entryR S [] 2000 200 7 e64900 = true := by kernel_rfl
theorem e64900_ok : EntryOk (conf S) 7 e64900 := entry_ok S_ok (o := []) (orc_nil) e64900_run
theorem e65004_run : entryR S [] 2000 200 7 e65004 = true := by kernel_rfl
theorem e65004_ok : EntryOk (conf S) 7 e65004 := entry_ok S_ok (o := []) (orc_nil) e65004_run
theorem e65108_run : entryR S [] 2000 200 7 e65108 = true := by kernel_rfl
theorem e65108_ok : EntryOk (conf S) 7 e65108 := entry_ok S_ok (o := []) (orc_nil) e65108_run
theorem e65212_run : entryR S [] 2000 200 7 e65212 = true := by kernel_rfl
theorem e65212_ok : EntryOk (conf S) 7 e65212 := entry_ok S_ok (o := []) (orc_nil) e65212_run
theorem e65316_run : entryR S [] 2000 200 7 e65316 = true := by kernel_rfl
theorem e65316_ok : EntryOk (conf S) 7 e65316 := entry_ok S_ok (o := []) (orc_nil) e65316_run
theorem e65420_run : entryR S [] 2000 200 7 e65420 = true := by kernel_rfl
theorem e65420_ok : EntryOk (conf S) 7 e65420 := entry_ok S_ok (o := []) (orc_nil) e65420_run
theorem e65524_run : entryR S [] 2000 200 7 e65524 = true := by kernel_rfl
theorem e65524_ok : EntryOk (conf S) 7 e65524 := entry_ok S_ok (o := []) (orc_nil) e65524_run
end Go.Proofs.YtenimkekacdojaaGreat
