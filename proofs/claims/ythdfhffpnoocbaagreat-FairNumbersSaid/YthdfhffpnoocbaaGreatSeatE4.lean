/- A part of a proof over the abstract machine. No conditions. -/
import Derived.Test.YthdfhffpnoocbaaGreatSeatD1
/- Calls that the kernel ran apart. No conditions. -/
namespace Go.Proofs.YthdfhffpnoocbaaGreat
open Go Go.Ab Go.Fa
set_option maxRecDepth 1000000
set_option maxHeartbeats 0
theorem e15067_run : entryR S [] 2000 200 5 e15067 = true := by kernel_rfl
theorem e15067_ok : EntryOk (conf S) 5 e15067 := entry_ok S_ok (o := []) (orc_nil) e15067_run
theorem e15349_run : entryR S [] 2000 200 5 e15349 = true := by kernel_rfl
theorem e15349_ok : EntryOk (conf S) 5 e15349 := entry_ok S_ok (o := []) (orc_nil) e15349_run
theorem e15601_run : entryR S [] 2000 200 5 e15601 = true := by kernel_rfl
theorem e15601_ok : EntryOk (conf S) 5 e15601 := entry_ok S_ok (o := []) (orc_nil) e15601_run
theorem e15853_run : entryR S [] 2000 200 5 e15853 = true := by kernel_rfl
theorem e15853_ok : EntryOk (conf S) 5 e15853 := entry_ok S_ok (o := []) (orc_nil) e15853_run
theorem e16106_run : entryR S [] 2000 200 5 e16106 = true := by kernel_rfl
theorem e16106_ok : EntryOk (conf S) 5 e16106 := entry_ok S_ok (o := []) (orc_nil) e16106_run
theorem e16109_run : entryR S [] 2000 200 5 e16109 = true := by kernel_rfl
theorem e16109_ok : EntryOk (conf S) 5 e16109 := entry_ok S_ok (o := []) (orc_nil) e16109_run
theorem e16112_run : entryR S [] 2000 200 5 e16112 = true := by kernel_rfl
theorem e16112_ok : EntryOk (conf S) 5 e16112 := entry_ok S_ok (o := []) (orc_nil) e16112_run
theorem e16115_run : entryR S [] 2000 200 5 e16115 = true := by kernel_rfl
theorem e16115_ok : EntryOk (conf S) 5 e16115 := entry_ok S_ok (o := []) (orc_nil) e16115_run
theorem e16118_run : entryR S [] 2000 200 5 e16118 = true := by kernel_rfl
theorem e16118_ok : EntryOk (conf S) 5 e16118 := entry_ok S_ok (o := []) (orc_nil) e16118_run
theorem e16121_run : entryR S [] 2000 200 5 e16121 = true := by kernel_rfl
theorem e16121_ok : EntryOk (conf S) 5 e16121 := entry_ok S_ok (o := []) (orc_nil) e16121_run
theorem e16124_run : entryR S [] 2000 200 5 e16124 = true := by kernel_rfl
theorem e16124_ok : EntryOk (conf S) 5 e16124 := entry_ok S_ok (o := []) (orc_nil) e16124_run
theorem e16127_run : entryR S [] 2000 200 5 e16127 = true := by kernel_rfl
theorem e16127_ok : EntryOk (conf S) 5 e16127 := entry_ok S_ok (o := []) (orc_nil) e16127_run
theorem e16130_run : entryR S [] 2000 200 5 e16130 = true := by kernel_rfl
theorem e16130_ok : EntryOk (conf S) 5 e16130 := entry_ok S_ok (o := []) (orc_nil) e16130_run
theorem e16133_run : entryR S [] 2000 200 5 e16133 = true := by kernel_rfl
theorem e16133_ok : EntryOk (conf S) 5 e16133 := entry_ok S_ok (o := []) (orc_nil) e16133_run
theorem e16136_run : entryR S [] 2000 200 5 e16136 = true := by kernel_rfl
theorem e16136_ok : EntryOk (conf S) 5 e16136 := entry_ok S_ok (o := []) (orc_nil) e16136_run
theorem e16139_run : entryR S [] 2000 200 5 e16139 = true := by kernel_rfl
theorem e16139_ok : EntryOk (conf S) 5 e16139 := entry_ok S_ok (o := []) (orc_nil) e16139_run
theorem e16142_run : entryR S [] 2000 200 5 e16142 = true := by kernel_rfl
theorem e16142_ok : EntryOk (conf S) 5 e16142 := entry_ok S_ok (o := []) (orc_nil) e16142_run
theorem e16145_run : entryR S [] 2000 200 5 e16145 = true := by kernel_rfl
theorem e16145_ok : EntryOk (conf S) 5 e16145 := entry_ok S_ok (o := []) (orc_nil) e16145_run
theorem e16148_run : entryR S [] 2000 200 5 e16148 = true := by kernel_rfl
theorem e16148_ok : EntryOk (conf S) 5 e16148 := entry_ok S_ok (o := []) (orc_nil) e16148_run
theorem e16297_run : entryR S [] 2000 200 5 e16297 = true := by kernel_rfl
theorem e16297_ok : EntryOk (conf S) 5 e16297 := entry_ok S_ok (o := []) (orc_nil) e16297_run
theorem e16445_run : entryR S [] 2000 200 5 e16445 = true := by kernel_rfl
theorem e16445_ok : EntryOk (conf S) 5 e16445 := entry_ok S_ok (o := []) (orc_nil) e16445_run
theorem e16600_run : entryR S [] 2000 200 5 e16600 = true := by kernel_rfl
theorem e16600_ok : EntryOk (conf S) 5 e16600 := entry_ok S_ok (o := []) (orc_nil) e16600_run
theorem e16741_run : entryR S [] 2000 200 5 e16741 = true := by kernel_rfl
theorem e16741_ok : EntryOk (conf S) 5 e16741 := entry_ok S_ok (o := []) (orc_nil) e16741_run
theorem e16882_run : entryR S [] 2000 200 5 e16882 = true := by kernel_rfl
theorem e16882_ok : EntryOk (conf S) 5 e16882 := entry_ok S_ok (o := []) (orc_nil) e16882_run
theorem e17024_run : entryR S [] 2000 200 5 e17024 = true := by kernel_rfl
theorem e17024_ok : EntryOk (conf S) 5 e17024 := entry_ok S_ok (o := []) (orc_nil) e17024_run
theorem e17175_run : entryR S [] 2000 200 5 e17175 = true := by kernel_rfl
theorem e17175_ok : EntryOk (conf S) 5 e17175 := entry_ok S_ok (o := []) (orc_nil) e17175_run
theorem e17325_run : entryR S [] 2000 200 5 e17325 = true := by kernel_rfl
theorem e17325_ok : EntryOk (conf S) 5 e17325 := entry_ok S_ok (o := []) (orc_nil) e17325_run
theorem e17483_run : entryR S [] 2000 200 5 e17483 = true := by kernel_rfl
theorem e17483_ok : EntryOk (conf S) 5 e17483 := entry_ok S_ok (o := []) (orc_nil) e17483_run
theorem e17625_run : entryR S [] 2000 200 5 e17625 = true := by kernel_rfl
theorem e17625_ok : EntryOk (conf S) 5 e17625 := entry_ok S_ok (o := []) (orc_nil) e17625_run
theorem e17767_run : entryR S [] 2000 200 5 e17767 = true := by kernel_rfl
theorem e17767_ok : EntryOk (conf S) 5 e17767 := entry_ok S_ok (o := []) (orc_nil) e17767_run
theorem e17910_run : entryR S [] 2000 200 5 e17910 = true := by kernel_rfl
theorem e17910_ok : EntryOk (conf S) 5 e17910 := entry_ok S_ok (o := []) (orc_nil) e17910_run
theorem e18063_run : entryR S [] 2000 200 5 e18063 = true := by kernel_rfl
theorem e18063_ok : EntryOk (conf S) 5 e18063 := entry_ok S_ok (o := []) (orc_nil) e18063_run
theorem e18215_run : entryR S [] 2000 200 5 e18215 = true := by kernel_rfl
theorem e18215_ok : EntryOk (conf S) 5 e18215 := entry_ok S_ok (o := []) (orc_nil) e18215_run
theorem e18376_run : entryR S [] 2000 200 5 e18376 = true := by kernel_rfl
theorem e18376_ok : EntryOk (conf S) 5 e18376 := entry_ok S_ok (o := []) (orc_nil) e18376_run
theorem e18519_run : entryR S [] 2000 200 5 e18519 = true := by kernel_rfl
theorem e18519_ok : EntryOk (conf S) 5 e18519 := entry_ok S_ok (o := []) (orc_nil) e18519_run
theorem e18662_run : entryR S [] 2000 200 5 e18662 = true := by kernel_rfl
theorem e18662_ok : EntryOk (conf S) 5 e18662 := entry_ok S_ok (o := []) (orc_nil) e18662_run
theorem e18806_run : entryR S [] 2000 200 5 e18806 = true := by kernel_rfl
theorem e18806_ok : EntryOk (conf S) 5 e18806 := entry_ok S_ok (o := []) (orc_nil) e18806_run
theorem e18961_run : entryR S [] 2000 200 5 e18961 = true := by kernel_rfl
theorem e18961_ok : EntryOk (conf S) 5 e18961 := entry_ok S_ok (o := []) (orc_nil) e18961_run
theorem e19115_run : entryR S [] 2000 200 5 e19115 = true := by kernel_rfl
theorem e19115_ok : EntryOk (conf S) 5 e19115 := entry_ok S_ok (o := []) (orc_nil) e19115_run
theorem e19279_run : entryR S [] 2000 200 5 e19279 = true := by kernel_rfl
theorem e19279_ok : EntryOk (conf S) 5 e19279 := entry_ok S_ok (o := []) (orc_nil) e19279_run
theorem e19423_run : entryR S [] 2000 200 5 e19423 = true := by kernel_rfl
theorem e19423_ok : EntryOk (conf S) 5 e19423 := entry_ok S_ok (o := []) (orc_nil) e19423_run
theorem e19567_run : entryR S [] 2000 200 5 e19567 = true := by kernel_rfl
theorem e19567_ok : EntryOk (conf S) 5 e19567 := entry_ok S_ok (o := []) (orc_nil) e19567_run
theorem e19712_run : entryR S [] 2000 200 5 e19712 = true := by kernel_rfl
theorem e19712_ok : EntryOk (conf S) 5 e19712 := entry_ok S_ok (o := []) (orc_nil) e19712_run
theorem e19715_run : entryR S [] 2000 200 5 e19715 = true := by kernel_rfl
theorem e19715_ok : EntryOk (conf S) 5 e19715 := entry_ok S_ok (o := []) (orc_nil) e19715_run
theorem e19718_run : entryR S [] 2000 200 5 e19718 = true := by kernel_rfl
theorem e19718_ok : EntryOk (conf S) 5 e19718 := entry_ok S_ok (o := []) (orc_nil) e19718_run
theorem e19721_run : entryR S [] 2000 200 5 e19721 = true := by kernel_rfl
theorem e19721_ok : EntryOk (conf S) 5 e19721 := entry_ok S_ok (o := []) (orc_nil) e19721_run
theorem e19724_run : entryR S [] 2000 200 5 e19724 = true := by kernel_rfl
theorem e19724_ok : EntryOk (conf S) 5 e19724 := entry_ok S_ok (o := []) (orc_nil) e19724_run
theorem e19727_run : entryR S [] 2000 200 5 e19727 = true := by kernel_rfl
theorem e19727_ok : EntryOk (conf S) 5 e19727 := entry_ok S_ok (o := []) (orc_nil) e19727_run
theorem e19730_run : entryR S [] 2000 200 5 e19730 = true := by kernel_rfl
theorem e19730_ok : EntryOk (conf S) 5 e19730 := entry_ok S_ok (o := []) (orc_nil) e19730_run
theorem e19733_run : entryR S [] 2000 200 5 e19733 = true := by kernel_rfl
theorem e19733_ok : EntryOk (conf S) 5 e19733 := entry_ok S_ok (o := []) (orc_nil) e19733_run
theorem e19736_run : entryR S [] 2000 200 5 e19736 = true := by kernel_rfl
theorem e19736_ok : EntryOk (conf S) 5 e19736 := entry_ok S_ok (o := []) (orc_nil) e19736_run
end Go.Proofs.YthdfhffpnoocbaaGreat
