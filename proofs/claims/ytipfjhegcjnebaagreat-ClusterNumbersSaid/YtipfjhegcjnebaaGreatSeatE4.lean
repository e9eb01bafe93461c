/- A part of a proof over the abstract machine. No conditions. -/
import Derived.Test.YtipfjhegcjnebaaGreatSeatD2
namespace Go.Proofs.YtipfjhegcjnebaaGreat
open Go Go.Ab Go.Fa
set_option maxRecDepth 1000000
set_option maxHeartbeats 0
theorem e17560_run : entryR S [] 2000 200 9 e17560 = true := by kernel_rfl
theorem e17560_ok : EntryOk (conf S) 9 e17560 := entry_ok S_ok (o := []) (orc_nil) e17560_run
theorem e17965_run : entryR S [] 2000 200 9 e17965 = true := by kernel_rfl
theorem e17965_ok : EntryOk (conf S) 9 e17965 := entry_ok S_ok (o := []) (orc_nil) e17965_run
theorem e18370_run : entryR S [] 2000 200 9 e18370 = true := by kernel_rfl
theorem e18370_ok : EntryOk (conf S) 9 e18370 := entry_ok S_ok (o := []) (orc_nil) e18370_run
theorem e18775_run : entryR S [] 2000 200 9 e18775 = true := by kernel_rfl
theorem e18775_ok : EntryOk (conf S) 9 e18775 := entry_ok S_ok (o := []) (orc_nil) e18775_run
theorem e19180_run : entryR S [] 2000 200 9 e19180 = true := by kernel_rfl
theorem e19180_ok : EntryOk (conf S) 9 e19180 := entry_ok S_ok (o := []) (orc_nil) e19180_run
theorem e19585_run : entryR S [] 2000 200 9 e19585 = true := by kernel_rfl
theorem e19585_ok : EntryOk (conf S) 9 e19585 := entry_ok S_ok (o := []) (orc_nil) e19585_run
theorem e19990_run : entryR S [] 2000 200 9 e19990 = true := by kernel_rfl
theorem e19990_ok : EntryOk (conf S) 9 e19990 := entry_ok S_ok (o := []) (orc_nil) e19990_run
theorem e20395_run : entryR S [] 2000 200 9 e20395 = true := by kernel_rfl
theorem e20395_ok : EntryOk (conf S) 9 e20395 := entry_ok S_ok (o := []) (orc_nil) e20395_run
theorem e20800_run : entryR S [] 2000 200 9 e20800 = true := by kernel_rfl
theorem e20800_ok : EntryOk (conf S) 9 e20800 := entry_ok S_ok (o := []) (orc_nil) e20800_run
theorem e21205_run : entryR S [] 2000 200 9 e21205 = true := by kernel_rfl
theorem e21205_ok : EntryOk (conf S) 9 e21205 := entry_ok S_ok (o := []) (orc_nil) e21205_run
theorem e21610_run : entryR S [] 2000 200 9 e21610 = true := by kernel_rfl
theorem e21610_ok : EntryOk (conf S) 9 e21610 := entry_ok S_ok (o := []) (orc_nil) e21610_run
theorem e22015_run : entryR S [] 2000 200 9 e22015 = true := by kernel_rfl
theorem e22015_ok : EntryOk (conf S) 9 e22015 := entry_ok S_ok (o := []) (orc_nil) e22015_run
theorem e22420_run : entryR S [] 2000 200 9 e22420 = true := by kernel_rfl
theorem e22420_ok : EntryOk (conf S) 9 e22420 := entry_ok S_ok (o := []) (orc_nil) e22420_run
theorem e22825_run : entryR S [] 2000 200 9 e22825 = true := by kernel_rfl
theorem e22825_ok : EntryOk (conf S) 9 e22825 := entry_ok S_ok (o := []) (orc_nil) e22825_run
end Go.Proofs.YtipfjhegcjnebaaGreat
