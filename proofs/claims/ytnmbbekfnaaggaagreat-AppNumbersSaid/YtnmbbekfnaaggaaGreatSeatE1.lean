/- A part of a proof over the abstract machine. No conditions. -/
import Derived.Test.YtnmbbekfnaaggaaGreatSeatD1
/- Calls that the kernel ran apart. No conditions. -/
namespace Go.Proofs.YtnmbbekfnaaggaaGreat
open Go Go.Ab Go.Fa
set_option maxRecDepth 1000000
set_option maxHeartbeats 0
theorem e30_run : entryR S [] 2000 200 12 e30 = true := by kernel_rfl
theorem e30_ok : EntryOk (conf S) 12 e30 := entry_ok S_ok (o := []) (orc_nil) e30_run
theorem e50_run : entryR S [] 2000 200 13 e50 = true := by kernel_rfl
theorem e50_ok : EntryOk (conf S) 13 e50 := entry_ok S_ok (o := []) (orc_nil) e50_run
theorem e113_run : entryR S [] 2000 200 14 e113 = true := by kernel_rfl
theorem e113_ok : EntryOk (conf S) 14 e113 := entry_ok S_ok (o := []) (orc_nil) e113_run
theorem e384_run : entryR S [] 2000 200 12 e384 = true := by kernel_rfl
theorem e384_ok : EntryOk (conf S) 12 e384 := entry_ok S_ok (o := []) (orc_nil) e384_run
theorem e405_run : entryR S [] 2000 200 13 e405 = true := by kernel_rfl
theorem e405_ok : EntryOk (conf S) 13 e405 := entry_ok S_ok (o := []) (orc_nil) e405_run
theorem e406_run : entryR S [] 2000 200 14 e406 = true := by kernel_rfl
theorem e406_ok : EntryOk (conf S) 14 e406 := entry_ok S_ok (o := []) (orc_nil) e406_run
theorem e420_run : entryR S [] 2000 200 12 e420 = true := by kernel_rfl
theorem e420_ok : EntryOk (conf S) 12 e420 := entry_ok S_ok (o := []) (orc_nil) e420_run
theorem e462_run : entryR S [] 2000 200 13 e462 = true := by kernel_rfl
theorem e462_ok : EntryOk (conf S) 13 e462 := entry_ok S_ok (o := []) (orc_nil) e462_run
theorem e616_run : entryR S [] 2000 200 14 e616 = true := by kernel_rfl
theorem e616_ok : EntryOk (conf S) 14 e616 := entry_ok S_ok (o := []) (orc_nil) e616_run
theorem e945_run : entryR S [] 2000 200 12 e945 = true := by kernel_rfl
theorem e945_ok : EntryOk (conf S) 12 e945 := entry_ok S_ok (o := []) (orc_nil) e945_run
theorem e978_run : entryR S [] 2000 200 13 e978 = true := by kernel_rfl
theorem e978_ok : EntryOk (conf S) 13 e978 := entry_ok S_ok (o := []) (orc_nil) e978_run
theorem e1059_run : entryR S [] 2000 200 14 e1059 = true := by kernel_rfl
theorem e1059_ok : EntryOk (conf S) 14 e1059 := entry_ok S_ok (o := []) (orc_nil) e1059_run
theorem e1109_run : entryR S [] 2000 200 12 e1109 = true := by kernel_rfl
theorem e1109_ok : EntryOk (conf S) 12 e1109 := entry_ok S_ok (o := []) (orc_nil) e1109_run
theorem e1162_run : entryR S [] 2000 200 13 e1162 = true := by kernel_rfl
theorem e1162_ok : EntryOk (conf S) 13 e1162 := entry_ok S_ok (o := []) (orc_nil) e1162_run
theorem e1261_run : entryR S [] 2000 200 14 e1261 = true := by kernel_rfl
theorem e1261_ok : EntryOk (conf S) 14 e1261 := entry_ok S_ok (o := []) (orc_nil) e1261_run
theorem e1320_run : entryR S [] 2000 200 12 e1320 = true := by kernel_rfl
theorem e1320_ok : EntryOk (conf S) 12 e1320 := entry_ok S_ok (o := []) (orc_nil) e1320_run
theorem e1349_run : entryR S [] 2000 200 13 e1349 = true := by kernel_rfl
theorem e1349_ok : EntryOk (conf S) 13 e1349 := entry_ok S_ok (o := []) (orc_nil) e1349_run
theorem e1424_run : entryR S [] 2000 200 14 e1424 = true := by kernel_rfl
theorem e1424_ok : EntryOk (conf S) 14 e1424 := entry_ok S_ok (o := []) (orc_nil) e1424_run
theorem e1474_run : entryR S [] 2000 200 12 e1474 = true := by kernel_rfl
theorem e1474_ok : EntryOk (conf S) 12 e1474 := entry_ok S_ok (o := []) (orc_nil) e1474_run
theorem e1515_run : entryR S [] 2000 200 13 e1515 = true := by kernel_rfl
theorem e1515_ok : EntryOk (conf S) 13 e1515 := entry_ok S_ok (o := []) (orc_nil) e1515_run
theorem e1597_run : entryR S [] 2000 200 14 e1597 = true := by kernel_rfl
theorem e1597_ok : EntryOk (conf S) 14 e1597 := entry_ok S_ok (o := []) (orc_nil) e1597_run
theorem e1649_run : entryR S [] 2000 200 12 e1649 = true := by kernel_rfl
theorem e1649_ok : EntryOk (conf S) 12 e1649 := entry_ok S_ok (o := []) (orc_nil) e1649_run
theorem e1703_run : entryR S [] 2000 200 13 e1703 = true := by kernel_rfl
theorem e1703_ok : EntryOk (conf S) 13 e1703 := entry_ok S_ok (o := []) (orc_nil) e1703_run
theorem e1796_run : entryR S [] 2000 200 14 e1796 = true := by kernel_rfl
theorem e1796_ok : EntryOk (conf S) 14 e1796 := entry_ok S_ok (o := []) (orc_nil) e1796_run
theorem e1853_run : entryR S [] 2000 200 12 e1853 = true := by kernel_rfl
theorem e1853_ok : EntryOk (conf S) 12 e1853 := entry_ok S_ok (o := []) (orc_nil) e1853_run
theorem e1873_run : entryR S [] 2000 200 13 e1873 = true := by kernel_rfl
theorem e1873_ok : EntryOk (conf S) 13 e1873 := entry_ok S_ok (o := []) (orc_nil) e1873_run
theorem e1936_run : entryR S [] 2000 200 14 e1936 = true := by kernel_rfl
theorem e1936_ok : EntryOk (conf S) 14 e1936 := entry_ok S_ok (o := []) (orc_nil) e1936_run
theorem e1981_run : entryR S [] 2000 200 12 e1981 = true := by kernel_rfl
theorem e1981_ok : EntryOk (conf S) 12 e1981 := entry_ok S_ok (o := []) (orc_nil) e1981_run
theorem e2002_run : entryR S [] 2000 200 13 e2002 = true := by kernel_rfl
theorem e2002_ok : EntryOk (conf S) 13 e2002 := entry_ok S_ok (o := []) (orc_nil) e2002_run
theorem e2003_run : entryR S [] 2000 200 14 e2003 = true := by kernel_rfl
theorem e2003_ok : EntryOk (conf S) 14 e2003 := entry_ok S_ok (o := []) (orc_nil) e2003_run
theorem e2017_run : entryR S [] 2000 200 12 e2017 = true := by kernel_rfl
theorem e2017_ok : EntryOk (conf S) 12 e2017 := entry_ok S_ok (o := []) (orc_nil) e2017_run
theorem e2059_run : entryR S [] 2000 200 13 e2059 = true := by kernel_rfl
theorem e2059_ok : EntryOk (conf S) 13 e2059 := entry_ok S_ok (o := []) (orc_nil) e2059_run
theorem e2232_run : entryR S [] 2000 200 14 e2232 = true := by kernel_rfl
theorem e2232_ok : EntryOk (conf S) 14 e2232 := entry_ok S_ok (o := []) (orc_nil) e2232_run
theorem e2307_run : entryR S [] 2000 200 12 e2307 = true := by kernel_rfl
theorem e2307_ok : EntryOk (conf S) 12 e2307 := entry_ok S_ok (o := []) (orc_nil) e2307_run
theorem e2340_run : entryR S [] 2000 200 13 e2340 = true := by kernel_rfl
theorem e2340_ok : EntryOk (conf S) 13 e2340 := entry_ok S_ok (o := []) (orc_nil) e2340_run
theorem e2421_run : entryR S [] 2000 200 14 e2421 = true := by kernel_rfl
theorem e2421_ok : EntryOk (conf S) 14 e2421 := entry_ok S_ok (o := []) (orc_nil) e2421_run
theorem e2471_run : entryR S [] 2000 200 12 e2471 = true := by kernel_rfl
theorem e2471_ok : EntryOk (conf S) 12 e2471 := entry_ok S_ok (o := []) (orc_nil) e2471_run
theorem e2524_run : entryR S [] 2000 200 13 e2524 = true := by kernel_rfl
theorem e2524_ok : EntryOk (conf S) 13 e2524 := entry_ok S_ok (o := []) (orc_nil) e2524_run
theorem e2623_run : entryR S [] 2000 200 14 e2623 = true := by kernel_rfl
theorem e2623_ok : EntryOk (conf S) 14 e2623 := entry_ok S_ok (o := []) (orc_nil) e2623_run
theorem e2682_run : entryR S [] 2000 200 12 e2682 = true := by kernel_rfl
theorem e2682_ok : EntryOk (conf S) 12 e2682 := entry_ok S_ok (o := []) (orc_nil) e2682_run
theorem e2711_run : entryR S [] 2000 200 13 e2711 = true := by kernel_rfl
theorem e2711_ok : EntryOk (conf S) 13 e2711 := entry_ok S_ok (o := []) (orc_nil) e2711_run
theorem e2786_run : entryR S [] 2000 200 14 e2786 = true := by kernel_rfl
theorem e2786_ok : EntryOk (conf S) 14 e2786 := entry_ok S_ok (o := []) (orc_nil) e2786_run
theorem e2836_run : entryR S [] 2000 200 12 e2836 = true := by kernel_rfl
theorem e2836_ok : EntryOk (conf S) 12 e2836 := entry_ok S_ok (o := []) (orc_nil) e2836_run
theorem e2946_run : entryR S [] 2000 200 13 e2946 = true := by kernel_rfl
theorem e2946_ok : EntryOk (conf S) 13 e2946 := entry_ok S_ok (o := []) (orc_nil) e2946_run
theorem e3086_run : entryR S [] 2000 200 14 e3086 = true := by kernel_rfl
theorem e3086_ok : EntryOk (conf S) 14 e3086 := entry_ok S_ok (o := []) (orc_nil) e3086_run
theorem e3178_run : entryR S [] 2000 200 12 e3178 = true := by kernel_rfl
theorem e3178_ok : EntryOk (conf S) 12 e3178 := entry_ok S_ok (o := []) (orc_nil) e3178_run
theorem e3285_run : entryR S [] 2000 200 13 e3285 = true := by kernel_rfl
theorem e3285_ok : EntryOk (conf S) 13 e3285 := entry_ok S_ok (o := []) (orc_nil) e3285_run
theorem e3423_run : entryR S [] 2000 200 14 e3423 = true := by kernel_rfl
theorem e3423_ok : EntryOk (conf S) 14 e3423 := entry_ok S_ok (o := []) (orc_nil) e3423_run
theorem e3515_run : entryR S [] 2000 200 12 e3515 = true := by kernel_rfl
theorem e3515_ok : EntryOk (conf S) 12 e3515 := entry_ok S_ok (o := []) (orc_nil) e3515_run
theorem e3535_run : entryR S [] 2000 200 13 e3535 = true := by kernel_rfl
theorem e3535_ok : EntryOk (conf S) 13 e3535 := entry_ok S_ok (o := []) (orc_nil) e3535_run
theorem e3598_run : entryR S [] 2000 200 14 e3598 = true := by kernel_rfl
theorem e3598_ok : EntryOk (conf S) 14 e3598 := entry_ok S_ok (o := []) (orc_nil) e3598_run
theorem e3643_run : entryR S [] 2000 200 12 e3643 = true := by kernel_rfl
theorem e3643_ok : EntryOk (conf S) 12 e3643 := entry_ok S_ok (o := []) (orc_nil) e3643_run
theorem e3664_run : entryR S [] 2000 200 13 e3664 = true := by kernel_rfl
theorem e3664_ok : EntryOk (conf S) 13 e3664 := entry_ok S_ok (o := []) (orc_nil) e3664_run
theorem e3665_run : entryR S [] 2000 200 14 e3665 = true := by kernel_rfl
theorem e3665_ok : EntryOk (conf S) 14 e3665 := entry_ok S_ok (o := []) (orc_nil) e3665_run
theorem e3679_run : entryR S [] 2000 200 12 e3679 = true := by kernel_rfl
theorem e3679_ok : EntryOk (conf S) 12 e3679 := entry_ok S_ok (o := []) (orc_nil) e3679_run
theorem e3721_run : entryR S [] 2000 200 13 e3721 = true := by kernel_rfl
theorem e3721_ok : EntryOk (conf S) 13 e3721 := entry_ok S_ok (o := []) (orc_nil) e3721_run
theorem e3894_run : entryR S [] 2000 200 14 e3894 = true := by kernel_rfl
theorem e3894_ok : EntryOk (conf S) 14 e3894 := entry_ok S_ok (o := []) (orc_nil) e3894_run
theorem e3965_run : entryR S [] 2000 200 12 e3965 = true := by kernel_rfl
theorem e3965_ok : EntryOk (conf S) 12 e3965 := entry_ok S_ok (o := []) (orc_nil) e3965_run
theorem e3998_run : entryR S [] 2000 200 13 e3998 = true := by kernel_rfl
theorem e3998_ok : EntryOk (conf S) 13 e3998 := entry_ok S_ok (o := []) (orc_nil) e3998_run
theorem e4079_run : entryR S [] 2000 200 14 e4079 = true := by kernel_rfl
theorem e4079_ok : EntryOk (conf S) 14 e4079 := entry_ok S_ok (o := []) (orc_nil) e4079_run
theorem e4129_run : entryR S [] 2000 200 12 e4129 = true := by kernel_rfl
theorem e4129_ok : EntryOk (conf S) 12 e4129 := entry_ok S_ok (o := []) (orc_nil) e4129_run
theorem e4182_run : entryR S [] 2000 200 13 e4182 = true := by kernel_rfl
theorem e4182_ok : EntryOk (conf S) 13 e4182 := entry_ok S_ok (o := []) (orc_nil) e4182_run
theorem e4281_run : entryR S [] 2000 200 14 e4281 = true := by kernel_rfl
theorem e4281_ok : EntryOk (conf S) 14 e4281 := entry_ok S_ok (o := []) (orc_nil) e4281_run
theorem e4340_run : entryR S [] 2000 200 12 e4340 = true := by kernel_rfl
theorem e4340_ok : EntryOk (conf S) 12 e4340 := entry_ok S_ok (o := []) (orc_nil) e4340_run
theorem e4369_run : entryR S [] 2000 200 13 e4369 = true := by kernel_rfl
theorem e4369_ok : EntryOk (conf S) 13 e4369 := entry_ok S_ok (o := []) (orc_nil) e4369_run
theorem e4444_run : entryR S [] 2000 200 14 e4444 = true := by kernel_rfl
theorem e4444_ok : EntryOk (conf S) 14 e4444 := entry_ok S_ok (o := []) (orc_nil) e4444_run
theorem e4494_run : entryR S [] 2000 200 12 e4494 = true := by kernel_rfl
theorem e4494_ok : EntryOk (conf S) 12 e4494 := entry_ok S_ok (o := []) (orc_nil) e4494_run
theorem e4569_run : entryR S [] 2000 200 13 e4569 = true := by kernel_rfl
theorem e4569_ok : EntryOk (conf S) 13 e4569 := entry_ok S_ok (o := []) (orc_nil) e4569_run
theorem e4683_run : entryR S [] 2000 200 14 e4683 = true := by kernel_rfl
theorem e4683_ok : EntryOk (conf S) 14 e4683 := entry_ok S_ok (o := []) (orc_nil) e4683_run
theorem e4752_run : entryR S [] 2000 200 12 e4752 = true := by kernel_rfl
theorem e4752_ok : EntryOk (conf S) 12 e4752 := entry_ok S_ok (o := []) (orc_nil) e4752_run
theorem e4819_run : entryR S [] 2000 200 13 e4819 = true := by kernel_rfl
theorem e4819_ok : EntryOk (conf S) 13 e4819 := entry_ok S_ok (o := []) (orc_nil) e4819_run
end Go.Proofs.YtnmbbekfnaaggaaGreat
