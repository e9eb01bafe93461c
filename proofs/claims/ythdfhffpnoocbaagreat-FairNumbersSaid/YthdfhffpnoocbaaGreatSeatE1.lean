/- A part of a proof over the abstract machine. No conditions. -/
import Derived.Test.YthdfhffpnoocbaaGreatSeatD1
/- Calls that the kernel ran apart. No conditions. -/
namespace Go.Proofs.YthdfhffpnoocbaaGreat
open Go Go.Ab Go.Fa
set_option maxRecDepth 1000000
set_option maxHeartbeats 0
theorem e1_run : entryR S [] 2000 200 5 e1 = true := by kernel_rfl
theorem e1_ok : EntryOk (conf S) 5 e1 := entry_ok S_ok (o := []) (orc_nil) e1_run
theorem e4_run : entryR S [] 2000 200 5 e4 = true := by kernel_rfl
theorem e4_ok : EntryOk (conf S) 5 e4 := entry_ok S_ok (o := []) (orc_nil) e4_run
theorem e7_run : entryR S [] 2000 200 5 e7 = true := by kernel_rfl
theorem e7_ok : EntryOk (conf S) 5 e7 := entry_ok S_ok (o := []) (orc_nil) e7_run
theorem e10_run : entryR S [] 2000 200 5 e10 = true := by kernel_rfl
theorem e10_ok : EntryOk (conf S) 5 e10 := entry_ok S_ok (o := []) (orc_nil) e10_run
theorem e13_run : entryR S [] 2000 200 5 e13 = true := by kernel_rfl
theorem e13_ok : EntryOk (conf S) 5 e13 := entry_ok S_ok (o := []) (orc_nil) e13_run
theorem e16_run : entryR S [] 2000 200 5 e16 = true := by kernel_rfl
theorem e16_ok : EntryOk (conf S) 5 e16 := entry_ok S_ok (o := []) (orc_nil) e16_run
theorem e19_run : entryR S [] 2000 200 5 e19 = true := by kernel_rfl
theorem e19_ok : EntryOk (conf S) 5 e19 := entry_ok S_ok (o := []) (orc_nil) e19_run
theorem e22_run : entryR S [] 2000 200 5 e22 = true := by kernel_rfl
theorem e22_ok : EntryOk (conf S) 5 e22 := entry_ok S_ok (o := []) (orc_nil) e22_run
theorem e25_run : entryR S [] 2000 200 5 e25 = true := by kernel_rfl
theorem e25_ok : EntryOk (conf S) 5 e25 := entry_ok S_ok (o := []) (orc_nil) e25_run
theorem e28_run : entryR S [] 2000 200 5 e28 = true := by kernel_rfl
theorem e28_ok : EntryOk (conf S) 5 e28 := entry_ok S_ok (o := []) (orc_nil) e28_run
theorem e31_run : entryR S [] 2000 200 5 e31 = true := by kernel_rfl
theorem e31_ok : EntryOk (conf S) 5 e31 := entry_ok S_ok (o := []) (orc_nil) e31_run
theorem e34_run : entryR S [] 2000 200 5 e34 = true := by kernel_rfl
theorem e34_ok : EntryOk (conf S) 5 e34 := entry_ok S_ok (o := []) (orc_nil) e34_run
theorem e37_run : entryR S [] 2000 200 5 e37 = true := by kernel_rfl
theorem e37_ok : EntryOk (conf S) 5 e37 := entry_ok S_ok (o := []) (orc_nil) e37_run
theorem e40_run : entryR S [] 2000 200 5 e40 = true := by kernel_rfl
theorem e40_ok : EntryOk (conf S) 5 e40 := entry_ok S_ok (o := []) (orc_nil) e40_run
theorem e43_run : entryR S [] 2000 200 5 e43 = true := by kernel_rfl
theorem e43_ok : EntryOk (conf S) 5 e43 := entry_ok S_ok (o := []) (orc_nil) e43_run
theorem e46_run : entryR S [] 2000 200 5 e46 = true := by kernel_rfl
theorem e46_ok : EntryOk (conf S) 5 e46 := entry_ok S_ok (o := []) (orc_nil) e46_run
theorem e49_run : entryR S [] 2000 200 5 e49 = true := by kernel_rfl
theorem e49_ok : EntryOk (conf S) 5 e49 := entry_ok S_ok (o := []) (orc_nil) e49_run
theorem e52_run : entryR S [] 2000 200 5 e52 = true := by kernel_rfl
theorem e52_ok : EntryOk (conf S) 5 e52 := entry_ok S_ok (o := []) (orc_nil) e52_run
theorem e55_run : entryR S [] 2000 200 5 e55 = true := by kernel_rfl
theorem e55_ok : EntryOk (conf S) 5 e55 := entry_ok S_ok (o := []) (orc_nil) e55_run
theorem e58_run : entryR S [] 2000 200 5 e58 = true := by kernel_rfl
theorem e58_ok : EntryOk (conf S) 5 e58 := entry_ok S_ok (o := []) (orc_nil) e58_run
theorem e61_run : entryR S [] 2000 200 5 e61 = true := by kernel_rfl
theorem e61_ok : EntryOk (conf S) 5 e61 := entry_ok S_ok (o := []) (orc_nil) e61_run
theorem e64_run : entryR S [] 2000 200 5 e64 = true := by kernel_rfl
theorem e64_ok : EntryOk (conf S) 5 e64 := entry_ok S_ok (o := []) (orc_nil) e64_run
theorem e67_run : entryR S [] 2000 200 5 e67 = true := by kernel_rfl
theorem e67_ok : EntryOk (conf S) 5 e67 := entry_ok S_ok (o := []) (orc_nil) e67_run
theorem e70_run : entryR S [] 2000 200 5 e70 = true := by kernel_rfl
theorem e70_ok : EntryOk (conf S) 5 e70 := entry_ok S_ok (o := []) (orc_nil) e70_run
theorem e73_run : entryR S [] 2000 200 5 e73 = true := by kernel_rfl
theorem e73_ok : EntryOk (conf S) 5 e73 := entry_ok S_ok (o := []) (orc_nil) e73_run
theorem e76_run : entryR S [] 2000 200 5 e76 = true := by kernel_rfl
theorem e76_ok : EntryOk (conf S) 5 e76 := entry_ok S_ok (o := []) (orc_nil) e76_run
theorem e79_run : entryR S [] 2000 200 5 e79 = true := by kernel_rfl
theorem e79_ok : EntryOk (conf S) 5 e79 := entry_ok S_ok (o := []) (orc_nil) e79_run
theorem e82_run : entryR S [] 2000 200 5 e82 = true := by kernel_rfl
theorem e82_ok : EntryOk (conf S) 5 e82 := entry_ok S_ok (o := []) (orc_nil) e82_run
theorem e85_run : entryR S [] 2000 200 5 e85 = true := by kernel_rfl
theorem e85_ok : EntryOk (conf S) 5 e85 := entry_ok S_ok (o := []) (orc_nil) e85_run
theorem e88_run : entryR S [] 2000 200 5 e88 = true := by kernel_rfl
theorem e88_ok : EntryOk (conf S) 5 e88 := entry_ok S_ok (o := []) (orc_nil) e88_run
theorem e91_run : entryR S [] 2000 200 5 e91 = true := by kernel_rfl
theorem e91_ok : EntryOk (conf S) 5 e91 := entry_ok S_ok (o := []) (orc_nil) e91_run
theorem e94_run : entryR S [] 2000 200 5 e94 = true := by kernel_rfl
theorem e94_ok : EntryOk (conf S) 5 e94 := entry_ok S_ok (o := []) (orc_nil) e94_run
theorem e97_run : entryR S [] 2000 200 5 e97 = true := by kernel_rfl
theorem e97_ok : EntryOk (conf S) 5 e97 := entry_ok S_ok (o := []) (orc_nil) e97_run
theorem e100_run : entryR S [] 2000 200 5 e100 = true := by kernel_rfl
theorem e100_ok : EntryOk (conf S) 5 e100 := entry_ok S_ok (o := []) (orc_nil) e100_run
theorem e103_run : entryR S [] 2000 200 5 e103 = true := by kernel_rfl
theorem e103_ok : EntryOk (conf S) 5 e103 := entry_ok S_ok (o := []) (orc_nil) e103_run
theorem e106_run : entryR S [] 2000 200 5 e106 = true := by kernel_rfl
theorem e106_ok : EntryOk (conf S) 5 e106 := entry_ok S_ok (o := []) (orc_nil) e106_run
theorem e109_run : entryR S [] 2000 200 5 e109 = true := by kernel_rfl
theorem e109_ok : EntryOk (conf S) 5 e109 := entry_ok S_ok (o := []) (orc_nil) e109_run
theorem e112_run : entryR S [] 2000 200 5 e112 = true := by kernel_rfl
theorem e112_ok : EntryOk (conf S) 5 e112 := entry_ok S_ok (o := []) (orc_nil) e112_run
theorem e203_run : entryR S [] 2000 200 5 e203 = true := by kernel_rfl
theorem e203_ok : EntryOk (conf S) 5 e203 := entry_ok S_ok (o := []) (orc_nil) e203_run
theorem e293_run : entryR S [] 2000 200 5 e293 = true := by kernel_rfl
theorem e293_ok : EntryOk (conf S) 5 e293 := entry_ok S_ok (o := []) (orc_nil) e293_run
theorem e388_run : entryR S [] 2000 200 5 e388 = true := by kernel_rfl
theorem e388_ok : EntryOk (conf S) 5 e388 := entry_ok S_ok (o := []) (orc_nil) e388_run
theorem e473_run : entryR S [] 2000 200 5 e473 = true := by kernel_rfl
theorem e473_ok : EntryOk (conf S) 5 e473 := entry_ok S_ok (o := []) (orc_nil) e473_run
theorem e558_run : entryR S [] 2000 200 5 e558 = true := by kernel_rfl
theorem e558_ok : EntryOk (conf S) 5 e558 := entry_ok S_ok (o := []) (orc_nil) e558_run
theorem e644_run : entryR S [] 2000 200 5 e644 = true := by kernel_rfl
theorem e644_ok : EntryOk (conf S) 5 e644 := entry_ok S_ok (o := []) (orc_nil) e644_run
theorem e737_run : entryR S [] 2000 200 5 e737 = true := by kernel_rfl
theorem e737_ok : EntryOk (conf S) 5 e737 := entry_ok S_ok (o := []) (orc_nil) e737_run
theorem e829_run : entryR S [] 2000 200 5 e829 = true := by kernel_rfl
theorem e829_ok : EntryOk (conf S) 5 e829 := entry_ok S_ok (o := []) (orc_nil) e829_run
theorem e927_run : entryR S [] 2000 200 5 e927 = true := by kernel_rfl
theorem e927_ok : EntryOk (conf S) 5 e927 := entry_ok S_ok (o := []) (orc_nil) e927_run
theorem e1013_run : entryR S [] 2000 200 5 e1013 = true := by kernel_rfl
theorem e1013_ok : EntryOk (conf S) 5 e1013 := entry_ok S_ok (o := []) (orc_nil) e1013_run
theorem e1099_run : entryR S [] 2000 200 5 e1099 = true := by kernel_rfl
theorem e1099_ok : EntryOk (conf S) 5 e1099 := entry_ok S_ok (o := []) (orc_nil) e1099_run
theorem e1186_run : entryR S [] 2000 200 5 e1186 = true := by kernel_rfl
theorem e1186_ok : EntryOk (conf S) 5 e1186 := entry_ok S_ok (o := []) (orc_nil) e1186_run
theorem e1281_run : entryR S [] 2000 200 5 e1281 = true := by kernel_rfl
theorem e1281_ok : EntryOk (conf S) 5 e1281 := entry_ok S_ok (o := []) (orc_nil) e1281_run
theorem e1375_run : entryR S [] 2000 200 5 e1375 = true := by kernel_rfl
theorem e1375_ok : EntryOk (conf S) 5 e1375 := entry_ok S_ok (o := []) (orc_nil) e1375_run
theorem e1476_run : entryR S [] 2000 200 5 e1476 = true := by kernel_rfl
theorem e1476_ok : EntryOk (conf S) 5 e1476 := entry_ok S_ok (o := []) (orc_nil) e1476_run
theorem e1563_run : entryR S [] 2000 200 5 e1563 = true := by kernel_rfl
theorem e1563_ok : EntryOk (conf S) 5 e1563 := entry_ok S_ok (o := []) (orc_nil) e1563_run
theorem e1650_run : entryR S [] 2000 200 5 e1650 = true := by kernel_rfl
theorem e1650_ok : EntryOk (conf S) 5 e1650 := entry_ok S_ok (o := []) (orc_nil) e1650_run
theorem e1738_run : entryR S [] 2000 200 5 e1738 = true := by kernel_rfl
theorem e1738_ok : EntryOk (conf S) 5 e1738 := entry_ok S_ok (o := []) (orc_nil) e1738_run
theorem e1835_run : entryR S [] 2000 200 5 e1835 = true := by kernel_rfl
theorem e1835_ok : EntryOk (conf S) 5 e1835 := entry_ok S_ok (o := []) (orc_nil) e1835_run
theorem e1931_run : entryR S [] 2000 200 5 e1931 = true := by kernel_rfl
theorem e1931_ok : EntryOk (conf S) 5 e1931 := entry_ok S_ok (o := []) (orc_nil) e1931_run
theorem e2035_run : entryR S [] 2000 200 5 e2035 = true := by kernel_rfl
theorem e2035_ok : EntryOk (conf S) 5 e2035 := entry_ok S_ok (o := []) (orc_nil) e2035_run
theorem e2123_run : entryR S [] 2000 200 5 e2123 = true := by kernel_rfl
theorem e2123_ok : EntryOk (conf S) 5 e2123 := entry_ok S_ok (o := []) (orc_nil) e2123_run
theorem e2211_run : entryR S [] 2000 200 5 e2211 = true := by kernel_rfl
theorem e2211_ok : EntryOk (conf S) 5 e2211 := entry_ok S_ok (o := []) (orc_nil) e2211_run
theorem e2300_run : entryR S [] 2000 200 5 e2300 = true := by kernel_rfl
theorem e2300_ok : EntryOk (conf S) 5 e2300 := entry_ok S_ok (o := []) (orc_nil) e2300_run
theorem e2303_run : entryR S [] 2000 200 5 e2303 = true := by kernel_rfl
theorem e2303_ok : EntryOk (conf S) 5 e2303 := entry_ok S_ok (o := []) (orc_nil) e2303_run
theorem e2306_run : entryR S [] 2000 200 5 e2306 = true := by kernel_rfl
theorem e2306_ok : EntryOk (conf S) 5 e2306 := entry_ok S_ok (o := []) (orc_nil) e2306_run
theorem e2309_run : entryR S [] 2000 200 5 e2309 = true := by kernel_rfl
theorem e2309_ok : EntryOk (conf S) 5 e2309 := entry_ok S_ok (o := []) (orc_nil) e2309_run
theorem e2312_run : entryR S [] 2000 200 5 e2312 = true := by kernel_rfl
theorem e2312_ok : EntryOk (conf S) 5 e2312 := entry_ok S_ok (o := []) (orc_nil) e2312_run
theorem e2315_run : entryR S [] 2000 200 5 e2315 = true := by kernel_rfl
theorem e2315_ok : EntryOk (conf S) 5 e2315 := entry_ok S_ok (o := []) (orc_nil) e2315_run
theorem e2318_run : entryR S [] 2000 200 5 e2318 = true := by kernel_rfl
theorem e2318_ok : EntryOk (conf S) 5 e2318 := entry_ok S_ok (o := []) (orc_nil) e2318_run
theorem e2321_run : entryR S [] 2000 200 5 e2321 = true := by kernel_rfl
theorem e2321_ok : EntryOk (conf S) 5 e2321 := entry_ok S_ok (o := []) (orc_nil) e2321_run
theorem e2324_run : entryR S [] 2000 200 5 e2324 = true := by kernel_rfl
theorem e2324_ok : EntryOk (conf S) 5 e2324 := entry_ok S_ok (o := []) (orc_nil) e2324_run
theorem e2517_run : entryR S [] 2000 200 5 e2517 = true := by kernel_rfl
theorem e2517_ok : EntryOk (conf S) 5 e2517 := entry_ok S_ok (o := []) (orc_nil) e2517_run
theorem e2709_run : entryR S [] 2000 200 5 e2709 = true := by kernel_rfl
theorem e2709_ok : EntryOk (conf S) 5 e2709 := entry_ok S_ok (o := []) (orc_nil) e2709_run
theorem e2910_run : entryR S [] 2000 200 5 e2910 = true := by kernel_rfl
theorem e2910_ok : EntryOk (conf S) 5 e2910 := entry_ok S_ok (o := []) (orc_nil) e2910_run
theorem e3093_run : entryR S [] 2000 200 5 e3093 = true := by kernel_rfl
theorem e3093_ok : EntryOk (conf S) 5 e3093 := entry_ok S_ok (o := []) (orc_nil) e3093_run
theorem e3276_run : entryR S [] 2000 200 5 e3276 = true := by kernel_rfl
theorem e3276_ok : EntryOk (conf S) 5 e3276 := entry_ok S_ok (o := []) (orc_nil) e3276_run
theorem e3460_run : entryR S [] 2000 200 5 e3460 = true := by kernel_rfl
theorem e3460_ok : EntryOk (conf S) 5 e3460 := entry_ok S_ok (o := []) (orc_nil) e3460_run
theorem e3655_run : entryR S [] 2000 200 5 e3655 = true := by kernel_rfl
theorem e3655_ok : EntryOk (conf S) 5 e3655 := entry_ok S_ok (o := []) (orc_nil) e3655_run
theorem e3849_run : entryR S [] 2000 200 5 e3849 = true := by kernel_rfl
theorem e3849_ok : EntryOk (conf S) 5 e3849 := entry_ok S_ok (o := []) (orc_nil) e3849_run
theorem e4053_run : entryR S [] 2000 200 5 e4053 = true := by kernel_rfl
theorem e4053_ok : EntryOk (conf S) 5 e4053 := entry_ok S_ok (o := []) (orc_nil) e4053_run
theorem e4237_run : entryR S [] 2000 200 5 e4237 = true := by kernel_rfl
theorem e4237_ok : EntryOk (conf S) 5 e4237 := entry_ok S_ok (o := []) (orc_nil) e4237_run
theorem e4421_run : entryR S [] 2000 200 5 e4421 = true := by kernel_rfl
theorem e4421_ok : EntryOk (conf S) 5 e4421 := entry_ok S_ok (o := []) (orc_nil) e4421_run
theorem e4606_run : entryR S [] 2000 200 5 e4606 = true := by kernel_rfl
theorem e4606_ok : EntryOk (conf S) 5 e4606 := entry_ok S_ok (o := []) (orc_nil) e4606_run
theorem e4803_run : entryR S [] 2000 200 5 e4803 = true := by kernel_rfl
theorem e4803_ok : EntryOk (conf S) 5 e4803 := entry_ok S_ok (o := []) (orc_nil) e4803_run
end Go.Proofs.YthdfhffpnoocbaaGreat
