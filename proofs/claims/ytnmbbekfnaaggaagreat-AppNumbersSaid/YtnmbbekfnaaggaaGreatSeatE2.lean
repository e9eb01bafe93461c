/- A part of a proof over the abstract machine. No conditions. -/
import Derived.Test.YtnmbbekfnaaggaaGreatSeatD1
import Derived.Test.YtnmbbekfnaaggaaGreatSeatE1
/- Calls that the kernel ran apart. No conditions. -/
namespace Go.Proofs.YtnmbbekfnaaggaaGreat
open Go Go.Ab Go.Fa
set_option maxRecDepth 1000000
set_option maxHeartbeats 0
theorem e4924_run : entryR S [] 2000 200 14 e4924 = true := by kernel_rfl
theorem e4924_ok : EntryOk (conf S) 14 e4924 := entry_ok S_ok (o := []) (orc_nil) e4924_run
theorem e4988_run : entryR S [] 2000 200 12 e4988 = true := by kernel_rfl
theorem e4988_ok : EntryOk (conf S) 12 e4988 := entry_ok S_ok (o := []) (orc_nil) e4988_run
theorem e5008_run : entryR S [] 2000 200 13 e5008 = true := by kernel_rfl
theorem e5008_ok : EntryOk (conf S) 13 e5008 := entry_ok S_ok (o := []) (orc_nil) e5008_run
theorem e5071_run : entryR S [] 2000 200 14 e5071 = true := by kernel_rfl
theorem e5071_ok : EntryOk (conf S) 14 e5071 := entry_ok S_ok (o := []) (orc_nil) e5071_run
theorem e5116_run : entryR S [] 2000 200 12 e5116 = true := by kernel_rfl
theorem e5116_ok : EntryOk (conf S) 12 e5116 := entry_ok S_ok (o := []) (orc_nil) e5116_run
theorem e5137_run : entryR S [] 2000 200 13 e5137 = true := by kernel_rfl
theorem e5137_ok : EntryOk (conf S) 13 e5137 := entry_ok S_ok (o := []) (orc_nil) e5137_run
theorem e5138_run : entryR S [] 2000 200 14 e5138 = true := by kernel_rfl
theorem e5138_ok : EntryOk (conf S) 14 e5138 := entry_ok S_ok (o := []) (orc_nil) e5138_run
theorem e5152_run : entryR S [] 2000 200 12 e5152 = true := by kernel_rfl
theorem e5152_ok : EntryOk (conf S) 12 e5152 := entry_ok S_ok (o := []) (orc_nil) e5152_run
theorem e5194_run : entryR S [] 2000 200 13 e5194 = true := by kernel_rfl
theorem e5194_ok : EntryOk (conf S) 13 e5194 := entry_ok S_ok (o := []) (orc_nil) e5194_run
theorem e5366_run : entryR S [] 2000 200 14 e5366 = true := by kernel_rfl
theorem e5366_ok : EntryOk (conf S) 14 e5366 := entry_ok S_ok (o := []) (orc_nil) e5366_run
theorem e5437_run : entryR S [] 2000 200 12 e5437 = true := by kernel_rfl
theorem e5437_ok : EntryOk (conf S) 12 e5437 := entry_ok S_ok (o := []) (orc_nil) e5437_run
theorem e5470_run : entryR S [] 2000 200 13 e5470 = true := by kernel_rfl
theorem e5470_ok : EntryOk (conf S) 13 e5470 := entry_ok S_ok (o := []) (orc_nil) e5470_run
theorem e5551_run : entryR S [] 2000 200 14 e5551 = true := by kernel_rfl
theorem e5551_ok : EntryOk (conf S) 14 e5551 := entry_ok S_ok (o := []) (orc_nil) e5551_run
theorem e5601_run : entryR S [] 2000 200 12 e5601 = true := by kernel_rfl
theorem e5601_ok : EntryOk (conf S) 12 e5601 := entry_ok S_ok (o := []) (orc_nil) e5601_run
theorem e5654_run : entryR S [] 2000 200 13 e5654 = true := by kernel_rfl
theorem e5654_ok : EntryOk (conf S) 13 e5654 := entry_ok S_ok (o := []) (orc_nil) e5654_run
theorem e5753_run : entryR S [] 2000 200 14 e5753 = true := by kernel_rfl
theorem e5753_ok : EntryOk (conf S) 14 e5753 := entry_ok S_ok (o := []) (orc_nil) e5753_run
theorem e5812_run : entryR S [] 2000 200 12 e5812 = true := by kernel_rfl
theorem e5812_ok : EntryOk (conf S) 12 e5812 := entry_ok S_ok (o := []) (orc_nil) e5812_run
theorem e5841_run : entryR S [] 2000 200 13 e5841 = true := by kernel_rfl
theorem e5841_ok : EntryOk (conf S) 13 e5841 := entry_ok S_ok (o := []) (orc_nil) e5841_run
theorem e5916_run : entryR S [] 2000 200 14 e5916 = true := by kernel_rfl
theorem e5916_ok : EntryOk (conf S) 14 e5916 := entry_ok S_ok (o := []) (orc_nil) e5916_run
theorem e5966_run : entryR S [] 2000 200 12 e5966 = true := by kernel_rfl
theorem e5966_ok : EntryOk (conf S) 12 e5966 := entry_ok S_ok (o := []) (orc_nil) e5966_run
theorem e6007_run : entryR S [] 2000 200 13 e6007 = true := by kernel_rfl
theorem e6007_ok : EntryOk (conf S) 13 e6007 := entry_ok S_ok (o := []) (orc_nil) e6007_run
theorem e6089_run : entryR S [] 2000 200 14 e6089 = true := by kernel_rfl
theorem e6089_ok : EntryOk (conf S) 14 e6089 := entry_ok S_ok (o := []) (orc_nil) e6089_run
theorem e6141_run : entryR S [] 2000 200 12 e6141 = true := by kernel_rfl
theorem e6141_ok : EntryOk (conf S) 12 e6141 := entry_ok S_ok (o := []) (orc_nil) e6141_run
theorem e6195_run : entryR S [] 2000 200 13 e6195 = true := by kernel_rfl
theorem e6195_ok : EntryOk (conf S) 13 e6195 := entry_ok S_ok (o := []) (orc_nil) e6195_run
theorem e6288_run : entryR S [] 2000 200 14 e6288 = true := by kernel_rfl
theorem e6288_ok : EntryOk (conf S) 14 e6288 := entry_ok S_ok (o := []) (orc_nil) e6288_run
theorem e6345_run : entryR S [] 2000 200 12 e6345 = true := by kernel_rfl
theorem e6345_ok : EntryOk (conf S) 12 e6345 := entry_ok S_ok (o := []) (orc_nil) e6345_run
theorem e6365_run : entryR S [] 2000 200 13 e6365 = true := by kernel_rfl
theorem e6365_ok : EntryOk (conf S) 13 e6365 := entry_ok S_ok (o := []) (orc_nil) e6365_run
theorem e6428_run : entryR S [] 2000 200 14 e6428 = true := by kernel_rfl
theorem e6428_ok : EntryOk (conf S) 14 e6428 := entry_ok S_ok (o := []) (orc_nil) e6428_run
theorem e6473_run : entryR S [] 2000 200 12 e6473 = true := by kernel_rfl
theorem e6473_ok : EntryOk (conf S) 12 e6473 := entry_ok S_ok (o := []) (orc_nil) e6473_run
theorem e6494_run : entryR S [] 2000 200 13 e6494 = true := by kernel_rfl
theorem e6494_ok : EntryOk (conf S) 13 e6494 := entry_ok S_ok (o := []) (orc_nil) e6494_run
theorem e6495_run : entryR S [] 2000 200 14 e6495 = true := by kernel_rfl
theorem e6495_ok : EntryOk (conf S) 14 e6495 := entry_ok S_ok (o := []) (orc_nil) e6495_run
theorem e6509_run : entryR S [] 2000 200 12 e6509 = true := by kernel_rfl
theorem e6509_ok : EntryOk (conf S) 12 e6509 := entry_ok S_ok (o := []) (orc_nil) e6509_run
theorem e6551_run : entryR S [] 2000 200 13 e6551 = true := by kernel_rfl
theorem e6551_ok : EntryOk (conf S) 13 e6551 := entry_ok S_ok (o := []) (orc_nil) e6551_run
theorem e6723_run : entryR S [] 2000 200 14 e6723 = true := by kernel_rfl
theorem e6723_ok : EntryOk (conf S) 14 e6723 := entry_ok S_ok (o := []) (orc_nil) e6723_run
theorem e6794_run : entryR S [] 2000 200 12 e6794 = true := by kernel_rfl
theorem e6794_ok : EntryOk (conf S) 12 e6794 := entry_ok S_ok (o := []) (orc_nil) e6794_run
theorem e6827_run : entryR S [] 2000 200 13 e6827 = true := by kernel_rfl
theorem e6827_ok : EntryOk (conf S) 13 e6827 := entry_ok S_ok (o := []) (orc_nil) e6827_run
theorem e6908_run : entryR S [] 2000 200 14 e6908 = true := by kernel_rfl
theorem e6908_ok : EntryOk (conf S) 14 e6908 := entry_ok S_ok (o := []) (orc_nil) e6908_run
theorem e6958_run : entryR S [] 2000 200 12 e6958 = true := by kernel_rfl
theorem e6958_ok : EntryOk (conf S) 12 e6958 := entry_ok S_ok (o := []) (orc_nil) e6958_run
theorem e7011_run : entryR S [] 2000 200 13 e7011 = true := by kernel_rfl
theorem e7011_ok : EntryOk (conf S) 13 e7011 := entry_ok S_ok (o := []) (orc_nil) e7011_run
theorem e7110_run : entryR S [] 2000 200 14 e7110 = true := by kernel_rfl
theorem e7110_ok : EntryOk (conf S) 14 e7110 := entry_ok S_ok (o := []) (orc_nil) e7110_run
theorem e7169_run : entryR S [] 2000 200 12 e7169 = true := by kernel_rfl
theorem e7169_ok : EntryOk (conf S) 12 e7169 := entry_ok S_ok (o := []) (orc_nil) e7169_run
theorem e7198_run : entryR S [] 2000 200 13 e7198 = true := by kernel_rfl
theorem e7198_ok : EntryOk (conf S) 13 e7198 := entry_ok S_ok (o := []) (orc_nil) e7198_run
theorem e7273_run : entryR S [] 2000 200 14 e7273 = true := by kernel_rfl
theorem e7273_ok : EntryOk (conf S) 14 e7273 := entry_ok S_ok (o := []) (orc_nil) e7273_run
theorem e7323_run : entryR S [] 2000 200 12 e7323 = true := by kernel_rfl
theorem e7323_ok : EntryOk (conf S) 12 e7323 := entry_ok S_ok (o := []) (orc_nil) e7323_run
theorem e7391_run : entryR S [] 2000 200 13 e7391 = true := by kernel_rfl
theorem e7391_ok : EntryOk (conf S) 13 e7391 := entry_ok S_ok (o := []) (orc_nil) e7391_run
theorem e7496_run : entryR S [] 2000 200 14 e7496 = true := by kernel_rfl
theorem e7496_ok : EntryOk (conf S) 14 e7496 := entry_ok S_ok (o := []) (orc_nil) e7496_run
theorem e7560_run : entryR S [] 2000 200 12 e7560 = true := by kernel_rfl
theorem e7560_ok : EntryOk (conf S) 12 e7560 := entry_ok S_ok (o := []) (orc_nil) e7560_run
theorem e7672_run : entryR S [] 2000 200 13 e7672 = true := by kernel_rfl
theorem e7672_ok : EntryOk (conf S) 13 e7672 := entry_ok S_ok (o := []) (orc_nil) e7672_run
theorem e7810_run : entryR S [] 2000 200 14 e7810 = true := by kernel_rfl
theorem e7810_ok : EntryOk (conf S) 14 e7810 := entry_ok S_ok (o := []) (orc_nil) e7810_run
theorem e11_run : entryR S [(12,[e30,e384,e420,e945,e1109,e1320,e1474,e1649,e1853,e1981,e2017,e2307,e2471,e2682,e2836,e3178,e3515,e3643,e3679,e3965,e4129,e4340,e4494,e4752,e4988,e5116,e5152,e5437,e5601,e5812,e5966,e6141,e6345,e6473,e6509,e6794,e6958,e7169,e7323,e7560]),(13,[e50,e405,e462,e978,e1162,e1349,e1515,e1703,e1873,e2002,e2059,e2340,e2524,e2711,e2946,e3285,e3535,e3664,e3721,e3998,e4182,e4369,e4569,e4819,e5008,e5137,e5194,e5470,e5654,e5841,e6007,e6195,e6365,e6494,e6551,e6827,e7011,e7198,e7391,e7672]),(14,[e113,e406,e616,e1059,e1261,e1424,e1597,e1796,e1936,e2003,e2232,e2421,e2623,e2786,e3086,e3423,e3598,e3665,e3894,e4079,e4281,e4444,e4683,e4924,e5071,e5138,e5366,e5551,e5753,e5916,e6089,e6288,e6428,e6495,e6723,e6908,e7110,e7273,e7496,e7810])] 2000 200 5 e11 = true := by kernel_rfl
theorem e11_ok : EntryOk (conf S) 5 e11 := entry_ok S_ok (o := [(12,[e30,e384,e420,e945,e1109,e1320,e1474,e1649,e1853,e1981,e2017,e2307,e2471,e2682,e2836,e3178,e3515,e3643,e3679,e3965,e4129,e4340,e4494,e4752,e4988,e5116,e5152,e5437,e5601,e5812,e5966,e6141,e6345,e6473,e6509,e6794,e6958,e7169,e7323,e7560]),(13,[e50,e405,e462,e978,e1162,e1349,e1515,e1703,e1873,e2002,e2059,e2340,e2524,e2711,e2946,e3285,e3535,e3664,e3721,e3998,e4182,e4369,e4569,e4819,e5008,e5137,e5194,e5470,e5654,e5841,e6007,e6195,e6365,e6494,e6551,e6827,e7011,e7198,e7391,e7672]),(14,[e113,e406,e616,e1059,e1261,e1424,e1597,e1796,e1936,e2003,e2232,e2421,e2623,e2786,e3086,e3423,e3598,e3665,e3894,e4079,e4281,e4444,e4683,e4924,e5071,e5138,e5366,e5551,e5753,e5916,e6089,e6288,e6428,e6495,e6723,e6908,e7110,e7273,e7496,e7810])]) (orc_cons (es_cons e30_ok (es_cons e384_ok (es_cons e420_ok (es_cons e945_ok (es_cons e1109_ok (es_cons e1320_ok (es_cons e1474_ok (es_cons e1649_ok (es_cons e1853_ok (es_cons e1981_ok (es_cons e2017_ok (es_cons e2307_ok (es_cons e2471_ok (es_cons e2682_ok (es_cons e2836_ok (es_cons e3178_ok (es_cons e3515_ok (es_cons e3643_ok (es_cons e3679_ok (es_cons e3965_ok (es_cons e4129_ok (es_cons e4340_ok (es_cons e4494_ok (es_cons e4752_ok (es_cons e4988_ok (es_cons e5116_ok (es_cons e5152_ok (es_cons e5437_ok (es_cons e5601_ok (es_cons e5812_ok (es_cons e5966_ok (es_cons e6141_ok (es_cons e6345_ok (es_cons e6473_ok (es_cons e6509_ok (es_cons e6794_ok (es_cons e6958_ok (es_cons e7169_ok (es_cons e7323_ok (es_cons e7560_ok (es_nil))))))))))))))))))))))))))))))))))))))))) (orc_cons (es_cons e50_ok (es_cons e405_ok (es_cons e462_ok (es_cons e978_ok (es_cons e1162_ok (es_cons e1349_ok (es_cons e1515_ok (es_cons e1703_ok (es_cons e1873_ok (es_cons e2002_ok (es_cons e2059_ok (es_cons e2340_ok (es_cons e2524_ok (es_cons e2711_ok (es_cons e2946_ok (es_cons e3285_ok (es_cons e3535_ok (es_cons e3664_ok (es_cons e3721_ok (es_cons e3998_ok (es_cons e4182_ok (es_cons e4369_ok (es_cons e4569_ok (es_cons e4819_ok (es_cons e5008_ok (es_cons e5137_ok (es_cons e5194_ok (es_cons e5470_ok (es_cons e5654_ok (es_cons e5841_ok (es_cons e6007_ok (es_cons e6195_ok (es_cons e6365_ok (es_cons e6494_ok (es_cons e6551_ok (es_cons e6827_ok (es_cons e7011_ok (es_cons e7198_ok (es_cons e7391_ok (es_cons e7672_ok (es_nil))))))))))))))))))))))))))))))))))))))))) (orc_cons (es_cons e113_ok (es_cons e406_ok (es_cons e616_ok (es_cons e1059_ok (es_cons e1261_ok (es_cons e1424_ok (es_cons e1597_ok (es_cons e1796_ok (es_cons e1936_ok (es_cons e2003_ok (es_cons e2232_ok (es_cons e2421_ok (es_cons e2623_ok (es_cons e2786_ok (es_cons e3086_ok (es_cons e3423_ok (es_cons e3598_ok (es_cons e3665_ok (es_cons e3894_ok (es_cons e4079_ok (es_cons e4281_ok (es_cons e4444_ok (es_cons e4683_ok (es_cons e4924_ok (es_cons e5071_ok (es_cons e5138_ok (es_cons e5366_ok (es_cons e5551_ok (es_cons e5753_ok (es_cons e5916_ok (es_cons e6089_ok (es_cons e6288_ok (es_cons e6428_ok (es_cons e6495_ok (es_cons e6723_ok (es_cons e6908_ok (es_cons e7110_ok (es_cons e7273_ok (es_cons e7496_ok (es_cons e7810_ok (es_nil))))))))))))))))))))))))))))))))))))))))) (orc_nil)))) e11_run
theorem e7917_run : entryR S [] 2000 200 12 e7917 = true := by kernel_rfl
theorem e7917_ok : EntryOk (conf S) 12 e7917 := entry_ok S_ok (o := []) (orc_nil) e7917_run
theorem e7937_run : entryR S [] 2000 200 13 e7937 = true := by kernel_rfl
theorem e7937_ok : EntryOk (conf S) 13 e7937 := entry_ok S_ok (o := []) (orc_nil) e7937_run
theorem e8000_run : entryR S [] 2000 200 14 e8000 = true := by kernel_rfl
theorem e8000_ok : EntryOk (conf S) 14 e8000 := entry_ok S_ok (o := []) (orc_nil) e8000_run
theorem e8162_run : entryR S [] 2000 200 12 e8162 = true := by kernel_rfl
theorem e8162_ok : EntryOk (conf S) 12 e8162 := entry_ok S_ok (o := []) (orc_nil) e8162_run
theorem e8183_run : entryR S [] 2000 200 13 e8183 = true := by kernel_rfl
theorem e8183_ok : EntryOk (conf S) 13 e8183 := entry_ok S_ok (o := []) (orc_nil) e8183_run
theorem e8184_run : entryR S [] 2000 200 14 e8184 = true := by kernel_rfl
theorem e8184_ok : EntryOk (conf S) 14 e8184 := entry_ok S_ok (o := []) (orc_nil) e8184_run
theorem e8206_run : entryR S [] 2000 200 12 e8206 = true := by kernel_rfl
theorem e8206_ok : EntryOk (conf S) 12 e8206 := entry_ok S_ok (o := []) (orc_nil) e8206_run
end Go.Proofs.YtnmbbekfnaaggaaGreat
