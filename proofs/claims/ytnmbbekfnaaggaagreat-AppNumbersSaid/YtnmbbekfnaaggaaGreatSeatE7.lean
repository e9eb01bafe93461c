/- A part of a proof over the abstract machine. No conditions. -/
import Derived.Test.YtnmbbekfnaaggaaGreatSeatD1
import Derived.Test.YtnmbbekfnaaggaaGreatSeatE5
import Derived.Test.YtnmbbekfnaaggaaGreatSeatE6
/- Calls that the kernel ran apart. No conditions. -/
namespace Go.Proofs.YtnmbbekfnaaggaaGreat
open Go Go.Ab Go.Fa
set_option maxRecDepth 1000000
set_option maxHeartbeats 0
theorem e24279_run : entryR S [] 2000 200 13 e24279 = true := by kernel_rfl
theorem e24279_ok : EntryOk (conf S) 13 e24279 := entry_ok S_ok (o := []) (orc_nil) e24279_run
theorem e24342_run : entryR S [] 2000 200 14 e24342 = true := by kernel_rfl
theorem e24342_ok : EntryOk (conf S) 14 e24342 := entry_ok S_ok (o := []) (orc_nil) e24342_run
theorem e24391_run : entryR S [] 2000 200 12 e24391 = true := by kernel_rfl
theorem e24391_ok : EntryOk (conf S) 12 e24391 := entry_ok S_ok (o := []) (orc_nil) e24391_run
theorem e24412_run : entryR S [] 2000 200 13 e24412 = true := by kernel_rfl
theorem e24412_ok : EntryOk (conf S) 13 e24412 := entry_ok S_ok (o := []) (orc_nil) e24412_run
theorem e24413_run : entryR S [] 2000 200 14 e24413 = true := by kernel_rfl
theorem e24413_ok : EntryOk (conf S) 14 e24413 := entry_ok S_ok (o := []) (orc_nil) e24413_run
theorem e24431_run : entryR S [] 2000 200 12 e24431 = true := by kernel_rfl
theorem e24431_ok : EntryOk (conf S) 12 e24431 := entry_ok S_ok (o := []) (orc_nil) e24431_run
theorem e24473_run : entryR S [] 2000 200 13 e24473 = true := by kernel_rfl
theorem e24473_ok : EntryOk (conf S) 13 e24473 := entry_ok S_ok (o := []) (orc_nil) e24473_run
theorem e24557_run : entryR S [] 2000 200 14 e24557 = true := by kernel_rfl
theorem e24557_ok : EntryOk (conf S) 14 e24557 := entry_ok S_ok (o := []) (orc_nil) e24557_run
theorem e24612_run : entryR S [] 2000 200 12 e24612 = true := by kernel_rfl
theorem e24612_ok : EntryOk (conf S) 12 e24612 := entry_ok S_ok (o := []) (orc_nil) e24612_run
theorem e24645_run : entryR S [] 2000 200 13 e24645 = true := by kernel_rfl
theorem e24645_ok : EntryOk (conf S) 13 e24645 := entry_ok S_ok (o := []) (orc_nil) e24645_run
theorem e24720_run : entryR S [] 2000 200 14 e24720 = true := by kernel_rfl
theorem e24720_ok : EntryOk (conf S) 14 e24720 := entry_ok S_ok (o := []) (orc_nil) e24720_run
theorem e24771_run : entryR S [] 2000 200 12 e24771 = true := by kernel_rfl
theorem e24771_ok : EntryOk (conf S) 12 e24771 := entry_ok S_ok (o := []) (orc_nil) e24771_run
theorem e24824_run : entryR S [] 2000 200 13 e24824 = true := by kernel_rfl
theorem e24824_ok : EntryOk (conf S) 13 e24824 := entry_ok S_ok (o := []) (orc_nil) e24824_run
theorem e24929_run : entryR S [] 2000 200 14 e24929 = true := by kernel_rfl
theorem e24929_ok : EntryOk (conf S) 14 e24929 := entry_ok S_ok (o := []) (orc_nil) e24929_run
theorem e24996_run : entryR S [] 2000 200 12 e24996 = true := by kernel_rfl
theorem e24996_ok : EntryOk (conf S) 12 e24996 := entry_ok S_ok (o := []) (orc_nil) e24996_run
theorem e25025_run : entryR S [] 2000 200 13 e25025 = true := by kernel_rfl
theorem e25025_ok : EntryOk (conf S) 13 e25025 := entry_ok S_ok (o := []) (orc_nil) e25025_run
theorem e25100_run : entryR S [] 2000 200 14 e25100 = true := by kernel_rfl
theorem e25100_ok : EntryOk (conf S) 14 e25100 := entry_ok S_ok (o := []) (orc_nil) e25100_run
theorem e25154_run : entryR S [] 2000 200 12 e25154 = true := by kernel_rfl
theorem e25154_ok : EntryOk (conf S) 12 e25154 := entry_ok S_ok (o := []) (orc_nil) e25154_run
theorem e25222_run : entryR S [] 2000 200 13 e25222 = true := by kernel_rfl
theorem e25222_ok : EntryOk (conf S) 13 e25222 := entry_ok S_ok (o := []) (orc_nil) e25222_run
theorem e25338_run : entryR S [] 2000 200 14 e25338 = true := by kernel_rfl
theorem e25338_ok : EntryOk (conf S) 14 e25338 := entry_ok S_ok (o := []) (orc_nil) e25338_run
theorem e25413_run : entryR S [] 2000 200 12 e25413 = true := by kernel_rfl
theorem e25413_ok : EntryOk (conf S) 12 e25413 := entry_ok S_ok (o := []) (orc_nil) e25413_run
theorem e25525_run : entryR S [] 2000 200 13 e25525 = true := by kernel_rfl
theorem e25525_ok : EntryOk (conf S) 13 e25525 := entry_ok S_ok (o := []) (orc_nil) e25525_run
theorem e25676_run : entryR S [] 2000 200 14 e25676 = true := by kernel_rfl
theorem e25676_ok : EntryOk (conf S) 14 e25676 := entry_ok S_ok (o := []) (orc_nil) e25676_run
theorem e18480_run : entryR S [(12,[e18491,e18669,e18709,e18936,e19095,e19331,e19489,e19678,e19896,e20028,e20068,e20249,e20408,e20633,e20791,e21159,e21522,e21654,e21694,e21875,e22034,e22259,e22417,e22699,e22957,e23089,e23129,e23310,e23469,e23694,e23852,e24041,e24259,e24391,e24431,e24612,e24771,e24996,e25154,e25413]),(13,[e18511,e18690,e18751,e18969,e19148,e19360,e19530,e19732,e19916,e20049,e20110,e20282,e20461,e20662,e20901,e21266,e21542,e21675,e21736,e21908,e22087,e22288,e22492,e22766,e22977,e23110,e23171,e23343,e23522,e23723,e23893,e24095,e24279,e24412,e24473,e24645,e24824,e25025,e25222,e25525]),(14,[e18574,e18691,e18835,e19044,e19260,e19435,e19617,e19830,e19979,e20050,e20194,e20357,e20566,e20737,e21054,e21417,e21605,e21676,e21820,e21983,e22192,e22363,e22618,e22882,e23040,e23111,e23255,e23418,e23627,e23798,e23980,e24193,e24342,e24413,e24557,e24720,e24929,e25100,e25338,e25676])] 2000 200 5 e18480 = true := by kernel_rfl
theorem e18480_ok : EntryOk (conf S) 5 e18480 := entry_ok S_ok (o := [(12,[e18491,e18669,e18709,e18936,e19095,e19331,e19489,e19678,e19896,e20028,e20068,e20249,e20408,e20633,e20791,e21159,e21522,e21654,e21694,e21875,e22034,e22259,e22417,e22699,e22957,e23089,e23129,e23310,e23469,e23694,e23852,e24041,e24259,e24391,e24431,e24612,e24771,e24996,e25154,e25413]),(13,[e18511,e18690,e18751,e18969,e19148,e19360,e19530,e19732,e19916,e20049,e20110,e20282,e20461,e20662,e20901,e21266,e21542,e21675,e21736,e21908,e22087,e22288,e22492,e22766,e22977,e23110,e23171,e23343,e23522,e23723,e23893,e24095,e24279,e24412,e24473,e24645,e24824,e25025,e25222,e25525]),(14,[e18574,e18691,e18835,e19044,e19260,e19435,e19617,e19830,e19979,e20050,e20194,e20357,e20566,e20737,e21054,e21417,e21605,e21676,e21820,e21983,e22192,e22363,e22618,e22882,e23040,e23111,e23255,e23418,e23627,e23798,e23980,e24193,e24342,e24413,e24557,e24720,e24929,e25100,e25338,e25676])]) (orc_cons (es_cons e18491_ok (es_cons e18669_ok (es_cons e18709_ok (es_cons e18936_ok (es_cons e19095_ok (es_cons e19331_ok (es_cons e19489_ok (es_cons e19678_ok (es_cons e19896_ok (es_cons e20028_ok (es_cons e20068_ok (es_cons e20249_ok (es_cons e20408_ok (es_cons e20633_ok (es_cons e20791_ok (es_cons e21159_ok (es_cons e21522_ok (es_cons e21654_ok (es_cons e21694_ok (es_cons e21875_ok (es_cons e22034_ok (es_cons e22259_ok (es_cons e22417_ok (es_cons e22699_ok (es_cons e22957_ok (es_cons e23089_ok (es_cons e23129_ok (es_cons e23310_ok (es_cons e23469_ok (es_cons e23694_ok (es_cons e23852_ok (es_cons e24041_ok (es_cons e24259_ok (es_cons e24391_ok (es_cons e24431_ok (es_cons e24612_ok (es_cons e24771_ok (es_cons e24996_ok (es_cons e25154_ok (es_cons e25413_ok (es_nil))))))))))))))))))))))))))))))))))))))))) (orc_cons (es_cons e18511_ok (es_cons e18690_ok (es_cons e18751_ok (es_cons e18969_ok (es_cons e19148_ok (es_cons e19360_ok (es_cons e19530_ok (es_cons e19732_ok (es_cons e19916_ok (es_cons e20049_ok (es_cons e20110_ok (es_cons e20282_ok (es_cons e20461_ok (es_cons e20662_ok (es_cons e20901_ok (es_cons e21266_ok (es_cons e21542_ok (es_cons e21675_ok (es_cons e21736_ok (es_cons e21908_ok (es_cons e22087_ok (es_cons e22288_ok (es_cons e22492_ok (es_cons e22766_ok (es_cons e22977_ok (es_cons e23110_ok (es_cons e23171_ok (es_cons e23343_ok (es_cons e23522_ok (es_cons e23723_ok (es_cons e23893_ok (es_cons e24095_ok (es_cons e24279_ok (es_cons e24412_ok (es_cons e24473_ok (es_cons e24645_ok (es_cons e24824_ok (es_cons e25025_ok (es_cons e25222_ok (es_cons e25525_ok (es_nil))))))))))))))))))))))))))))))))))))))))) (orc_cons (es_cons e18574_ok (es_cons e18691_ok (es_cons e18835_ok (es_cons e19044_ok (es_cons e19260_ok (es_cons e19435_ok (es_cons e19617_ok (es_cons e19830_ok (es_cons e19979_ok (es_cons e20050_ok (es_cons e20194_ok (es_cons e20357_ok (es_cons e20566_ok (es_cons e20737_ok (es_cons e21054_ok (es_cons e21417_ok (es_cons e21605_ok (es_cons e21676_ok (es_cons e21820_ok (es_cons e21983_ok (es_cons e22192_ok (es_cons e22363_ok (es_cons e22618_ok (es_cons e22882_ok (es_cons e23040_ok (es_cons e23111_ok (es_cons e23255_ok (es_cons e23418_ok (es_cons e23627_ok (es_cons e23798_ok (es_cons e23980_ok (es_cons e24193_ok (es_cons e24342_ok (es_cons e24413_ok (es_cons e24557_ok (es_cons e24720_ok (es_cons e24929_ok (es_cons e25100_ok (es_cons e25338_ok (es_cons e25676_ok (es_nil))))))))))))))))))))))))))))))))))))))))) (orc_nil)))) e18480_run
theorem e25792_run : entryR S [] 2000 200 12 e25792 = true := by kernel_rfl
theorem e25792_ok : EntryOk (conf S) 12 e25792 := entry_ok S_ok (o := []) (orc_nil) e25792_run
theorem e25812_run : entryR S [] 2000 200 13 e25812 = true := by kernel_rfl
theorem e25812_ok : EntryOk (conf S) 13 e25812 := entry_ok S_ok (o := []) (orc_nil) e25812_run
theorem e25875_run : entryR S [] 2000 200 14 e25875 = true := by kernel_rfl
theorem e25875_ok : EntryOk (conf S) 14 e25875 := entry_ok S_ok (o := []) (orc_nil) e25875_run
theorem e25970_run : entryR S [] 2000 200 12 e25970 = true := by kernel_rfl
theorem e25970_ok : EntryOk (conf S) 12 e25970 := entry_ok S_ok (o := []) (orc_nil) e25970_run
theorem e25991_run : entryR S [] 2000 200 13 e25991 = true := by kernel_rfl
theorem e25991_ok : EntryOk (conf S) 13 e25991 := entry_ok S_ok (o := []) (orc_nil) e25991_run
theorem e25992_run : entryR S [] 2000 200 14 e25992 = true := by kernel_rfl
theorem e25992_ok : EntryOk (conf S) 14 e25992 := entry_ok S_ok (o := []) (orc_nil) e25992_run
theorem e26010_run : entryR S [] 2000 200 12 e26010 = true := by kernel_rfl
theorem e26010_ok : EntryOk (conf S) 12 e26010 := entry_ok S_ok (o := []) (orc_nil) e26010_run
theorem e26052_run : entryR S [] 2000 200 13 e26052 = true := by kernel_rfl
theorem e26052_ok : EntryOk (conf S) 13 e26052 := entry_ok S_ok (o := []) (orc_nil) e26052_run
theorem e26136_run : entryR S [] 2000 200 14 e26136 = true := by kernel_rfl
theorem e26136_ok : EntryOk (conf S) 14 e26136 := entry_ok S_ok (o := []) (orc_nil) e26136_run
theorem e26237_run : entryR S [] 2000 200 12 e26237 = true := by kernel_rfl
theorem e26237_ok : EntryOk (conf S) 12 e26237 := entry_ok S_ok (o := []) (orc_nil) e26237_run
theorem e26270_run : entryR S [] 2000 200 13 e26270 = true := by kernel_rfl
theorem e26270_ok : EntryOk (conf S) 13 e26270 := entry_ok S_ok (o := []) (orc_nil) e26270_run
theorem e26345_run : entryR S [] 2000 200 14 e26345 = true := by kernel_rfl
theorem e26345_ok : EntryOk (conf S) 14 e26345 := entry_ok S_ok (o := []) (orc_nil) e26345_run
theorem e26396_run : entryR S [] 2000 200 12 e26396 = true := by kernel_rfl
theorem e26396_ok : EntryOk (conf S) 12 e26396 := entry_ok S_ok (o := []) (orc_nil) e26396_run
theorem e26449_run : entryR S [] 2000 200 13 e26449 = true := by kernel_rfl
theorem e26449_ok : EntryOk (conf S) 13 e26449 := entry_ok S_ok (o := []) (orc_nil) e26449_run
theorem e26561_run : entryR S [] 2000 200 14 e26561 = true := by kernel_rfl
theorem e26561_ok : EntryOk (conf S) 14 e26561 := entry_ok S_ok (o := []) (orc_nil) e26561_run
theorem e26632_run : entryR S [] 2000 200 12 e26632 = true := by kernel_rfl
theorem e26632_ok : EntryOk (conf S) 12 e26632 := entry_ok S_ok (o := []) (orc_nil) e26632_run
theorem e26661_run : entryR S [] 2000 200 13 e26661 = true := by kernel_rfl
theorem e26661_ok : EntryOk (conf S) 13 e26661 := entry_ok S_ok (o := []) (orc_nil) e26661_run
theorem e26736_run : entryR S [] 2000 200 14 e26736 = true := by kernel_rfl
theorem e26736_ok : EntryOk (conf S) 14 e26736 := entry_ok S_ok (o := []) (orc_nil) e26736_run
theorem e26790_run : entryR S [] 2000 200 12 e26790 = true := by kernel_rfl
theorem e26790_ok : EntryOk (conf S) 12 e26790 := entry_ok S_ok (o := []) (orc_nil) e26790_run
theorem e26831_run : entryR S [] 2000 200 13 e26831 = true := by kernel_rfl
theorem e26831_ok : EntryOk (conf S) 13 e26831 := entry_ok S_ok (o := []) (orc_nil) e26831_run
theorem e26918_run : entryR S [] 2000 200 14 e26918 = true := by kernel_rfl
theorem e26918_ok : EntryOk (conf S) 14 e26918 := entry_ok S_ok (o := []) (orc_nil) e26918_run
theorem e26979_run : entryR S [] 2000 200 12 e26979 = true := by kernel_rfl
theorem e26979_ok : EntryOk (conf S) 12 e26979 := entry_ok S_ok (o := []) (orc_nil) e26979_run
theorem e27033_run : entryR S [] 2000 200 13 e27033 = true := by kernel_rfl
theorem e27033_ok : EntryOk (conf S) 13 e27033 := entry_ok S_ok (o := []) (orc_nil) e27033_run
theorem e27131_run : entryR S [] 2000 200 14 e27131 = true := by kernel_rfl
theorem e27131_ok : EntryOk (conf S) 14 e27131 := entry_ok S_ok (o := []) (orc_nil) e27131_run
theorem e27197_run : entryR S [] 2000 200 12 e27197 = true := by kernel_rfl
theorem e27197_ok : EntryOk (conf S) 12 e27197 := entry_ok S_ok (o := []) (orc_nil) e27197_run
theorem e27217_run : entryR S [] 2000 200 13 e27217 = true := by kernel_rfl
theorem e27217_ok : EntryOk (conf S) 13 e27217 := entry_ok S_ok (o := []) (orc_nil) e27217_run
theorem e27280_run : entryR S [] 2000 200 14 e27280 = true := by kernel_rfl
theorem e27280_ok : EntryOk (conf S) 14 e27280 := entry_ok S_ok (o := []) (orc_nil) e27280_run
theorem e27329_run : entryR S [] 2000 200 12 e27329 = true := by kernel_rfl
theorem e27329_ok : EntryOk (conf S) 12 e27329 := entry_ok S_ok (o := []) (orc_nil) e27329_run
theorem e27350_run : entryR S [] 2000 200 13 e27350 = true := by kernel_rfl
theorem e27350_ok : EntryOk (conf S) 13 e27350 := entry_ok S_ok (o := []) (orc_nil) e27350_run
theorem e27351_run : entryR S [] 2000 200 14 e27351 = true := by kernel_rfl
theorem e27351_ok : EntryOk (conf S) 14 e27351 := entry_ok S_ok (o := []) (orc_nil) e27351_run
theorem e27369_run : entryR S [] 2000 200 12 e27369 = true := by kernel_rfl
theorem e27369_ok : EntryOk (conf S) 12 e27369 := entry_ok S_ok (o := []) (orc_nil) e27369_run
theorem e27411_run : entryR S [] 2000 200 13 e27411 = true := by kernel_rfl
theorem e27411_ok : EntryOk (conf S) 13 e27411 := entry_ok S_ok (o := []) (orc_nil) e27411_run
theorem e27495_run : entryR S [] 2000 200 14 e27495 = true := by kernel_rfl
theorem e27495_ok : EntryOk (conf S) 14 e27495 := entry_ok S_ok (o := []) (orc_nil) e27495_run
theorem e27550_run : entryR S [] 2000 200 12 e27550 = true := by kernel_rfl
theorem e27550_ok : EntryOk (conf S) 12 e27550 := entry_ok S_ok (o := []) (orc_nil) e27550_run
theorem e27583_run : entryR S [] 2000 200 13 e27583 = true := by kernel_rfl
theorem e27583_ok : EntryOk (conf S) 13 e27583 := entry_ok S_ok (o := []) (orc_nil) e27583_run
theorem e27658_run : entryR S [] 2000 200 14 e27658 = true := by kernel_rfl
theorem e27658_ok : EntryOk (conf S) 14 e27658 := entry_ok S_ok (o := []) (orc_nil) e27658_run
theorem e27709_run : entryR S [] 2000 200 12 e27709 = true := by kernel_rfl
theorem e27709_ok : EntryOk (conf S) 12 e27709 := entry_ok S_ok (o := []) (orc_nil) e27709_run
theorem e27762_run : entryR S [] 2000 200 13 e27762 = true := by kernel_rfl
theorem e27762_ok : EntryOk (conf S) 13 e27762 := entry_ok S_ok (o := []) (orc_nil) e27762_run
theorem e27867_run : entryR S [] 2000 200 14 e27867 = true := by kernel_rfl
theorem e27867_ok : EntryOk (conf S) 14 e27867 := entry_ok S_ok (o := []) (orc_nil) e27867_run
theorem e27934_run : entryR S [] 2000 200 12 e27934 = true := by kernel_rfl
theorem e27934_ok : EntryOk (conf S) 12 e27934 := entry_ok S_ok (o := []) (orc_nil) e27934_run
theorem e27963_run : entryR S [] 2000 200 13 e27963 = true := by kernel_rfl
theorem e27963_ok : EntryOk (conf S) 13 e27963 := entry_ok S_ok (o := []) (orc_nil) e27963_run
theorem e28038_run : entryR S [] 2000 200 14 e28038 = true := by kernel_rfl
theorem e28038_ok : EntryOk (conf S) 14 e28038 := entry_ok S_ok (o := []) (orc_nil) e28038_run
theorem e28092_run : entryR S [] 2000 200 12 e28092 = true := by kernel_rfl
theorem e28092_ok : EntryOk (conf S) 12 e28092 := entry_ok S_ok (o := []) (orc_nil) e28092_run
theorem e28202_run : entryR S [] 2000 200 13 e28202 = true := by kernel_rfl
theorem e28202_ok : EntryOk (conf S) 13 e28202 := entry_ok S_ok (o := []) (orc_nil) e28202_run
end Go.Proofs.YtnmbbekfnaaggaaGreat
