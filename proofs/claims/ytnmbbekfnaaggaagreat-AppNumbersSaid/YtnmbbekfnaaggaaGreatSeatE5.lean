/- A part of a proof over the abstract machine. No conditions. -/
import Derived.Test.YtnmbbekfnaaggaaGreatSeatD1
import Derived.Test.YtnmbbekfnaaggaaGreatSeatE2
import Derived.Test.YtnmbbekfnaaggaaGreatSeatE3
import Derived.Test.YtnmbbekfnaaggaaGreatSeatE4
/- Calls that the kernel ran apart. No conditions. -/
namespace Go.Proofs.YtnmbbekfnaaggaaGreat
open Go Go.Ab Go.Fa
set_option maxRecDepth 1000000
set_option maxHeartbeats 0
theorem e7902_run : entryR S [(12,[e7917,e8162,e8206,e8500,e8663,e8928,e9094,e9367,e9682,e9822,e9870,e10059,e10226,e10459,e10625,e11232,e11862,e12061,e12168,e12416,e12642,e12934,e13159,e13527,e13971,e14170,e14277,e14525,e14751,e15043,e15268,e15543,e15948,e16147,e16254,e16502,e16728,e17020,e17245,e17713]),(13,[e7937,e8183,e8248,e8533,e8716,e8957,e9135,e9421,e9702,e9843,e9912,e10092,e10279,e10488,e10735,e11339,e11882,e12082,e12210,e12449,e12695,e12963,e13234,e13594,e13991,e14191,e14319,e14558,e14804,e15072,e15309,e15597,e15968,e16168,e16296,e16535,e16781,e17049,e17313,e17825]),(14,[e8000,e8184,e8332,e8608,e8845,e9032,e9277,e9587,e9765,e9844,e9996,e10167,e10384,e10563,e11010,e11629,e11945,e12083,e12294,e12524,e12800,e13038,e13377,e13798,e14054,e14192,e14403,e14633,e14909,e15147,e15413,e15794,e16031,e16169,e16380,e16610,e16886,e17124,e17540,e18179])] 2000 200 5 e7902 = true := by kernel_rfl
theorem e7902_ok : EntryOk (conf S) 5 e7902 := entry_ok S_ok (o := [(12,[e7917,e8162,e8206,e8500,e8663,e8928,e9094,e9367,e9682,e9822,e9870,e10059,e10226,e10459,e10625,e11232,e11862,e12061,e12168,e12416,e12642,e12934,e13159,e13527,e13971,e14170,e14277,e14525,e14751,e15043,e15268,e15543,e15948,e16147,e16254,e16502,e16728,e17020,e17245,e17713]),(13,[e7937,e8183,e8248,e8533,e8716,e8957,e9135,e9421,e9702,e9843,e9912,e10092,e10279,e10488,e10735,e11339,e11882,e12082,e12210,e12449,e12695,e12963,e13234,e13594,e13991,e14191,e14319,e14558,e14804,e15072,e15309,e15597,e15968,e16168,e16296,e16535,e16781,e17049,e17313,e17825]),(14,[e8000,e8184,e8332,e8608,e8845,e9032,e9277,e9587,e9765,e9844,e9996,e10167,e10384,e10563,e11010,e11629,e11945,e12083,e12294,e12524,e12800,e13038,e13377,e13798,e14054,e14192,e14403,e14633,e14909,e15147,e15413,e15794,e16031,e16169,e16380,e16610,e16886,e17124,e17540,e18179])]) (orc_cons (es_cons e7917_ok (es_cons e8162_ok (es_cons e8206_ok (es_cons e8500_ok (es_cons e8663_ok (es_cons e8928_ok (es_cons e9094_ok (es_cons e9367_ok (es_cons e9682_ok (es_cons e9822_ok (es_cons e9870_ok (es_cons e10059_ok (es_cons e10226_ok (es_cons e10459_ok (es_cons e10625_ok (es_cons e11232_ok (es_cons e11862_ok (es_cons e12061_ok (es_cons e12168_ok (es_cons e12416_ok (es_cons e12642_ok (es_cons e12934_ok (es_cons e13159_ok (es_cons e13527_ok (es_cons e13971_ok (es_cons e14170_ok (es_cons e14277_ok (es_cons e14525_ok (es_cons e14751_ok (es_cons e15043_ok (es_cons e15268_ok (es_cons e15543_ok (es_cons e15948_ok (es_cons e16147_ok (es_cons e16254_ok (es_cons e16502_ok (es_cons e16728_ok (es_cons e17020_ok (es_cons e17245_ok (es_cons e17713_ok (es_nil))))))))))))))))))))))))))))))))))))))))) (orc_cons (es_cons e7937_ok (es_cons e8183_ok (es_cons e8248_ok (es_cons e8533_ok (es_cons e8716_ok (es_cons e8957_ok (es_cons e9135_ok (es_cons e9421_ok (es_cons e9702_ok (es_cons e9843_ok (es_cons e9912_ok (es_cons e10092_ok (es_cons e10279_ok (es_cons e10488_ok (es_cons e10735_ok (es_cons e11339_ok (es_cons e11882_ok (es_cons e12082_ok (es_cons e12210_ok (es_cons e12449_ok (es_cons e12695_ok (es_cons e12963_ok (es_cons e13234_ok (es_cons e13594_ok (es_cons e13991_ok (es_cons e14191_ok (es_cons e14319_ok (es_cons e14558_ok (es_cons e14804_ok (es_cons e15072_ok (es_cons e15309_ok (es_cons e15597_ok (es_cons e15968_ok (es_cons e16168_ok (es_cons e16296_ok (es_cons e16535_ok (es_cons e16781_ok (es_cons e17049_ok (es_cons e17313_ok (es_cons e17825_ok (es_nil))))))))))))))))))))))))))))))))))))))))) (orc_cons (es_cons e8000_ok (es_cons e8184_ok (es_cons e8332_ok (es_cons e8608_ok (es_cons e8845_ok (es_cons e9032_ok (es_cons e9277_ok (es_cons e9587_ok (es_cons e9765_ok (es_cons e9844_ok (es_cons e9996_ok (es_cons e10167_ok (es_cons e10384_ok (es_cons e10563_ok (es_cons e11010_ok (es_cons e11629_ok (es_cons e11945_ok (es_cons e12083_ok (es_cons e12294_ok (es_cons e12524_ok (es_cons e12800_ok (es_cons e13038_ok (es_cons e13377_ok (es_cons e13798_ok (es_cons e14054_ok (es_cons e14192_ok (es_cons e14403_ok (es_cons e14633_ok (es_cons e14909_ok (es_cons e15147_ok (es_cons e15413_ok (es_cons e15794_ok (es_cons e16031_ok (es_cons e16169_ok (es_cons e16380_ok (es_cons e16610_ok (es_cons e16886_ok (es_cons e17124_ok (es_cons e17540_ok (es_cons e18179_ok (es_nil))))))))))))))))))))))))))))))))))))))))) (orc_nil)))) e7902_run
theorem e18491_run : entryR S [] 2000 200 12 e18491 = true := by kernel_rfl
theorem e18491_ok : EntryOk (conf S) 12 e18491 := entry_ok S_ok (o := []) (orc_nil) e18491_run
theorem e18511_run : entryR S [] 2000 200 13 e18511 = true := by kernel_rfl
theorem e18511_ok : EntryOk (conf S) 13 e18511 := entry_ok S_ok (o := []) (orc_nil) e18511_run
theorem e18574_run : entryR S [] 2000 200 14 e18574 = true := by kernel_rfl
theorem e18574_ok : EntryOk (conf S) 14 e18574 := entry_ok S_ok (o := []) (orc_nil) e18574_run
theorem e18669_run : entryR S [] 2000 200 12 e18669 = true := by kernel_rfl
theorem e18669_ok : EntryOk (conf S) 12 e18669 := entry_ok S_ok (o := []) (orc_nil) e18669_run
theorem e18690_run : entryR S [] 2000 200 13 e18690 = true := by kernel_rfl
theorem e18690_ok : EntryOk (conf S) 13 e18690 := entry_ok S_ok (o := []) (orc_nil) e18690_run
theorem e18691_run : entryR S [] 2000 200 14 e18691 = true := by kernel_rfl
theorem e18691_ok : EntryOk (conf S) 14 e18691 := entry_ok S_ok (o := []) (orc_nil) e18691_run
theorem e18709_run : entryR S [] 2000 200 12 e18709 = true := by kernel_rfl
theorem e18709_ok : EntryOk (conf S) 12 e18709 := entry_ok S_ok (o := []) (orc_nil) e18709_run
theorem e18751_run : entryR S [] 2000 200 13 e18751 = true := by kernel_rfl
theorem e18751_ok : EntryOk (conf S) 13 e18751 := entry_ok S_ok (o := []) (orc_nil) e18751_run
theorem e18835_run : entryR S [] 2000 200 14 e18835 = true := by kernel_rfl
theorem e18835_ok : EntryOk (conf S) 14 e18835 := entry_ok S_ok (o := []) (orc_nil) e18835_run
theorem e18936_run : entryR S [] 2000 200 12 e18936 = true := by kernel_rfl
theorem e18936_ok : EntryOk (conf S) 12 e18936 := entry_ok S_ok (o := []) (orc_nil) e18936_run
theorem e18969_run : entryR S [] 2000 200 13 e18969 = true := by kernel_rfl
theorem e18969_ok : EntryOk (conf S) 13 e18969 := entry_ok S_ok (o := []) (orc_nil) e18969_run
theorem e19044_run : entryR S [] 2000 200 14 e19044 = true := by kernel_rfl
theorem e19044_ok : EntryOk (conf S) 14 e19044 := entry_ok S_ok (o := []) (orc_nil) e19044_run
theorem e19095_run : entryR S [] 2000 200 12 e19095 = true := by kernel_rfl
theorem e19095_ok : EntryOk (conf S) 12 e19095 := entry_ok S_ok (o := []) (orc_nil) e19095_run
theorem e19148_run : entryR S [] 2000 200 13 e19148 = true := by kernel_rfl
theorem e19148_ok : EntryOk (conf S) 13 e19148 := entry_ok S_ok (o := []) (orc_nil) e19148_run
theorem e19260_run : entryR S [] 2000 200 14 e19260 = true := by kernel_rfl
theorem e19260_ok : EntryOk (conf S) 14 e19260 := entry_ok S_ok (o := []) (orc_nil) e19260_run
theorem e19331_run : entryR S [] 2000 200 12 e19331 = true := by kernel_rfl
theorem e19331_ok : EntryOk (conf S) 12 e19331 := entry_ok S_ok (o := []) (orc_nil) e19331_run
theorem e19360_run : entryR S [] 2000 200 13 e19360 = true := by kernel_rfl
theorem e19360_ok : EntryOk (conf S) 13 e19360 := entry_ok S_ok (o := []) (orc_nil) e19360_run
theorem e19435_run : entryR S [] 2000 200 14 e19435 = true := by kernel_rfl
theorem e19435_ok : EntryOk (conf S) 14 e19435 := entry_ok S_ok (o := []) (orc_nil) e19435_run
theorem e19489_run : entryR S [] 2000 200 12 e19489 = true := by kernel_rfl
theorem e19489_ok : EntryOk (conf S) 12 e19489 := entry_ok S_ok (o := []) (orc_nil) e19489_run
theorem e19530_run : entryR S [] 2000 200 13 e19530 = true := by kernel_rfl
theorem e19530_ok : EntryOk (conf S) 13 e19530 := entry_ok S_ok (o := []) (orc_nil) e19530_run
theorem e19617_run : entryR S [] 2000 200 14 e19617 = true := by kernel_rfl
theorem e19617_ok : EntryOk (conf S) 14 e19617 := entry_ok S_ok (o := []) (orc_nil) e19617_run
theorem e19678_run : entryR S [] 2000 200 12 e19678 = true := by kernel_rfl
theorem e19678_ok : EntryOk (conf S) 12 e19678 := entry_ok S_ok (o := []) (orc_nil) e19678_run
end Go.Proofs.YtnmbbekfnaaggaaGreat
