/- A part of a proof over the abstract machine. No conditions. -/
import Derived.Test.YtnmbbekfnaaggaaGreatSeatD1
/- Calls that the kernel ran apart. No conditions. -/
namespace Go.Proofs.YtnmbbekfnaaggaaGreat
open Go Go.Ab Go.Fa
set_option maxRecDepth 1000000
set_option maxHeartbeats 0
theorem e8248_run : entryR S [] 2000 200 13 e8248 = true := by kernel_rfl
theorem e8248_ok : EntryOk (conf S) 13 e8248 := entry_ok S_ok (o := []) (orc_nil) e8248_run
theorem e8332_run : entryR S [] 2000 200 14 e8332 = true := by kernel_rfl
theorem e8332_ok : EntryOk (conf S) 14 e8332 := entry_ok S_ok (o := []) (orc_nil) e8332_run
theorem e8500_run : entryR S [] 2000 200 12 e8500 = true := by kernel_rfl
theorem e8500_ok : EntryOk (conf S) 12 e8500 := entry_ok S_ok (o := []) (orc_nil) e8500_run
theorem e8533_run : entryR S [] 2000 200 13 e8533 = true := by kernel_rfl
theorem e8533_ok : EntryOk (conf S) 13 e8533 := entry_ok S_ok (o := []) (orc_nil) e8533_run
theorem e8608_run : entryR S [] 2000 200 14 e8608 = true := by kernel_rfl
theorem e8608_ok : EntryOk (conf S) 14 e8608 := entry_ok S_ok (o := []) (orc_nil) e8608_run
theorem e8663_run : entryR S [] 2000 200 12 e8663 = true := by kernel_rfl
theorem e8663_ok : EntryOk (conf S) 12 e8663 := entry_ok S_ok (o := []) (orc_nil) e8663_run
theorem e8716_run : entryR S [] 2000 200 13 e8716 = true := by kernel_rfl
theorem e8716_ok : EntryOk (conf S) 13 e8716 := entry_ok S_ok (o := []) (orc_nil) e8716_run
theorem e8845_run : entryR S [] 2000 200 14 e8845 = true := by kernel_rfl
theorem e8845_ok : EntryOk (conf S) 14 e8845 := entry_ok S_ok (o := []) (orc_nil) e8845_run
theorem e8928_run : entryR S [] 2000 200 12 e8928 = true := by kernel_rfl
theorem e8928_ok : EntryOk (conf S) 12 e8928 := entry_ok S_ok (o := []) (orc_nil) e8928_run
theorem e8957_run : entryR S [] 2000 200 13 e8957 = true := by kernel_rfl
theorem e8957_ok : EntryOk (conf S) 13 e8957 := entry_ok S_ok (o := []) (orc_nil) e8957_run
theorem e9032_run : entryR S [] 2000 200 14 e9032 = true := by kernel_rfl
theorem e9032_ok : EntryOk (conf S) 14 e9032 := entry_ok S_ok (o := []) (orc_nil) e9032_run
theorem e9094_run : entryR S [] 2000 200 12 e9094 = true := by kernel_rfl
theorem e9094_ok : EntryOk (conf S) 12 e9094 := entry_ok S_ok (o := []) (orc_nil) e9094_run
theorem e9135_run : entryR S [] 2000 200 13 e9135 = true := by kernel_rfl
theorem e9135_ok : EntryOk (conf S) 13 e9135 := entry_ok S_ok (o := []) (orc_nil) e9135_run
theorem e9277_run : entryR S [] 2000 200 14 e9277 = true := by kernel_rfl
theorem e9277_ok : EntryOk (conf S) 14 e9277 := entry_ok S_ok (o := []) (orc_nil) e9277_run
theorem e9367_run : entryR S [] 2000 200 12 e9367 = true := by kernel_rfl
theorem e9367_ok : EntryOk (conf S) 12 e9367 := entry_ok S_ok (o := []) (orc_nil) e9367_run
theorem e9421_run : entryR S [] 2000 200 13 e9421 = true := by kernel_rfl
theorem e9421_ok : EntryOk (conf S) 13 e9421 := entry_ok S_ok (o := []) (orc_nil) e9421_run
theorem e9587_run : entryR S [] 2000 200 14 e9587 = true := by kernel_rfl
theorem e9587_ok : EntryOk (conf S) 14 e9587 := entry_ok S_ok (o := []) (orc_nil) e9587_run
theorem e9682_run : entryR S [] 2000 200 12 e9682 = true := by kernel_rfl
theorem e9682_ok : EntryOk (conf S) 12 e9682 := entry_ok S_ok (o := []) (orc_nil) e9682_run
theorem e9702_run : entryR S [] 2000 200 13 e9702 = true := by kernel_rfl
theorem e9702_ok : EntryOk (conf S) 13 e9702 := entry_ok S_ok (o := []) (orc_nil) e9702_run
theorem e9765_run : entryR S [] 2000 200 14 e9765 = true := by kernel_rfl
theorem e9765_ok : EntryOk (conf S) 14 e9765 := entry_ok S_ok (o := []) (orc_nil) e9765_run
theorem e9822_run : entryR S [] 2000 200 12 e9822 = true := by kernel_rfl
theorem e9822_ok : EntryOk (conf S) 12 e9822 := entry_ok S_ok (o := []) (orc_nil) e9822_run
theorem e9843_run : entryR S [] 2000 200 13 e9843 = true := by kernel_rfl
theorem e9843_ok : EntryOk (conf S) 13 e9843 := entry_ok S_ok (o := []) (orc_nil) e9843_run
theorem e9844_run : entryR S [] 2000 200 14 e9844 = true := by kernel_rfl
theorem e9844_ok : EntryOk (conf S) 14 e9844 := entry_ok S_ok (o := []) (orc_nil) e9844_run
theorem e9870_run : entryR S [] 2000 200 12 e9870 = true := by kernel_rfl
theorem e9870_ok : EntryOk (conf S) 12 e9870 := entry_ok S_ok (o := []) (orc_nil) e9870_run
theorem e9912_run : entryR S [] 2000 200 13 e9912 = true := by kernel_rfl
theorem e9912_ok : EntryOk (conf S) 13 e9912 := entry_ok S_ok (o := []) (orc_nil) e9912_run
theorem e9996_run : entryR S [] 2000 200 14 e9996 = true := by kernel_rfl
theorem e9996_ok : EntryOk (conf S) 14 e9996 := entry_ok S_ok (o := []) (orc_nil) e9996_run
theorem e10059_run : entryR S [] 2000 200 12 e10059 = true := by kernel_rfl
theorem e10059_ok : EntryOk (conf S) 12 e10059 := entry_ok S_ok (o := []) (orc_nil) e10059_run
theorem e10092_run : entryR S [] 2000 200 13 e10092 = true := by kernel_rfl
theorem e10092_ok : EntryOk (conf S) 13 e10092 := entry_ok S_ok (o := []) (orc_nil) e10092_run
theorem e10167_run : entryR S [] 2000 200 14 e10167 = true := by kernel_rfl
theorem e10167_ok : EntryOk (conf S) 14 e10167 := entry_ok S_ok (o := []) (orc_nil) e10167_run
theorem e10226_run : entryR S [] 2000 200 12 e10226 = true := by kernel_rfl
theorem e10226_ok : EntryOk (conf S) 12 e10226 := entry_ok S_ok (o := []) (orc_nil) e10226_run
theorem e10279_run : entryR S [] 2000 200 13 e10279 = true := by kernel_rfl
theorem e10279_ok : EntryOk (conf S) 13 e10279 := entry_ok S_ok (o := []) (orc_nil) e10279_run
theorem e10384_run : entryR S [] 2000 200 14 e10384 = true := by kernel_rfl
theorem e10384_ok : EntryOk (conf S) 14 e10384 := entry_ok S_ok (o := []) (orc_nil) e10384_run
theorem e10459_run : entryR S [] 2000 200 12 e10459 = true := by kernel_rfl
theorem e10459_ok : EntryOk (conf S) 12 e10459 := entry_ok S_ok (o := []) (orc_nil) e10459_run
theorem e10488_run : entryR S [] 2000 200 13 e10488 = true := by kernel_rfl
theorem e10488_ok : EntryOk (conf S) 13 e10488 := entry_ok S_ok (o := []) (orc_nil) e10488_run
theorem e10563_run : entryR S [] 2000 200 14 e10563 = true := by kernel_rfl
theorem e10563_ok : EntryOk (conf S) 14 e10563 := entry_ok S_ok (o := []) (orc_nil) e10563_run
theorem e10625_run : entryR S [] 2000 200 12 e10625 = true := by kernel_rfl
theorem e10625_ok : EntryOk (conf S) 12 e10625 := entry_ok S_ok (o := []) (orc_nil) e10625_run
theorem e10735_run : entryR S [] 2000 200 13 e10735 = true := by kernel_rfl
theorem e10735_ok : EntryOk (conf S) 13 e10735 := entry_ok S_ok (o := []) (orc_nil) e10735_run
theorem e11010_run : entryR S [] 2000 200 14 e11010 = true := by kernel_rfl
theorem e11010_ok : EntryOk (conf S) 14 e11010 := entry_ok S_ok (o := []) (orc_nil) e11010_run
theorem e11232_run : entryR S [] 2000 200 12 e11232 = true := by kernel_rfl
theorem e11232_ok : EntryOk (conf S) 12 e11232 := entry_ok S_ok (o := []) (orc_nil) e11232_run
theorem e11339_run : entryR S [] 2000 200 13 e11339 = true := by kernel_rfl
theorem e11339_ok : EntryOk (conf S) 13 e11339 := entry_ok S_ok (o := []) (orc_nil) e11339_run
theorem e11629_run : entryR S [] 2000 200 14 e11629 = true := by kernel_rfl
theorem e11629_ok : EntryOk (conf S) 14 e11629 := entry_ok S_ok (o := []) (orc_nil) e11629_run
theorem e11862_run : entryR S [] 2000 200 12 e11862 = true := by kernel_rfl
theorem e11862_ok : EntryOk (conf S) 12 e11862 := entry_ok S_ok (o := []) (orc_nil) e11862_run
theorem e11882_run : entryR S [] 2000 200 13 e11882 = true := by kernel_rfl
theorem e11882_ok : EntryOk (conf S) 13 e11882 := entry_ok S_ok (o := []) (orc_nil) e11882_run
theorem e11945_run : entryR S [] 2000 200 14 e11945 = true := by kernel_rfl
theorem e11945_ok : EntryOk (conf S) 14 e11945 := entry_ok S_ok (o := []) (orc_nil) e11945_run
theorem e12061_run : entryR S [] 2000 200 12 e12061 = true := by kernel_rfl
theorem e12061_ok : EntryOk (conf S) 12 e12061 := entry_ok S_ok (o := []) (orc_nil) e12061_run
theorem e12082_run : entryR S [] 2000 200 13 e12082 = true := by kernel_rfl
theorem e12082_ok : EntryOk (conf S) 13 e12082 := entry_ok S_ok (o := []) (orc_nil) e12082_run
theorem e12083_run : entryR S [] 2000 200 14 e12083 = true := by kernel_rfl
theorem e12083_ok : EntryOk (conf S) 14 e12083 := entry_ok S_ok (o := []) (orc_nil) e12083_run
theorem e12168_run : entryR S [] 2000 200 12 e12168 = true := by kernel_rfl
theorem e12168_ok : EntryOk (conf S) 12 e12168 := entry_ok S_ok (o := []) (orc_nil) e12168_run
theorem e12210_run : entryR S [] 2000 200 13 e12210 = true := by kernel_rfl
theorem e12210_ok : EntryOk (conf S) 13 e12210 := entry_ok S_ok (o := []) (orc_nil) e12210_run
theorem e12294_run : entryR S [] 2000 200 14 e12294 = true := by kernel_rfl
theorem e12294_ok : EntryOk (conf S) 14 e12294 := entry_ok S_ok (o := []) (orc_nil) e12294_run
theorem e12416_run : entryR S [] 2000 200 12 e12416 = true := by kernel_rfl
theorem e12416_ok : EntryOk (conf S) 12 e12416 := entry_ok S_ok (o := []) (orc_nil) e12416_run
theorem e12449_run : entryR S [] 2000 200 13 e12449 = true := by kernel_rfl
theorem e12449_ok : EntryOk (conf S) 13 e12449 := entry_ok S_ok (o := []) (orc_nil) e12449_run
theorem e12524_run : entryR S [] 2000 200 14 e12524 = true := by kernel_rfl
theorem e12524_ok : EntryOk (conf S) 14 e12524 := entry_ok S_ok (o := []) (orc_nil) e12524_run
theorem e12642_run : entryR S [] 2000 200 12 e12642 = true := by kernel_rfl
theorem e12642_ok : EntryOk (conf S) 12 e12642 := entry_ok S_ok (o := []) (orc_nil) e12642_run
theorem e12695_run : entryR S [] 2000 200 13 e12695 = true := by kernel_rfl
theorem e12695_ok : EntryOk (conf S) 13 e12695 := entry_ok S_ok (o := []) (orc_nil) e12695_run
theorem e12800_run : entryR S [] 2000 200 14 e12800 = true := by kernel_rfl
theorem e12800_ok : EntryOk (conf S) 14 e12800 := entry_ok S_ok (o := []) (orc_nil) e12800_run
theorem e12934_run : entryR S [] 2000 200 12 e12934 = true := by kernel_rfl
theorem e12934_ok : EntryOk (conf S) 12 e12934 := entry_ok S_ok (o := []) (orc_nil) e12934_run
theorem e12963_run : entryR S [] 2000 200 13 e12963 = true := by kernel_rfl
theorem e12963_ok : EntryOk (conf S) 13 e12963 := entry_ok S_ok (o := []) (orc_nil) e12963_run
theorem e13038_run : entryR S [] 2000 200 14 e13038 = true := by kernel_rfl
theorem e13038_ok : EntryOk (conf S) 14 e13038 := entry_ok S_ok (o := []) (orc_nil) e13038_run
theorem e13159_run : entryR S [] 2000 200 12 e13159 = true := by kernel_rfl
theorem e13159_ok : EntryOk (conf S) 12 e13159 := entry_ok S_ok (o := []) (orc_nil) e13159_run
theorem e13234_run : entryR S [] 2000 200 13 e13234 = true := by kernel_rfl
theorem e13234_ok : EntryOk (conf S) 13 e13234 := entry_ok S_ok (o := []) (orc_nil) e13234_run
end Go.Proofs.YtnmbbekfnaaggaaGreat
