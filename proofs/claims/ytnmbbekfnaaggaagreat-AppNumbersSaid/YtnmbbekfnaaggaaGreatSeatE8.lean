/- A part of a proof over the abstract machine. No conditions. -/
import Derived.Test.YtnmbbekfnaaggaaGreatSeatD1
/- Calls that the kernel ran apart. No conditions. -/
namespace Go.Proofs.YtnmbbekfnaaggaaGreat
open Go Go.Ab Go.Fa
set_option maxRecDepth 1000000
set_option maxHeartbeats 0
theorem e28355_run : entryR S [] 2000 200 14 e28355 = true := by kernel_rfl
theorem e28355_ok : EntryOk (conf S) 14 e28355 := entry_ok S_ok (o := []) (orc_nil) e28355_run
theorem e28460_run : entryR S [] 2000 200 12 e28460 = true := by kernel_rfl
theorem e28460_ok : EntryOk (conf S) 12 e28460 := entry_ok S_ok (o := []) (orc_nil) e28460_run
theorem e28567_run : entryR S [] 2000 200 13 e28567 = true := by kernel_rfl
theorem e28567_ok : EntryOk (conf S) 13 e28567 := entry_ok S_ok (o := []) (orc_nil) e28567_run
theorem e28718_run : entryR S [] 2000 200 14 e28718 = true := by kernel_rfl
theorem e28718_ok : EntryOk (conf S) 14 e28718 := entry_ok S_ok (o := []) (orc_nil) e28718_run
theorem e28823_run : entryR S [] 2000 200 12 e28823 = true := by kernel_rfl
theorem e28823_ok : EntryOk (conf S) 12 e28823 := entry_ok S_ok (o := []) (orc_nil) e28823_run
theorem e28843_run : entryR S [] 2000 200 13 e28843 = true := by kernel_rfl
theorem e28843_ok : EntryOk (conf S) 13 e28843 := entry_ok S_ok (o := []) (orc_nil) e28843_run
theorem e28906_run : entryR S [] 2000 200 14 e28906 = true := by kernel_rfl
theorem e28906_ok : EntryOk (conf S) 14 e28906 := entry_ok S_ok (o := []) (orc_nil) e28906_run
theorem e28955_run : entryR S [] 2000 200 12 e28955 = true := by kernel_rfl
theorem e28955_ok : EntryOk (conf S) 12 e28955 := entry_ok S_ok (o := []) (orc_nil) e28955_run
theorem e28976_run : entryR S [] 2000 200 13 e28976 = true := by kernel_rfl
theorem e28976_ok : EntryOk (conf S) 13 e28976 := entry_ok S_ok (o := []) (orc_nil) e28976_run
theorem e28977_run : entryR S [] 2000 200 14 e28977 = true := by kernel_rfl
theorem e28977_ok : EntryOk (conf S) 14 e28977 := entry_ok S_ok (o := []) (orc_nil) e28977_run
theorem e28995_run : entryR S [] 2000 200 12 e28995 = true := by kernel_rfl
theorem e28995_ok : EntryOk (conf S) 12 e28995 := entry_ok S_ok (o := []) (orc_nil) e28995_run
theorem e29037_run : entryR S [] 2000 200 13 e29037 = true := by kernel_rfl
theorem e29037_ok : EntryOk (conf S) 13 e29037 := entry_ok S_ok (o := []) (orc_nil) e29037_run
theorem e29121_run : entryR S [] 2000 200 14 e29121 = true := by kernel_rfl
theorem e29121_ok : EntryOk (conf S) 14 e29121 := entry_ok S_ok (o := []) (orc_nil) e29121_run
theorem e29176_run : entryR S [] 2000 200 12 e29176 = true := by kernel_rfl
theorem e29176_ok : EntryOk (conf S) 12 e29176 := entry_ok S_ok (o := []) (orc_nil) e29176_run
theorem e29209_run : entryR S [] 2000 200 13 e29209 = true := by kernel_rfl
theorem e29209_ok : EntryOk (conf S) 13 e29209 := entry_ok S_ok (o := []) (orc_nil) e29209_run
theorem e29284_run : entryR S [] 2000 200 14 e29284 = true := by kernel_rfl
theorem e29284_ok : EntryOk (conf S) 14 e29284 := entry_ok S_ok (o := []) (orc_nil) e29284_run
theorem e29335_run : entryR S [] 2000 200 12 e29335 = true := by kernel_rfl
theorem e29335_ok : EntryOk (conf S) 12 e29335 := entry_ok S_ok (o := []) (orc_nil) e29335_run
theorem e29388_run : entryR S [] 2000 200 13 e29388 = true := by kernel_rfl
theorem e29388_ok : EntryOk (conf S) 13 e29388 := entry_ok S_ok (o := []) (orc_nil) e29388_run
theorem e29493_run : entryR S [] 2000 200 14 e29493 = true := by kernel_rfl
theorem e29493_ok : EntryOk (conf S) 14 e29493 := entry_ok S_ok (o := []) (orc_nil) e29493_run
theorem e29560_run : entryR S [] 2000 200 12 e29560 = true := by kernel_rfl
theorem e29560_ok : EntryOk (conf S) 12 e29560 := entry_ok S_ok (o := []) (orc_nil) e29560_run
theorem e29589_run : entryR S [] 2000 200 13 e29589 = true := by kernel_rfl
theorem e29589_ok : EntryOk (conf S) 13 e29589 := entry_ok S_ok (o := []) (orc_nil) e29589_run
theorem e29664_run : entryR S [] 2000 200 14 e29664 = true := by kernel_rfl
theorem e29664_ok : EntryOk (conf S) 14 e29664 := entry_ok S_ok (o := []) (orc_nil) e29664_run
theorem e29718_run : entryR S [] 2000 200 12 e29718 = true := by kernel_rfl
theorem e29718_ok : EntryOk (conf S) 12 e29718 := entry_ok S_ok (o := []) (orc_nil) e29718_run
theorem e29793_run : entryR S [] 2000 200 13 e29793 = true := by kernel_rfl
theorem e29793_ok : EntryOk (conf S) 13 e29793 := entry_ok S_ok (o := []) (orc_nil) e29793_run
theorem e29919_run : entryR S [] 2000 200 14 e29919 = true := by kernel_rfl
theorem e29919_ok : EntryOk (conf S) 14 e29919 := entry_ok S_ok (o := []) (orc_nil) e29919_run
theorem e30000_run : entryR S [] 2000 200 12 e30000 = true := by kernel_rfl
theorem e30000_ok : EntryOk (conf S) 12 e30000 := entry_ok S_ok (o := []) (orc_nil) e30000_run
theorem e30067_run : entryR S [] 2000 200 13 e30067 = true := by kernel_rfl
theorem e30067_ok : EntryOk (conf S) 13 e30067 := entry_ok S_ok (o := []) (orc_nil) e30067_run
theorem e30183_run : entryR S [] 2000 200 14 e30183 = true := by kernel_rfl
theorem e30183_ok : EntryOk (conf S) 14 e30183 := entry_ok S_ok (o := []) (orc_nil) e30183_run
theorem e30258_run : entryR S [] 2000 200 12 e30258 = true := by kernel_rfl
theorem e30258_ok : EntryOk (conf S) 12 e30258 := entry_ok S_ok (o := []) (orc_nil) e30258_run
theorem e30278_run : entryR S [] 2000 200 13 e30278 = true := by kernel_rfl
theorem e30278_ok : EntryOk (conf S) 13 e30278 := entry_ok S_ok (o := []) (orc_nil) e30278_run
theorem e30341_run : entryR S [] 2000 200 14 e30341 = true := by kernel_rfl
theorem e30341_ok : EntryOk (conf S) 14 e30341 := entry_ok S_ok (o := []) (orc_nil) e30341_run
theorem e30390_run : entryR S [] 2000 200 12 e30390 = true := by kernel_rfl
theorem e30390_ok : EntryOk (conf S) 12 e30390 := entry_ok S_ok (o := []) (orc_nil) e30390_run
theorem e30411_run : entryR S [] 2000 200 13 e30411 = true := by kernel_rfl
theorem e30411_ok : EntryOk (conf S) 13 e30411 := entry_ok S_ok (o := []) (orc_nil) e30411_run
theorem e30412_run : entryR S [] 2000 200 14 e30412 = true := by kernel_rfl
theorem e30412_ok : EntryOk (conf S) 14 e30412 := entry_ok S_ok (o := []) (orc_nil) e30412_run
theorem e30430_run : entryR S [] 2000 200 12 e30430 = true := by kernel_rfl
theorem e30430_ok : EntryOk (conf S) 12 e30430 := entry_ok S_ok (o := []) (orc_nil) e30430_run
theorem e30472_run : entryR S [] 2000 200 13 e30472 = true := by kernel_rfl
theorem e30472_ok : EntryOk (conf S) 13 e30472 := entry_ok S_ok (o := []) (orc_nil) e30472_run
theorem e30556_run : entryR S [] 2000 200 14 e30556 = true := by kernel_rfl
theorem e30556_ok : EntryOk (conf S) 14 e30556 := entry_ok S_ok (o := []) (orc_nil) e30556_run
theorem e30611_run : entryR S [] 2000 200 12 e30611 = true := by kernel_rfl
theorem e30611_ok : EntryOk (conf S) 12 e30611 := entry_ok S_ok (o := []) (orc_nil) e30611_run
theorem e30644_run : entryR S [] 2000 200 13 e30644 = true := by kernel_rfl
theorem e30644_ok : EntryOk (conf S) 13 e30644 := entry_ok S_ok (o := []) (orc_nil) e30644_run
theorem e30719_run : entryR S [] 2000 200 14 e30719 = true := by kernel_rfl
theorem e30719_ok : EntryOk (conf S) 14 e30719 := entry_ok S_ok (o := []) (orc_nil) e30719_run
theorem e30770_run : entryR S [] 2000 200 12 e30770 = true := by kernel_rfl
theorem e30770_ok : EntryOk (conf S) 12 e30770 := entry_ok S_ok (o := []) (orc_nil) e30770_run
theorem e30823_run : entryR S [] 2000 200 13 e30823 = true := by kernel_rfl
theorem e30823_ok : EntryOk (conf S) 13 e30823 := entry_ok S_ok (o := []) (orc_nil) e30823_run
theorem e30928_run : entryR S [] 2000 200 14 e30928 = true := by kernel_rfl
theorem e30928_ok : EntryOk (conf S) 14 e30928 := entry_ok S_ok (o := []) (orc_nil) e30928_run
theorem e30995_run : entryR S [] 2000 200 12 e30995 = true := by kernel_rfl
theorem e30995_ok : EntryOk (conf S) 12 e30995 := entry_ok S_ok (o := []) (orc_nil) e30995_run
theorem e31024_run : entryR S [] 2000 200 13 e31024 = true := by kernel_rfl
theorem e31024_ok : EntryOk (conf S) 13 e31024 := entry_ok S_ok (o := []) (orc_nil) e31024_run
theorem e31099_run : entryR S [] 2000 200 14 e31099 = true := by kernel_rfl
theorem e31099_ok : EntryOk (conf S) 14 e31099 := entry_ok S_ok (o := []) (orc_nil) e31099_run
theorem e31153_run : entryR S [] 2000 200 12 e31153 = true := by kernel_rfl
theorem e31153_ok : EntryOk (conf S) 12 e31153 := entry_ok S_ok (o := []) (orc_nil) e31153_run
theorem e31194_run : entryR S [] 2000 200 13 e31194 = true := by kernel_rfl
theorem e31194_ok : EntryOk (conf S) 13 e31194 := entry_ok S_ok (o := []) (orc_nil) e31194_run
theorem e31281_run : entryR S [] 2000 200 14 e31281 = true := by kernel_rfl
theorem e31281_ok : EntryOk (conf S) 14 e31281 := entry_ok S_ok (o := []) (orc_nil) e31281_run
theorem e31342_run : entryR S [] 2000 200 12 e31342 = true := by kernel_rfl
theorem e31342_ok : EntryOk (conf S) 12 e31342 := entry_ok S_ok (o := []) (orc_nil) e31342_run
theorem e31396_run : entryR S [] 2000 200 13 e31396 = true := by kernel_rfl
theorem e31396_ok : EntryOk (conf S) 13 e31396 := entry_ok S_ok (o := []) (orc_nil) e31396_run
theorem e31494_run : entryR S [] 2000 200 14 e31494 = true := by kernel_rfl
theorem e31494_ok : EntryOk (conf S) 14 e31494 := entry_ok S_ok (o := []) (orc_nil) e31494_run
theorem e31560_run : entryR S [] 2000 200 12 e31560 = true := by kernel_rfl
theorem e31560_ok : EntryOk (conf S) 12 e31560 := entry_ok S_ok (o := []) (orc_nil) e31560_run
theorem e31580_run : entryR S [] 2000 200 13 e31580 = true := by kernel_rfl
theorem e31580_ok : EntryOk (conf S) 13 e31580 := entry_ok S_ok (o := []) (orc_nil) e31580_run
theorem e31643_run : entryR S [] 2000 200 14 e31643 = true := by kernel_rfl
theorem e31643_ok : EntryOk (conf S) 14 e31643 := entry_ok S_ok (o := []) (orc_nil) e31643_run
theorem e31692_run : entryR S [] 2000 200 12 e31692 = true := by kernel_rfl
theorem e31692_ok : EntryOk (conf S) 12 e31692 := entry_ok S_ok (o := []) (orc_nil) e31692_run
theorem e31713_run : entryR S [] 2000 200 13 e31713 = true := by kernel_rfl
theorem e31713_ok : EntryOk (conf S) 13 e31713 := entry_ok S_ok (o := []) (orc_nil) e31713_run
theorem e31714_run : entryR S [] 2000 200 14 e31714 = true := by kernel_rfl
theorem e31714_ok : EntryOk (conf S) 14 e31714 := entry_ok S_ok (o := []) (orc_nil) e31714_run
theorem e31732_run : entryR S [] 2000 200 12 e31732 = true := by kernel_rfl
theorem e31732_ok : EntryOk (conf S) 12 e31732 := entry_ok S_ok (o := []) (orc_nil) e31732_run
theorem e31774_run : entryR S [] 2000 200 13 e31774 = true := by kernel_rfl
theorem e31774_ok : EntryOk (conf S) 13 e31774 := entry_ok S_ok (o := []) (orc_nil) e31774_run
theorem e31858_run : entryR S [] 2000 200 14 e31858 = true := by kernel_rfl
theorem e31858_ok : EntryOk (conf S) 14 e31858 := entry_ok S_ok (o := []) (orc_nil) e31858_run
theorem e31913_run : entryR S [] 2000 200 12 e31913 = true := by kernel_rfl
theorem e31913_ok : EntryOk (conf S) 12 e31913 := entry_ok S_ok (o := []) (orc_nil) e31913_run
theorem e31946_run : entryR S [] 2000 200 13 e31946 = true := by kernel_rfl
theorem e31946_ok : EntryOk (conf S) 13 e31946 := entry_ok S_ok (o := []) (orc_nil) e31946_run
theorem e32021_run : entryR S [] 2000 200 14 e32021 = true := by kernel_rfl
theorem e32021_ok : EntryOk (conf S) 14 e32021 := entry_ok S_ok (o := []) (orc_nil) e32021_run
theorem e32072_run : entryR S [] 2000 200 12 e32072 = true := by kernel_rfl
theorem e32072_ok : EntryOk (conf S) 12 e32072 := entry_ok S_ok (o := []) (orc_nil) e32072_run
theorem e32125_run : entryR S [] 2000 200 13 e32125 = true := by kernel_rfl
theorem e32125_ok : EntryOk (conf S) 13 e32125 := entry_ok S_ok (o := []) (orc_nil) e32125_run
theorem e32230_run : entryR S [] 2000 200 14 e32230 = true := by kernel_rfl
theorem e32230_ok : EntryOk (conf S) 14 e32230 := entry_ok S_ok (o := []) (orc_nil) e32230_run
theorem e32297_run : entryR S [] 2000 200 12 e32297 = true := by kernel_rfl
theorem e32297_ok : EntryOk (conf S) 12 e32297 := entry_ok S_ok (o := []) (orc_nil) e32297_run
theorem e32326_run : entryR S [] 2000 200 13 e32326 = true := by kernel_rfl
theorem e32326_ok : EntryOk (conf S) 13 e32326 := entry_ok S_ok (o := []) (orc_nil) e32326_run
theorem e32401_run : entryR S [] 2000 200 14 e32401 = true := by kernel_rfl
theorem e32401_ok : EntryOk (conf S) 14 e32401 := entry_ok S_ok (o := []) (orc_nil) e32401_run
theorem e32455_run : entryR S [] 2000 200 12 e32455 = true := by kernel_rfl
theorem e32455_ok : EntryOk (conf S) 12 e32455 := entry_ok S_ok (o := []) (orc_nil) e32455_run
theorem e32523_run : entryR S [] 2000 200 13 e32523 = true := by kernel_rfl
theorem e32523_ok : EntryOk (conf S) 13 e32523 := entry_ok S_ok (o := []) (orc_nil) e32523_run
theorem e32639_run : entryR S [] 2000 200 14 e32639 = true := by kernel_rfl
theorem e32639_ok : EntryOk (conf S) 14 e32639 := entry_ok S_ok (o := []) (orc_nil) e32639_run
theorem e32714_run : entryR S [] 2000 200 12 e32714 = true := by kernel_rfl
theorem e32714_ok : EntryOk (conf S) 12 e32714 := entry_ok S_ok (o := []) (orc_nil) e32714_run
end Go.Proofs.YtnmbbekfnaaggaaGreat
