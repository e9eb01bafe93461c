/- A part of a proof over the abstract machine. No conditions. -/
import Derived.Test.YthdfhffpnoocbaaGreatSeatD1
/- Calls that the kernel ran apart. No conditions. -/
namespace Go.Proofs.YthdfhffpnoocbaaGreat
open Go Go.Ab Go.Fa
set_option maxRecDepth 1000000
set_option maxHeartbeats 0
theorem e25304_run : entryR S [] 2000 200 5 e25304 = true := by kernel_rfl
theorem e25304_ok : EntryOk (conf S) 5 e25304 := entry_ok S_ok (o := []) (orc_nil) e25304_run
theorem e25622_run : entryR S [] 2000 200 5 e25622 = true := by kernel_rfl
theorem e25622_ok : EntryOk (conf S) 5 e25622 := entry_ok S_ok (o := []) (orc_nil) e25622_run
theorem e25959_run : entryR S [] 2000 200 5 e25959 = true := by kernel_rfl
theorem e25959_ok : EntryOk (conf S) 5 e25959 := entry_ok S_ok (o := []) (orc_nil) e25959_run
theorem e26295_run : entryR S [] 2000 200 5 e26295 = true := by kernel_rfl
theorem e26295_ok : EntryOk (conf S) 5 e26295 := entry_ok S_ok (o := []) (orc_nil) e26295_run
theorem e26649_run : entryR S [] 2000 200 5 e26649 = true := by kernel_rfl
theorem e26649_ok : EntryOk (conf S) 5 e26649 := entry_ok S_ok (o := []) (orc_nil) e26649_run
theorem e26967_run : entryR S [] 2000 200 5 e26967 = true := by kernel_rfl
theorem e26967_ok : EntryOk (conf S) 5 e26967 := entry_ok S_ok (o := []) (orc_nil) e26967_run
theorem e27285_run : entryR S [] 2000 200 5 e27285 = true := by kernel_rfl
theorem e27285_ok : EntryOk (conf S) 5 e27285 := entry_ok S_ok (o := []) (orc_nil) e27285_run
theorem e27604_run : entryR S [] 2000 200 5 e27604 = true := by kernel_rfl
theorem e27604_ok : EntryOk (conf S) 5 e27604 := entry_ok S_ok (o := []) (orc_nil) e27604_run
theorem e27607_run : entryR S [] 2000 200 5 e27607 = true := by kernel_rfl
theorem e27607_ok : EntryOk (conf S) 5 e27607 := entry_ok S_ok (o := []) (orc_nil) e27607_run
theorem e27610_run : entryR S [] 2000 200 5 e27610 = true := by kernel_rfl
theorem e27610_ok : EntryOk (conf S) 5 e27610 := entry_ok S_ok (o := []) (orc_nil) e27610_run
theorem e27613_run : entryR S [] 2000 200 5 e27613 = true := by kernel_rfl
theorem e27613_ok : EntryOk (conf S) 5 e27613 := entry_ok S_ok (o := []) (orc_nil) e27613_run
theorem e27616_run : entryR S [] 2000 200 5 e27616 = true := by kernel_rfl
theorem e27616_ok : EntryOk (conf S) 5 e27616 := entry_ok S_ok (o := []) (orc_nil) e27616_run
theorem e27619_run : entryR S [] 2000 200 5 e27619 = true := by kernel_rfl
theorem e27619_ok : EntryOk (conf S) 5 e27619 := entry_ok S_ok (o := []) (orc_nil) e27619_run
theorem e27622_run : entryR S [] 2000 200 5 e27622 = true := by kernel_rfl
theorem e27622_ok : EntryOk (conf S) 5 e27622 := entry_ok S_ok (o := []) (orc_nil) e27622_run
theorem e27625_run : entryR S [] 2000 200 5 e27625 = true := by kernel_rfl
theorem e27625_ok : EntryOk (conf S) 5 e27625 := entry_ok S_ok (o := []) (orc_nil) e27625_run
theorem e27628_run : entryR S [] 2000 200 5 e27628 = true := by kernel_rfl
theorem e27628_ok : EntryOk (conf S) 5 e27628 := entry_ok S_ok (o := []) (orc_nil) e27628_run
theorem e27631_run : entryR S [] 2000 200 5 e27631 = true := by kernel_rfl
theorem e27631_ok : EntryOk (conf S) 5 e27631 := entry_ok S_ok (o := []) (orc_nil) e27631_run
theorem e27634_run : entryR S [] 2000 200 5 e27634 = true := by kernel_rfl
theorem e27634_ok : EntryOk (conf S) 5 e27634 := entry_ok S_ok (o := []) (orc_nil) e27634_run
theorem e27637_run : entryR S [] 2000 200 5 e27637 = true := by kernel_rfl
theorem e27637_ok : EntryOk (conf S) 5 e27637 := entry_ok S_ok (o := []) (orc_nil) e27637_run
theorem e27640_run : entryR S [] 2000 200 5 e27640 = true := by kernel_rfl
theorem e27640_ok : EntryOk (conf S) 5 e27640 := entry_ok S_ok (o := []) (orc_nil) e27640_run
theorem e27643_run : entryR S [] 2000 200 5 e27643 = true := by kernel_rfl
theorem e27643_ok : EntryOk (conf S) 5 e27643 := entry_ok S_ok (o := []) (orc_nil) e27643_run
theorem e27646_run : entryR S [] 2000 200 5 e27646 = true := by kernel_rfl
theorem e27646_ok : EntryOk (conf S) 5 e27646 := entry_ok S_ok (o := []) (orc_nil) e27646_run
theorem e27649_run : entryR S [] 2000 200 5 e27649 = true := by kernel_rfl
theorem e27649_ok : EntryOk (conf S) 5 e27649 := entry_ok S_ok (o := []) (orc_nil) e27649_run
theorem e27652_run : entryR S [] 2000 200 5 e27652 = true := by kernel_rfl
theorem e27652_ok : EntryOk (conf S) 5 e27652 := entry_ok S_ok (o := []) (orc_nil) e27652_run
theorem e27655_run : entryR S [] 2000 200 5 e27655 = true := by kernel_rfl
theorem e27655_ok : EntryOk (conf S) 5 e27655 := entry_ok S_ok (o := []) (orc_nil) e27655_run
theorem e27658_run : entryR S [] 2000 200 5 e27658 = true := by kernel_rfl
theorem e27658_ok : EntryOk (conf S) 5 e27658 := entry_ok S_ok (o := []) (orc_nil) e27658_run
theorem e27661_run : entryR S [] 2000 200 5 e27661 = true := by kernel_rfl
theorem e27661_ok : EntryOk (conf S) 5 e27661 := entry_ok S_ok (o := []) (orc_nil) e27661_run
theorem e27664_run : entryR S [] 2000 200 5 e27664 = true := by kernel_rfl
theorem e27664_ok : EntryOk (conf S) 5 e27664 := entry_ok S_ok (o := []) (orc_nil) e27664_run
theorem e27667_run : entryR S [] 2000 200 5 e27667 = true := by kernel_rfl
theorem e27667_ok : EntryOk (conf S) 5 e27667 := entry_ok S_ok (o := []) (orc_nil) e27667_run
theorem e27670_run : entryR S [] 2000 200 5 e27670 = true := by kernel_rfl
theorem e27670_ok : EntryOk (conf S) 5 e27670 := entry_ok S_ok (o := []) (orc_nil) e27670_run
theorem e27673_run : entryR S [] 2000 200 5 e27673 = true := by kernel_rfl
theorem e27673_ok : EntryOk (conf S) 5 e27673 := entry_ok S_ok (o := []) (orc_nil) e27673_run
theorem e27676_run : entryR S [] 2000 200 5 e27676 = true := by kernel_rfl
theorem e27676_ok : EntryOk (conf S) 5 e27676 := entry_ok S_ok (o := []) (orc_nil) e27676_run
theorem e27679_run : entryR S [] 2000 200 5 e27679 = true := by kernel_rfl
theorem e27679_ok : EntryOk (conf S) 5 e27679 := entry_ok S_ok (o := []) (orc_nil) e27679_run
theorem e27682_run : entryR S [] 2000 200 5 e27682 = true := by kernel_rfl
theorem e27682_ok : EntryOk (conf S) 5 e27682 := entry_ok S_ok (o := []) (orc_nil) e27682_run
theorem e27685_run : entryR S [] 2000 200 5 e27685 = true := by kernel_rfl
theorem e27685_ok : EntryOk (conf S) 5 e27685 := entry_ok S_ok (o := []) (orc_nil) e27685_run
theorem e27688_run : entryR S [] 2000 200 5 e27688 = true := by kernel_rfl
theorem e27688_ok : EntryOk (conf S) 5 e27688 := entry_ok S_ok (o := []) (orc_nil) e27688_run
theorem e27691_run : entryR S [] 2000 200 5 e27691 = true := by kernel_rfl
theorem e27691_ok : EntryOk (conf S) 5 e27691 := entry_ok S_ok (o := []) (orc_nil) e27691_run
theorem e27694_run : entryR S [] 2000 200 5 e27694 = true := by kernel_rfl
theorem e27694_ok : EntryOk (conf S) 5 e27694 := entry_ok S_ok (o := []) (orc_nil) e27694_run
theorem e27697_run : entryR S [] 2000 200 5 e27697 = true := by kernel_rfl
theorem e27697_ok : EntryOk (conf S) 5 e27697 := entry_ok S_ok (o := []) (orc_nil) e27697_run
theorem e27700_run : entryR S [] 2000 200 5 e27700 = true := by kernel_rfl
theorem e27700_ok : EntryOk (conf S) 5 e27700 := entry_ok S_ok (o := []) (orc_nil) e27700_run
theorem e27703_run : entryR S [] 2000 200 5 e27703 = true := by kernel_rfl
theorem e27703_ok : EntryOk (conf S) 5 e27703 := entry_ok S_ok (o := []) (orc_nil) e27703_run
theorem e27706_run : entryR S [] 2000 200 5 e27706 = true := by kernel_rfl
theorem e27706_ok : EntryOk (conf S) 5 e27706 := entry_ok S_ok (o := []) (orc_nil) e27706_run
theorem e27709_run : entryR S [] 2000 200 5 e27709 = true := by kernel_rfl
theorem e27709_ok : EntryOk (conf S) 5 e27709 := entry_ok S_ok (o := []) (orc_nil) e27709_run
theorem e27712_run : entryR S [] 2000 200 5 e27712 = true := by kernel_rfl
theorem e27712_ok : EntryOk (conf S) 5 e27712 := entry_ok S_ok (o := []) (orc_nil) e27712_run
theorem e27898_run : entryR S [] 2000 200 5 e27898 = true := by kernel_rfl
theorem e27898_ok : EntryOk (conf S) 5 e27898 := entry_ok S_ok (o := []) (orc_nil) e27898_run
theorem e28092_run : entryR S [] 2000 200 5 e28092 = true := by kernel_rfl
theorem e28092_ok : EntryOk (conf S) 5 e28092 := entry_ok S_ok (o := []) (orc_nil) e28092_run
theorem e28284_run : entryR S [] 2000 200 5 e28284 = true := by kernel_rfl
theorem e28284_ok : EntryOk (conf S) 5 e28284 := entry_ok S_ok (o := []) (orc_nil) e28284_run
end Go.Proofs.YthdfhffpnoocbaaGreat
