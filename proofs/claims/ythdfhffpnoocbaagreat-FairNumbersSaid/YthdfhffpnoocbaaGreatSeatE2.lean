/- A part of a proof over the abstract machine. No conditions. -/
import Derived.Test.YthdfhffpnoocbaaGreatSeatD1
/- Calls that the kernel ran apart. No conditions. -/
namespace Go.Proofs.YthdfhffpnoocbaaGreat
open Go Go.Ab Go.Fa
set_option maxRecDepth 1000000
set_option maxHeartbeats 0
theorem e4999_run : entryR S [] 2000 200 5 e4999 = true := by kernel_rfl
theorem e4999_ok : EntryOk (conf S) 5 e4999 := entry_ok S_ok (o := []) (orc_nil) e4999_run
theorem e5206_run : entryR S [] 2000 200 5 e5206 = true := by kernel_rfl
theorem e5206_ok : EntryOk (conf S) 5 e5206 := entry_ok S_ok (o := []) (orc_nil) e5206_run
theorem e5391_run : entryR S [] 2000 200 5 e5391 = true := by kernel_rfl
theorem e5391_ok : EntryOk (conf S) 5 e5391 := entry_ok S_ok (o := []) (orc_nil) e5391_run
theorem e5576_run : entryR S [] 2000 200 5 e5576 = true := by kernel_rfl
theorem e5576_ok : EntryOk (conf S) 5 e5576 := entry_ok S_ok (o := []) (orc_nil) e5576_run
theorem e5762_run : entryR S [] 2000 200 5 e5762 = true := by kernel_rfl
theorem e5762_ok : EntryOk (conf S) 5 e5762 := entry_ok S_ok (o := []) (orc_nil) e5762_run
theorem e5961_run : entryR S [] 2000 200 5 e5961 = true := by kernel_rfl
theorem e5961_ok : EntryOk (conf S) 5 e5961 := entry_ok S_ok (o := []) (orc_nil) e5961_run
theorem e6159_run : entryR S [] 2000 200 5 e6159 = true := by kernel_rfl
theorem e6159_ok : EntryOk (conf S) 5 e6159 := entry_ok S_ok (o := []) (orc_nil) e6159_run
theorem e6369_run : entryR S [] 2000 200 5 e6369 = true := by kernel_rfl
theorem e6369_ok : EntryOk (conf S) 5 e6369 := entry_ok S_ok (o := []) (orc_nil) e6369_run
theorem e6555_run : entryR S [] 2000 200 5 e6555 = true := by kernel_rfl
theorem e6555_ok : EntryOk (conf S) 5 e6555 := entry_ok S_ok (o := []) (orc_nil) e6555_run
theorem e6741_run : entryR S [] 2000 200 5 e6741 = true := by kernel_rfl
theorem e6741_ok : EntryOk (conf S) 5 e6741 := entry_ok S_ok (o := []) (orc_nil) e6741_run
theorem e6928_run : entryR S [] 2000 200 5 e6928 = true := by kernel_rfl
theorem e6928_ok : EntryOk (conf S) 5 e6928 := entry_ok S_ok (o := []) (orc_nil) e6928_run
theorem e6931_run : entryR S [] 2000 200 5 e6931 = true := by kernel_rfl
theorem e6931_ok : EntryOk (conf S) 5 e6931 := entry_ok S_ok (o := []) (orc_nil) e6931_run
theorem e6934_run : entryR S [] 2000 200 5 e6934 = true := by kernel_rfl
theorem e6934_ok : EntryOk (conf S) 5 e6934 := entry_ok S_ok (o := []) (orc_nil) e6934_run
theorem e6937_run : entryR S [] 2000 200 5 e6937 = true := by kernel_rfl
theorem e6937_ok : EntryOk (conf S) 5 e6937 := entry_ok S_ok (o := []) (orc_nil) e6937_run
theorem e6940_run : entryR S [] 2000 200 5 e6940 = true := by kernel_rfl
theorem e6940_ok : EntryOk (conf S) 5 e6940 := entry_ok S_ok (o := []) (orc_nil) e6940_run
theorem e6943_run : entryR S [] 2000 200 5 e6943 = true := by kernel_rfl
theorem e6943_ok : EntryOk (conf S) 5 e6943 := entry_ok S_ok (o := []) (orc_nil) e6943_run
theorem e6946_run : entryR S [] 2000 200 5 e6946 = true := by kernel_rfl
theorem e6946_ok : EntryOk (conf S) 5 e6946 := entry_ok S_ok (o := []) (orc_nil) e6946_run
theorem e6949_run : entryR S [] 2000 200 5 e6949 = true := by kernel_rfl
theorem e6949_ok : EntryOk (conf S) 5 e6949 := entry_ok S_ok (o := []) (orc_nil) e6949_run
theorem e6952_run : entryR S [] 2000 200 5 e6952 = true := by kernel_rfl
theorem e6952_ok : EntryOk (conf S) 5 e6952 := entry_ok S_ok (o := []) (orc_nil) e6952_run
theorem e6955_run : entryR S [] 2000 200 5 e6955 = true := by kernel_rfl
theorem e6955_ok : EntryOk (conf S) 5 e6955 := entry_ok S_ok (o := []) (orc_nil) e6955_run
theorem e6958_run : entryR S [] 2000 200 5 e6958 = true := by kernel_rfl
theorem e6958_ok : EntryOk (conf S) 5 e6958 := entry_ok S_ok (o := []) (orc_nil) e6958_run
theorem e6961_run : entryR S [] 2000 200 5 e6961 = true := by kernel_rfl
theorem e6961_ok : EntryOk (conf S) 5 e6961 := entry_ok S_ok (o := []) (orc_nil) e6961_run
theorem e6964_run : entryR S [] 2000 200 5 e6964 = true := by kernel_rfl
theorem e6964_ok : EntryOk (conf S) 5 e6964 := entry_ok S_ok (o := []) (orc_nil) e6964_run
theorem e6967_run : entryR S [] 2000 200 5 e6967 = true := by kernel_rfl
theorem e6967_ok : EntryOk (conf S) 5 e6967 := entry_ok S_ok (o := []) (orc_nil) e6967_run
theorem e6970_run : entryR S [] 2000 200 5 e6970 = true := by kernel_rfl
theorem e6970_ok : EntryOk (conf S) 5 e6970 := entry_ok S_ok (o := []) (orc_nil) e6970_run
theorem e7090_run : entryR S [] 2000 200 5 e7090 = true := by kernel_rfl
theorem e7090_ok : EntryOk (conf S) 5 e7090 := entry_ok S_ok (o := []) (orc_nil) e7090_run
theorem e7209_run : entryR S [] 2000 200 5 e7209 = true := by kernel_rfl
theorem e7209_ok : EntryOk (conf S) 5 e7209 := entry_ok S_ok (o := []) (orc_nil) e7209_run
theorem e7334_run : entryR S [] 2000 200 5 e7334 = true := by kernel_rfl
theorem e7334_ok : EntryOk (conf S) 5 e7334 := entry_ok S_ok (o := []) (orc_nil) e7334_run
theorem e7447_run : entryR S [] 2000 200 5 e7447 = true := by kernel_rfl
theorem e7447_ok : EntryOk (conf S) 5 e7447 := entry_ok S_ok (o := []) (orc_nil) e7447_run
theorem e7560_run : entryR S [] 2000 200 5 e7560 = true := by kernel_rfl
theorem e7560_ok : EntryOk (conf S) 5 e7560 := entry_ok S_ok (o := []) (orc_nil) e7560_run
theorem e7674_run : entryR S [] 2000 200 5 e7674 = true := by kernel_rfl
theorem e7674_ok : EntryOk (conf S) 5 e7674 := entry_ok S_ok (o := []) (orc_nil) e7674_run
theorem e7796_run : entryR S [] 2000 200 5 e7796 = true := by kernel_rfl
theorem e7796_ok : EntryOk (conf S) 5 e7796 := entry_ok S_ok (o := []) (orc_nil) e7796_run
theorem e7917_run : entryR S [] 2000 200 5 e7917 = true := by kernel_rfl
theorem e7917_ok : EntryOk (conf S) 5 e7917 := entry_ok S_ok (o := []) (orc_nil) e7917_run
theorem e8045_run : entryR S [] 2000 200 5 e8045 = true := by kernel_rfl
theorem e8045_ok : EntryOk (conf S) 5 e8045 := entry_ok S_ok (o := []) (orc_nil) e8045_run
theorem e8159_run : entryR S [] 2000 200 5 e8159 = true := by kernel_rfl
theorem e8159_ok : EntryOk (conf S) 5 e8159 := entry_ok S_ok (o := []) (orc_nil) e8159_run
theorem e8273_run : entryR S [] 2000 200 5 e8273 = true := by kernel_rfl
theorem e8273_ok : EntryOk (conf S) 5 e8273 := entry_ok S_ok (o := []) (orc_nil) e8273_run
theorem e8388_run : entryR S [] 2000 200 5 e8388 = true := by kernel_rfl
theorem e8388_ok : EntryOk (conf S) 5 e8388 := entry_ok S_ok (o := []) (orc_nil) e8388_run
theorem e8512_run : entryR S [] 2000 200 5 e8512 = true := by kernel_rfl
theorem e8512_ok : EntryOk (conf S) 5 e8512 := entry_ok S_ok (o := []) (orc_nil) e8512_run
theorem e8635_run : entryR S [] 2000 200 5 e8635 = true := by kernel_rfl
theorem e8635_ok : EntryOk (conf S) 5 e8635 := entry_ok S_ok (o := []) (orc_nil) e8635_run
theorem e8766_run : entryR S [] 2000 200 5 e8766 = true := by kernel_rfl
theorem e8766_ok : EntryOk (conf S) 5 e8766 := entry_ok S_ok (o := []) (orc_nil) e8766_run
theorem e8881_run : entryR S [] 2000 200 5 e8881 = true := by kernel_rfl
theorem e8881_ok : EntryOk (conf S) 5 e8881 := entry_ok S_ok (o := []) (orc_nil) e8881_run
theorem e8996_run : entryR S [] 2000 200 5 e8996 = true := by kernel_rfl
theorem e8996_ok : EntryOk (conf S) 5 e8996 := entry_ok S_ok (o := []) (orc_nil) e8996_run
theorem e9112_run : entryR S [] 2000 200 5 e9112 = true := by kernel_rfl
theorem e9112_ok : EntryOk (conf S) 5 e9112 := entry_ok S_ok (o := []) (orc_nil) e9112_run
theorem e9238_run : entryR S [] 2000 200 5 e9238 = true := by kernel_rfl
theorem e9238_ok : EntryOk (conf S) 5 e9238 := entry_ok S_ok (o := []) (orc_nil) e9238_run
theorem e9363_run : entryR S [] 2000 200 5 e9363 = true := by kernel_rfl
theorem e9363_ok : EntryOk (conf S) 5 e9363 := entry_ok S_ok (o := []) (orc_nil) e9363_run
theorem e9497_run : entryR S [] 2000 200 5 e9497 = true := by kernel_rfl
theorem e9497_ok : EntryOk (conf S) 5 e9497 := entry_ok S_ok (o := []) (orc_nil) e9497_run
theorem e9613_run : entryR S [] 2000 200 5 e9613 = true := by kernel_rfl
theorem e9613_ok : EntryOk (conf S) 5 e9613 := entry_ok S_ok (o := []) (orc_nil) e9613_run
theorem e9729_run : entryR S [] 2000 200 5 e9729 = true := by kernel_rfl
theorem e9729_ok : EntryOk (conf S) 5 e9729 := entry_ok S_ok (o := []) (orc_nil) e9729_run
theorem e9846_run : entryR S [] 2000 200 5 e9846 = true := by kernel_rfl
theorem e9846_ok : EntryOk (conf S) 5 e9846 := entry_ok S_ok (o := []) (orc_nil) e9846_run
theorem e9849_run : entryR S [] 2000 200 5 e9849 = true := by kernel_rfl
theorem e9849_ok : EntryOk (conf S) 5 e9849 := entry_ok S_ok (o := []) (orc_nil) e9849_run
theorem e9852_run : entryR S [] 2000 200 5 e9852 = true := by kernel_rfl
theorem e9852_ok : EntryOk (conf S) 5 e9852 := entry_ok S_ok (o := []) (orc_nil) e9852_run
theorem e9855_run : entryR S [] 2000 200 5 e9855 = true := by kernel_rfl
theorem e9855_ok : EntryOk (conf S) 5 e9855 := entry_ok S_ok (o := []) (orc_nil) e9855_run
theorem e9858_run : entryR S [] 2000 200 5 e9858 = true := by kernel_rfl
theorem e9858_ok : EntryOk (conf S) 5 e9858 := entry_ok S_ok (o := []) (orc_nil) e9858_run
theorem e9861_run : entryR S [] 2000 200 5 e9861 = true := by kernel_rfl
theorem e9861_ok : EntryOk (conf S) 5 e9861 := entry_ok S_ok (o := []) (orc_nil) e9861_run
theorem e9864_run : entryR S [] 2000 200 5 e9864 = true := by kernel_rfl
theorem e9864_ok : EntryOk (conf S) 5 e9864 := entry_ok S_ok (o := []) (orc_nil) e9864_run
theorem e9867_run : entryR S [] 2000 200 5 e9867 = true := by kernel_rfl
theorem e9867_ok : EntryOk (conf S) 5 e9867 := entry_ok S_ok (o := []) (orc_nil) e9867_run
end Go.Proofs.YthdfhffpnoocbaaGreat
