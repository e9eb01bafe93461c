/- A part of a proof over the abstract machine. No conditions. -/
import Derived.Test.YthdfhffpnoocbaaGreatF0
import Derived.Test.YthdfhffpnoocbaaGreatFa3
namespace Go.Proofs.YthdfhffpnoocbaaGreat
open Go Go.Ab Go.Fa
set_option maxRecDepth 1000000
set_option maxHeartbeats 0
theorem r213 : EntryOk K 5 (rdE 2 1 3 119 7 127 [35, 30, 25, 20, 15, 10, 5]) := entry_ok S_ok (o := []) orc_nil (show entryR S [] 2000 200 5 _ = true by kernel_rfl)
theorem r214 : EntryOk K 5 (rdE 2 1 4 121 8 130 [40, 35, 30, 25, 20, 15, 10, 5]) := entry_ok S_ok (o := []) orc_nil (show entryR S [] 2000 200 5 _ = true by kernel_rfl)
theorem r231 : EntryOk K 5 (rdE 2 3 1 225 11 237 [55, 50, 45, 40, 35, 30, 25, 20, 15, 10, 5]) := entry_ok S_ok (o := []) orc_nil (show entryR S [] 2000 200 5 _ = true by kernel_rfl)
theorem r232 : EntryOk K 5 (rdE 2 3 2 227 12 240 [60, 55, 50, 45, 40, 35, 30, 25, 20, 15, 10, 5]) := entry_ok S_ok (o := []) orc_nil (show entryR S [] 2000 200 5 _ = true by kernel_rfl)
theorem r233 : EntryOk K 5 (rdE 2 3 3 229 13 243 [65, 60, 55, 50, 45, 40, 35, 30, 25, 20, 15, 10, 5]) := entry_ok S_ok (o := []) orc_nil (show entryR S [] 2000 200 5 _ = true by kernel_rfl)
theorem r234 : EntryOk K 5 (rdE 2 3 4 231 14 246 [70, 65, 60, 55, 50, 45, 40, 35, 30, 25, 20, 15, 10, 5]) := entry_ok S_ok (o := []) orc_nil (show entryR S [] 2000 200 5 _ = true by kernel_rfl)
theorem r311 : EntryOk K 5 (rdE 3 1 1 131 6 138 [30, 25, 20, 15, 10, 5]) := entry_ok S_ok (o := []) orc_nil (show entryR S [] 2000 200 5 _ = true by kernel_rfl)
theorem r312 : EntryOk K 5 (rdE 3 1 2 133 7 141 [35, 30, 25, 20, 15, 10, 5]) := entry_ok S_ok (o := []) orc_nil (show entryR S [] 2000 200 5 _ = true by kernel_rfl)
end Go.Proofs.YthdfhffpnoocbaaGreat
