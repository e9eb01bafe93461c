/- A part of a proof over the abstract machine. No conditions. -/
import Derived.Test.YthdfhffpnoocbaaGreatF0
import Derived.Test.YthdfhffpnoocbaaGreatFa3
namespace Go.Proofs.YthdfhffpnoocbaaGreat
open Go Go.Ab Go.Fa
set_option maxRecDepth 1000000
set_option maxHeartbeats 0
theorem r111 : EntryOk K 5 (rdE 1 1 1 99 4 104 [20, 15, 10, 5]) := entry_ok S_ok (o := []) orc_nil (show entryR S [] 2000 200 5 _ = true by kernel_rfl)
theorem r112 : EntryOk K 5 (rdE 1 1 2 101 5 107 [25, 20, 15, 10, 5]) := entry_ok S_ok (o := []) orc_nil (show entryR S [] 2000 200 5 _ = true by kernel_rfl)
theorem r113 : EntryOk K 5 (rdE 1 1 3 103 6 110 [30, 25, 20, 15, 10, 5]) := entry_ok S_ok (o := []) orc_nil (show entryR S [] 2000 200 5 _ = true by kernel_rfl)
theorem r114 : EntryOk K 5 (rdE 1 1 4 105 7 113 [35, 30, 25, 20, 15, 10, 5]) := entry_ok S_ok (o := []) orc_nil (show entryR S [] 2000 200 5 _ = true by kernel_rfl)
theorem r131 : EntryOk K 5 (rdE 1 3 1 191 8 200 [40, 35, 30, 25, 20, 15, 10, 5]) := entry_ok S_ok (o := []) orc_nil (show entryR S [] 2000 200 5 _ = true by kernel_rfl)
theorem r132 : EntryOk K 5 (rdE 1 3 2 193 9 203 [45, 40, 35, 30, 25, 20, 15, 10, 5]) := entry_ok S_ok (o := []) orc_nil (show entryR S [] 2000 200 5 _ = true by kernel_rfl)
theorem r133 : EntryOk K 5 (rdE 1 3 3 195 10 206 [50, 45, 40, 35, 30, 25, 20, 15, 10, 5]) := entry_ok S_ok (o := []) orc_nil (show entryR S [] 2000 200 5 _ = true by kernel_rfl)
theorem r134 : EntryOk K 5 (rdE 1 3 4 197 11 209 [55, 50, 45, 40, 35, 30, 25, 20, 15, 10, 5]) := entry_ok S_ok (o := []) orc_nil (show entryR S [] 2000 200 5 _ = true by kernel_rfl)
theorem r211 : EntryOk K 5 (rdE 2 1 1 115 5 121 [25, 20, 15, 10, 5]) := entry_ok S_ok (o := []) orc_nil (show entryR S [] 2000 200 5 _ = true by kernel_rfl)
theorem r212 : EntryOk K 5 (rdE 2 1 2 117 6 124 [30, 25, 20, 15, 10, 5]) := entry_ok S_ok (o := []) orc_nil (show entryR S [] 2000 200 5 _ = true by kernel_rfl)
theorem a111 : EntryOk K 6 (rdE 1 1 1 2 4 7 [20, 15, 10, 5]) := entry_ok S_ok (o := []) orc_nil (show entryR S [] 2000 200 6 _ = true by kernel_rfl)
theorem a112 : EntryOk K 6 (rdE 1 1 2 2 5 8 [25, 20, 15, 10, 5]) := entry_ok S_ok (o := []) orc_nil (show entryR S [] 2000 200 6 _ = true by kernel_rfl)
theorem a113 : EntryOk K 6 (rdE 1 1 3 2 6 9 [30, 25, 20, 15, 10, 5]) := entry_ok S_ok (o := []) orc_nil (show entryR S [] 2000 200 6 _ = true by kernel_rfl)
theorem a114 : EntryOk K 6 (rdE 1 1 4 2 7 10 [35, 30, 25, 20, 15, 10, 5]) := entry_ok S_ok (o := []) orc_nil (show entryR S [] 2000 200 6 _ = true by kernel_rfl)
theorem a131 : EntryOk K 6 (rdE 1 3 1 2 8 11 [40, 35, 30, 25, 20, 15, 10, 5]) := entry_ok S_ok (o := []) orc_nil (show entryR S [] 2000 200 6 _ = true by kernel_rfl)
theorem a132 : EntryOk K 6 (rdE 1 3 2 2 9 12 [45, 40, 35, 30, 25, 20, 15, 10, 5]) := entry_ok S_ok (o := []) orc_nil (show entryR S [] 2000 200 6 _ = true by kernel_rfl)
theorem a133 : EntryOk K 6 (rdE 1 3 3 2 10 13 [50, 45, 40, 35, 30, 25, 20, 15, 10, 5]) := entry_ok S_ok (o := []) orc_nil (show entryR S [] 2000 200 6 _ = true by kernel_rfl)
theorem a134 : EntryOk K 6 (rdE 1 3 4 2 11 14 [55, 50, 45, 40, 35, 30, 25, 20, 15, 10, 5]) := entry_ok S_ok (o := []) orc_nil (show entryR S [] 2000 200 6 _ = true by kernel_rfl)
theorem a211 : EntryOk K 6 (rdE 2 1 1 2 5 8 [25, 20, 15, 10, 5]) := entry_ok S_ok (o := []) orc_nil (show entryR S [] 2000 200 6 _ = true by kernel_rfl)
theorem a212 : EntryOk K 6 (rdE 2 1 2 2 6 9 [30, 25, 20, 15, 10, 5]) := entry_ok S_ok (o := []) orc_nil (show entryR S [] 2000 200 6 _ = true by kernel_rfl)
theorem a213 : EntryOk K 6 (rdE 2 1 3 2 7 10 [35, 30, 25, 20, 15, 10, 5]) := entry_ok S_ok (o := []) orc_nil (show entryR S [] 2000 200 6 _ = true by kernel_rfl)
theorem a214 : EntryOk K 6 (rdE 2 1 4 2 8 11 [40, 35, 30, 25, 20, 15, 10, 5]) := entry_ok S_ok (o := []) orc_nil (show entryR S [] 2000 200 6 _ = true by kernel_rfl)
theorem a231 : EntryOk K 6 (rdE 2 3 1 2 11 14 [55, 50, 45, 40, 35, 30, 25, 20, 15, 10, 5]) := entry_ok S_ok (o := []) orc_nil (show entryR S [] 2000 200 6 _ = true by kernel_rfl)
theorem a232 : EntryOk K 6 (rdE 2 3 2 2 12 15 [60, 55, 50, 45, 40, 35, 30, 25, 20, 15, 10, 5]) := entry_ok S_ok (o := []) orc_nil (show entryR S [] 2000 200 6 _ = true by kernel_rfl)
theorem a233 : EntryOk K 6 (rdE 2 3 3 2 13 16 [65, 60, 55, 50, 45, 40, 35, 30, 25, 20, 15, 10, 5]) := entry_ok S_ok (o := []) orc_nil (show entryR S [] 2000 200 6 _ = true by kernel_rfl)
theorem a234 : EntryOk K 6 (rdE 2 3 4 2 14 17 [70, 65, 60, 55, 50, 45, 40, 35, 30, 25, 20, 15, 10, 5]) := entry_ok S_ok (o := []) orc_nil (show entryR S [] 2000 200 6 _ = true by kernel_rfl)
theorem a311 : EntryOk K 6 (rdE 3 1 1 2 6 9 [30, 25, 20, 15, 10, 5]) := entry_ok S_ok (o := []) orc_nil (show entryR S [] 2000 200 6 _ = true by kernel_rfl)
theorem a312 : EntryOk K 6 (rdE 3 1 2 2 7 10 [35, 30, 25, 20, 15, 10, 5]) := entry_ok S_ok (o := []) orc_nil (show entryR S [] 2000 200 6 _ = true by kernel_rfl)
theorem a313 : EntryOk K 6 (rdE 3 1 3 2 8 11 [40, 35, 30, 25, 20, 15, 10, 5]) := entry_ok S_ok (o := []) orc_nil (show entryR S [] 2000 200 6 _ = true by kernel_rfl)
theorem a314 : EntryOk K 6 (rdE 3 1 4 2 9 12 [45, 40, 35, 30, 25, 20, 15, 10, 5]) := entry_ok S_ok (o := []) orc_nil (show entryR S [] 2000 200 6 _ = true by kernel_rfl)
theorem a331 : EntryOk K 6 (rdE 3 3 1 2 14 17 [70, 65, 60, 55, 50, 45, 40, 35, 30, 25, 20, 15, 10, 5]) := entry_ok S_ok (o := []) orc_nil (show entryR S [] 2000 200 6 _ = true by kernel_rfl)
theorem a332 : EntryOk K 6 (rdE 3 3 2 2 15 18 [75, 70, 65, 60, 55, 50, 45, 40, 35, 30, 25, 20, 15, 10, 5]) := entry_ok S_ok (o := []) orc_nil (show entryR S [] 2000 200 6 _ = true by kernel_rfl)
theorem a333 : EntryOk K 6 (rdE 3 3 3 2 16 19 [80, 75, 70, 65, 60, 55, 50, 45, 40, 35, 30, 25, 20, 15, 10, 5]) := entry_ok S_ok (o := []) orc_nil (show entryR S [] 2000 200 6 _ = true by kernel_rfl)
theorem a334 : EntryOk K 6 (rdE 3 3 4 2 17 20 [85, 80, 75, 70, 65, 60, 55, 50, 45, 40, 35, 30, 25, 20, 15, 10, 5]) := entry_ok S_ok (o := []) orc_nil (show entryR S [] 2000 200 6 _ = true by kernel_rfl)
end Go.Proofs.YthdfhffpnoocbaaGreat
