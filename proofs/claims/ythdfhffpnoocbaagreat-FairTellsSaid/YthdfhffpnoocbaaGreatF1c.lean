/- A part of a proof over the abstract machine. No conditions. -/
import Derived.Test.YthdfhffpnoocbaaGreatF0
import Derived.Test.YthdfhffpnoocbaaGreatFa3
namespace Go.Proofs.YthdfhffpnoocbaaGreat
open Go Go.Ab Go.Fa
set_option maxRecDepth 1000000
set_option maxHeartbeats 0
theorem r313 : EntryOk K 5 (rdE 3 1 3 135 8 144 [40, 35, 30, 25, 20, 15, 10, 5]) := entry_ok S_ok (o := []) orc_nil (show entryR S [] 2000 200 5 _ = true by kernel_rfl)
theorem r314 : EntryOk K 5 (rdE 3 1 4 137 9 147 [45, 40, 35, 30, 25, 20, 15, 10, 5]) := entry_ok S_ok (o := []) orc_nil (show entryR S [] 2000 200 5 _ = true by kernel_rfl)
theorem r331 : EntryOk K 5 (rdE 3 3 1 259 14 274 [70, 65, 60, 55, 50, 45, 40, 35, 30, 25, 20, 15, 10, 5]) := entry_ok S_ok (o := []) orc_nil (show entryR S [] 2000 200 5 _ = true by kernel_rfl)
theorem r332 : EntryOk K 5 (rdE 3 3 2 261 15 277 [75, 70, 65, 60, 55, 50, 45, 40, 35, 30, 25, 20, 15, 10, 5]) := entry_ok S_ok (o := []) orc_nil (show entryR S [] 2000 200 5 _ = true by kernel_rfl)
theorem r333 : EntryOk K 5 (rdE 3 3 3 263 16 280 [80, 75, 70, 65, 60, 55, 50, 45, 40, 35, 30, 25, 20, 15, 10, 5]) := entry_ok S_ok (o := []) orc_nil (show entryR S [] 2000 200 5 _ = true by kernel_rfl)
theorem r334 : EntryOk K 5 (rdE 3 3 4 265 17 283 [85, 80, 75, 70, 65, 60, 55, 50, 45, 40, 35, 30, 25, 20, 15, 10, 5]) := entry_ok S_ok (o := []) orc_nil (show entryR S [] 2000 200 5 _ = true by kernel_rfl)
def knE : Entry := ⟨[], ⟨0, []⟩, .one (.bool true), ⟨849, []⟩⟩
theorem known_e : EntryOk K 10 knE := entry_ok S_ok (o := []) orc_nil (show entryR S [] 2000 200 10 _ = true by kernel_rfl)
end Go.Proofs.YthdfhffpnoocbaaGreat
