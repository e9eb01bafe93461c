/- A part of a proof over the abstract machine. No conditions. -/
import Derived.Test.YtofafocfemikcaaGreatC1
set_option linter.unusedSimpArgs false
set_option linter.unnecessarySimpa false
set_option linter.unusedVariables false
namespace Go.Proofs.YtofafocfemikcaaGreat
open Go Go.Ab Wm
set_option maxRecDepth 10000
set_option maxHeartbeats 2000000
theorem sub_all {n:Nat} {l:List AS} (hl:l.length = n):sub l 0 n = some l:=by
 unfold sub;rw [if_pos (by omega),List.drop_zero,← hl,List.take_length]
end Go.Proofs.YtofafocfemikcaaGreat
