/- A part of a proof over the abstract machine. No conditions. -/
import Derived.Test.YtofafocfemikcaaGreatC5
set_option linter.unusedSimpArgs false
set_option linter.unnecessarySimpa false
set_option linter.unusedVariables false
namespace Go.Proofs.YtofafocfemikcaaGreat
open Go Go.Ab Wm NumPlain
set_option maxRecDepth 10000
set_option maxHeartbeats 4000000
structure Fits (c:Command):Prop where
 row:c.op.row.length ≤ 1048576
 hi:c.op.hi.length ≤ 1048576
 col:c.op.cond.col.length ≤ 1048576
 cv:(ls c.op.cond.v.b).length ≤ 1048576
 l:∀ x ∈ ls c.op.l,x.col.length ≤ 1048576∧(ls x.v.b).length ≤ 1048576
 n:(ls c.op.l).length < 9223372036854775807
end Go.Proofs.YtofafocfemikcaaGreat
