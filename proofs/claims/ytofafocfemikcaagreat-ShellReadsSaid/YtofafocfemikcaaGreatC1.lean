/- A part of a proof over the abstract machine. No conditions. -/
import Derived.Test.YtofafocfemikcaaGreatW5
import Derived.Test.YtofafocfemikcaaGreatSeatK
import Derived.Test.YtofafocfemikcaaGreatSeatF
import Derived.Test.YtofafocfemikcaaGreatAb5
set_option linter.unusedSimpArgs false
set_option linter.unnecessarySimpa false
set_option linter.unusedVariables false
namespace Go.Proofs.YtofafocfemikcaaGreat
open Go Go.Ab Wm
set_option maxRecDepth 10000
set_option maxHeartbeats 2000000
@[simp] theorem KP:K.P = Tryz.prog:=rfl
theorem K_own (f:Nat):K.own f = memL S.own f:=rfl
end Go.Proofs.YtofafocfemikcaaGreat
