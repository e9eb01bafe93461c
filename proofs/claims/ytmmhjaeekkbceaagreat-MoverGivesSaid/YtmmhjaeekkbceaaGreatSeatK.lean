/- A part of a proof over the abstract machine. No conditions. -/
import Derived.Test.YtmmhjaeekkbceaaGreatSeatA
import Derived.Test.YtmmhjaeekkbceaaGreatAb3
namespace Go.Proofs.YtmmhjaeekkbceaaGreat
open Go Go.Ab Go.Fa
noncomputable abbrev K:Conf:=conf S
theorem hp:PrimOk K:=conf_prim
theorem W_K:CallsOk Tryz.prog (W K):=conf_W S_ok
end Go.Proofs.YtmmhjaeekkbceaaGreat
