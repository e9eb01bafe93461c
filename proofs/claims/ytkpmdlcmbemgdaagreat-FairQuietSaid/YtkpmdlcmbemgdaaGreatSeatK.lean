/- A part of a proof over the abstract machine. No conditions. -/
import Derived.Test.YtkpmdlcmbemgdaaGreatSeatA
import Derived.Test.YtkpmdlcmbemgdaaGreatAb3
import Derived.Test.YtkpmdlcmbemgdaaGreatAbR
import Derived.Test.YtkpmdlcmbemgdaaGreatAbR
namespace Go.Proofs.YtkpmdlcmbemgdaaGreat
open Go Go.Ab Go.Fa
noncomputable abbrev K:Conf:=conf S
theorem hp:PrimOk K:=conf_prim
theorem W_K:CallsOk Tryz.prog (W K):=conf_W S_ok
theorem hRn:PrimRn K:=⟨fun f g hg R c d hc args h h' r L hr=>by
 rcases prim_cases hg with ⟨_,rfl⟩ | ⟨q,_,_,rfl⟩ | ⟨F,_,rfl⟩
 ·exact readA_m hc L hr
 ·exact layA_m hc L hr
 ·exact insA_m L hr,fun f=>rfl⟩
end Go.Proofs.YtkpmdlcmbemgdaaGreat
