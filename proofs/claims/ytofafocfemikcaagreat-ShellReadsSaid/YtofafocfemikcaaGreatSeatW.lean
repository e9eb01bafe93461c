/- A part of a proof over the abstract machine. No conditions. -/
import Derived.Test.YtofafocfemikcaaGreatSeatK
import Derived.Test.YtofafocfemikcaaGreatSeatR
namespace Go.Proofs.YtofafocfemikcaaGreat
open Go Go.Ab
theorem W_K:CallsOk Tryz.prog (W K):=by
 obtain ⟨h1,hr⟩:=Kn.ran
 exact W_ok (C:=K) Tryz.okT (confK_cmp S_ok) (know_okC (confK_ok S_ok) Kn.W_S hr) hp Tryz.mixed
end Go.Proofs.YtofafocfemikcaaGreat
