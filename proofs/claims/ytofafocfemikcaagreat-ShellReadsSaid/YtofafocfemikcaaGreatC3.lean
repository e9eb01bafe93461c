/- A part of a proof over the abstract machine. No conditions. -/
import Derived.Test.YtofafocfemikcaaGreatC2
import Derived.Test.YtofafocfemikcaaGreatAb5
set_option linter.unusedSimpArgs false
set_option linter.unnecessarySimpa false
set_option linter.unusedVariables false
namespace Go.Proofs.YtofafocfemikcaaGreat
open Go Go.Ab Wm NumPlain
set_option maxRecDepth 10000
set_option maxHeartbeats 2000000
theorem u8_of (n:Nat):AS.int .u8 (IntKind.u8.wrap ((n:Nat):Int)) = byteS (UInt8.ofNat n):=by
 simp only [byteS,wrap_u8m,UInt8.toNat_ofNat'];rfl
@[simp] theorem fmt64:FloatKind.f64.format = Ieee.double:=rfl
theorem frombits_c (n:Int) (h:H):W K 66 [.one (.int .u64 n)] h = some (.ret (.one (.flt n.toNat)) h):=by rw [W_ext hp rfl rfl];rfl
theorem fbits_c (n:Nat) (h:H):W K 77 [.one (.flt n)] h = some (.ret (.one (.int .u64 n)) h):=by rw [W_ext hp rfl rfl];rfl
theorem wrapB (n:Int):AS.int .u8 (IntKind.u8.wrap n) = byteS (u8 n):=by
 simp only [byteS,u8,wrap_u8m,UInt8.toNat_ofNat']
 congr 1
 have:=Int.emod_nonneg n (show (256:Int) ≠ 0 by decide)
 have h2:=Int.emod_lt_of_pos n (show (0:Int) < 256 by decide)
 omega
theorem le_lim {s:BL} (h:s.length ≤ 1048576):s.length ≤ limit:=by simp only [limit];omega
end Go.Proofs.YtofafocfemikcaaGreat
