/- A part of a proof over the abstract machine. No conditions. -/
import Derived.Test.YtofafocfemikcaaGreatC7
import Derived.Test.YtofafocfemikcaaGreatC6
import Derived.Test.YtofafocfemikcaaGreatAb5
set_option linter.unusedSimpArgs false
set_option linter.unnecessarySimpa false
set_option linter.unusedVariables false
namespace Go.Proofs.YtofafocfemikcaaGreat
open Go Go.Ab Wm NumPlain
set_option maxRecDepth 10000
set_option maxHeartbeats 4000000
theorem slice_to (h:H) (l:BL) (n:Nat) (hn:n ≤ l.length):sliceA h 1 (bs (some l)) none (some (.one (ii n))) none = some (bs (some (l.take n))):=by
 rw [bs_some,bs_some]
 have hq:(l.map byteS).length = l.length:=by simp
 simp [sliceA,bound,sub,hn,Nat.min_eq_left hn]
theorem slice_from (h:H) (l:BL) (n:Nat) (hn:n ≤ l.length):sliceA h 1 (bs (some l)) (some (.one (ii n))) none none = some (bs (some (l.drop n))):=by
 rw [bs_some,bs_some]
 have hq:(l.map byteS).length = l.length:=by simp
 simp [sliceA,bound,sub,hn]
 exact List.take_of_length_le (by simp)
theorem index_bs {l:BL} {i:Nat} (hi:i < l.length):indexA Tryz.prog 31 (bs (some l)) i = some (.rp (l.map byteS) i):=by
 rw [bs_some];simp [indexA,hi]
theorem sub_bs (a r:BL) (b:UInt8):sub ((a++b::r).map byteS) a.length 1 = some [byteS b]:=by
 simp [sub]
end Go.Proofs.YtofafocfemikcaaGreat
