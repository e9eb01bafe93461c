/- A part of a proof over the abstract machine. No conditions. -/
import Derived.Test.YtkpmdlcmbemgdaaGreatSeatK
import Derived.Test.YtkpmdlcmbemgdaaGreatAbR
namespace Go.Proofs.YtkpmdlcmbemgdaaGreat
open Go Go.Ab Go.Fa
set_option maxRecDepth 1000000
set_option maxHeartbeats 0
def i (n:Nat):AS:=.int .i64 (.ofNat n)
def y (n:Nat):AS:=.int .u8 (.ofNat n)
def u (b v o n s:Nat):AS:=.slc b v o n s none
def p (b:Nat):AS:=.ptr b 0 0
def o:AS:=.nilslc
def z:AS:=.str []
def g (l:List AS):Blk:=⟨0,[l.length],true,l⟩
def e (l:List AS):Blk:=⟨0,[l.length],false,l⟩
def dn (c:Nat):Nat→List Nat
 | 0=>[]
 | n + 1=>c * (n + 1)::dn c n
def it (x:Int):AS:=.int .i64 x
noncomputable def stepI (x:Int):Int:=wrapR .i64 (addR x (.ofNat 1))
end Go.Proofs.YtkpmdlcmbemgdaaGreat
