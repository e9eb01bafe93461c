/- A part of a proof over the abstract machine. No conditions. -/
import Derived.Test.YtmmhjaeekkbceaaGreatSeatK
import Derived.Test.YtmmhjaeekkbceaaGreatFa3
namespace Go.Proofs.YtmmhjaeekkbceaaGreat
open Go Go.Ab Go.Fa
set_option maxRecDepth 1000000
set_option maxHeartbeats 0
def i (n:Nat):AS:=.int .i64 (.ofNat n)
def y (n:Nat):AS:=.int .u8 (.ofNat n)
def u (b v o n s:Nat):AS:=.slc b v o n s none
def p (b:Nat):AS:=.ptr b 0 0
def o:AS:=.nilslc
def z:AS:=.str []
def g (l:List AS):Blk:=⟨0,[l.length],true,l⟩
def e (l:List AS):Blk:=⟨0,[l.length],false,l⟩
def dn (c:Nat):Nat→List Nat
 | 0=>[]
 | n + 1=>c * (n + 1)::dn c n
def look:List (Nat × AV)→Nat→AV→AV
 | [],_,d=>d
 | a::l,k,d=>bif Nat.beq k a.1 then a.2 else look l k d
def frL (n:Nat) (l:List (Nat × AV)) (j:Nat→AV):Fr:=(List.range n).map fun k=>look l k (j k)
def nth:List Code→Nat→Code
 | [],_=>.skip
 | a::_,0=>a
 | _::l,n + 1=>nth l n
def inB:Code→List Code
 | .block _ b=>flatC b
 | .loop b=>flatC b
 | _=>[]
def bodyOf (f:Func):Code:=f.body.getD .skip
noncomputable def L:List Code:=flatC (bodyOf Tryz.f3)
noncomputable def LB:List Code:=inB (nth (inB (nth L 8)) 0)
noncomputable def SL:List Code:=flatC (bodyOf Tryz.f6)
noncomputable def OB:List Code:=inB (nth (inB (nth SL 1)) 0)
noncomputable def C1:List Code:=inB (nth OB 2)
noncomputable def IB:Code:=nth (inB (nth C1 2)) 0
noncomputable def IBB:Code:=match IB with | .loop b=>b | c=>c
noncomputable def cA:Code:=seqL (L.take 5)
noncomputable def cB:Code:=seqL [nth LB 2,nth LB 3]
noncomputable def cM:Code:=seqL ((L.drop 9).take 9)
noncomputable def cE:Code:=seqL (L.drop 21)
noncomputable def cW:Code:=bodyOf Tryz.f5
noncomputable def cS:Code:=seqL [nth SL 0,nth OB 0,nth OB 1,nth C1 0,nth C1 1,IBB,IBB]
noncomputable def cT:Code:=.block 0 (seqL [.block 1 (nth C1 2),nth OB 3,nth (inB (nth SL 1)) 0])
theorem dA:drawsOk S.P cA = true:=by kernel_rfl
theorem dB:drawsOk S.P cB = true:=by kernel_rfl
theorem dM:drawsOk S.P cM = true:=by kernel_rfl
theorem dF':drawsOk S.P cE = true:=by kernel_rfl
theorem dW:drawsOk S.P cW = true:=by kernel_rfl
theorem dS:drawsOk S.P cS = true:=by kernel_rfl
theorem dT:drawsOk S.P cT = true:=by kernel_rfl
abbrev v1 (a:AS):Bool × List AS:=(false,[a])
def sB (a n:AS) (q k:Nat):List (Nat × AV):=[(1,.one a),(5,.one (p 1)),(6,.one n),(7,.one (i q)),(8,.one (i k))]
def sS:List (Nat × AV):=[(0,.one (p 1)),(1,.one (i 2)),(4,.one (i 0)),(5,.one (i 2))]
def rwn:Nat→List UInt8
 | 0=>[97] | 1=>[98] | 2=>[109] | 3=>[110] | 4=>[122] | 5=>[109,97] | 6=>[122,122] | _=>[48]
def lit:Blk:=⟨0,[8],true,[.str (rwn 0),.str (rwn 1),.str (rwn 2),.str (rwn 3),.str (rwn 4),.str (rwn 5),.str (rwn 6),.str (rwn 7)]⟩
def cmdM (s:List UInt8):List AS:=[i 8,i 0,z,z,.bool false,.bool false,z,i 0,o,.flt 0,o,i 0,z,z,i 0,.str s,i 2,i 1,o]
def bytW (s:List UInt8):Blk:=e ([y 8,y 1,y 0,y 0,y 0,y s.length]++(s.map byteS++[y 2]))
end Go.Proofs.YtmmhjaeekkbceaaGreat
