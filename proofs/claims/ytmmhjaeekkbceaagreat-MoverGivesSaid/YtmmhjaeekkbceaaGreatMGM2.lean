/- A part of a proof over the abstract machine. No conditions. -/
import Derived.Test.YtmmhjaeekkbceaaGreatMGD
namespace Go.Proofs.YtmmhjaeekkbceaaGreat
open Go Go.Ab Go.Fa
set_option maxRecDepth 1000000
set_option maxHeartbeats 0
theorem rM18 (a:AS) (j:Nat→AV):pieceW S false 2000 200 162 cM (frL 162 [(1,.one a),(5,.one (p 1)),(6,.one (i 18))] j) vB18 [10,18,20,22,32,35,37,38,40,41,405,406,408,410,608,610,655,905,1200] [1,5] 12263 wM18 [] = some ([v1 a,v1 (p 1)],[]):=by kernel_rfl
theorem rM19 (a:AS) (j:Nat→AV):pieceW S false 2000 200 162 cM (frL 162 [(1,.one a),(5,.one (p 1)),(6,.one (i 19))] j) vB19 [10,18,20,22,32,35,37,38,40,41,405,406,408,410,608,610,655,905,1200] [1,5] 12876 wM19 [] = some ([v1 a,v1 (p 1)],[]):=by kernel_rfl
theorem rM20 (a:AS) (j:Nat→AV):pieceW S false 2000 200 162 cM (frL 162 [(1,.one a),(5,.one (p 1)),(6,.one (i 20))] j) vB20 [10,18,20,22,32,35,37,38,40,41,405,406,408,410,608,610,655,905,1200] [1,5] 13489 wM20 [] = some ([v1 a,v1 (p 1)],[]):=by kernel_rfl
theorem rM21 (a:AS) (j:Nat→AV):pieceW S false 2000 200 162 cM (frL 162 [(1,.one a),(5,.one (p 1)),(6,.one (i 21))] j) vB21 [10,18,20,22,32,35,37,38,40,41,405,406,408,410,608,610,655,905,1200] [1,5] 14102 wM21 [] = some ([v1 a,v1 (p 1)],[]):=by kernel_rfl
theorem rM22 (a:AS) (j:Nat→AV):pieceW S false 2000 200 162 cM (frL 162 [(1,.one a),(5,.one (p 1)),(6,.one (i 22))] j) vB22 [10,18,20,22,32,35,37,38,40,41,405,406,408,410,608,610,655,905,1200] [1,5] 14715 wM22 [] = some ([v1 a,v1 (p 1)],[]):=by kernel_rfl
theorem rM23 (a:AS) (j:Nat→AV):pieceW S false 2000 200 162 cM (frL 162 [(1,.one a),(5,.one (p 1)),(6,.one (i 23))] j) vB23 [10,18,20,22,32,35,37,38,40,41,405,406,408,410,608,610,655,905,1200] [1,5] 15328 wM23 [] = some ([v1 a,v1 (p 1)],[]):=by kernel_rfl
theorem rM24 (a:AS) (j:Nat→AV):pieceW S false 2000 200 162 cM (frL 162 [(1,.one a),(5,.one (p 1)),(6,.one (i 24))] j) vB24 [10,18,20,22,32,35,37,38,40,41,405,406,408,410,608,610,655,905,1200] [1,5] 15941 wM24 [] = some ([v1 a,v1 (p 1)],[]):=by kernel_rfl
theorem rM25 (a:AS) (j:Nat→AV):pieceW S false 2000 200 162 cM (frL 162 [(1,.one a),(5,.one (p 1)),(6,.one (i 25))] j) vB25 [10,18,20,22,32,35,37,38,40,41,405,406,408,410,608,610,655,905,1200] [1,5] 16554 wM25 [] = some ([v1 a,v1 (p 1)],[]):=by kernel_rfl
theorem rM26 (a:AS) (j:Nat→AV):pieceW S false 2000 200 162 cM (frL 162 [(1,.one a),(5,.one (p 1)),(6,.one (i 26))] j) vB26 [10,18,20,22,32,35,37,38,40,41,405,406,408,410,608,610,655,905,1200] [1,5] 17167 wM26 [] = some ([v1 a,v1 (p 1)],[]):=by kernel_rfl
theorem rM27 (a:AS) (j:Nat→AV):pieceW S false 2000 200 162 cM (frL 162 [(1,.one a),(5,.one (p 1)),(6,.one (i 27))] j) vB27 [10,18,20,22,32,35,37,38,40,41,405,406,408,410,608,610,655,905,1200] [1,5] 17780 wM27 [] = some ([v1 a,v1 (p 1)],[]):=by kernel_rfl
theorem rM28 (a:AS) (j:Nat→AV):pieceW S false 2000 200 162 cM (frL 162 [(1,.one a),(5,.one (p 1)),(6,.one (i 28))] j) vB28 [10,18,20,22,32,35,37,38,40,41,405,406,408,410,608,610,655,905,1200] [1,5] 18393 wM28 [] = some ([v1 a,v1 (p 1)],[]):=by kernel_rfl
theorem rM29 (a:AS) (j:Nat→AV):pieceW S false 2000 200 162 cM (frL 162 [(1,.one a),(5,.one (p 1)),(6,.one (i 29))] j) vB29 [10,18,20,22,32,35,37,38,40,41,405,406,408,410,608,610,655,905,1200] [1,5] 19006 wM29 [] = some ([v1 a,v1 (p 1)],[]):=by kernel_rfl
theorem rM30 (a:AS) (j:Nat→AV):pieceW S false 2000 200 162 cM (frL 162 [(1,.one a),(5,.one (p 1)),(6,.one (i 30))] j) vB30 [10,18,20,22,32,35,37,38,40,41,405,406,408,410,608,610,655,905,1200] [1,5] 19619 wM30 [] = some ([v1 a,v1 (p 1)],[]):=by kernel_rfl
end Go.Proofs.YtmmhjaeekkbceaaGreat
