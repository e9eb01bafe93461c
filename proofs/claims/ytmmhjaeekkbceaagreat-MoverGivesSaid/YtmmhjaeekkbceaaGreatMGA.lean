/- A part of a proof over the abstract machine. No conditions. -/
import Derived.Test.YtmmhjaeekkbceaaGreatMGD
namespace Go.Proofs.YtmmhjaeekkbceaaGreat
open Go Go.Ab Go.Fa
set_option maxRecDepth 1000000
set_option maxHeartbeats 0
theorem rA (x a:AS):pieceW S false 2000 200 162 cA (.one x::.one a::List.replicate 160 .undef) ⟨0,[]⟩ [] [0,1,5] 697 wA [] = some ([v1 x,v1 a,v1 (p 1)],[]):=by kernel_rfl
theorem rB0 (a n:AS) (j:Nat→AV):pieceW S false 2000 200 162 cB (frL 162 (sB a n 0 0) j) vB0 [1,22,24,32,35,408,410] [1,5,6,7,8] 1288 wB0 [] = some ([v1 a,v1 (p 1),v1 n,v1 (i 2),v1 (i 1)],[]):=by kernel_rfl
theorem rB1 (a n:AS) (j:Nat→AV):pieceW S false 2000 200 162 cB (frL 162 (sB a n 2 1) j) vB1 [1,22,24,32,35,407,408,409,410] [1,5,6,7,8] 1889 wB1 [] = some ([v1 a,v1 (p 1),v1 n,v1 (i 4),v1 (i 2)],[]):=by kernel_rfl
theorem rB2 (a n:AS) (j:Nat→AV):pieceW S false 2000 200 162 cB (frL 162 (sB a n 4 2) j) vB2 [1,22,24,32,35,407,408,409,410] [1,5,6,7,8] 2490 wB2 [] = some ([v1 a,v1 (p 1),v1 n,v1 (i 6),v1 (i 3)],[]):=by kernel_rfl
theorem rB3 (a n:AS) (j:Nat→AV):pieceW S false 2000 200 162 cB (frL 162 (sB a n 6 3) j) vB3 [1,22,24,32,35,407,408,409,410] [1,5,6,7,8] 3095 wB3 [] = some ([v1 a,v1 (p 1),v1 n,v1 (i 8),v1 (i 4)],[]):=by kernel_rfl
theorem rB4 (a n:AS) (j:Nat→AV):pieceW S false 2000 200 162 cB (frL 162 (sB a n 8 4) j) vB4 [1,22,24,32,35,407,408,409,410] [1,5,6,7,8] 3700 wB4 [] = some ([v1 a,v1 (p 1),v1 n,v1 (i 10),v1 (i 5)],[]):=by kernel_rfl
theorem rB5 (a n:AS) (j:Nat→AV):pieceW S false 2000 200 162 cB (frL 162 (sB a n 10 5) j) vB5 [1,22,24,32,35,407,408,409,410] [1,5,6,7,8] 4305 wB5 [] = some ([v1 a,v1 (p 1),v1 n,v1 (i 12),v1 (i 6)],[]):=by kernel_rfl
theorem rB6 (a n:AS) (j:Nat→AV):pieceW S false 2000 200 162 cB (frL 162 (sB a n 12 6) j) vB6 [1,22,24,32,35,407,408,409,410] [1,5,6,7,8] 4910 wB6 [] = some ([v1 a,v1 (p 1),v1 n,v1 (i 14),v1 (i 7)],[]):=by kernel_rfl
theorem rB7 (a n:AS) (j:Nat→AV):pieceW S false 2000 200 162 cB (frL 162 (sB a n 14 7) j) vB7 [1,22,24,32,35,407,408,409,410] [1,5,6,7,8] 5519 wB7 [] = some ([v1 a,v1 (p 1),v1 n,v1 (i 16),v1 (i 8)],[]):=by kernel_rfl
theorem rB8 (a n:AS) (j:Nat→AV):pieceW S false 2000 200 162 cB (frL 162 (sB a n 16 8) j) vB8 [1,22,24,32,35,407,408,409,410] [1,5,6,7,8] 6128 wB8 [] = some ([v1 a,v1 (p 1),v1 n,v1 (i 18),v1 (i 9)],[]):=by kernel_rfl
theorem rB9 (a n:AS) (j:Nat→AV):pieceW S false 2000 200 162 cB (frL 162 (sB a n 18 9) j) vB9 [1,22,24,32,35,407,408,409,410] [1,5,6,7,8] 6737 wB9 [] = some ([v1 a,v1 (p 1),v1 n,v1 (i 20),v1 (i 10)],[]):=by kernel_rfl
theorem rB10 (a n:AS) (j:Nat→AV):pieceW S false 2000 200 162 cB (frL 162 (sB a n 20 10) j) vB10 [1,22,24,32,35,407,408,409,410] [1,5,6,7,8] 7346 wB10 [] = some ([v1 a,v1 (p 1),v1 n,v1 (i 22),v1 (i 11)],[]):=by kernel_rfl
theorem rB11 (a n:AS) (j:Nat→AV):pieceW S false 2000 200 162 cB (frL 162 (sB a n 22 11) j) vB11 [1,22,24,32,35,407,408,409,410] [1,5,6,7,8] 7955 wB11 [] = some ([v1 a,v1 (p 1),v1 n,v1 (i 24),v1 (i 12)],[]):=by kernel_rfl
theorem rB12 (a n:AS) (j:Nat→AV):pieceW S false 2000 200 162 cB (frL 162 (sB a n 24 12) j) vB12 [1,22,24,32,35,407,408,409,410] [1,5,6,7,8] 8564 wB12 [] = some ([v1 a,v1 (p 1),v1 n,v1 (i 26),v1 (i 13)],[]):=by kernel_rfl
theorem rB13 (a n:AS) (j:Nat→AV):pieceW S false 2000 200 162 cB (frL 162 (sB a n 26 13) j) vB13 [1,22,24,32,35,407,408,409,410] [1,5,6,7,8] 9173 wB13 [] = some ([v1 a,v1 (p 1),v1 n,v1 (i 28),v1 (i 14)],[]):=by kernel_rfl
theorem rB14 (a n:AS) (j:Nat→AV):pieceW S false 2000 200 162 cB (frL 162 (sB a n 28 14) j) vB14 [1,22,24,32,35,407,408,409,410] [1,5,6,7,8] 9782 wB14 [] = some ([v1 a,v1 (p 1),v1 n,v1 (i 30),v1 (i 15)],[]):=by kernel_rfl
theorem rB15 (a n:AS) (j:Nat→AV):pieceW S false 2000 200 162 cB (frL 162 (sB a n 30 15) j) vB15 [1,22,24,32,35,407,408,409,410] [1,5,6,7,8] 10395 wB15 [] = some ([v1 a,v1 (p 1),v1 n,v1 (i 32),v1 (i 16)],[]):=by kernel_rfl
theorem rB16 (a n:AS) (j:Nat→AV):pieceW S false 2000 200 162 cB (frL 162 (sB a n 32 16) j) vB16 [1,22,24,32,35,407,408,409,410] [1,5,6,7,8] 11008 wB16 [] = some ([v1 a,v1 (p 1),v1 n,v1 (i 34),v1 (i 17)],[]):=by kernel_rfl
theorem rB17 (a n:AS) (j:Nat→AV):pieceW S false 2000 200 162 cB (frL 162 (sB a n 34 17) j) vB17 [1,22,24,32,35,407,408,409,410] [1,5,6,7,8] 11621 wB17 [] = some ([v1 a,v1 (p 1),v1 n,v1 (i 36),v1 (i 18)],[]):=by kernel_rfl
theorem rB18 (a n:AS) (j:Nat→AV):pieceW S false 2000 200 162 cB (frL 162 (sB a n 36 18) j) vB18 [1,22,24,32,35,407,408,409,410] [1,5,6,7,8] 12234 wB18 [] = some ([v1 a,v1 (p 1),v1 n,v1 (i 38),v1 (i 19)],[]):=by kernel_rfl
theorem rB19 (a n:AS) (j:Nat→AV):pieceW S false 2000 200 162 cB (frL 162 (sB a n 38 19) j) vB19 [1,22,24,32,35,407,408,409,410] [1,5,6,7,8] 12847 wB19 [] = some ([v1 a,v1 (p 1),v1 n,v1 (i 40),v1 (i 20)],[]):=by kernel_rfl
theorem rB20 (a n:AS) (j:Nat→AV):pieceW S false 2000 200 162 cB (frL 162 (sB a n 40 20) j) vB20 [1,22,24,32,35,407,408,409,410] [1,5,6,7,8] 13460 wB20 [] = some ([v1 a,v1 (p 1),v1 n,v1 (i 42),v1 (i 21)],[]):=by kernel_rfl
theorem rB21 (a n:AS) (j:Nat→AV):pieceW S false 2000 200 162 cB (frL 162 (sB a n 42 21) j) vB21 [1,22,24,32,35,407,408,409,410] [1,5,6,7,8] 14073 wB21 [] = some ([v1 a,v1 (p 1),v1 n,v1 (i 44),v1 (i 22)],[]):=by kernel_rfl
theorem rB22 (a n:AS) (j:Nat→AV):pieceW S false 2000 200 162 cB (frL 162 (sB a n 44 22) j) vB22 [1,22,24,32,35,407,408,409,410] [1,5,6,7,8] 14686 wB22 [] = some ([v1 a,v1 (p 1),v1 n,v1 (i 46),v1 (i 23)],[]):=by kernel_rfl
theorem rB23 (a n:AS) (j:Nat→AV):pieceW S false 2000 200 162 cB (frL 162 (sB a n 46 23) j) vB23 [1,22,24,32,35,407,408,409,410] [1,5,6,7,8] 15299 wB23 [] = some ([v1 a,v1 (p 1),v1 n,v1 (i 48),v1 (i 24)],[]):=by kernel_rfl
theorem rB24 (a n:AS) (j:Nat→AV):pieceW S false 2000 200 162 cB (frL 162 (sB a n 48 24) j) vB24 [1,22,24,32,35,407,408,409,410] [1,5,6,7,8] 15912 wB24 [] = some ([v1 a,v1 (p 1),v1 n,v1 (i 50),v1 (i 25)],[]):=by kernel_rfl
theorem rB25 (a n:AS) (j:Nat→AV):pieceW S false 2000 200 162 cB (frL 162 (sB a n 50 25) j) vB25 [1,22,24,32,35,407,408,409,410] [1,5,6,7,8] 16525 wB25 [] = some ([v1 a,v1 (p 1),v1 n,v1 (i 52),v1 (i 26)],[]):=by kernel_rfl
theorem rB26 (a n:AS) (j:Nat→AV):pieceW S false 2000 200 162 cB (frL 162 (sB a n 52 26) j) vB26 [1,22,24,32,35,407,408,409,410] [1,5,6,7,8] 17138 wB26 [] = some ([v1 a,v1 (p 1),v1 n,v1 (i 54),v1 (i 27)],[]):=by kernel_rfl
theorem rB27 (a n:AS) (j:Nat→AV):pieceW S false 2000 200 162 cB (frL 162 (sB a n 54 27) j) vB27 [1,22,24,32,35,407,408,409,410] [1,5,6,7,8] 17751 wB27 [] = some ([v1 a,v1 (p 1),v1 n,v1 (i 56),v1 (i 28)],[]):=by kernel_rfl
theorem rB28 (a n:AS) (j:Nat→AV):pieceW S false 2000 200 162 cB (frL 162 (sB a n 56 28) j) vB28 [1,22,24,32,35,407,408,409,410] [1,5,6,7,8] 18364 wB28 [] = some ([v1 a,v1 (p 1),v1 n,v1 (i 58),v1 (i 29)],[]):=by kernel_rfl
theorem rB29 (a n:AS) (j:Nat→AV):pieceW S false 2000 200 162 cB (frL 162 (sB a n 58 29) j) vB29 [1,22,24,32,35,407,408,409,410] [1,5,6,7,8] 18977 wB29 [] = some ([v1 a,v1 (p 1),v1 n,v1 (i 60),v1 (i 30)],[]):=by kernel_rfl
end Go.Proofs.YtmmhjaeekkbceaaGreat
