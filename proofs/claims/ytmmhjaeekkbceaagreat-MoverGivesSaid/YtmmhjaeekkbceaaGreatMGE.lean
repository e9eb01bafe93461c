/- A part of a proof over the abstract machine. No conditions. -/
import Derived.Test.YtmmhjaeekkbceaaGreatMGL4
import Derived.Test.YtmmhjaeekkbceaaGreatMGA
import Derived.Test.YtmmhjaeekkbceaaGreatMGM1
import Derived.Test.YtmmhjaeekkbceaaGreatMGM2
import Derived.Test.YtmmhjaeekkbceaaGreatMGR1
import Derived.Test.YtmmhjaeekkbceaaGreatMGR2
import Derived.Test.YtmmhjaeekkbceaaGreatMGR3
import Derived.Test.YtmmhjaeekkbceaaGreatMGT1
import Derived.Test.YtmmhjaeekkbceaaGreatMGT2
import Derived.Test.YtmmhjaeekkbceaaGreatMGT3
import Derived.Test.YtmmhjaeekkbceaaGreatMGT4
import Derived.Test.YtmmhjaeekkbceaaGreatMGT5
import Derived.Test.YtmmhjaeekkbceaaGreatMGT6
import Derived.Test.YtmmhjaeekkbceaaGreatMGT7
namespace Go.Proofs.YtmmhjaeekkbceaaGreat
open Go Go.Ab Go.Fa
set_option maxRecDepth 1000000
set_option maxHeartbeats 0
def VB:Nat→View
 | 0=>vB0
 | 1=>vB1
 | 2=>vB2
 | 3=>vB3
 | 4=>vB4
 | 5=>vB5
 | 6=>vB6
 | 7=>vB7
 | 8=>vB8
 | 9=>vB9
 | 10=>vB10
 | 11=>vB11
 | 12=>vB12
 | 13=>vB13
 | 14=>vB14
 | 15=>vB15
 | 16=>vB16
 | 17=>vB17
 | 18=>vB18
 | 19=>vB19
 | 20=>vB20
 | 21=>vB21
 | 22=>vB22
 | 23=>vB23
 | 24=>vB24
 | 25=>vB25
 | 26=>vB26
 | 27=>vB27
 | 28=>vB28
 | 29=>vB29
 | _=>vB30
theorem put_c {a nn:AS} {j:Nat→AV} {q k next:Nat} {V:View} {un:List Nat} {wt:List (Nat × Blk)} (hr:pieceW S false 2000 200 162 cB (frL 162 (sB a nn q k) j) V un [1,5,6,7,8] next wt [] = some ([v1 a,v1 (p 1),v1 nn,v1 (i (q + 2)),v1 (i (k + 1))],[])) {h:H} (kw:Kw V h) :
  ∃ j' h',X K cB (frL 162 (sB a nn q k) j) h = some (.normal,frL 162 (sB a nn (q + 2) (k + 1)) j',h')∧Kw ⟨next,wt++V.l⟩ h' :=
 piece_fr (xs:=[a,p 1,nn,i (q + 2),i (k + 1)]) hr dB (frL_len ..) (by omega) kw
theorem puts_c:∀ k,k < 30→∀ (a nn:AS) (j:Nat→AV) (h:H),Kw (VB k) h→∃ j' h',X K cB (frL 162 (sB a nn (2 * k) k) j) h = some (.normal,frL 162 (sB a nn (2 * k + 2) (k + 1)) j',h')∧Kw (VB (k + 1)) h':=by
 intro k hk a nn j h kw
 match k,hk,kw with
 | 0,_,kw=>exact put_c (rB0 a nn j) kw
 | 1,_,kw=>exact put_c (rB1 a nn j) kw
 | 2,_,kw=>exact put_c (rB2 a nn j) kw
 | 3,_,kw=>exact put_c (rB3 a nn j) kw
 | 4,_,kw=>exact put_c (rB4 a nn j) kw
 | 5,_,kw=>exact put_c (rB5 a nn j) kw
 | 6,_,kw=>exact put_c (rB6 a nn j) kw
 | 7,_,kw=>exact put_c (rB7 a nn j) kw
 | 8,_,kw=>exact put_c (rB8 a nn j) kw
 | 9,_,kw=>exact put_c (rB9 a nn j) kw
 | 10,_,kw=>exact put_c (rB10 a nn j) kw
 | 11,_,kw=>exact put_c (rB11 a nn j) kw
 | 12,_,kw=>exact put_c (rB12 a nn j) kw
 | 13,_,kw=>exact put_c (rB13 a nn j) kw
 | 14,_,kw=>exact put_c (rB14 a nn j) kw
 | 15,_,kw=>exact put_c (rB15 a nn j) kw
 | 16,_,kw=>exact put_c (rB16 a nn j) kw
 | 17,_,kw=>exact put_c (rB17 a nn j) kw
 | 18,_,kw=>exact put_c (rB18 a nn j) kw
 | 19,_,kw=>exact put_c (rB19 a nn j) kw
 | 20,_,kw=>exact put_c (rB20 a nn j) kw
 | 21,_,kw=>exact put_c (rB21 a nn j) kw
 | 22,_,kw=>exact put_c (rB22 a nn j) kw
 | 23,_,kw=>exact put_c (rB23 a nn j) kw
 | 24,_,kw=>exact put_c (rB24 a nn j) kw
 | 25,_,kw=>exact put_c (rB25 a nn j) kw
 | 26,_,kw=>exact put_c (rB26 a nn j) kw
 | 27,_,kw=>exact put_c (rB27 a nn j) kw
 | 28,_,kw=>exact put_c (rB28 a nn j) kw
 | 29,_,kw=>exact put_c (rB29 a nn j) kw
 | k + 30,h,_=>exact absurd h (by omega)
def Ends (vM:View) (k:Nat):Prop:=∀ h,Kw vM h→∃ h1 h2,W K 5 [.one (p 0),.agg (cmdM (rwn k))] (h.new lit) = some (.ret (.one (i 0)) h1)∧W K 6 [.one (p 1),.one (i 2)] h1 = some (.ret (.tup []) h2)∧∀ j,∃ fr' h',X K cE (frL 162 [(5,.one (p 1))] j) h2 = some (.ret,fr',h')∧Fr.get fr' 4 = .one (.bool true)
theorem ends_of {vM:View} {k:Nat} {un1 un2 un3 un4:List Nat} {n1 n2 n3 n4:Nat} {w1 w2 w3 x3:List (Nat × Blk)} {bs:List Nat}
  (hR:pieceW S true 2000 200 28 cW (.one (p 0)::.agg (cmdM (rwn k))::List.replicate 26 .undef) ⟨vM.next + 1,(vM.next,lit)::vM.l⟩ un1 [4] n1 w1 [] = some ([v1 (i 0)],[]))
  (hS:pieceW S false 2000 200 32 cS (.one (p 1)::.one (i 2)::List.replicate 30 .undef) ⟨n1,w1++((vM.next,lit)::vM.l)⟩ un2 [0,1,4,5] n2 w2 [] = some ([v1 (p 1),v1 (i 2),v1 (i 0),v1 (i 2)],[]))
  (hT:∀ j,pieceW S false 2000 200 32 cT (frL 32 sS j) ⟨n2,w2++(w1++((vM.next,lit)::vM.l))⟩ un3 [0] n3 w3 bs = some ([v1 (p 1)],x3))
  (hF:∀ j,pieceW S true 2000 200 162 cE (frL 162 [(5,.one (p 1))] j) ⟨n3,x3++(w3++(w2++(w1++((vM.next,lit)::vM.l))))⟩ un4 [4] n4 [] bs = some ([v1 (.bool true)],x3)):Ends vM k:=by
 intro h kw
 obtain ⟨h1,e1,kw1⟩:=want_c _ hR (Kw.new kw lit)
 obtain ⟨h2,e2,kw2⟩:=settle_c hS hT kw1
 refine ⟨h1,h2,e1,e2,fun j=>?_⟩
 obtain ⟨j',h',e3,_⟩:=piece_fr (xs:=[.bool true]) (hF j) dF' (frL_len ..) (by omega) kw2
 exact ⟨_,h',e3,by rw [frL_get (by omega)];rfl⟩
def Merges (n:Nat) (vB vM:View):Prop:=∀ (a:AS) (j:Nat→AV) (h:H),Kw vB h→∃ j' h',X K cM (frL 162 [(1,.one a),(5,.one (p 1)),(6,.one (i n))] j) h = some (.normal,frL 162 [(1,.one a),(5,.one (p 1))] j',h')∧Kw vM h'
theorem merges_of {n next:Nat} {V:View} {un:List Nat} {wt:List (Nat × Blk)} (hr:∀ (a:AS) (j:Nat→AV),pieceW S false 2000 200 162 cM (frL 162 [(1,.one a),(5,.one (p 1)),(6,.one (i n))] j) V un [1,5] next wt [] = some ([v1 a,v1 (p 1)],[])):Merges n V ⟨next,wt++V.l⟩ :=
 fun a j h kw=>piece_fr (xs:=[a,p 1]) (hr a j) dM (frL_len ..) (by omega) kw
def All (n:Nat):Prop:=∃ vM,Merges n (VB n) vM∧(∃ c1 c2 c3 c4,findB vM.l 1 = some ⟨0,[5],true,[p 0,c1,c2,c3,c4]⟩)∧1 < vM.next∧∀ k,k < 8→Ends vM k
theorem all10:All 10:=⟨vM10,merges_of rM10,⟨_,_,_,_,rfl⟩,by simp [vM10],fun k hk=>match k,hk with
 | 0,_=>ends_of rR10_0 rS10_0 (rT10 _) (rF10 _)
 | 1,_=>ends_of rR10_1 rS10_1 (rT10 _) (rF10 _)
 | 2,_=>ends_of rR10_2 rS10_2 (rT10 _) (rF10 _)
 | 3,_=>ends_of rR10_3 rS10_3 (rT10 _) (rF10 _)
 | 4,_=>ends_of rR10_4 rS10_4 (rT10 _) (rF10 _)
 | 5,_=>ends_of rR10_5 rS10_5 (rT10 _) (rF10 _)
 | 6,_=>ends_of rR10_6 rS10_6 (rT10 _) (rF10 _)
 | 7,_=>ends_of rR10_7 rS10_7 (rT10 _) (rF10 _)
 | k + 8,h=>absurd h (by omega)⟩
theorem all11:All 11:=⟨vM11,merges_of rM11,⟨_,_,_,_,rfl⟩,by simp [vM11],fun k hk=>match k,hk with
 | 0,_=>ends_of rR11_0 rS11_0 (rT11 _) (rF11 _)
 | 1,_=>ends_of rR11_1 rS11_1 (rT11 _) (rF11 _)
 | 2,_=>ends_of rR11_2 rS11_2 (rT11 _) (rF11 _)
 | 3,_=>ends_of rR11_3 rS11_3 (rT11 _) (rF11 _)
 | 4,_=>ends_of rR11_4 rS11_4 (rT11 _) (rF11 _)
 | 5,_=>ends_of rR11_5 rS11_5 (rT11 _) (rF11 _)
 | 6,_=>ends_of rR11_6 rS11_6 (rT11 _) (rF11 _)
 | 7,_=>ends_of rR11_7 rS11_7 (rT11 _) (rF11 _)
 | k + 8,h=>absurd h (by omega)⟩
theorem all12:All 12:=⟨vM12,merges_of rM12,⟨_,_,_,_,rfl⟩,by simp [vM12],fun k hk=>match k,hk with
 | 0,_=>ends_of rR12_0 rS12_0 (rT12 _) (rF12 _)
 | 1,_=>ends_of rR12_1 rS12_1 (rT12 _) (rF12 _)
 | 2,_=>ends_of rR12_2 rS12_2 (rT12 _) (rF12 _)
 | 3,_=>ends_of rR12_3 rS12_3 (rT12 _) (rF12 _)
 | 4,_=>ends_of rR12_4 rS12_4 (rT12 _) (rF12 _)
 | 5,_=>ends_of rR12_5 rS12_5 (rT12 _) (rF12 _)
 | 6,_=>ends_of rR12_6 rS12_6 (rT12 _) (rF12 _)
 | 7,_=>ends_of rR12_7 rS12_7 (rT12 _) (rF12 _)
 | k + 8,h=>absurd h (by omega)⟩
theorem all13:All 13:=⟨vM13,merges_of rM13,⟨_,_,_,_,rfl⟩,by simp [vM13],fun k hk=>match k,hk with
 | 0,_=>ends_of rR13_0 rS13_0 (rT13 _) (rF13 _)
 | 1,_=>ends_of rR13_1 rS13_1 (rT13 _) (rF13 _)
 | 2,_=>ends_of rR13_2 rS13_2 (rT13 _) (rF13 _)
 | 3,_=>ends_of rR13_3 rS13_3 (rT13 _) (rF13 _)
 | 4,_=>ends_of rR13_4 rS13_4 (rT13 _) (rF13 _)
 | 5,_=>ends_of rR13_5 rS13_5 (rT13 _) (rF13 _)
 | 6,_=>ends_of rR13_6 rS13_6 (rT13 _) (rF13 _)
 | 7,_=>ends_of rR13_7 rS13_7 (rT13 _) (rF13 _)
 | k + 8,h=>absurd h (by omega)⟩
theorem all14:All 14:=⟨vM14,merges_of rM14,⟨_,_,_,_,rfl⟩,by simp [vM14],fun k hk=>match k,hk with
 | 0,_=>ends_of rR14_0 rS14_0 (rT14 _) (rF14 _)
 | 1,_=>ends_of rR14_1 rS14_1 (rT14 _) (rF14 _)
 | 2,_=>ends_of rR14_2 rS14_2 (rT14 _) (rF14 _)
 | 3,_=>ends_of rR14_3 rS14_3 (rT14 _) (rF14 _)
 | 4,_=>ends_of rR14_4 rS14_4 (rT14 _) (rF14 _)
 | 5,_=>ends_of rR14_5 rS14_5 (rT14 _) (rF14 _)
 | 6,_=>ends_of rR14_6 rS14_6 (rT14 _) (rF14 _)
 | 7,_=>ends_of rR14_7 rS14_7 (rT14 _) (rF14 _)
 | k + 8,h=>absurd h (by omega)⟩
theorem all15:All 15:=⟨vM15,merges_of rM15,⟨_,_,_,_,rfl⟩,by simp [vM15],fun k hk=>match k,hk with
 | 0,_=>ends_of rR15_0 rS15_0 (rT15 _) (rF15 _)
 | 1,_=>ends_of rR15_1 rS15_1 (rT15 _) (rF15 _)
 | 2,_=>ends_of rR15_2 rS15_2 (rT15 _) (rF15 _)
 | 3,_=>ends_of rR15_3 rS15_3 (rT15 _) (rF15 _)
 | 4,_=>ends_of rR15_4 rS15_4 (rT15 _) (rF15 _)
 | 5,_=>ends_of rR15_5 rS15_5 (rT15 _) (rF15 _)
 | 6,_=>ends_of rR15_6 rS15_6 (rT15 _) (rF15 _)
 | 7,_=>ends_of rR15_7 rS15_7 (rT15 _) (rF15 _)
 | k + 8,h=>absurd h (by omega)⟩
theorem all16:All 16:=⟨vM16,merges_of rM16,⟨_,_,_,_,rfl⟩,by simp [vM16],fun k hk=>match k,hk with
 | 0,_=>ends_of rR16_0 rS16_0 (rT16 _) (rF16 _)
 | 1,_=>ends_of rR16_1 rS16_1 (rT16 _) (rF16 _)
 | 2,_=>ends_of rR16_2 rS16_2 (rT16 _) (rF16 _)
 | 3,_=>ends_of rR16_3 rS16_3 (rT16 _) (rF16 _)
 | 4,_=>ends_of rR16_4 rS16_4 (rT16 _) (rF16 _)
 | 5,_=>ends_of rR16_5 rS16_5 (rT16 _) (rF16 _)
 | 6,_=>ends_of rR16_6 rS16_6 (rT16 _) (rF16 _)
 | 7,_=>ends_of rR16_7 rS16_7 (rT16 _) (rF16 _)
 | k + 8,h=>absurd h (by omega)⟩
theorem all17:All 17:=⟨vM17,merges_of rM17,⟨_,_,_,_,rfl⟩,by simp [vM17],fun k hk=>match k,hk with
 | 0,_=>ends_of rR17_0 rS17_0 (rT17a _) (rF17a _)
 | 1,_=>ends_of rR17_1 rS17_1 (rT17a _) (rF17a _)
 | 2,_=>ends_of rR17_2 rS17_2 (rT17b _) (rF17b _)
 | 3,_=>ends_of rR17_3 rS17_3 (rT17b _) (rF17b _)
 | 4,_=>ends_of rR17_4 rS17_4 (rT17b _) (rF17b _)
 | 5,_=>ends_of rR17_5 rS17_5 (rT17b _) (rF17b _)
 | 6,_=>ends_of rR17_6 rS17_6 (rT17b _) (rF17b _)
 | 7,_=>ends_of rR17_7 rS17_7 (rT17a _) (rF17a _)
 | k + 8,h=>absurd h (by omega)⟩
theorem all18:All 18:=⟨vM18,merges_of rM18,⟨_,_,_,_,rfl⟩,by simp [vM18],fun k hk=>match k,hk with
 | 0,_=>ends_of rR18_0 rS18_0 (rT18a _) (rF18a _)
 | 1,_=>ends_of rR18_1 rS18_1 (rT18a _) (rF18a _)
 | 2,_=>ends_of rR18_2 rS18_2 (rT18b _) (rF18b _)
 | 3,_=>ends_of rR18_3 rS18_3 (rT18b _) (rF18b _)
 | 4,_=>ends_of rR18_4 rS18_4 (rT18b _) (rF18b _)
 | 5,_=>ends_of rR18_5 rS18_5 (rT18b _) (rF18b _)
 | 6,_=>ends_of rR18_6 rS18_6 (rT18b _) (rF18b _)
 | 7,_=>ends_of rR18_7 rS18_7 (rT18a _) (rF18a _)
 | k + 8,h=>absurd h (by omega)⟩
theorem all19:All 19:=⟨vM19,merges_of rM19,⟨_,_,_,_,rfl⟩,by simp [vM19],fun k hk=>match k,hk with
 | 0,_=>ends_of rR19_0 rS19_0 (rT19a _) (rF19a _)
 | 1,_=>ends_of rR19_1 rS19_1 (rT19a _) (rF19a _)
 | 2,_=>ends_of rR19_2 rS19_2 (rT19b _) (rF19b _)
 | 3,_=>ends_of rR19_3 rS19_3 (rT19b _) (rF19b _)
 | 4,_=>ends_of rR19_4 rS19_4 (rT19b _) (rF19b _)
 | 5,_=>ends_of rR19_5 rS19_5 (rT19b _) (rF19b _)
 | 6,_=>ends_of rR19_6 rS19_6 (rT19b _) (rF19b _)
 | 7,_=>ends_of rR19_7 rS19_7 (rT19a _) (rF19a _)
 | k + 8,h=>absurd h (by omega)⟩
theorem all20:All 20:=⟨vM20,merges_of rM20,⟨_,_,_,_,rfl⟩,by simp [vM20],fun k hk=>match k,hk with
 | 0,_=>ends_of rR20_0 rS20_0 (rT20a _) (rF20a _)
 | 1,_=>ends_of rR20_1 rS20_1 (rT20a _) (rF20a _)
 | 2,_=>ends_of rR20_2 rS20_2 (rT20b _) (rF20b _)
 | 3,_=>ends_of rR20_3 rS20_3 (rT20b _) (rF20b _)
 | 4,_=>ends_of rR20_4 rS20_4 (rT20b _) (rF20b _)
 | 5,_=>ends_of rR20_5 rS20_5 (rT20b _) (rF20b _)
 | 6,_=>ends_of rR20_6 rS20_6 (rT20b _) (rF20b _)
 | 7,_=>ends_of rR20_7 rS20_7 (rT20a _) (rF20a _)
 | k + 8,h=>absurd h (by omega)⟩
theorem all21:All 21:=⟨vM21,merges_of rM21,⟨_,_,_,_,rfl⟩,by simp [vM21],fun k hk=>match k,hk with
 | 0,_=>ends_of rR21_0 rS21_0 (rT21a _) (rF21a _)
 | 1,_=>ends_of rR21_1 rS21_1 (rT21a _) (rF21a _)
 | 2,_=>ends_of rR21_2 rS21_2 (rT21b _) (rF21b _)
 | 3,_=>ends_of rR21_3 rS21_3 (rT21b _) (rF21b _)
 | 4,_=>ends_of rR21_4 rS21_4 (rT21b _) (rF21b _)
 | 5,_=>ends_of rR21_5 rS21_5 (rT21b _) (rF21b _)
 | 6,_=>ends_of rR21_6 rS21_6 (rT21b _) (rF21b _)
 | 7,_=>ends_of rR21_7 rS21_7 (rT21a _) (rF21a _)
 | k + 8,h=>absurd h (by omega)⟩
theorem all22:All 22:=⟨vM22,merges_of rM22,⟨_,_,_,_,rfl⟩,by simp [vM22],fun k hk=>match k,hk with
 | 0,_=>ends_of rR22_0 rS22_0 (rT22a _) (rF22a _)
 | 1,_=>ends_of rR22_1 rS22_1 (rT22a _) (rF22a _)
 | 2,_=>ends_of rR22_2 rS22_2 (rT22b _) (rF22b _)
 | 3,_=>ends_of rR22_3 rS22_3 (rT22b _) (rF22b _)
 | 4,_=>ends_of rR22_4 rS22_4 (rT22b _) (rF22b _)
 | 5,_=>ends_of rR22_5 rS22_5 (rT22b _) (rF22b _)
 | 6,_=>ends_of rR22_6 rS22_6 (rT22b _) (rF22b _)
 | 7,_=>ends_of rR22_7 rS22_7 (rT22a _) (rF22a _)
 | k + 8,h=>absurd h (by omega)⟩
theorem all23:All 23:=⟨vM23,merges_of rM23,⟨_,_,_,_,rfl⟩,by simp [vM23],fun k hk=>match k,hk with
 | 0,_=>ends_of rR23_0 rS23_0 (rT23a _) (rF23a _)
 | 1,_=>ends_of rR23_1 rS23_1 (rT23a _) (rF23a _)
 | 2,_=>ends_of rR23_2 rS23_2 (rT23b _) (rF23b _)
 | 3,_=>ends_of rR23_3 rS23_3 (rT23b _) (rF23b _)
 | 4,_=>ends_of rR23_4 rS23_4 (rT23b _) (rF23b _)
 | 5,_=>ends_of rR23_5 rS23_5 (rT23b _) (rF23b _)
 | 6,_=>ends_of rR23_6 rS23_6 (rT23b _) (rF23b _)
 | 7,_=>ends_of rR23_7 rS23_7 (rT23a _) (rF23a _)
 | k + 8,h=>absurd h (by omega)⟩
theorem all24:All 24:=⟨vM24,merges_of rM24,⟨_,_,_,_,rfl⟩,by simp [vM24],fun k hk=>match k,hk with
 | 0,_=>ends_of rR24_0 rS24_0 (rT24a _) (rF24a _)
 | 1,_=>ends_of rR24_1 rS24_1 (rT24a _) (rF24a _)
 | 2,_=>ends_of rR24_2 rS24_2 (rT24b _) (rF24b _)
 | 3,_=>ends_of rR24_3 rS24_3 (rT24b _) (rF24b _)
 | 4,_=>ends_of rR24_4 rS24_4 (rT24b _) (rF24b _)
 | 5,_=>ends_of rR24_5 rS24_5 (rT24b _) (rF24b _)
 | 6,_=>ends_of rR24_6 rS24_6 (rT24b _) (rF24b _)
 | 7,_=>ends_of rR24_7 rS24_7 (rT24a _) (rF24a _)
 | k + 8,h=>absurd h (by omega)⟩
theorem all25:All 25:=⟨vM25,merges_of rM25,⟨_,_,_,_,rfl⟩,by simp [vM25],fun k hk=>match k,hk with
 | 0,_=>ends_of rR25_0 rS25_0 (rT25a _) (rF25a _)
 | 1,_=>ends_of rR25_1 rS25_1 (rT25a _) (rF25a _)
 | 2,_=>ends_of rR25_2 rS25_2 (rT25b _) (rF25b _)
 | 3,_=>ends_of rR25_3 rS25_3 (rT25b _) (rF25b _)
 | 4,_=>ends_of rR25_4 rS25_4 (rT25b _) (rF25b _)
 | 5,_=>ends_of rR25_5 rS25_5 (rT25b _) (rF25b _)
 | 6,_=>ends_of rR25_6 rS25_6 (rT25b _) (rF25b _)
 | 7,_=>ends_of rR25_7 rS25_7 (rT25a _) (rF25a _)
 | k + 8,h=>absurd h (by omega)⟩
theorem all26:All 26:=⟨vM26,merges_of rM26,⟨_,_,_,_,rfl⟩,by simp [vM26],fun k hk=>match k,hk with
 | 0,_=>ends_of rR26_0 rS26_0 (rT26a _) (rF26a _)
 | 1,_=>ends_of rR26_1 rS26_1 (rT26a _) (rF26a _)
 | 2,_=>ends_of rR26_2 rS26_2 (rT26b _) (rF26b _)
 | 3,_=>ends_of rR26_3 rS26_3 (rT26b _) (rF26b _)
 | 4,_=>ends_of rR26_4 rS26_4 (rT26b _) (rF26b _)
 | 5,_=>ends_of rR26_5 rS26_5 (rT26b _) (rF26b _)
 | 6,_=>ends_of rR26_6 rS26_6 (rT26b _) (rF26b _)
 | 7,_=>ends_of rR26_7 rS26_7 (rT26a _) (rF26a _)
 | k + 8,h=>absurd h (by omega)⟩
theorem all27:All 27:=⟨vM27,merges_of rM27,⟨_,_,_,_,rfl⟩,by simp [vM27],fun k hk=>match k,hk with
 | 0,_=>ends_of rR27_0 rS27_0 (rT27a _) (rF27a _)
 | 1,_=>ends_of rR27_1 rS27_1 (rT27a _) (rF27a _)
 | 2,_=>ends_of rR27_2 rS27_2 (rT27b _) (rF27b _)
 | 3,_=>ends_of rR27_3 rS27_3 (rT27b _) (rF27b _)
 | 4,_=>ends_of rR27_4 rS27_4 (rT27b _) (rF27b _)
 | 5,_=>ends_of rR27_5 rS27_5 (rT27b _) (rF27b _)
 | 6,_=>ends_of rR27_6 rS27_6 (rT27b _) (rF27b _)
 | 7,_=>ends_of rR27_7 rS27_7 (rT27a _) (rF27a _)
 | k + 8,h=>absurd h (by omega)⟩
theorem all28:All 28:=⟨vM28,merges_of rM28,⟨_,_,_,_,rfl⟩,by simp [vM28],fun k hk=>match k,hk with
 | 0,_=>ends_of rR28_0 rS28_0 (rT28a _) (rF28a _)
 | 1,_=>ends_of rR28_1 rS28_1 (rT28a _) (rF28a _)
 | 2,_=>ends_of rR28_2 rS28_2 (rT28b _) (rF28b _)
 | 3,_=>ends_of rR28_3 rS28_3 (rT28b _) (rF28b _)
 | 4,_=>ends_of rR28_4 rS28_4 (rT28b _) (rF28b _)
 | 5,_=>ends_of rR28_5 rS28_5 (rT28b _) (rF28b _)
 | 6,_=>ends_of rR28_6 rS28_6 (rT28b _) (rF28b _)
 | 7,_=>ends_of rR28_7 rS28_7 (rT28a _) (rF28a _)
 | k + 8,h=>absurd h (by omega)⟩
theorem all29:All 29:=⟨vM29,merges_of rM29,⟨_,_,_,_,rfl⟩,by simp [vM29],fun k hk=>match k,hk with
 | 0,_=>ends_of rR29_0 rS29_0 (rT29a _) (rF29a _)
 | 1,_=>ends_of rR29_1 rS29_1 (rT29a _) (rF29a _)
 | 2,_=>ends_of rR29_2 rS29_2 (rT29b _) (rF29b _)
 | 3,_=>ends_of rR29_3 rS29_3 (rT29b _) (rF29b _)
 | 4,_=>ends_of rR29_4 rS29_4 (rT29b _) (rF29b _)
 | 5,_=>ends_of rR29_5 rS29_5 (rT29b _) (rF29b _)
 | 6,_=>ends_of rR29_6 rS29_6 (rT29b _) (rF29b _)
 | 7,_=>ends_of rR29_7 rS29_7 (rT29a _) (rF29a _)
 | k + 8,h=>absurd h (by omega)⟩
theorem all30:All 30:=⟨vM30,merges_of rM30,⟨_,_,_,_,rfl⟩,by simp [vM30],fun k hk=>match k,hk with
 | 0,_=>ends_of rR30_0 rS30_0 (rT30a _) (rF30a _)
 | 1,_=>ends_of rR30_1 rS30_1 (rT30a _) (rF30a _)
 | 2,_=>ends_of rR30_2 rS30_2 (rT30b _) (rF30b _)
 | 3,_=>ends_of rR30_3 rS30_3 (rT30b _) (rF30b _)
 | 4,_=>ends_of rR30_4 rS30_4 (rT30b _) (rF30b _)
 | 5,_=>ends_of rR30_5 rS30_5 (rT30b _) (rF30b _)
 | 6,_=>ends_of rR30_6 rS30_6 (rT30b _) (rF30b _)
 | 7,_=>ends_of rR30_7 rS30_7 (rT30a _) (rF30a _)
 | k + 8,h=>absurd h (by omega)⟩
theorem all_n:∀ n,10 ≤ n→n ≤ 30→All n:=by
 intro n h1 h2
 match n,h1,h2 with
 | 10,_,_=>exact all10
 | 11,_,_=>exact all11
 | 12,_,_=>exact all12
 | 13,_,_=>exact all13
 | 14,_,_=>exact all14
 | 15,_,_=>exact all15
 | 16,_,_=>exact all16
 | 17,_,_=>exact all17
 | 18,_,_=>exact all18
 | 19,_,_=>exact all19
 | 20,_,_=>exact all20
 | 21,_,_=>exact all21
 | 22,_,_=>exact all22
 | 23,_,_=>exact all23
 | 24,_,_=>exact all24
 | 25,_,_=>exact all25
 | 26,_,_=>exact all26
 | 27,_,_=>exact all27
 | 28,_,_=>exact all28
 | 29,_,_=>exact all29
 | 30,_,_=>exact all30
 | n + 31,_,h=>exact absurd h (by omega)
end Go.Proofs.YtmmhjaeekkbceaaGreat
