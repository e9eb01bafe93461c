/- A part of a proof over the abstract machine. No conditions. -/
import Derived.Test.YtiagcnfmgigllaaGreatAb5
import Derived.ProofKit
import Derived.Test.YtiagcnfmgigllaaGreatRows
namespace Go.Proofs.YtiagcnfmgigllaaGreat
open Go Go.Ab Go.Proofs.Tryz
noncomputable def S:SeatK:=⟨prog,[(109,.frombits),(155,.bits),(268,.cmpBytes)],[43,61],some (52,RdFn.of 93 132 f52),none,[23,90,10,18,33,34,35,65,49,66,45,76,74,38,68,113,121,171,69,71,115,114,159,160,206,237,208,241,111,172,213,166,60,103,61,70,31,102,158,112,170,212,244,235,252,253,106,107,108,137,145,142,189,11,222,50,19,51,139,182,181,180,221,36,216,67,110,247,233,265,157,196,197,198,199,231,251,230,195,168,167,209,207,236,254,267,263,256,255,13,25,37,125,64,105,163,203,162,179,269,26],[196,197,198,199,231,251,230,195]⟩
def INS:List (Nat × InsFn):=[(126,⟨3,40⟩),(211,⟨2,40⟩),(257,⟨2,40⟩),(260,⟨4,48⟩)]
def ICE:Nat->Option Bool:=H0Y [119,83,73,43,44,14,28,78,130] [75,165]
namespace Rw
noncomputable def S:SeatK:={ Go.Proofs.YtiagcnfmgigllaaGreat.S with rd:=none,lay:=none,frz:=[160,206,235,253,102,111,213,172,254,267,238,239,240,64,105,259,261,272],own:=[] }
noncomputable abbrev K:Conf:=(confK S).insK INS
theorem hp:PrimOk K:=i0B d0Z
end Rw
def VIA:List Nat:=[166,172,238,239,240,254,64]
noncomputable abbrev K:Conf:=(((confK S).insK INS).via VIA (W Rw.K)).ice ICE
theorem hp:PrimOk K:=k0k
theorem Tryz.mixed:prog.follows .mixedOrders = true:=by kernel_rfl
theorem Tryz.okNB:okNB prog = true:=by kernel_rfl
theorem Tryz.okT:OkT prog:=C0Y (by kernel_rfl)
theorem Tryz.own:ownKnob prog.godebug = none:=by kernel_rfl
theorem Tryz.laidOut:laidOutB prog = true:=by kernel_rfl
theorem D0f:ExtT prog 109 .frombits:=⟨_,func109,by kernel_rfl,by kernel_rfl,by kernel_rfl,by kernel_rfl⟩
theorem C0t:ExtT prog 155 .bits:=⟨_,func155,by kernel_rfl,by kernel_rfl,by kernel_rfl,by kernel_rfl⟩
theorem B0u:ExtT prog 268 .cmpBytes:=⟨_,func268,by kernel_rfl,by kernel_rfl,by kernel_rfl,by kernel_rfl⟩
set_option maxRecDepth 100000 in
theorem B0B:ReadOk prog 52 (RdFn.of 93 132 f52) :=
 u0M (ta:=20) (tb:=4) func52 func93 rfl rfl (by kernel_rfl) (by kernel_rfl) (by kernel_rfl) (by kernel_rfl) (by kernel_rfl) (by kernel_rfl) (by kernel_rfl)
  (by kernel_rfl) (by kernel_rfl) (by kernel_rfl) (by kernel_rfl) underlying20 underlying132 rfl (by kernel_rfl) rfl (by kernel_rfl) (by kernel_rfl) (by kernel_rfl) (by kernel_rfl)
set_option maxRecDepth 100000 in
theorem v0u:∃ ρ el info,InsLay prog ρ 126 el info/\el < prog.types.size/\(⟨3,40⟩:InsFn) = ⟨info.size,info.bytes⟩ :=
 ⟨⟨fun x=>bif Nat.beq x 27 then 175 else 176,fun x=>bif Nat.beq x 22 then 143 else bif Nat.beq x 3 then 3 else bif Nat.beq x 4 then 4 else 0,fun x=>x⟩,202,_,
  ⟨Tryz.mixed,⟨"slices.Insert[[]wardmote/once.told,wardmote/once.told]",#[143,202],by kernel_rfl,func126.trans (congrArg some (by kernel_rfl))⟩,⟨_,func175,by kernel_rfl,by kernel_rfl,by kernel_rfl,by kernel_rfl⟩,underlying3,underlying143,rfl⟩,Nat.le_of_ble_eq_true (by kernel_rfl),by kernel_rfl⟩
set_option maxRecDepth 100000 in
theorem x0c:∃ ρ el info,InsLay prog ρ 211 el info/\el < prog.types.size/\(⟨2,40⟩:InsFn) = ⟨info.size,info.bytes⟩ :=
 ⟨⟨fun x=>bif Nat.beq x 27 then 242 else 243,fun x=>bif Nat.beq x 22 then 48 else bif Nat.beq x 3 then 3 else bif Nat.beq x 4 then 4 else 0,fun x=>x⟩,83,_,
  ⟨Tryz.mixed,⟨"slices.Insert[[]wardmote/api.Named,wardmote/api.Named]",#[48,83],by kernel_rfl,func211.trans (congrArg some (by kernel_rfl))⟩,⟨_,func242,by kernel_rfl,by kernel_rfl,by kernel_rfl,by kernel_rfl⟩,underlying3,underlying48,rfl⟩,Nat.le_of_ble_eq_true (by kernel_rfl),by kernel_rfl⟩
set_option maxRecDepth 100000 in
theorem u0U:∃ ρ el info,InsLay prog ρ 257 el info/\el < prog.types.size/\(⟨2,40⟩:InsFn) = ⟨info.size,info.bytes⟩ :=
 ⟨⟨fun x=>bif Nat.beq x 27 then 270 else 271,fun x=>bif Nat.beq x 22 then 79 else bif Nat.beq x 3 then 3 else bif Nat.beq x 4 then 4 else 0,fun x=>x⟩,91,_,
  ⟨Tryz.mixed,⟨"slices.Insert[[]wardmote/api.Column,wardmote/api.Column]",#[79,91],by kernel_rfl,func257.trans (congrArg some (by kernel_rfl))⟩,⟨_,func270,by kernel_rfl,by kernel_rfl,by kernel_rfl,by kernel_rfl⟩,underlying3,underlying79,rfl⟩,Nat.le_of_ble_eq_true (by kernel_rfl),by kernel_rfl⟩
set_option maxRecDepth 100000 in
theorem w0W:∃ ρ el info,InsLay prog ρ 260 el info/\el < prog.types.size/\(⟨4,48⟩:InsFn) = ⟨info.size,info.bytes⟩ :=
 ⟨⟨fun x=>bif Nat.beq x 27 then 273 else 274,fun x=>bif Nat.beq x 22 then 89 else bif Nat.beq x 3 then 3 else bif Nat.beq x 4 then 4 else 0,fun x=>x⟩,93,_,
  ⟨Tryz.mixed,⟨"slices.Insert[[]wardmote/api.Version,wardmote/api.Version]",#[89,93],by kernel_rfl,func260.trans (congrArg some (by kernel_rfl))⟩,⟨_,func273,by kernel_rfl,by kernel_rfl,by kernel_rfl,by kernel_rfl⟩,underlying3,underlying89,rfl⟩,Nat.le_of_ble_eq_true (by kernel_rfl),by kernel_rfl⟩
theorem w0O:s0F prog INS:=by
 intro q hq
 simp only [INS,oqf,List.not_mem_nil,or_false] at hq
 rcases hq with rfl | rfl | rfl | rfl
 ·exact v0u
 ·exact x0c
 ·exact u0U
 ·exact w0W
theorem S_ok:SeatKOk S where
 okT:=Tryz.okT
 mixed:=Tryz.mixed
 names:=C0s Tryz.okNB
 ext:=by
  intro q hq
  simp only [S,oqf,List.not_mem_nil,or_false] at hq
  rcases hq with rfl | rfl | rfl
  ·exact D0f
  ·exact C0t
  ·exact B0u
 cmp:=by
  intro t ht
  simp only [S,oqf,List.not_mem_nil,or_false] at ht
  rcases ht with rfl | rfl
  ·exact ⟨⟨_,underlying43⟩,by kernel_rfl⟩
  ·exact ⟨⟨_,underlying61⟩,by kernel_rfl⟩
 read:=by
  intro q hq
  simp only [S,oqI] at hq
  subst hq
  exact B0B
 lay:=by
  intro q hq
  cases (show (none:Option (Nat × p0D)) = some q from hq)
theorem Rw.S_ok:SeatKOk Rw.S:=⟨Go.Proofs.YtiagcnfmgigllaaGreat.S_ok.okT,Go.Proofs.YtiagcnfmgigllaaGreat.S_ok.mixed,Go.Proofs.YtiagcnfmgigllaaGreat.S_ok.names,Go.Proofs.YtiagcnfmgigllaaGreat.S_ok.ext,Go.Proofs.YtiagcnfmgigllaaGreat.S_ok.cmp,(fun q hq=>by cases (show (none:Option (Nat × RdFn)) = some q from hq)),(fun q hq=>by cases (show (none:Option (Nat × p0D)) = some q from hq))⟩
theorem Rw.W_K:J3 prog (W Rw.K):=A0l Rw.S_ok w0O
theorem W_K:J3 prog (W K):=z0X S_ok w0O Rw.W_K
end Go.Proofs.YtiagcnfmgigllaaGreat
