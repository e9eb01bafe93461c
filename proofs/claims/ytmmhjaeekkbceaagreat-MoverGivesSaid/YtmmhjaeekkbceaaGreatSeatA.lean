/- A part of a proof over the abstract machine. No conditions. -/
import Derived.Test.YtmmhjaeekkbceaaGreatFa3
import Derived.ProofKit
import Derived.Test.YtmmhjaeekkbceaaGreatRows
namespace Go.Proofs.YtmmhjaeekkbceaaGreat
open Go Go.Ab Go.Fa
noncomputable def S:Seat:=⟨Tryz.prog,[(202,.frombits),(193,.bits),(255,.cmpBytes)],[89,41],96,RdFn.of 134 177 Tryz.f96,some (163,LayFn.of 218 Tryz.f163 Tryz.f218),[(177,⟨3,40⟩),(229,⟨2,40⟩),(245,⟨2,40⟩),(248,⟨4,48⟩)]⟩
theorem Tryz.mixed:Tryz.prog.follows .mixedOrders = true:=by kernel_rfl
theorem Tryz.okNB:okNB Tryz.prog = true:=by kernel_rfl
theorem Tryz.okT:OkT Tryz.prog:=okT_ok (by kernel_rfl)
theorem Tryz.own:ownKnob Tryz.prog.godebug = none:=by kernel_rfl
theorem Tryz.laidOut:laidOutB Tryz.prog = true:=by kernel_rfl
theorem ext202:ExtT Tryz.prog 202 .frombits:=⟨_,Tryz.func202,by kernel_rfl,by kernel_rfl,by kernel_rfl,by kernel_rfl⟩
theorem ext193:ExtT Tryz.prog 193 .bits:=⟨_,Tryz.func193,by kernel_rfl,by kernel_rfl,by kernel_rfl,by kernel_rfl⟩
theorem ext255:ExtT Tryz.prog 255 .cmpBytes:=⟨_,Tryz.func255,by kernel_rfl,by kernel_rfl,by kernel_rfl,by kernel_rfl⟩
set_option maxRecDepth 100000 in
theorem S_read:ReadOk Tryz.prog 96 (RdFn.of 134 177 Tryz.f96) :=
 readOk_of (ta:=20) (tb:=4) Tryz.func96 Tryz.func134 rfl rfl (by kernel_rfl) (by kernel_rfl) (by kernel_rfl) (by kernel_rfl) (by kernel_rfl) (by kernel_rfl) (by kernel_rfl)
  (by kernel_rfl) (by kernel_rfl) (by kernel_rfl) (by kernel_rfl) Tryz.underlying20 Tryz.underlying177 rfl (by kernel_rfl) rfl (by kernel_rfl) (by kernel_rfl) (by kernel_rfl) (by kernel_rfl)
set_option maxRecDepth 100000 in
theorem S_lay:LayOk Tryz.prog 163 (LayFn.of 218 Tryz.f163 Tryz.f218) :=
 layOk_of Tryz.func163 Tryz.func218 rfl rfl (by kernel_rfl) (by kernel_rfl) (by kernel_rfl) (by kernel_rfl) (by kernel_rfl) (by kernel_rfl) (by kernel_rfl)
  (by kernel_rfl) (by kernel_rfl) (by kernel_rfl) (by kernel_rfl) (by kernel_rfl) (by kernel_rfl) (by kernel_rfl)
set_option maxRecDepth 100000 in
theorem S_ins177:∃ ρ el info,InsLay Tryz.prog ρ 177 el info∧el < Tryz.prog.types.size∧(⟨3,40⟩:InsFn) = ⟨info.size,info.bytes⟩ :=
 ⟨⟨fun x=>bif Nat.beq x 27 then 207 else 208,fun x=>bif Nat.beq x 22 then 189 else bif Nat.beq x 3 then 3 else bif Nat.beq x 4 then 4 else 0,fun x=>x⟩,245,_,
  ⟨Tryz.mixed,⟨"slices.Insert[[]wardmote/once.told,wardmote/once.told]",#[189,245],by kernel_rfl,Tryz.func177.trans (congrArg some (by kernel_rfl))⟩,⟨_,Tryz.func207,by kernel_rfl,by kernel_rfl,by kernel_rfl,by kernel_rfl⟩,Tryz.underlying3,Tryz.underlying189,rfl⟩,blt_lt (by kernel_rfl),by kernel_rfl⟩
set_option maxRecDepth 100000 in
theorem S_ins229:∃ ρ el info,InsLay Tryz.prog ρ 229 el info∧el < Tryz.prog.types.size∧(⟨2,40⟩:InsFn) = ⟨info.size,info.bytes⟩ :=
 ⟨⟨fun x=>bif Nat.beq x 27 then 240 else 241,fun x=>bif Nat.beq x 22 then 64 else bif Nat.beq x 3 then 3 else bif Nat.beq x 4 then 4 else 0,fun x=>x⟩,115,_,
  ⟨Tryz.mixed,⟨"slices.Insert[[]wardmote/api.Named,wardmote/api.Named]",#[64,115],by kernel_rfl,Tryz.func229.trans (congrArg some (by kernel_rfl))⟩,⟨_,Tryz.func240,by kernel_rfl,by kernel_rfl,by kernel_rfl,by kernel_rfl⟩,Tryz.underlying3,Tryz.underlying64,rfl⟩,blt_lt (by kernel_rfl),by kernel_rfl⟩
set_option maxRecDepth 100000 in
theorem S_ins245:∃ ρ el info,InsLay Tryz.prog ρ 245 el info∧el < Tryz.prog.types.size∧(⟨2,40⟩:InsFn) = ⟨info.size,info.bytes⟩ :=
 ⟨⟨fun x=>bif Nat.beq x 27 then 257 else 258,fun x=>bif Nat.beq x 22 then 111 else bif Nat.beq x 3 then 3 else bif Nat.beq x 4 then 4 else 0,fun x=>x⟩,170,_,
  ⟨Tryz.mixed,⟨"slices.Insert[[]wardmote/api.Column,wardmote/api.Column]",#[111,170],by kernel_rfl,Tryz.func245.trans (congrArg some (by kernel_rfl))⟩,⟨_,Tryz.func257,by kernel_rfl,by kernel_rfl,by kernel_rfl,by kernel_rfl⟩,Tryz.underlying3,Tryz.underlying111,rfl⟩,blt_lt (by kernel_rfl),by kernel_rfl⟩
set_option maxRecDepth 100000 in
theorem S_ins248:∃ ρ el info,InsLay Tryz.prog ρ 248 el info∧el < Tryz.prog.types.size∧(⟨4,48⟩:InsFn) = ⟨info.size,info.bytes⟩ :=
 ⟨⟨fun x=>bif Nat.beq x 27 then 260 else 261,fun x=>bif Nat.beq x 22 then 168 else bif Nat.beq x 3 then 3 else bif Nat.beq x 4 then 4 else 0,fun x=>x⟩,172,_,
  ⟨Tryz.mixed,⟨"slices.Insert[[]wardmote/api.Version,wardmote/api.Version]",#[168,172],by kernel_rfl,Tryz.func248.trans (congrArg some (by kernel_rfl))⟩,⟨_,Tryz.func260,by kernel_rfl,by kernel_rfl,by kernel_rfl,by kernel_rfl⟩,Tryz.underlying3,Tryz.underlying168,rfl⟩,blt_lt (by kernel_rfl),by kernel_rfl⟩
theorem S_draws0:drawsAll Tryz.prog (cutF 0 40 Tryz.prog.funcs.toList) = true:=by kernel_rfl
theorem S_draws40:drawsAll Tryz.prog (cutF 40 40 Tryz.prog.funcs.toList) = true:=by kernel_rfl
theorem S_draws80:drawsAll Tryz.prog (cutF 80 40 Tryz.prog.funcs.toList) = true:=by kernel_rfl
theorem S_draws120:drawsAll Tryz.prog (cutF 120 40 Tryz.prog.funcs.toList) = true:=by kernel_rfl
theorem S_draws160:drawsAll Tryz.prog (cutF 160 40 Tryz.prog.funcs.toList) = true:=by kernel_rfl
theorem S_draws200:drawsAll Tryz.prog (cutF 200 40 Tryz.prog.funcs.toList) = true:=by kernel_rfl
theorem S_draws240:drawsAll Tryz.prog (cutF 240 40 Tryz.prog.funcs.toList) = true:=by kernel_rfl
theorem S_draws280:drawsAll Tryz.prog (cutF 280 40 Tryz.prog.funcs.toList) = true:=by kernel_rfl
theorem S_len:lenLe Tryz.prog.funcs.toList 320:=by unfold lenLe;kernel_rfl
theorem S_take0:drawsAll Tryz.prog (Tryz.prog.funcs.toList.take 0) = true:=draws_nil
theorem S_take40:drawsAll Tryz.prog (Tryz.prog.funcs.toList.take 40) = true:=draws_step (k:=0) (n:=40) S_take0 S_draws0
theorem S_take80:drawsAll Tryz.prog (Tryz.prog.funcs.toList.take 80) = true:=draws_step (k:=40) (n:=40) S_take40 S_draws40
theorem S_take120:drawsAll Tryz.prog (Tryz.prog.funcs.toList.take 120) = true:=draws_step (k:=80) (n:=40) S_take80 S_draws80
theorem S_take160:drawsAll Tryz.prog (Tryz.prog.funcs.toList.take 160) = true:=draws_step (k:=120) (n:=40) S_take120 S_draws120
theorem S_take200:drawsAll Tryz.prog (Tryz.prog.funcs.toList.take 200) = true:=draws_step (k:=160) (n:=40) S_take160 S_draws160
theorem S_take240:drawsAll Tryz.prog (Tryz.prog.funcs.toList.take 240) = true:=draws_step (k:=200) (n:=40) S_take200 S_draws200
theorem S_take280:drawsAll Tryz.prog (Tryz.prog.funcs.toList.take 280) = true:=draws_step (k:=240) (n:=40) S_take240 S_draws240
theorem S_take320:drawsAll Tryz.prog (Tryz.prog.funcs.toList.take 320) = true:=draws_step (k:=280) (n:=40) S_take280 S_draws280
theorem S_draws:drawsAll Tryz.prog Tryz.prog.funcs.toList = true:=draws_end' S_len S_take320
theorem S_ok:SeatOk S where
 okT:=Tryz.okT
 mixed:=Tryz.mixed
 names:=okN_ok Tryz.okNB
 ext:=by
  intro q hq
  simp only [S,List.mem_cons,List.not_mem_nil,or_false] at hq
  rcases hq with rfl | rfl | rfl
  ·exact ext202
  ·exact ext193
  ·exact ext255
 cmp:=by
  intro t ht
  simp only [S,List.mem_cons,List.not_mem_nil,or_false] at ht
  rcases ht with rfl | rfl
  ·exact ⟨⟨_,Tryz.underlying89⟩,by kernel_rfl⟩
  ·exact ⟨⟨_,Tryz.underlying41⟩,by kernel_rfl⟩
 read:=S_read
 lay:=by
  intro q hq
  simp only [S,oqI] at hq
  subst hq
  exact S_lay
 ins:=by
  intro q hq
  simp only [S,List.mem_cons,List.not_mem_nil,or_false] at hq
  rcases hq with rfl | rfl | rfl | rfl
  ·exact S_ins177
  ·exact S_ins229
  ·exact S_ins245
  ·exact S_ins248
 draws:=S_draws
end Go.Proofs.YtmmhjaeekkbceaaGreat
