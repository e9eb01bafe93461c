/- A part of a proof over the abstract machine. No conditions. -/
import Derived.Test.YtkpmdlcmbemgdaaGreatFa3
import Derived.ProofKit
import Derived.Test.YtkpmdlcmbemgdaaGreatRows
namespace Go.Proofs.YtkpmdlcmbemgdaaGreat
open Go Go.Ab Go.Fa
noncomputable def S:Seat:=⟨Tryz.prog,[(376,.frombits),(377,.bits),(387,.cmpBytes),(346,.cmpStr)],[112,168],76,RdFn.of 108 191 Tryz.f76,some (231,LayFn.of 309 Tryz.f231 Tryz.f309),[(175,⟨3,40⟩),(282,⟨3,40⟩),(392,⟨2,40⟩),(402,⟨2,40⟩),(405,⟨4,48⟩)]⟩
theorem Tryz.mixed:Tryz.prog.follows .mixedOrders = true:=by kernel_rfl
theorem Tryz.okNB:okNB Tryz.prog = true:=by kernel_rfl
theorem Tryz.okT:OkT Tryz.prog:=okT_ok (by kernel_rfl)
theorem Tryz.own:ownKnob Tryz.prog.godebug = none:=by kernel_rfl
theorem Tryz.laidOut:laidOutB Tryz.prog = true:=by kernel_rfl
theorem ext376:ExtT Tryz.prog 376 .frombits:=⟨_,Tryz.func376,by kernel_rfl,by kernel_rfl,by kernel_rfl,by kernel_rfl⟩
theorem ext377:ExtT Tryz.prog 377 .bits:=⟨_,Tryz.func377,by kernel_rfl,by kernel_rfl,by kernel_rfl,by kernel_rfl⟩
theorem ext387:ExtT Tryz.prog 387 .cmpBytes:=⟨_,Tryz.func387,by kernel_rfl,by kernel_rfl,by kernel_rfl,by kernel_rfl⟩
theorem ext346:ExtT Tryz.prog 346 .cmpStr:=⟨_,Tryz.func346,by kernel_rfl,by kernel_rfl,by kernel_rfl,by kernel_rfl⟩
set_option maxRecDepth 100000 in
theorem S_read:ReadOk Tryz.prog 76 (RdFn.of 108 191 Tryz.f76) :=
 readOk_of (ta:=20) (tb:=4) Tryz.func76 Tryz.func108 rfl rfl (by kernel_rfl) (by kernel_rfl) (by kernel_rfl) (by kernel_rfl) (by kernel_rfl) (by kernel_rfl) (by kernel_rfl)
  (by kernel_rfl) (by kernel_rfl) (by kernel_rfl) (by kernel_rfl) Tryz.underlying20 Tryz.underlying191 rfl (by kernel_rfl) rfl (by kernel_rfl) (by kernel_rfl) (by kernel_rfl) (by kernel_rfl)
set_option maxRecDepth 100000 in
theorem S_lay:LayOk Tryz.prog 231 (LayFn.of 309 Tryz.f231 Tryz.f309) :=
 layOk_of Tryz.func231 Tryz.func309 rfl rfl (by kernel_rfl) (by kernel_rfl) (by kernel_rfl) (by kernel_rfl) (by kernel_rfl) (by kernel_rfl) (by kernel_rfl)
  (by kernel_rfl) (by kernel_rfl) (by kernel_rfl) (by kernel_rfl) (by kernel_rfl) (by kernel_rfl) (by kernel_rfl)
set_option maxRecDepth 100000 in
theorem S_ins175:∃ ρ el info,InsLay Tryz.prog ρ 175 el info∧el < Tryz.prog.types.size∧(⟨3,40⟩:InsFn) = ⟨info.size,info.bytes⟩ :=
 ⟨⟨fun x=>bif Nat.beq x 27 then 235 else 236,fun x=>bif Nat.beq x 22 then 99 else bif Nat.beq x 3 then 3 else bif Nat.beq x 4 then 4 else 0,fun x=>x⟩,221,_,
  ⟨Tryz.mixed,⟨"slices.Insert[[]wardmote/api.Vote,wardmote/api.Vote]",#[99,221],by kernel_rfl,Tryz.func175.trans (congrArg some (by kernel_rfl))⟩,⟨_,Tryz.func235,by kernel_rfl,by kernel_rfl,by kernel_rfl,by kernel_rfl⟩,Tryz.underlying3,Tryz.underlying99,rfl⟩,blt_lt (by kernel_rfl),by kernel_rfl⟩
set_option maxRecDepth 100000 in
theorem S_ins282:∃ ρ el info,InsLay Tryz.prog ρ 282 el info∧el < Tryz.prog.types.size∧(⟨3,40⟩:InsFn) = ⟨info.size,info.bytes⟩ :=
 ⟨⟨fun x=>bif Nat.beq x 27 then 314 else 315,fun x=>bif Nat.beq x 22 then 260 else bif Nat.beq x 3 then 3 else bif Nat.beq x 4 then 4 else 0,fun x=>x⟩,373,_,
  ⟨Tryz.mixed,⟨"slices.Insert[[]wardmote/once.told,wardmote/once.told]",#[260,373],by kernel_rfl,Tryz.func282.trans (congrArg some (by kernel_rfl))⟩,⟨_,Tryz.func314,by kernel_rfl,by kernel_rfl,by kernel_rfl,by kernel_rfl⟩,Tryz.underlying3,Tryz.underlying260,rfl⟩,blt_lt (by kernel_rfl),by kernel_rfl⟩
set_option maxRecDepth 100000 in
theorem S_ins392:∃ ρ el info,InsLay Tryz.prog ρ 392 el info∧el < Tryz.prog.types.size∧(⟨2,40⟩:InsFn) = ⟨info.size,info.bytes⟩ :=
 ⟨⟨fun x=>bif Nat.beq x 27 then 399 else 400,fun x=>bif Nat.beq x 22 then 110 else bif Nat.beq x 3 then 3 else bif Nat.beq x 4 then 4 else 0,fun x=>x⟩,298,_,
  ⟨Tryz.mixed,⟨"slices.Insert[[]wardmote/api.Named,wardmote/api.Named]",#[110,298],by kernel_rfl,Tryz.func392.trans (congrArg some (by kernel_rfl))⟩,⟨_,Tryz.func399,by kernel_rfl,by kernel_rfl,by kernel_rfl,by kernel_rfl⟩,Tryz.underlying3,Tryz.underlying110,rfl⟩,blt_lt (by kernel_rfl),by kernel_rfl⟩
set_option maxRecDepth 100000 in
theorem S_ins402:∃ ρ el info,InsLay Tryz.prog ρ 402 el info∧el < Tryz.prog.types.size∧(⟨2,40⟩:InsFn) = ⟨info.size,info.bytes⟩ :=
 ⟨⟨fun x=>bif Nat.beq x 27 then 412 else 413,fun x=>bif Nat.beq x 22 then 294 else bif Nat.beq x 3 then 3 else bif Nat.beq x 4 then 4 else 0,fun x=>x⟩,348,_,
  ⟨Tryz.mixed,⟨"slices.Insert[[]wardmote/api.Column,wardmote/api.Column]",#[294,348],by kernel_rfl,Tryz.func402.trans (congrArg some (by kernel_rfl))⟩,⟨_,Tryz.func412,by kernel_rfl,by kernel_rfl,by kernel_rfl,by kernel_rfl⟩,Tryz.underlying3,Tryz.underlying294,rfl⟩,blt_lt (by kernel_rfl),by kernel_rfl⟩
set_option maxRecDepth 100000 in
theorem S_ins405:∃ ρ el info,InsLay Tryz.prog ρ 405 el info∧el < Tryz.prog.types.size∧(⟨4,48⟩:InsFn) = ⟨info.size,info.bytes⟩ :=
 ⟨⟨fun x=>bif Nat.beq x 27 then 415 else 416,fun x=>bif Nat.beq x 22 then 346 else bif Nat.beq x 3 then 3 else bif Nat.beq x 4 then 4 else 0,fun x=>x⟩,350,_,
  ⟨Tryz.mixed,⟨"slices.Insert[[]wardmote/api.Version,wardmote/api.Version]",#[346,350],by kernel_rfl,Tryz.func405.trans (congrArg some (by kernel_rfl))⟩,⟨_,Tryz.func415,by kernel_rfl,by kernel_rfl,by kernel_rfl,by kernel_rfl⟩,Tryz.underlying3,Tryz.underlying346,rfl⟩,blt_lt (by kernel_rfl),by kernel_rfl⟩
theorem S_draws0:drawsAll Tryz.prog (cutF 0 40 Tryz.prog.funcs.toList) = true:=by kernel_rfl
theorem S_draws40:drawsAll Tryz.prog (cutF 40 40 Tryz.prog.funcs.toList) = true:=by kernel_rfl
theorem S_draws80:drawsAll Tryz.prog (cutF 80 40 Tryz.prog.funcs.toList) = true:=by kernel_rfl
theorem S_draws120:drawsAll Tryz.prog (cutF 120 40 Tryz.prog.funcs.toList) = true:=by kernel_rfl
theorem S_draws160:drawsAll Tryz.prog (cutF 160 40 Tryz.prog.funcs.toList) = true:=by kernel_rfl
theorem S_draws200:drawsAll Tryz.prog (cutF 200 40 Tryz.prog.funcs.toList) = true:=by kernel_rfl
theorem S_draws240:drawsAll Tryz.prog (cutF 240 40 Tryz.prog.funcs.toList) = true:=by kernel_rfl
theorem S_draws280:drawsAll Tryz.prog (cutF 280 40 Tryz.prog.funcs.toList) = true:=by kernel_rfl
theorem S_draws320:drawsAll Tryz.prog (cutF 320 40 Tryz.prog.funcs.toList) = true:=by kernel_rfl
theorem S_draws360:drawsAll Tryz.prog (cutF 360 40 Tryz.prog.funcs.toList) = true:=by kernel_rfl
theorem S_draws400:drawsAll Tryz.prog (cutF 400 40 Tryz.prog.funcs.toList) = true:=by kernel_rfl
theorem S_draws440:drawsAll Tryz.prog (cutF 440 40 Tryz.prog.funcs.toList) = true:=by kernel_rfl
theorem S_len:lenLe Tryz.prog.funcs.toList 480:=by unfold lenLe;kernel_rfl
theorem S_take0:drawsAll Tryz.prog (Tryz.prog.funcs.toList.take 0) = true:=draws_nil
theorem S_take40:drawsAll Tryz.prog (Tryz.prog.funcs.toList.take 40) = true:=draws_step (k:=0) (n:=40) S_take0 S_draws0
theorem S_take80:drawsAll Tryz.prog (Tryz.prog.funcs.toList.take 80) = true:=draws_step (k:=40) (n:=40) S_take40 S_draws40
theorem S_take120:drawsAll Tryz.prog (Tryz.prog.funcs.toList.take 120) = true:=draws_step (k:=80) (n:=40) S_take80 S_draws80
theorem S_take160:drawsAll Tryz.prog (Tryz.prog.funcs.toList.take 160) = true:=draws_step (k:=120) (n:=40) S_take120 S_draws120
theorem S_take200:drawsAll Tryz.prog (Tryz.prog.funcs.toList.take 200) = true:=draws_step (k:=160) (n:=40) S_take160 S_draws160
theorem S_take240:drawsAll Tryz.prog (Tryz.prog.funcs.toList.take 240) = true:=draws_step (k:=200) (n:=40) S_take200 S_draws200
theorem S_take280:drawsAll Tryz.prog (Tryz.prog.funcs.toList.take 280) = true:=draws_step (k:=240) (n:=40) S_take240 S_draws240
theorem S_take320:drawsAll Tryz.prog (Tryz.prog.funcs.toList.take 320) = true:=draws_step (k:=280) (n:=40) S_take280 S_draws280
theorem S_take360:drawsAll Tryz.prog (Tryz.prog.funcs.toList.take 360) = true:=draws_step (k:=320) (n:=40) S_take320 S_draws320
theorem S_take400:drawsAll Tryz.prog (Tryz.prog.funcs.toList.take 400) = true:=draws_step (k:=360) (n:=40) S_take360 S_draws360
theorem S_take440:drawsAll Tryz.prog (Tryz.prog.funcs.toList.take 440) = true:=draws_step (k:=400) (n:=40) S_take400 S_draws400
theorem S_take480:drawsAll Tryz.prog (Tryz.prog.funcs.toList.take 480) = true:=draws_step (k:=440) (n:=40) S_take440 S_draws440
theorem S_draws:drawsAll Tryz.prog Tryz.prog.funcs.toList = true:=draws_end' S_len S_take480
theorem S_ok:SeatOk S where
 okT:=Tryz.okT
 mixed:=Tryz.mixed
 names:=okN_ok Tryz.okNB
 ext:=by
  intro q hq
  simp only [S,List.mem_cons,List.not_mem_nil,or_false] at hq
  rcases hq with rfl | rfl | rfl | rfl
  ·exact ext376
  ·exact ext377
  ·exact ext387
  ·exact ext346
 cmp:=by
  intro t ht
  simp only [S,List.mem_cons,List.not_mem_nil,or_false] at ht
  rcases ht with rfl | rfl
  ·exact ⟨⟨_,Tryz.underlying112⟩,by kernel_rfl⟩
  ·exact ⟨⟨_,Tryz.underlying168⟩,by kernel_rfl⟩
 read:=S_read
 lay:=by
  intro q hq
  simp only [S,oqI] at hq
  subst hq
  exact S_lay
 ins:=by
  intro q hq
  simp only [S,List.mem_cons,List.not_mem_nil,or_false] at hq
  rcases hq with rfl | rfl | rfl | rfl | rfl
  ·exact S_ins175
  ·exact S_ins282
  ·exact S_ins392
  ·exact S_ins402
  ·exact S_ins405
 draws:=S_draws
end Go.Proofs.YtkpmdlcmbemgdaaGreat
