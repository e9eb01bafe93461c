/- A part of a proof over the abstract machine. No conditions. -/
import Derived.Test.YtofafocfemikcaaGreatFa3
import Derived.ProofKit
import Derived.Test.YtofafocfemikcaaGreatRows
namespace Go.Proofs.YtofafocfemikcaaGreat.Kn
open Go Go.Ab Go.Fa
noncomputable def S:Seat:=⟨Tryz.prog,[(66,.frombits),(77,.bits),(422,.cmpBytes),(394,.cmpStr)],[90,23,73,222],100,RdFn.of 127 269 Tryz.f100,some (229,LayFn.of 331 Tryz.f229 Tryz.f331),[(172,⟨3,40⟩),(294,⟨3,40⟩),(433,⟨2,40⟩),(442,⟨2,40⟩),(445,⟨4,48⟩)]⟩
theorem Tryz.mixed:Tryz.prog.follows .mixedOrders = true:=by kernel_rfl
theorem Tryz.okNB:okNB Tryz.prog = true:=by kernel_rfl
theorem Tryz.okT:OkT Tryz.prog:=okT_ok (by kernel_rfl)
theorem Tryz.own:ownKnob Tryz.prog.godebug = none:=by kernel_rfl
theorem Tryz.laidOut:laidOutB Tryz.prog = true:=by kernel_rfl
theorem ext66:ExtT Tryz.prog 66 .frombits:=⟨_,Tryz.func66,by kernel_rfl,by kernel_rfl,by kernel_rfl,by kernel_rfl⟩
theorem ext77:ExtT Tryz.prog 77 .bits:=⟨_,Tryz.func77,by kernel_rfl,by kernel_rfl,by kernel_rfl,by kernel_rfl⟩
theorem ext422:ExtT Tryz.prog 422 .cmpBytes:=⟨_,Tryz.func422,by kernel_rfl,by kernel_rfl,by kernel_rfl,by kernel_rfl⟩
theorem ext394:ExtT Tryz.prog 394 .cmpStr:=⟨_,Tryz.func394,by kernel_rfl,by kernel_rfl,by kernel_rfl,by kernel_rfl⟩
set_option maxRecDepth 100000 in
theorem S_read:ReadOk Tryz.prog 100 (RdFn.of 127 269 Tryz.f100) :=
 readOk_of (ta:=20) (tb:=4) Tryz.func100 Tryz.func127 rfl rfl (by kernel_rfl) (by kernel_rfl) (by kernel_rfl) (by kernel_rfl) (by kernel_rfl) (by kernel_rfl) (by kernel_rfl)
  (by kernel_rfl) (by kernel_rfl) (by kernel_rfl) (by kernel_rfl) Tryz.underlying20 Tryz.underlying269 rfl (by kernel_rfl) rfl (by kernel_rfl) (by kernel_rfl) (by kernel_rfl) (by kernel_rfl)
set_option maxRecDepth 100000 in
theorem S_lay:LayOk Tryz.prog 229 (LayFn.of 331 Tryz.f229 Tryz.f331) :=
 layOk_of Tryz.func229 Tryz.func331 rfl rfl (by kernel_rfl) (by kernel_rfl) (by kernel_rfl) (by kernel_rfl) (by kernel_rfl) (by kernel_rfl) (by kernel_rfl)
  (by kernel_rfl) (by kernel_rfl) (by kernel_rfl) (by kernel_rfl) (by kernel_rfl) (by kernel_rfl) (by kernel_rfl)
set_option maxRecDepth 100000 in
theorem S_ins172:∃ ρ el info,InsLay Tryz.prog ρ 172 el info∧el < Tryz.prog.types.size∧(⟨3,40⟩:InsFn) = ⟨info.size,info.bytes⟩ :=
 ⟨⟨fun x=>bif Nat.beq x 27 then 234 else 235,fun x=>bif Nat.beq x 22 then 202 else bif Nat.beq x 3 then 3 else bif Nat.beq x 4 then 4 else 0,fun x=>x⟩,274,_,
  ⟨Tryz.mixed,⟨"slices.Insert[[]wardmote/api.Vote,wardmote/api.Vote]",#[202,274],by kernel_rfl,Tryz.func172.trans (congrArg some (by kernel_rfl))⟩,⟨_,Tryz.func234,by kernel_rfl,by kernel_rfl,by kernel_rfl,by kernel_rfl⟩,Tryz.underlying3,Tryz.underlying202,rfl⟩,blt_lt (by kernel_rfl),by kernel_rfl⟩
set_option maxRecDepth 100000 in
theorem S_ins294:∃ ρ el info,InsLay Tryz.prog ρ 294 el info∧el < Tryz.prog.types.size∧(⟨3,40⟩:InsFn) = ⟨info.size,info.bytes⟩ :=
 ⟨⟨fun x=>bif Nat.beq x 27 then 336 else 337,fun x=>bif Nat.beq x 22 then 292 else bif Nat.beq x 3 then 3 else bif Nat.beq x 4 then 4 else 0,fun x=>x⟩,402,_,
  ⟨Tryz.mixed,⟨"slices.Insert[[]wardmote/once.told,wardmote/once.told]",#[292,402],by kernel_rfl,Tryz.func294.trans (congrArg some (by kernel_rfl))⟩,⟨_,Tryz.func336,by kernel_rfl,by kernel_rfl,by kernel_rfl,by kernel_rfl⟩,Tryz.underlying3,Tryz.underlying292,rfl⟩,blt_lt (by kernel_rfl),by kernel_rfl⟩
set_option maxRecDepth 100000 in
theorem S_ins433:∃ ρ el info,InsLay Tryz.prog ρ 433 el info∧el < Tryz.prog.types.size∧(⟨2,40⟩:InsFn) = ⟨info.size,info.bytes⟩ :=
 ⟨⟨fun x=>bif Nat.beq x 27 then 439 else 440,fun x=>bif Nat.beq x 22 then 167 else bif Nat.beq x 3 then 3 else bif Nat.beq x 4 then 4 else 0,fun x=>x⟩,359,_,
  ⟨Tryz.mixed,⟨"slices.Insert[[]wardmote/api.Named,wardmote/api.Named]",#[167,359],by kernel_rfl,Tryz.func433.trans (congrArg some (by kernel_rfl))⟩,⟨_,Tryz.func439,by kernel_rfl,by kernel_rfl,by kernel_rfl,by kernel_rfl⟩,Tryz.underlying3,Tryz.underlying167,rfl⟩,blt_lt (by kernel_rfl),by kernel_rfl⟩
set_option maxRecDepth 100000 in
theorem S_ins442:∃ ρ el info,InsLay Tryz.prog ρ 442 el info∧el < Tryz.prog.types.size∧(⟨2,40⟩:InsFn) = ⟨info.size,info.bytes⟩ :=
 ⟨⟨fun x=>bif Nat.beq x 27 then 452 else 453,fun x=>bif Nat.beq x 22 then 355 else bif Nat.beq x 3 then 3 else bif Nat.beq x 4 then 4 else 0,fun x=>x⟩,428,_,
  ⟨Tryz.mixed,⟨"slices.Insert[[]wardmote/api.Column,wardmote/api.Column]",#[355,428],by kernel_rfl,Tryz.func442.trans (congrArg some (by kernel_rfl))⟩,⟨_,Tryz.func452,by kernel_rfl,by kernel_rfl,by kernel_rfl,by kernel_rfl⟩,Tryz.underlying3,Tryz.underlying355,rfl⟩,blt_lt (by kernel_rfl),by kernel_rfl⟩
set_option maxRecDepth 100000 in
theorem S_ins445:∃ ρ el info,InsLay Tryz.prog ρ 445 el info∧el < Tryz.prog.types.size∧(⟨4,48⟩:InsFn) = ⟨info.size,info.bytes⟩ :=
 ⟨⟨fun x=>bif Nat.beq x 27 then 455 else 456,fun x=>bif Nat.beq x 22 then 426 else bif Nat.beq x 3 then 3 else bif Nat.beq x 4 then 4 else 0,fun x=>x⟩,430,_,
  ⟨Tryz.mixed,⟨"slices.Insert[[]wardmote/api.Version,wardmote/api.Version]",#[426,430],by kernel_rfl,Tryz.func445.trans (congrArg some (by kernel_rfl))⟩,⟨_,Tryz.func455,by kernel_rfl,by kernel_rfl,by kernel_rfl,by kernel_rfl⟩,Tryz.underlying3,Tryz.underlying426,rfl⟩,blt_lt (by kernel_rfl),by kernel_rfl⟩
theorem S_draws0:drawsAll Tryz.prog (cutF 0 40 Tryz.prog.funcs.toList) = true:=by kernel_rfl
theorem S_draws40:drawsAll Tryz.prog (cutF 40 40 Tryz.prog.funcs.toList) = true:=by kernel_rfl
theorem S_draws80:drawsAll Tryz.prog (cutF 80 40 Tryz.prog.funcs.toList) = true:=by kernel_rfl
theorem S_draws120:drawsAll Tryz.prog (cutF 120 40 Tryz.prog.funcs.toList) = true:=by kernel_rfl
theorem S_draws160:drawsAll Tryz.prog (cutF 160 40 Tryz.prog.funcs.toList) = true:=by kernel_rfl
theorem S_draws200:drawsAll Tryz.prog (cutF 200 40 Tryz.prog.funcs.toList) = true:=by kernel_rfl
theorem S_draws240:drawsAll Tryz.prog (cutF 240 40 Tryz.prog.funcs.toList) = true:=by kernel_rfl
theorem S_draws280:drawsAll Tryz.prog (cutF 280 40 Tryz.prog.funcs.toList) = true:=by kernel_rfl
theorem S_draws320:drawsAll Tryz.prog (cutF 320 40 Tryz.prog.funcs.toList) = true:=by kernel_rfl
theorem S_draws360:drawsAll Tryz.prog (cutF 360 40 Tryz.prog.funcs.toList) = true:=by kernel_rfl
theorem S_draws400:drawsAll Tryz.prog (cutF 400 40 Tryz.prog.funcs.toList) = true:=by kernel_rfl
theorem S_draws440:drawsAll Tryz.prog (cutF 440 40 Tryz.prog.funcs.toList) = true:=by kernel_rfl
theorem S_draws480:drawsAll Tryz.prog (cutF 480 40 Tryz.prog.funcs.toList) = true:=by kernel_rfl
theorem S_len:lenLe Tryz.prog.funcs.toList 520:=by unfold lenLe;kernel_rfl
theorem S_take0:drawsAll Tryz.prog (Tryz.prog.funcs.toList.take 0) = true:=draws_nil
theorem S_take40:drawsAll Tryz.prog (Tryz.prog.funcs.toList.take 40) = true:=draws_step (k:=0) (n:=40) S_take0 S_draws0
theorem S_take80:drawsAll Tryz.prog (Tryz.prog.funcs.toList.take 80) = true:=draws_step (k:=40) (n:=40) S_take40 S_draws40
theorem S_take120:drawsAll Tryz.prog (Tryz.prog.funcs.toList.take 120) = true:=draws_step (k:=80) (n:=40) S_take80 S_draws80
theorem S_take160:drawsAll Tryz.prog (Tryz.prog.funcs.toList.take 160) = true:=draws_step (k:=120) (n:=40) S_take120 S_draws120
theorem S_take200:drawsAll Tryz.prog (Tryz.prog.funcs.toList.take 200) = true:=draws_step (k:=160) (n:=40) S_take160 S_draws160
theorem S_take240:drawsAll Tryz.prog (Tryz.prog.funcs.toList.take 240) = true:=draws_step (k:=200) (n:=40) S_take200 S_draws200
theorem S_take280:drawsAll Tryz.prog (Tryz.prog.funcs.toList.take 280) = true:=draws_step (k:=240) (n:=40) S_take240 S_draws240
theorem S_take320:drawsAll Tryz.prog (Tryz.prog.funcs.toList.take 320) = true:=draws_step (k:=280) (n:=40) S_take280 S_draws280
theorem S_take360:drawsAll Tryz.prog (Tryz.prog.funcs.toList.take 360) = true:=draws_step (k:=320) (n:=40) S_take320 S_draws320
theorem S_take400:drawsAll Tryz.prog (Tryz.prog.funcs.toList.take 400) = true:=draws_step (k:=360) (n:=40) S_take360 S_draws360
theorem S_take440:drawsAll Tryz.prog (Tryz.prog.funcs.toList.take 440) = true:=draws_step (k:=400) (n:=40) S_take400 S_draws400
theorem S_take480:drawsAll Tryz.prog (Tryz.prog.funcs.toList.take 480) = true:=draws_step (k:=440) (n:=40) S_take440 S_draws440
theorem S_take520:drawsAll Tryz.prog (Tryz.prog.funcs.toList.take 520) = true:=draws_step (k:=480) (n:=40) S_take480 S_draws480
theorem S_draws:drawsAll Tryz.prog Tryz.prog.funcs.toList = true:=draws_end' S_len S_take520
theorem S_ok:SeatOk S where
 okT:=Tryz.okT
 mixed:=Tryz.mixed
 names:=okN_ok Tryz.okNB
 ext:=by
  intro q hq
  simp only [S,List.mem_cons,List.not_mem_nil,or_false] at hq
  rcases hq with rfl | rfl | rfl | rfl
  ·exact ext66
  ·exact ext77
  ·exact ext422
  ·exact ext394
 cmp:=by
  intro t ht
  simp only [S,List.mem_cons,List.not_mem_nil,or_false] at ht
  rcases ht with rfl | rfl | rfl | rfl
  ·exact ⟨⟨_,Tryz.underlying90⟩,by kernel_rfl⟩
  ·exact ⟨⟨_,Tryz.underlying23⟩,by kernel_rfl⟩
  ·exact ⟨⟨_,Tryz.underlying73⟩,by kernel_rfl⟩
  ·exact ⟨⟨_,Tryz.underlying222⟩,by kernel_rfl⟩
 read:=S_read
 lay:=by
  intro q hq
  simp only [S,oqI] at hq
  subst hq
  exact S_lay
 ins:=by
  intro q hq
  simp only [S,List.mem_cons,List.not_mem_nil,or_false] at hq
  rcases hq with rfl | rfl | rfl | rfl | rfl
  ·exact S_ins172
  ·exact S_ins294
  ·exact S_ins433
  ·exact S_ins442
  ·exact S_ins445
 draws:=S_draws
end Go.Proofs.YtofafocfemikcaaGreat.Kn
