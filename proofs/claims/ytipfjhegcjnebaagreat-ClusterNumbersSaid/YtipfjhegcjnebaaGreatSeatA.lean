/- A part of a proof over the abstract machine. No conditions. -/
import Derived.Test.YtipfjhegcjnebaaGreatFa3
import Derived.ProofKit
import Derived.Test.YtipfjhegcjnebaaGreatRows
namespace Go.Proofs.YtipfjhegcjnebaaGreat
open Go Go.Ab Go.Fa
noncomputable def S : Seat := ⟨Tryz.prog, [(127, .frombits), (199, .bits), (469, .cmpBytes), (426, .cmpStr)], [23, 49, 133, 44], 95, RdFn.of 139 230 Tryz.f95, some (286, LayFn.of 390 Tryz.f286 Tryz.f390), [(214, ⟨3, 40⟩), (356, ⟨3, 40⟩), (474, ⟨2, 40⟩), (483, ⟨2, 40⟩), (486, ⟨4, 48⟩)]⟩
theorem Tryz.mixed : Tryz.prog.follows .mixedOrders = true := by kernel_rfl
theorem Tryz.okNB : okNB Tryz.prog = true := by kernel_rfl
theorem Tryz.okT : OkT Tryz.prog := okT_ok (by kernel_rfl)
theorem Tryz.own : ownKnob Tryz.prog.godebug = none := by kernel_rfl
theorem Tryz.laidOut : laidOutB Tryz.prog = true := by kernel_rfl
theorem ext127 : ExtT Tryz.prog 127 .frombits := ⟨_, Tryz.func127, by kernel_rfl, by kernel_rfl, by kernel_rfl, by kernel_rfl⟩
theorem ext199 : ExtT Tryz.prog 199 .bits := ⟨_, Tryz.func199, by kernel_rfl, by kernel_rfl, by kernel_rfl, by kernel_rfl⟩
theorem ext469 : ExtT Tryz.prog 469 .cmpBytes := ⟨_, Tryz.func469, by kernel_rfl, by kernel_rfl, by kernel_rfl, by kernel_rfl⟩
theorem ext426 : ExtT Tryz.prog 426 .cmpStr := ⟨_, Tryz.func426, by kernel_rfl, by kernel_rfl, by kernel_rfl, by kernel_rfl⟩
set_option maxRecDepth 100000 in
theorem S_read : ReadOk Tryz.prog 95 (RdFn.of 139 230 Tryz.f95) :=
  readOk_of (ta := 20) (tb := 4) Tryz.func95 Tryz.func139 rfl rfl (by kernel_rfl) (by kernel_rfl) (by kernel_rfl) (by kernel_rfl) (by kernel_rfl) (by kernel_rfl) (by kernel_rfl)
    (by kernel_rfl) (by kernel_rfl) (by kernel_rfl) (by kernel_rfl) Tryz.underlying20 Tryz.underlying230 rfl (by kernel_rfl) rfl (by kernel_rfl) (by kernel_rfl) (by kernel_rfl) (by kernel_rfl)
set_option maxRecDepth 100000 in
theorem S_lay : LayOk Tryz.prog 286 (LayFn.of 390 Tryz.f286 Tryz.f390) :=
  layOk_of Tryz.func286 Tryz.func390 rfl rfl (by kernel_rfl) (by kernel_rfl) (by kernel_rfl) (by kernel_rfl) (by kernel_rfl) (by kernel_rfl) (by kernel_rfl)
    (by kernel_rfl) (by kernel_rfl) (by kernel_rfl) (by kernel_rfl) (by kernel_rfl) (by kernel_rfl) (by kernel_rfl)
set_option maxRecDepth 100000 in
theorem S_ins214 : ∃ ρ el info, InsLay Tryz.prog ρ 214 el info ∧ el < Tryz.prog.types.size ∧ (⟨3, 40⟩ : InsFn) = ⟨info.size, info.bytes⟩ :=
  ⟨⟨fun x => bif Nat.beq x 27 then 290 else 291, fun x => bif Nat.beq x 22 then 110 else bif Nat.beq x 3 then 3 else bif Nat.beq x 4 then 4 else 0, fun x => x⟩, 267, _,
    ⟨Tryz.mixed, ⟨"slices.Insert[[]wardmote/api.Vote,wardmote/api.Vote]", #[110, 267], by kernel_rfl, Tryz.func214.trans (congrArg some (by kernel_rfl))⟩, ⟨_, Tryz.func290, by kernel_rfl, by kernel_rfl, by kernel_rfl, by kernel_rfl⟩, Tryz.underlying3, Tryz.underlying110, rfl⟩, blt_lt (by kernel_rfl), by kernel_rfl⟩
set_option maxRecDepth 100000 in
theorem S_ins356 : ∃ ρ el info, InsLay Tryz.prog ρ 356 el info ∧ el < Tryz.prog.types.size ∧ (⟨3, 40⟩ : InsFn) = ⟨info.size, info.bytes⟩ :=
  ⟨⟨fun x => bif Nat.beq x 27 then 395 else 396, fun x => bif Nat.beq x 22 then 316 else bif Nat.beq x 3 then 3 else bif Nat.beq x 4 then 4 else 0, fun x => x⟩, 446, _,
    ⟨Tryz.mixed, ⟨"slices.Insert[[]wardmote/once.told,wardmote/once.told]", #[316, 446], by kernel_rfl, Tryz.func356.trans (congrArg some (by kernel_rfl))⟩, ⟨_, Tryz.func395, by kernel_rfl, by kernel_rfl, by kernel_rfl, by kernel_rfl⟩, Tryz.underlying3, Tryz.underlying316, rfl⟩, blt_lt (by kernel_rfl), by kernel_rfl⟩
set_option maxRecDepth 100000 in
theorem S_ins474 : ∃ ρ el info, InsLay Tryz.prog ρ 474 el info ∧ el < Tryz.prog.types.size ∧ (⟨2, 40⟩ : InsFn) = ⟨info.size, info.bytes⟩ :=
  ⟨⟨fun x => bif Nat.beq x 27 then 480 else 481, fun x => bif Nat.beq x 22 then 124 else bif Nat.beq x 3 then 3 else bif Nat.beq x 4 then 4 else 0, fun x => x⟩, 353, _,
    ⟨Tryz.mixed, ⟨"slices.Insert[[]wardmote/api.Named,wardmote/api.Named]", #[124, 353], by kernel_rfl, Tryz.func474.trans (congrArg some (by kernel_rfl))⟩, ⟨_, Tryz.func480, by kernel_rfl, by kernel_rfl, by kernel_rfl, by kernel_rfl⟩, Tryz.underlying3, Tryz.underlying124, rfl⟩, blt_lt (by kernel_rfl), by kernel_rfl⟩
set_option maxRecDepth 100000 in
theorem S_ins483 : ∃ ρ el info, InsLay Tryz.prog ρ 483 el info ∧ el < Tryz.prog.types.size ∧ (⟨2, 40⟩ : InsFn) = ⟨info.size, info.bytes⟩ :=
  ⟨⟨fun x => bif Nat.beq x 27 then 493 else 494, fun x => bif Nat.beq x 22 then 349 else bif Nat.beq x 3 then 3 else bif Nat.beq x 4 then 4 else 0, fun x => x⟩, 412, _,
    ⟨Tryz.mixed, ⟨"slices.Insert[[]wardmote/api.Column,wardmote/api.Column]", #[349, 412], by kernel_rfl, Tryz.func483.trans (congrArg some (by kernel_rfl))⟩, ⟨_, Tryz.func493, by kernel_rfl, by kernel_rfl, by kernel_rfl, by kernel_rfl⟩, Tryz.underlying3, Tryz.underlying349, rfl⟩, blt_lt (by kernel_rfl), by kernel_rfl⟩
set_option maxRecDepth 100000 in
theorem S_ins486 : ∃ ρ el info, InsLay Tryz.prog ρ 486 el info ∧ el < Tryz.prog.types.size ∧ (⟨4, 48⟩ : InsFn) = ⟨info.size, info.bytes⟩ :=
  ⟨⟨fun x => bif Nat.beq x 27 then 496 else 497, fun x => bif Nat.beq x 22 then 410 else bif Nat.beq x 3 then 3 else bif Nat.beq x 4 then 4 else 0, fun x => x⟩, 414, _,
    ⟨Tryz.mixed, ⟨"slices.Insert[[]wardmote/api.Version,wardmote/api.Version]", #[410, 414], by kernel_rfl, Tryz.func486.trans (congrArg some (by kernel_rfl))⟩, ⟨_, Tryz.func496, by kernel_rfl, by kernel_rfl, by kernel_rfl, by kernel_rfl⟩, Tryz.underlying3, Tryz.underlying410, rfl⟩, blt_lt (by kernel_rfl), by kernel_rfl⟩
theorem S_draws0 : drawsAll Tryz.prog (cutF 0 40 Tryz.prog.funcs.toList) = true := by kernel_rfl
theorem S_draws40 : drawsAll Tryz.prog (cutF 40 40 Tryz.prog.funcs.toList) = true := by kernel_rfl
theorem S_draws80 : drawsAll Tryz.prog (cutF 80 40 Tryz.prog.funcs.toList) = true := by kernel_rfl
theorem S_draws120 : drawsAll Tryz.prog (cutF 120 40 Tryz.prog.funcs.toList) = true := by kernel_rfl
theorem S_draws160 : drawsAll Tryz.prog (cutF 160 40 Tryz.prog.funcs.toList) = true := by kernel_rfl
theorem S_draws200 : drawsAll Tryz.prog (cutF 200 40 Tryz.prog.funcs.toList) = true := by kernel_rfl
theorem S_draws240 : drawsAll Tryz.prog (cutF 240 40 Tryz.prog.funcs.toList) = true := by kernel_rfl
theorem S_draws280 : drawsAll Tryz.prog (cutF 280 40 Tryz.prog.funcs.toList) = true := by kernel_rfl
theorem S_draws320 : drawsAll Tryz.prog (cutF 320 40 Tryz.prog.funcs.toList) = true := by kernel_rfl
theorem S_draws360 : drawsAll Tryz.prog (cutF 360 40 Tryz.prog.funcs.toList) = true := by kernel_rfl
theorem S_draws400 : drawsAll Tryz.prog (cutF 400 40 Tryz.prog.funcs.toList) = true := by kernel_rfl
theorem S_draws440 : drawsAll Tryz.prog (cutF 440 40 Tryz.prog.funcs.toList) = true := by kernel_rfl
theorem S_draws480 : drawsAll Tryz.prog (cutF 480 40 Tryz.prog.funcs.toList) = true := by kernel_rfl
theorem S_draws520 : drawsAll Tryz.prog (cutF 520 40 Tryz.prog.funcs.toList) = true := by kernel_rfl
theorem S_len : lenLe Tryz.prog.funcs.toList 560 := by unfold lenLe; kernel_rfl
theorem S_take0 : drawsAll Tryz.prog (Tryz.prog.funcs.toList.take 0) = true := draws_nil
theorem S_take40 : drawsAll Tryz.prog (Tryz.prog.funcs.toList.take 40) = true := draws_step (k := 0) (n := 40) S_take0 S_draws0
theorem S_take80 : drawsAll Tryz.prog (Tryz.prog.funcs.toList.take 80) = true := draws_step (k := 40) (n := 40) S_take40 S_draws40
theorem S_take120 : drawsAll Tryz.prog (Tryz.prog.funcs.toList.take 120) = true := draws_step (k := 80) (n := 40) S_take80 S_draws80
theorem S_take160 : drawsAll Tryz.prog (Tryz.prog.funcs.toList.take 160) = true := draws_step (k := 120) (n := 40) S_take120 S_draws120
theorem S_take200 : drawsAll Tryz.prog (Tryz.prog.funcs.toList.take 200) = true := draws_step (k := 160) (n := 40) S_take160 S_draws160
theorem S_take240 : drawsAll Tryz.prog (Tryz.prog.funcs.toList.take 240) = true := draws_step (k := 200) (n := 40) S_take200 S_draws200
theorem S_take280 : drawsAll Tryz.prog (Tryz.prog.funcs.toList.take 280) = true := draws_step (k := 240) (n := 40) S_take240 S_draws240
theorem S_take320 : drawsAll Tryz.prog (Tryz.prog.funcs.toList.take 320) = true := draws_step (k := 280) (n := 40) S_take280 S_draws280
theorem S_take360 : drawsAll Tryz.prog (Tryz.prog.funcs.toList.take 360) = true := draws_step (k := 320) (n := 40) S_take320 S_draws320
theorem S_take400 : drawsAll Tryz.prog (Tryz.prog.funcs.toList.take 400) = true := draws_step (k := 360) (n := 40) S_take360 S_draws360
theorem S_take440 : drawsAll Tryz.prog (Tryz.prog.funcs.toList.take 440) = true := draws_step (k := 400) (n := 40) S_take400 S_draws400
theorem S_take480 : drawsAll Tryz.prog (Tryz.prog.funcs.toList.take 480) = true := draws_step (k := 440) (n := 40) S_take440 S_draws440
theorem S_take520 : drawsAll Tryz.prog (Tryz.prog.funcs.toList.take 520) = true := draws_step (k := 480) (n := 40) S_take480 S_draws480
theorem S_take560 : drawsAll Tryz.prog (Tryz.prog.funcs.toList.take 560) = true := draws_step (k := 520) (n := 40) S_take520 S_draws520
theorem S_draws : drawsAll Tryz.prog Tryz.prog.funcs.toList = true := draws_end' S_len S_take560
theorem S_ok : SeatOk S where
  okT := Tryz.okT
  mixed := Tryz.mixed
  names := okN_ok Tryz.okNB
  ext := by
    intro q hq
    simp only [S, List.mem_cons, List.not_mem_nil, or_false] at hq
    rcases hq with rfl | rfl | rfl | rfl
    · exact ext127
    · exact ext199
    · exact ext469
    · exact ext426
  cmp := by
    intro t ht
    simp only [S, List.mem_cons, List.not_mem_nil, or_false] at ht
    rcases ht with rfl | rfl | rfl | rfl
    · exact ⟨⟨_, Tryz.underlying23⟩, by kernel_rfl⟩
    · exact ⟨⟨_, Tryz.underlying49⟩, by kernel_rfl⟩
    · exact ⟨⟨_, Tryz.underlying133⟩, by kernel_rfl⟩
    · exact ⟨⟨_, Tryz.underlying44⟩, by kernel_rfl⟩
  read := S_read
  lay := by
    intro q hq
    simp only [S, Option.some.injEq] at hq
    subst hq
    exact S_lay
  ins := by
    intro q hq
    simp only [S, List.mem_cons, List.not_mem_nil, or_false] at hq
    rcases hq with rfl | rfl | rfl | rfl | rfl
    · exact S_ins214
    · exact S_ins356
    · exact S_ins474
    · exact S_ins483
    · exact S_ins486
  draws := S_draws
end Go.Proofs.YtipfjhegcjnebaaGreat
