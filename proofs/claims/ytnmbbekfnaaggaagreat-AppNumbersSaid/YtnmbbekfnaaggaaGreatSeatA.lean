/- A part of a proof over the abstract machine. No conditions. -/
import Derived.Test.YtnmbbekfnaaggaaGreatFa3
import Derived.ProofKit
import Derived.Test.YtnmbbekfnaaggaaGreatRows
/- What the machine for the kernel is told of this program, and that it may be told so. No conditions. -/
namespace Go.Proofs.YtnmbbekfnaaggaaGreat
open Go Go.Ab Go.Fa
noncomputable def S : Seat := ⟨Tryz.prog, [(253, .frombits), (301, .bits), (336, .cmpBytes)], [55, 53], 49, RdFn.of 114 130 Tryz.f49, some (137, LayFn.of 248 Tryz.f137 Tryz.f248), [(242, ⟨3, 40⟩), (324, ⟨2, 40⟩), (339, ⟨2, 40⟩), (342, ⟨4, 48⟩)]⟩
theorem Tryz.mixed : Tryz.prog.follows .mixedOrders = true := by kernel_rfl
theorem Tryz.okNB : okNB Tryz.prog = true := by kernel_rfl
theorem Tryz.okT : OkT Tryz.prog := okT_ok (by kernel_rfl)
theorem Tryz.own : ownKnob Tryz.prog.godebug = none := by kernel_rfl
theorem Tryz.laidOut : laidOutB Tryz.prog = true := by kernel_rfl
theorem ext253 : ExtT Tryz.prog 253 .frombits := ⟨_, Tryz.func253, by kernel_rfl, by kernel_rfl, by kernel_rfl, by kernel_rfl⟩
theorem ext301 : ExtT Tryz.prog 301 .bits := ⟨_, Tryz.func301, by kernel_rfl, by kernel_rfl, by kernel_rfl, by kernel_rfl⟩
theorem ext336 : ExtT Tryz.prog 336 .cmpBytes := ⟨_, Tryz.func336, by kernel_rfl, by kernel_rfl, by kernel_rfl, by kernel_rfl⟩
set_option maxRecDepth 100000 in
theorem S_read : ReadOk Tryz.prog 49 (RdFn.of 114 130 Tryz.f49) :=
  readOk_of (ta := 20) (tb := 4) Tryz.func49 Tryz.func114 rfl rfl (by kernel_rfl) (by kernel_rfl) (by kernel_rfl) (by kernel_rfl) (by kernel_rfl) (by kernel_rfl) (by kernel_rfl)
    (by kernel_rfl) (by kernel_rfl) (by kernel_rfl) (by kernel_rfl) Tryz.underlying20 Tryz.underlying130 rfl (by kernel_rfl) rfl (by kernel_rfl) (by kernel_rfl) (by kernel_rfl) (by kernel_rfl)
set_option maxRecDepth 100000 in
theorem S_lay : LayOk Tryz.prog 137 (LayFn.of 248 Tryz.f137 Tryz.f248) :=
  layOk_of Tryz.func137 Tryz.func248 rfl rfl (by kernel_rfl) (by kernel_rfl) (by kernel_rfl) (by kernel_rfl) (by kernel_rfl) (by kernel_rfl) (by kernel_rfl)
    (by kernel_rfl) (by kernel_rfl) (by kernel_rfl) (by kernel_rfl) (by kernel_rfl) (by kernel_rfl) (by kernel_rfl)
set_option maxRecDepth 100000 in
theorem S_ins242 : ∃ ρ el info, InsLay Tryz.prog ρ 242 el info ∧ el < Tryz.prog.types.size ∧ (⟨3, 40⟩ : InsFn) = ⟨info.size, info.bytes⟩ :=
  ⟨⟨fun x => bif Nat.beq x 27 then 294 else 295, fun x => bif Nat.beq x 22 then 150 else bif Nat.beq x 3 then 3 else bif Nat.beq x 4 then 4 else 0, fun x => x⟩, 261, _,
    ⟨Tryz.mixed, ⟨"slices.Insert[[]wardmote/once.told,wardmote/once.told]", #[150, 261], by kernel_rfl, Tryz.func242.trans (congrArg some (by kernel_rfl))⟩, ⟨_, Tryz.func294, by kernel_rfl, by kernel_rfl, by kernel_rfl, by kernel_rfl⟩, Tryz.underlying3, Tryz.underlying150, rfl⟩, blt_lt (by kernel_rfl), by kernel_rfl⟩
set_option maxRecDepth 100000 in
theorem S_ins324 : ∃ ρ el info, InsLay Tryz.prog ρ 324 el info ∧ el < Tryz.prog.types.size ∧ (⟨2, 40⟩ : InsFn) = ⟨info.size, info.bytes⟩ :=
  ⟨⟨fun x => bif Nat.beq x 27 then 334 else 335, fun x => bif Nat.beq x 22 then 69 else bif Nat.beq x 3 then 3 else bif Nat.beq x 4 then 4 else 0, fun x => x⟩, 143, _,
    ⟨Tryz.mixed, ⟨"slices.Insert[[]wardmote/api.Named,wardmote/api.Named]", #[69, 143], by kernel_rfl, Tryz.func324.trans (congrArg some (by kernel_rfl))⟩, ⟨_, Tryz.func334, by kernel_rfl, by kernel_rfl, by kernel_rfl, by kernel_rfl⟩, Tryz.underlying3, Tryz.underlying69, rfl⟩, blt_lt (by kernel_rfl), by kernel_rfl⟩
set_option maxRecDepth 100000 in
theorem S_ins339 : ∃ ρ el info, InsLay Tryz.prog ρ 339 el info ∧ el < Tryz.prog.types.size ∧ (⟨2, 40⟩ : InsFn) = ⟨info.size, info.bytes⟩ :=
  ⟨⟨fun x => bif Nat.beq x 27 then 349 else 350, fun x => bif Nat.beq x 22 then 139 else bif Nat.beq x 3 then 3 else bif Nat.beq x 4 then 4 else 0, fun x => x⟩, 211, _,
    ⟨Tryz.mixed, ⟨"slices.Insert[[]wardmote/api.Column,wardmote/api.Column]", #[139, 211], by kernel_rfl, Tryz.func339.trans (congrArg some (by kernel_rfl))⟩, ⟨_, Tryz.func349, by kernel_rfl, by kernel_rfl, by kernel_rfl, by kernel_rfl⟩, Tryz.underlying3, Tryz.underlying139, rfl⟩, blt_lt (by kernel_rfl), by kernel_rfl⟩
set_option maxRecDepth 100000 in
theorem S_ins342 : ∃ ρ el info, InsLay Tryz.prog ρ 342 el info ∧ el < Tryz.prog.types.size ∧ (⟨4, 48⟩ : InsFn) = ⟨info.size, info.bytes⟩ :=
  ⟨⟨fun x => bif Nat.beq x 27 then 352 else 353, fun x => bif Nat.beq x 22 then 209 else bif Nat.beq x 3 then 3 else bif Nat.beq x 4 then 4 else 0, fun x => x⟩, 216, _,
    ⟨Tryz.mixed, ⟨"slices.Insert[[]wardmote/api.Version,wardmote/api.Version]", #[209, 216], by kernel_rfl, Tryz.func342.trans (congrArg some (by kernel_rfl))⟩, ⟨_, Tryz.func352, by kernel_rfl, by kernel_rfl, by kernel_rfl, by kernel_rfl⟩, Tryz.underlying3, Tryz.underlying209, rfl⟩, blt_lt (by kernel_rfl), by kernel_rfl⟩
theorem S_draws0 : drawsAll Tryz.prog (cutF 0 40 Tryz.prog.funcs.toList) = true := by kernel_rfl
theorem S_draws40 : drawsAll Tryz.prog (cutF 40 40 Tryz.prog.funcs.toList) = true := by kernel_rfl
theorem S_draws80 : drawsAll Tryz.prog (cutF 80 40 Tryz.prog.funcs.toList) = true := by kernel_rfl
theorem S_draws120 : drawsAll Tryz.prog (cutF 120 40 Tryz.prog.funcs.toList) = true := by kernel_rfl
theorem S_draws160 : drawsAll Tryz.prog (cutF 160 40 Tryz.prog.funcs.toList) = true := by kernel_rfl
theorem S_draws200 : drawsAll Tryz.prog (cutF 200 40 Tryz.prog.funcs.toList) = true := by kernel_rfl
theorem S_draws240 : drawsAll Tryz.prog (cutF 240 40 Tryz.prog.funcs.toList) = true := by kernel_rfl
theorem S_draws280 : drawsAll Tryz.prog (cutF 280 40 Tryz.prog.funcs.toList) = true := by kernel_rfl
theorem S_draws320 : drawsAll Tryz.prog (cutF 320 40 Tryz.prog.funcs.toList) = true := by kernel_rfl
theorem S_draws360 : drawsAll Tryz.prog (cutF 360 40 Tryz.prog.funcs.toList) = true := by kernel_rfl
theorem S_len : lenLe Tryz.prog.funcs.toList 400 := by unfold lenLe; kernel_rfl
theorem S_take0 : drawsAll Tryz.prog (Tryz.prog.funcs.toList.take 0) = true := draws_nil
theorem S_take40 : drawsAll Tryz.prog (Tryz.prog.funcs.toList.take 40) = true := draws_step (k := 0) (n := 40) S_take0 S_draws0
theorem S_take80 : drawsAll Tryz.prog (Tryz.prog.funcs.toList.take 80) = true := draws_step (k := 40) (n := 40) S_take40 S_draws40
theorem S_take120 : drawsAll Tryz.prog (Tryz.prog.funcs.toList.take 120) = true := draws_step (k := 80) (n := 40) S_take80 S_draws80
theorem S_take160 : drawsAll Tryz.prog (Tryz.prog.funcs.toList.take 160) = true := draws_step (k := 120) (n := 40) S_take120 S_draws120
theorem S_take200 : drawsAll Tryz.prog (Tryz.prog.funcs.toList.take 200) = true := draws_step (k := 160) (n := 40) S_take160 S_draws160
theorem S_take240 : drawsAll Tryz.prog (Tryz.prog.funcs.toList.take 240) = true := draws_step (k := 200) (n := 40) S_take200 S_draws200
theorem S_take280 : drawsAll Tryz.prog (Tryz.prog.funcs.toList.take 280) = true := draws_step (k := 240) (n := 40) S_take240 S_draws240
theorem S_take320 : drawsAll Tryz.prog (Tryz.prog.funcs.toList.take 320) = true := draws_step (k := 280) (n := 40) S_take280 S_draws280
theorem S_take360 : drawsAll Tryz.prog (Tryz.prog.funcs.toList.take 360) = true := draws_step (k := 320) (n := 40) S_take320 S_draws320
theorem S_take400 : drawsAll Tryz.prog (Tryz.prog.funcs.toList.take 400) = true := draws_step (k := 360) (n := 40) S_take360 S_draws360
theorem S_draws : drawsAll Tryz.prog Tryz.prog.funcs.toList = true := draws_end' S_len S_take400
theorem S_ok : SeatOk S where
  okT := Tryz.okT
  mixed := Tryz.mixed
  names := okN_ok Tryz.okNB
  ext := by
    intro q hq
    simp only [S, List.mem_cons, List.not_mem_nil, or_false] at hq
    rcases hq with rfl | rfl | rfl
    · exact ext253
    · exact ext301
    · exact ext336
  cmp := by
    intro t ht
    simp only [S, List.mem_cons, List.not_mem_nil, or_false] at ht
    rcases ht with rfl | rfl
    · exact ⟨⟨_, Tryz.underlying55⟩, by kernel_rfl⟩
    · exact ⟨⟨_, Tryz.underlying53⟩, by kernel_rfl⟩
  read := S_read
  lay := by
    intro q hq
    simp only [S, Option.some.injEq] at hq
    subst hq
    exact S_lay
  ins := by
    intro q hq
    simp only [S, List.mem_cons, List.not_mem_nil, or_false] at hq
    rcases hq with rfl | rfl | rfl | rfl
    · exact S_ins242
    · exact S_ins324
    · exact S_ins339
    · exact S_ins342
  draws := S_draws
end Go.Proofs.YtnmbbekfnaaggaaGreat
