/- A part of a proof over the abstract machine. No conditions. -/
import Derived.Test.YthdfhffpnoocbaaGreatFa3
import Derived.ProofKit
import Derived.Test.YthdfhffpnoocbaaGreatRows
namespace Go.Proofs.YthdfhffpnoocbaaGreat
open Go Go.Ab Go.Fa
noncomputable def S : Seat := ⟨Tryz.prog, [(173, .frombits), (174, .bits), (176, .cmpBytes)], [82], 53, RdFn.of 67 163 Tryz.f53, some (102, LayFn.of 135 Tryz.f102 Tryz.f135), [(90, ⟨3, 40⟩), (128, ⟨3, 40⟩)]⟩
theorem Tryz.mixed : Tryz.prog.follows .mixedOrders = true := by kernel_rfl
theorem Tryz.okNB : okNB Tryz.prog = true := by kernel_rfl
theorem Tryz.okT : OkT Tryz.prog := okT_ok (by kernel_rfl)
theorem Tryz.own : ownKnob Tryz.prog.godebug = none := by kernel_rfl
theorem Tryz.laidOut : laidOutB Tryz.prog = true := by kernel_rfl
theorem ext173 : ExtT Tryz.prog 173 .frombits := ⟨_, Tryz.func173, by kernel_rfl, by kernel_rfl, by kernel_rfl, by kernel_rfl⟩
theorem ext174 : ExtT Tryz.prog 174 .bits := ⟨_, Tryz.func174, by kernel_rfl, by kernel_rfl, by kernel_rfl, by kernel_rfl⟩
theorem ext176 : ExtT Tryz.prog 176 .cmpBytes := ⟨_, Tryz.func176, by kernel_rfl, by kernel_rfl, by kernel_rfl, by kernel_rfl⟩
set_option maxRecDepth 100000 in
theorem S_read : ReadOk Tryz.prog 53 (RdFn.of 67 163 Tryz.f53) :=
  readOk_of (ta := 20) (tb := 4) Tryz.func53 Tryz.func67 rfl rfl (by kernel_rfl) (by kernel_rfl) (by kernel_rfl) (by kernel_rfl) (by kernel_rfl) (by kernel_rfl) (by kernel_rfl)
    (by kernel_rfl) (by kernel_rfl) (by kernel_rfl) (by kernel_rfl) Tryz.underlying20 Tryz.underlying163 rfl (by kernel_rfl) rfl (by kernel_rfl) (by kernel_rfl) (by kernel_rfl) (by kernel_rfl)
set_option maxRecDepth 100000 in
theorem S_lay : LayOk Tryz.prog 102 (LayFn.of 135 Tryz.f102 Tryz.f135) :=
  layOk_of Tryz.func102 Tryz.func135 rfl rfl (by kernel_rfl) (by kernel_rfl) (by kernel_rfl) (by kernel_rfl) (by kernel_rfl) (by kernel_rfl) (by kernel_rfl)
    (by kernel_rfl) (by kernel_rfl) (by kernel_rfl) (by kernel_rfl) (by kernel_rfl) (by kernel_rfl) (by kernel_rfl)
set_option maxRecDepth 100000 in
theorem S_ins90 : ∃ ρ el info, InsLay Tryz.prog ρ 90 el info ∧ el < Tryz.prog.types.size ∧ (⟨3, 40⟩ : InsFn) = ⟨info.size, info.bytes⟩ :=
  ⟨⟨fun x => bif Nat.beq x 27 then 107 else 108, fun x => bif Nat.beq x 22 then 126 else bif Nat.beq x 3 then 3 else bif Nat.beq x 4 then 4 else 0, fun x => x⟩, 170, _,
    ⟨Tryz.mixed, ⟨"slices.Insert[[]wardmote/api.Vote,wardmote/api.Vote]", #[126, 170], by kernel_rfl, Tryz.func90.trans (congrArg some (by kernel_rfl))⟩, ⟨_, Tryz.func107, by kernel_rfl, by kernel_rfl, by kernel_rfl, by kernel_rfl⟩, Tryz.underlying3, Tryz.underlying126, rfl⟩, blt_lt (by kernel_rfl), by kernel_rfl⟩
set_option maxRecDepth 100000 in
theorem S_ins128 : ∃ ρ el info, InsLay Tryz.prog ρ 128 el info ∧ el < Tryz.prog.types.size ∧ (⟨3, 40⟩ : InsFn) = ⟨info.size, info.bytes⟩ :=
  ⟨⟨fun x => bif Nat.beq x 27 then 146 else 147, fun x => bif Nat.beq x 22 then 178 else bif Nat.beq x 3 then 3 else bif Nat.beq x 4 then 4 else 0, fun x => x⟩, 237, _,
    ⟨Tryz.mixed, ⟨"slices.Insert[[]wardmote/once.told,wardmote/once.told]", #[178, 237], by kernel_rfl, Tryz.func128.trans (congrArg some (by kernel_rfl))⟩, ⟨_, Tryz.func146, by kernel_rfl, by kernel_rfl, by kernel_rfl, by kernel_rfl⟩, Tryz.underlying3, Tryz.underlying178, rfl⟩, blt_lt (by kernel_rfl), by kernel_rfl⟩
theorem S_draws0 : drawsAll Tryz.prog (cutF 0 40 Tryz.prog.funcs.toList) = true := by kernel_rfl
theorem S_draws40 : drawsAll Tryz.prog (cutF 40 40 Tryz.prog.funcs.toList) = true := by kernel_rfl
theorem S_draws80 : drawsAll Tryz.prog (cutF 80 40 Tryz.prog.funcs.toList) = true := by kernel_rfl
theorem S_draws120 : drawsAll Tryz.prog (cutF 120 40 Tryz.prog.funcs.toList) = true := by kernel_rfl
theorem S_draws160 : drawsAll Tryz.prog (cutF 160 40 Tryz.prog.funcs.toList) = true := by kernel_rfl
theorem S_draws200 : drawsAll Tryz.prog (cutF 200 40 Tryz.prog.funcs.toList) = true := by kernel_rfl
theorem S_len : lenLe Tryz.prog.funcs.toList 240 := by unfold lenLe; kernel_rfl
theorem S_take0 : drawsAll Tryz.prog (Tryz.prog.funcs.toList.take 0) = true := draws_nil
theorem S_take40 : drawsAll Tryz.prog (Tryz.prog.funcs.toList.take 40) = true := draws_step (k := 0) (n := 40) S_take0 S_draws0
theorem S_take80 : drawsAll Tryz.prog (Tryz.prog.funcs.toList.take 80) = true := draws_step (k := 40) (n := 40) S_take40 S_draws40
theorem S_take120 : drawsAll Tryz.prog (Tryz.prog.funcs.toList.take 120) = true := draws_step (k := 80) (n := 40) S_take80 S_draws80
theorem S_take160 : drawsAll Tryz.prog (Tryz.prog.funcs.toList.take 160) = true := draws_step (k := 120) (n := 40) S_take120 S_draws120
theorem S_take200 : drawsAll Tryz.prog (Tryz.prog.funcs.toList.take 200) = true := draws_step (k := 160) (n := 40) S_take160 S_draws160
theorem S_take240 : drawsAll Tryz.prog (Tryz.prog.funcs.toList.take 240) = true := draws_step (k := 200) (n := 40) S_take200 S_draws200
theorem S_draws : drawsAll Tryz.prog Tryz.prog.funcs.toList = true := draws_end' S_len S_take240
theorem S_ok : SeatOk S where
  okT := Tryz.okT
  mixed := Tryz.mixed
  names := okN_ok Tryz.okNB
  ext := by
    intro q hq
    simp only [S, List.mem_cons, List.not_mem_nil, or_false] at hq
    rcases hq with rfl | rfl | rfl
    · exact ext173
    · exact ext174
    · exact ext176
  cmp := by
    intro t ht
    simp only [S, List.mem_cons, List.not_mem_nil, or_false] at ht
    rcases ht with rfl
    · exact ⟨⟨_, Tryz.underlying82⟩, by kernel_rfl⟩
  read := S_read
  lay := by
    intro q hq
    simp only [S, Option.some.injEq] at hq
    subst hq
    exact S_lay
  ins := by
    intro q hq
    simp only [S, List.mem_cons, List.not_mem_nil, or_false] at hq
    rcases hq with rfl | rfl
    · exact S_ins90
    · exact S_ins128
  draws := S_draws
end Go.Proofs.YthdfhffpnoocbaaGreat
