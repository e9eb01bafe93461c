/- A part of a proof over the abstract machine. No conditions. -/
import Derived.Test.YtgfopdipgbhpaaaGreatFa2
import Derived.ProofKit
import Derived.Test.YtgfopdipgbhpaaaGreatRows
/- What the machine for the kernel is told of this program, and that it may be told so. No conditions. -/
namespace Go.Proofs.YtgfopdipgbhpaaaGreat
open Go Go.Ab Go.Fa
noncomputable def S : Seat := ⟨Tryz.prog, [(387, .frombits), (388, .bits), (389, .cmpBytes), (359, .cmpStr)], [62, 23, 105, 160], 65, RdFn.of 92 218 Tryz.f65, some (194, LayFn.of 296 Tryz.f194 Tryz.f296)⟩
theorem Tryz.mixed : Tryz.prog.follows .mixedOrders = true := by kernel_rfl
theorem Tryz.okNB : okNB Tryz.prog = true := by kernel_rfl
theorem Tryz.okT : OkT Tryz.prog := okT_ok (by kernel_rfl)
theorem Tryz.own : ownKnob Tryz.prog.godebug = none := by kernel_rfl
theorem Tryz.laidOut : laidOutB Tryz.prog = true := by kernel_rfl
theorem ext387 : ExtT Tryz.prog 387 .frombits := ⟨_, Tryz.func387, by kernel_rfl, by kernel_rfl, by kernel_rfl, by kernel_rfl⟩
theorem ext388 : ExtT Tryz.prog 388 .bits := ⟨_, Tryz.func388, by kernel_rfl, by kernel_rfl, by kernel_rfl, by kernel_rfl⟩
theorem ext389 : ExtT Tryz.prog 389 .cmpBytes := ⟨_, Tryz.func389, by kernel_rfl, by kernel_rfl, by kernel_rfl, by kernel_rfl⟩
theorem ext359 : ExtT Tryz.prog 359 .cmpStr := ⟨_, Tryz.func359, by kernel_rfl, by kernel_rfl, by kernel_rfl, by kernel_rfl⟩
set_option maxRecDepth 100000 in
theorem S_read : ReadOk Tryz.prog 65 (RdFn.of 92 218 Tryz.f65) :=
  readOk_of (ta := 20) (tb := 4) Tryz.func65 Tryz.func92 rfl rfl (by kernel_rfl) (by kernel_rfl) (by kernel_rfl) (by kernel_rfl) (by kernel_rfl) (by kernel_rfl) (by kernel_rfl)
    (by kernel_rfl) (by kernel_rfl) (by kernel_rfl) (by kernel_rfl) Tryz.underlying20 Tryz.underlying218 rfl (by kernel_rfl) rfl (by kernel_rfl) (by kernel_rfl) (by kernel_rfl) (by kernel_rfl)
set_option maxRecDepth 100000 in
theorem S_lay : LayOk Tryz.prog 194 (LayFn.of 296 Tryz.f194 Tryz.f296) :=
  layOk_of Tryz.func194 Tryz.func296 rfl rfl (by kernel_rfl) (by kernel_rfl) (by kernel_rfl) (by kernel_rfl) (by kernel_rfl) (by kernel_rfl) (by kernel_rfl)
    (by kernel_rfl) (by kernel_rfl) (by kernel_rfl) (by kernel_rfl) (by kernel_rfl) (by kernel_rfl) (by kernel_rfl)
theorem S_draws0 : drawsAll Tryz.prog (cutF 0 40 Tryz.prog.funcs.toList) = true := by kernel_rfl
theorem S_draws40 : drawsAll Tryz.prog (cutF 40 40 Tryz.prog.funcs.toList) = true := by kernel_rfl
theorem S_draws80 : drawsAll Tryz.prog (cutF 80 40 Tryz.prog.funcs.toList) = true := by kernel_rfl
theorem S_draws120 : drawsAll Tryz.prog (cutF 120 40 Tryz.prog.funcs.toList) = true := by kernel_rfl
theorem S_draws160 : drawsAll Tryz.prog (cutF 160 40 Tryz.prog.funcs.toList) = true := by kernel_rfl
theorem S_draws200 : drawsAll Tryz.prog (cutF 200 40 Tryz.prog.funcs.toList) = true := by kernel_rfl
theorem S_draws240 : drawsAll Tryz.prog (cutF 240 40 Tryz.prog.funcs.toList) = true := by kernel_rfl
theorem S_draws280 : drawsAll Tryz.prog (cutF 280 40 Tryz.prog.funcs.toList) = true := by kernel_rfl
theorem S_draws320 : drawsAll Tryz.prog (cutF 320 40 Tryz.prog.funcs.toList) = true := by kernel_rfl
theorem S_draws360 : drawsAll Tryz.prog (cutF 360 40 Tryz.prog.funcs.toList) = true := by kernel_rfl
theorem S_draws400 : drawsAll Tryz.prog (cutF 400 40 Tryz.prog.funcs.toList) = true := by kernel_rfl
theorem S_draws440 : drawsAll Tryz.prog (cutF 440 40 Tryz.prog.funcs.toList) = true := by kernel_rfl
theorem S_len : lenLe Tryz.prog.funcs.toList 480 := by unfold lenLe; kernel_rfl
theorem S_take0 : drawsAll Tryz.prog (Tryz.prog.funcs.toList.take 0) = true := draws_nil
theorem S_take40 : drawsAll Tryz.prog (Tryz.prog.funcs.toList.take 40) = true := draws_step (k := 0) (n := 40) S_take0 S_draws0
theorem S_take80 : drawsAll Tryz.prog (Tryz.prog.funcs.toList.take 80) = true := draws_step (k := 40) (n := 40) S_take40 S_draws40
theorem S_take120 : drawsAll Tryz.prog (Tryz.prog.funcs.toList.take 120) = true := draws_step (k := 80) (n := 40) S_take80 S_draws80
theorem S_take160 : drawsAll Tryz.prog (Tryz.prog.funcs.toList.take 160) = true := draws_step (k := 120) (n := 40) S_take120 S_draws120
theorem S_take200 : drawsAll Tryz.prog (Tryz.prog.funcs.toList.take 200) = true := draws_step (k := 160) (n := 40) S_take160 S_draws160
theorem S_take240 : drawsAll Tryz.prog (Tryz.prog.funcs.toList.take 240) = true := draws_step (k := 200) (n := 40) S_take200 S_draws200
theorem S_take280 : drawsAll Tryz.prog (Tryz.prog.funcs.toList.take 280) = true := draws_step (k := 240) (n := 40) S_take240 S_draws240
theorem S_take320 : drawsAll Tryz.prog (Tryz.prog.funcs.toList.take 320) = true := draws_step (k := 280) (n := 40) S_take280 S_draws280
theorem S_take360 : drawsAll Tryz.prog (Tryz.prog.funcs.toList.take 360) = true := draws_step (k := 320) (n := 40) S_take320 S_draws320
theorem S_take400 : drawsAll Tryz.prog (Tryz.prog.funcs.toList.take 400) = true := draws_step (k := 360) (n := 40) S_take360 S_draws360
theorem S_take440 : drawsAll Tryz.prog (Tryz.prog.funcs.toList.take 440) = true := draws_step (k := 400) (n := 40) S_take400 S_draws400
theorem S_take480 : drawsAll Tryz.prog (Tryz.prog.funcs.toList.take 480) = true := draws_step (k := 440) (n := 40) S_take440 S_draws440
theorem S_draws : drawsAll Tryz.prog Tryz.prog.funcs.toList = true := draws_end' S_len S_take480
theorem S_ok : SeatOk S where
  okT := Tryz.okT
  mixed := Tryz.mixed
  names := okN_ok Tryz.okNB
  ext := by
    intro q hq
    simp only [S, List.mem_cons, List.not_mem_nil, or_false] at hq
    rcases hq with rfl | rfl | rfl | rfl
    · exact ext387
    · exact ext388
    · exact ext389
    · exact ext359
  cmp := by
    intro t ht
    simp only [S, List.mem_cons, List.not_mem_nil, or_false] at ht
    rcases ht with rfl | rfl | rfl | rfl
    · exact ⟨⟨_, Tryz.underlying62⟩, by kernel_rfl⟩
    · exact ⟨⟨_, Tryz.underlying23⟩, by kernel_rfl⟩
    · exact ⟨⟨_, Tryz.underlying105⟩, by kernel_rfl⟩
    · exact ⟨⟨_, Tryz.underlying160⟩, by kernel_rfl⟩
  read := S_read
  lay := by
    intro q hq
    simp only [S, Option.some.injEq] at hq
    subst hq
    exact S_lay
  draws := S_draws
end Go.Proofs.YtgfopdipgbhpaaaGreat
