/- A part of a proof over the abstract machine. No conditions. -/
import Derived.Test.YtenimkekacdojaaGreatFa2
import Derived.ProofKit
import Derived.Test.YtenimkekacdojaaGreatRows
/- What the machine for the kernel is told of this program, and that it may be told so. No conditions. -/
namespace Go.Proofs.YtenimkekacdojaaGreat
open Go Go.Ab Go.Fa
noncomputable def S : Seat := ⟨Tryz.prog, [(131, .frombits), (178, .bits), (323, .cmpBytes)], [56, 116], 60, RdFn.of 114 198 Tryz.f60, some (198, LayFn.of 252 Tryz.f198 Tryz.f252)⟩
theorem Tryz.mixed : Tryz.prog.follows .mixedOrders = true := by kernel_rfl
theorem Tryz.okNB : okNB Tryz.prog = true := by kernel_rfl
theorem Tryz.okT : OkT Tryz.prog := okT_ok (by kernel_rfl)
theorem Tryz.own : ownKnob Tryz.prog.godebug = none := by kernel_rfl
theorem Tryz.laidOut : laidOutB Tryz.prog = true := by kernel_rfl
theorem ext131 : ExtT Tryz.prog 131 .frombits := ⟨_, Tryz.func131, by kernel_rfl, by kernel_rfl, by kernel_rfl, by kernel_rfl⟩
theorem ext178 : ExtT Tryz.prog 178 .bits := ⟨_, Tryz.func178, by kernel_rfl, by kernel_rfl, by kernel_rfl, by kernel_rfl⟩
theorem ext323 : ExtT Tryz.prog 323 .cmpBytes := ⟨_, Tryz.func323, by kernel_rfl, by kernel_rfl, by kernel_rfl, by kernel_rfl⟩
set_option maxRecDepth 100000 in
theorem S_read : ReadOk Tryz.prog 60 (RdFn.of 114 198 Tryz.f60) :=
  readOk_of (ta := 20) (tb := 4) Tryz.func60 Tryz.func114 rfl rfl (by kernel_rfl) (by kernel_rfl) (by kernel_rfl) (by kernel_rfl) (by kernel_rfl) (by kernel_rfl) (by kernel_rfl)
    (by kernel_rfl) (by kernel_rfl) (by kernel_rfl) (by kernel_rfl) Tryz.underlying20 Tryz.underlying198 rfl (by kernel_rfl) rfl (by kernel_rfl) (by kernel_rfl) (by kernel_rfl) (by kernel_rfl)
set_option maxRecDepth 100000 in
theorem S_lay : LayOk Tryz.prog 198 (LayFn.of 252 Tryz.f198 Tryz.f252) :=
  layOk_of Tryz.func198 Tryz.func252 rfl rfl (by kernel_rfl) (by kernel_rfl) (by kernel_rfl) (by kernel_rfl) (by kernel_rfl) (by kernel_rfl) (by kernel_rfl)
    (by kernel_rfl) (by kernel_rfl) (by kernel_rfl) (by kernel_rfl) (by kernel_rfl) (by kernel_rfl) (by kernel_rfl)
theorem S_draws0 : drawsAll Tryz.prog (cutF 0 40 Tryz.prog.funcs.toList) = true := by kernel_rfl
theorem S_draws40 : drawsAll Tryz.prog (cutF 40 40 Tryz.prog.funcs.toList) = true := by kernel_rfl
theorem S_draws80 : drawsAll Tryz.prog (cutF 80 40 Tryz.prog.funcs.toList) = true := by kernel_rfl
theorem S_draws120 : drawsAll Tryz.prog (cutF 120 40 Tryz.prog.funcs.toList) = true := by kernel_rfl
theorem S_draws160 : drawsAll Tryz.prog (cutF 160 40 Tryz.prog.funcs.toList) = true := by kernel_rfl
theorem S_draws200 : drawsAll Tryz.prog (cutF 200 40 Tryz.prog.funcs.toList) = true := by kernel_rfl
theorem S_draws240 : drawsAll Tryz.prog (cutF 240 40 Tryz.prog.funcs.toList) = true := by kernel_rfl
theorem S_draws280 : drawsAll Tryz.prog (cutF 280 40 Tryz.prog.funcs.toList) = true := by kernel_rfl
theorem S_draws320 : drawsAll Tryz.prog (cutF 320 40 Tryz.prog.funcs.toList) = true := by kernel_rfl
theorem S_draws360 : drawsAll Tryz.prog (cutF 360 40 Tryz.prog.funcs.toList) = true := by kernel_rfl
theorem S_len : lenLe Tryz.prog.funcs.toList 400 := by unfold lenLe; kernel_rfl
theorem S_take0 : drawsAll Tryz.prog (Tryz.prog.funcs.toList.take 0) = true := draws_nil
theorem S_take40 : drawsAll Tryz.prog (Tryz.prog.funcs.toList.take 40) = true := draws_step (k := 0) (n := 40) S_take0 S_draws0
theorem S_take80 : drawsAll Tryz.prog (Tryz.prog.funcs.toList.take 80) = true := draws_step (k := 40) (n := 40) S_take40 S_draws40
theorem S_take120 : drawsAll Tryz.prog (Tryz.prog.funcs.toList.take 120) = true := draws_step (k := 80) (n := 40) S_take80 S_draws80
theorem S_take160 : drawsAll Tryz.prog (Tryz.prog.funcs.toList.take 160) = true := draws_step (k := 120) (n := 40) S_take120 S_draws120
theorem S_take200 : drawsAll Tryz.prog (Tryz.prog.funcs.toList.take 200) = true := draws_step (k := 160) (n := 40) S_take160 S_draws160
theorem S_take240 : drawsAll Tryz.prog (Tryz.prog.funcs.toList.take 240) = true := draws_step (k := 200) (n := 40) S_take200 S_draws200
theorem S_take280 : drawsAll Tryz.prog (Tryz.prog.funcs.toList.take 280) = true := draws_step (k := 240) (n := 40) S_take240 S_draws240
theorem S_take320 : drawsAll Tryz.prog (Tryz.prog.funcs.toList.take 320) = true := draws_step (k := 280) (n := 40) S_take280 S_draws280
theorem S_take360 : drawsAll Tryz.prog (Tryz.prog.funcs.toList.take 360) = true := draws_step (k := 320) (n := 40) S_take320 S_draws320
theorem S_take400 : drawsAll Tryz.prog (Tryz.prog.funcs.toList.take 400) = true := draws_step (k := 360) (n := 40) S_take360 S_draws360
theorem S_draws : drawsAll Tryz.prog Tryz.prog.funcs.toList = true := draws_end' S_len S_take400
theorem S_ok : SeatOk S where
  okT := Tryz.okT
  mixed := Tryz.mixed
  names := okN_ok Tryz.okNB
  ext := by
    intro q hq
    simp only [S, List.mem_cons, List.not_mem_nil, or_false] at hq
    rcases hq with rfl | rfl | rfl
    · exact ext131
    · exact ext178
    · exact ext323
  cmp := by
    intro t ht
    simp only [S, List.mem_cons, List.not_mem_nil, or_false] at ht
    rcases ht with rfl | rfl
    · exact ⟨⟨_, Tryz.underlying56⟩, by kernel_rfl⟩
    · exact ⟨⟨_, Tryz.underlying116⟩, by kernel_rfl⟩
  read := S_read
  lay := by
    intro q hq
    simp only [S, Option.some.injEq] at hq
    subst hq
    exact S_lay
  draws := S_draws
end Go.Proofs.YtenimkekacdojaaGreat
