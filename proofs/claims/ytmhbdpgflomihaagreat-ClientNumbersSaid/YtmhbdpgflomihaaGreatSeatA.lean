/- A part of a proof over the abstract machine. No conditions. -/
import Derived.Test.YtmhbdpgflomihaaGreatFa2
import Derived.ProofKit
import Derived.Test.YtmhbdpgflomihaaGreatRows
/- What the machine for the kernel is told of this program, and that it may be told so. No conditions. -/
namespace Go.Proofs.YtmhbdpgflomihaaGreat
open Go Go.Ab Go.Fa
noncomputable def S : Seat := ⟨Tryz.prog, [(103, .frombits), (131, .bits), (147, .cmpStr)], [55, 99], 68, RdFn.of 106 142 Tryz.f68⟩
theorem Tryz.mixed : Tryz.prog.follows .mixedOrders = true := by kernel_rfl
theorem Tryz.okNB : okNB Tryz.prog = true := by kernel_rfl
theorem Tryz.okT : OkT Tryz.prog := okT_ok (by kernel_rfl)
theorem Tryz.own : ownKnob Tryz.prog.godebug = none := by kernel_rfl
theorem Tryz.laidOut : laidOutB Tryz.prog = true := by kernel_rfl
theorem ext103 : ExtT Tryz.prog 103 .frombits := ⟨_, Tryz.func103, by kernel_rfl, by kernel_rfl, by kernel_rfl, by kernel_rfl⟩
theorem ext131 : ExtT Tryz.prog 131 .bits := ⟨_, Tryz.func131, by kernel_rfl, by kernel_rfl, by kernel_rfl, by kernel_rfl⟩
theorem ext147 : ExtT Tryz.prog 147 .cmpStr := ⟨_, Tryz.func147, by kernel_rfl, by kernel_rfl, by kernel_rfl, by kernel_rfl⟩
set_option maxRecDepth 100000 in
theorem S_read : ReadOk Tryz.prog 68 (RdFn.of 106 142 Tryz.f68) :=
  readOk_of (ta := 20) (tb := 4) Tryz.func68 Tryz.func106 rfl rfl (by kernel_rfl) (by kernel_rfl) (by kernel_rfl) (by kernel_rfl) (by kernel_rfl) (by kernel_rfl) (by kernel_rfl)
    (by kernel_rfl) (by kernel_rfl) (by kernel_rfl) (by kernel_rfl) Tryz.underlying20 Tryz.underlying142 rfl (by kernel_rfl) rfl (by kernel_rfl) (by kernel_rfl) (by kernel_rfl) (by kernel_rfl)
theorem S_draws0 : drawsAll Tryz.prog (cutF 0 40 Tryz.prog.funcs.toList) = true := by kernel_rfl
theorem S_draws40 : drawsAll Tryz.prog (cutF 40 40 Tryz.prog.funcs.toList) = true := by kernel_rfl
theorem S_draws80 : drawsAll Tryz.prog (cutF 80 40 Tryz.prog.funcs.toList) = true := by kernel_rfl
theorem S_draws120 : drawsAll Tryz.prog (cutF 120 40 Tryz.prog.funcs.toList) = true := by kernel_rfl
theorem S_draws160 : drawsAll Tryz.prog (cutF 160 40 Tryz.prog.funcs.toList) = true := by kernel_rfl
theorem S_len : lenLe Tryz.prog.funcs.toList 200 := by unfold lenLe; kernel_rfl
theorem S_take0 : drawsAll Tryz.prog (Tryz.prog.funcs.toList.take 0) = true := draws_nil
theorem S_take40 : drawsAll Tryz.prog (Tryz.prog.funcs.toList.take 40) = true := draws_step (k := 0) (n := 40) S_take0 S_draws0
theorem S_take80 : drawsAll Tryz.prog (Tryz.prog.funcs.toList.take 80) = true := draws_step (k := 40) (n := 40) S_take40 S_draws40
theorem S_take120 : drawsAll Tryz.prog (Tryz.prog.funcs.toList.take 120) = true := draws_step (k := 80) (n := 40) S_take80 S_draws80
theorem S_take160 : drawsAll Tryz.prog (Tryz.prog.funcs.toList.take 160) = true := draws_step (k := 120) (n := 40) S_take120 S_draws120
theorem S_take200 : drawsAll Tryz.prog (Tryz.prog.funcs.toList.take 200) = true := draws_step (k := 160) (n := 40) S_take160 S_draws160
theorem S_draws : drawsAll Tryz.prog Tryz.prog.funcs.toList = true := draws_end' S_len S_take200
theorem S_ok : SeatOk S where
  okT := Tryz.okT
  mixed := Tryz.mixed
  names := okN_ok Tryz.okNB
  ext := by
    intro q hq
    simp only [S, List.mem_cons, List.not_mem_nil, or_false] at hq
    rcases hq with rfl | rfl | rfl
    · exact ext103
    · exact ext131
    · exact ext147
  cmp := by
    intro t ht
    simp only [S, List.mem_cons, List.not_mem_nil, or_false] at ht
    rcases ht with rfl | rfl
    · exact ⟨⟨_, Tryz.underlying55⟩, by kernel_rfl⟩
    · exact ⟨⟨_, Tryz.underlying99⟩, by kernel_rfl⟩
  read := S_read
  draws := S_draws
end Go.Proofs.YtmhbdpgflomihaaGreat
