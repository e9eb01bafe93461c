/- A part of a proof over the abstract machine. No conditions. -/
import Derived.Test.YtmhbdpgflomihaaGreatAb5
import Derived.ProofKit
import Derived.Test.YtmhbdpgflomihaaGreatRows
namespace Go.Proofs.YtmhbdpgflomihaaGreat
open Go Go.Ab
noncomputable def S : SeatK := ⟨Tryz.prog, [(103, .frombits), (131, .bits), (147, .cmpStr)], [55, 99], some (68, RdFn.of 106 142 Tryz.f68), none, [10, 11, 27, 28, 29, 30, 57, 58, 59, 56, 32, 12, 15, 23, 26, 51, 36, 72, 18, 19, 41, 35, 42, 85, 125, 83, 118, 87, 89, 127, 126, 128, 155, 152, 119, 120, 151, 121, 86, 73, 76, 88, 34, 67, 93, 71, 154, 124, 117, 150, 167, 166, 169, 171, 100, 101, 102, 31, 52, 39, 25, 97, 53, 98, 96, 95, 94, 148, 55, 129, 99, 130, 149, 158, 165, 157, 60, 61, 65, 64, 66, 105, 132, 63, 62, 104, 82, 16, 75, 78, 79], [60, 61, 65, 64, 66, 105, 132, 63, 62, 104, 82]⟩
noncomputable abbrev K : Conf := confK S
theorem hp : PrimOk K := confK_prim
theorem Tryz.mixed : Tryz.prog.follows .mixedOrders = true := by kernel_rfl
theorem Tryz.okNB : okNB Tryz.prog = true := by kernel_rfl
theorem Tryz.okT : OkT Tryz.prog := okT_ok (by kernel_rfl)
theorem Tryz.own : ownKnob Tryz.prog.godebug = none := by kernel_rfl
theorem Tryz.laidOut : laidOutB Tryz.prog = true := by kernel_rfl
theorem ext103 : ExtT Tryz.prog 103 .frombits := ⟨_, Tryz.func103, by kernel_rfl, by kernel_rfl, by kernel_rfl, by kernel_rfl⟩
theorem ext131 : ExtT Tryz.prog 131 .bits := ⟨_, Tryz.func131, by kernel_rfl, by kernel_rfl, by kernel_rfl, by kernel_rfl⟩
theorem ext147 : ExtT Tryz.prog 147 .cmpStr := ⟨_, Tryz.func147, by kernel_rfl, by kernel_rfl, by kernel_rfl, by kernel_rfl⟩
set_option maxRecDepth 100000 in
theorem S_read : ReadOk Tryz.prog 68 (RdFn.of 106 142 Tryz.f68) :=
  readOk_of (ta := 20) (tb := 4) Tryz.func68 Tryz.func106 rfl rfl (by kernel_rfl) (by kernel_rfl) (by kernel_rfl) (by kernel_rfl) (by kernel_rfl) (by kernel_rfl) (by kernel_rfl)
    (by kernel_rfl) (by kernel_rfl) (by kernel_rfl) (by kernel_rfl) Tryz.underlying20 Tryz.underlying142 rfl (by kernel_rfl) rfl (by kernel_rfl) (by kernel_rfl) (by kernel_rfl) (by kernel_rfl)
theorem S_ok : SeatKOk S where
  okT := Tryz.okT
  mixed := Tryz.mixed
  names := okN_ok Tryz.okNB
  ext := by
    intro q hq
    simp only [S, List.mem_cons, List.not_mem_nil, or_false] at hq
    rcases hq with rfl | rfl | rfl
    · exact ext103
    · exact ext131
    · exact ext147
  cmp := by
    intro t ht
    simp only [S, List.mem_cons, List.not_mem_nil, or_false] at ht
    rcases ht with rfl | rfl
    · exact ⟨⟨_, Tryz.underlying55⟩, by kernel_rfl⟩
    · exact ⟨⟨_, Tryz.underlying99⟩, by kernel_rfl⟩
  read := by
    intro q hq
    simp only [S, Option.some.injEq] at hq
    subst hq
    exact S_read
  lay := by
    intro q hq
    cases (show (none : Option (Nat × LayFn)) = some q from hq)
theorem W_K : CallsOk Tryz.prog (W K) := confK_W S_ok
end Go.Proofs.YtmhbdpgflomihaaGreat
