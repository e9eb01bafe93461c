/- A part of a proof over the abstract machine. No conditions. -/
import Derived.Test.YtmhbdpgflomihaaAb5
import Derived.ProofKit
import Derived.Test.YtmhbdpgflomihaaRows
/- What the machine is told of this program, and that it may be told so. No conditions. -/
namespace Go.Proofs.Ytmhbdpgflomihaa
open Go Go.Ab
noncomputable def S : SeatK := ⟨Try.prog, [(48, .frombits), (67, .bits)], [], none, none, [4, 7, 13, 14, 15, 16, 29, 30, 31, 28, 9, 18, 33, 50, 10, 12, 19, 36, 61, 38, 40, 63, 62, 65, 71, 59, 37, 51, 39, 32, 34, 44, 49, 70, 60, 74, 76, 77, 45, 46, 47, 35, 75, 52, 53, 57, 56, 58, 69, 73, 55, 54, 68], [52, 53, 57, 56, 58, 69, 73, 55, 54, 68]⟩
noncomputable abbrev K : Conf := confK S
theorem hp : PrimOk K := confK_prim
theorem Try.mixed : Try.prog.follows .mixedOrders = true := by kernel_rfl
theorem Try.okNB : okNB Try.prog = true := by kernel_rfl
theorem Try.okT : OkT Try.prog := okT_ok (by kernel_rfl)
theorem Try.own : ownKnob Try.prog.godebug = none := by kernel_rfl
theorem Try.laidOut : laidOutB Try.prog = true := by kernel_rfl
theorem ext48 : ExtT Try.prog 48 .frombits := ⟨_, Try.func48, by kernel_rfl, by kernel_rfl, by kernel_rfl, by kernel_rfl⟩
theorem ext67 : ExtT Try.prog 67 .bits := ⟨_, Try.func67, by kernel_rfl, by kernel_rfl, by kernel_rfl, by kernel_rfl⟩
theorem S_ok : SeatKOk S where
  okT := Try.okT
  mixed := Try.mixed
  names := okN_ok Try.okNB
  ext := by
    intro q hq
    simp only [S, List.mem_cons, List.not_mem_nil, or_false] at hq
    rcases hq with rfl | rfl
    · exact ext48
    · exact ext67
  cmp := by
    intro t ht
    cases ht
  read := by
    intro q hq
    cases (show (none : Option (Nat × RdFn)) = some q from hq)
  lay := by
    intro q hq
    cases (show (none : Option (Nat × LayFn)) = some q from hq)
theorem W_K : CallsOk Try.prog (W K) := confK_W S_ok
end Go.Proofs.Ytmhbdpgflomihaa
