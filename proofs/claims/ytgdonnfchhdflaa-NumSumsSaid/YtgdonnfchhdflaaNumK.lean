/- A part of a proof over the abstract machine. No conditions. -/
import Derived.Test.YtgdonnfchhdflaaNumB
/- NumSums: a sum does not hang on which of two comes first; a number and its negative are +0, if they are finite: for every input. No conditions. -/
namespace Go.Proofs.Ytgdonnfchhdflaa
open Go Go.Ab Go.ChangeShapes Go.WideShapes Go.ChangeAt Go.RowKit
set_option linter.unusedVariables false
theorem numSums_spec : LawSpec Rows.numSumsSpec 4 := by
  refine ⟨rfl, fun H ds hd => ?_⟩
  rcases ds with _ | ⟨d1, _ | ⟨d2, _ | ⟨d3, _ | ⟨d4, _ | ⟨d5, ds⟩⟩⟩⟩⟩ <;> simp at hd
  rfl
set_option maxRecDepth 100000 in
theorem numSums_lifted (os : Os) (started : os.Started) (H : Type) (enc : TypeId × Value → H) :
    ReturnsInHanded {} Try.checked os 4 .any (Rows.numSumsSpec.pre6 enc Try.prog Try.f4 [] false) (Rows.numSumsSpec.post enc Try.prog Try.f4 false true false false) := by
  refine law_lifted (Ck := Try.checked) Try.own started (by kernel_rfl) Try.func4 Try.laidOut (tb := 4) (by kernel_rfl) Try.underlying4 (by intro t ht; have : t ∈ [22, 22, 3, 3] := ht; simp at this; rcases this with rfl | rfl <;> exact ⟨by kernel_rfl, of_decide_eq_true (by kernel_rfl)⟩) numSums_spec
    (ChangeSpec.witness6 (enc := enc) (C := Try.checked) false ⟨#[], #[.int .u64 0, .int .u64 0, .int .i64 0, .int .i64 0], []⟩ 8 (by kernel_rfl) (by kernel_rfl) (by kernel_rfl) (by kernel_rfl))
    (n := 6) (shs := [(false, [.int .u64]), (false, [.int .u64]), (false, [.int .i64]), (false, [.int .i64])]) (by kernel_rfl) ?_
  intro w xs args hf ha
  obtain ⟨a0, r0, rfl, g0, hf⟩ := fit_cons hf
  obtain ⟨a1, r1, rfl, g1, hf⟩ := fit_cons hf
  obtain ⟨a2, r2, rfl, g2, hf⟩ := fit_cons hf
  obtain ⟨a3, r3, rfl, g3, hf⟩ := fit_cons hf
  cases fit_nil hf
  obtain ⟨n0, h0, rfl⟩ := u64_inv g0
  obtain ⟨n1, h1, rfl⟩ := u64_inv g1
  obtain ⟨n2, h12, h22, rfl⟩ := i64_inv g2
  obtain ⟨n3, h13, h23, rfl⟩ := i64_inv g3
  exact law_calls (C := K) W_K Try.func4 rfl (by kernel_rfl) ha (⟨_, sums_c n0 n1 n2 n3 h0 h1 h12 h22 h13 h23 _⟩)
theorem numSums_holds : Rows.NumSumsSaid :=
  OpenClaim.holds_of_wide 4 Try.f4 rfl rfl rfl rfl rfl rfl rfl ⟨rfl, rfl, rfl, rfl, rfl⟩ rfl rfl rfl rfl rfl (by kernel_rfl) Try.func4 (by kernel_rfl)
    (of_decide_eq_true (by kernel_rfl)) (by unfold Func.isWrapper; first | (rw [if_pos (by decide +kernel)]; kernel_rfl) | (rw [if_neg (by decide +kernel)]; exact ⟨rfl, rfl⟩))
    (fun os started H enc _ => numSums_lifted os started H enc)
#print axioms numSums_holds
end Go.Proofs.Ytgdonnfchhdflaa
