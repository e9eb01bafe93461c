/- A part of a proof over the abstract machine. No conditions. -/
import Derived.Test.YtgdonnfchhdflaaNumB
import Derived.Test.YtgdonnfchhdflaaNumC9
/- NumNumbers: chapter 1's runs, floats of each kind, each with each. No conditions. -/
namespace Go.Proofs.Ytgdonnfchhdflaa
open Go Go.Ab Go.ChangeShapes Go.WideShapes Go.ChangeAt Go.RowKit
set_option linter.unusedVariables false
theorem numNumbers_spec : LawSpec Rows.numNumbersSpec 0 := by
  refine ⟨rfl, fun H ds hd => ?_⟩
  rcases ds with _ | ⟨d1, ds⟩ <;> simp at hd
  rfl
set_option maxRecDepth 100000 in
theorem numNumbers_lifted (os : Os) (started : os.Started) (H : Type) (enc : TypeId × Value → H) :
    ReturnsInHanded {} Try.checked os 7 .any (Rows.numNumbersSpec.pre6 enc Try.prog Try.f7 [] false) (Rows.numNumbersSpec.post enc Try.prog Try.f7 false true false false) := by
  refine law_lifted (Ck := Try.checked) Try.own started (by kernel_rfl) Try.func7 Try.laidOut (tb := 4) (by kernel_rfl) Try.underlying4 (by intro t ht; cases ht) numNumbers_spec
    (ChangeSpec.witness6 (enc := enc) (C := Try.checked) false ⟨#[], #[], []⟩ 8 (by kernel_rfl) (by kernel_rfl) (by kernel_rfl) (by kernel_rfl))
    (n := 6) (shs := []) (by kernel_rfl) ?_
  intro w xs args hf ha
  cases fit_nil hf
  exact law_calls (C := K) W_K Try.func7 rfl (by kernel_rfl) ha (numbers_c _)
theorem numNumbers_holds : Rows.NumNumbersSaid :=
  OpenClaim.holds_of_wide 7 Try.f7 rfl rfl rfl rfl rfl rfl rfl ⟨rfl, rfl, rfl, rfl, rfl⟩ rfl rfl rfl rfl rfl (by kernel_rfl) Try.func7 (by kernel_rfl)
    (of_decide_eq_true (by kernel_rfl)) (by unfold Func.isWrapper; first | (rw [if_pos (by decide +kernel)]; kernel_rfl) | (rw [if_neg (by decide +kernel)]; exact ⟨rfl, rfl⟩))
    (fun os started H enc _ => numNumbers_lifted os started H enc)
#print axioms numNumbers_holds
end Go.Proofs.Ytgdonnfchhdflaa
