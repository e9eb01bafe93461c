/- A part of a proof over the abstract machine. No conditions. -/
import Derived.Test.YtipfjhegcjnebaaGreatSeatR
import Derived.Test.YtipfjhegcjnebaaGreatSeatJ
namespace Go.Proofs.YtipfjhegcjnebaaGreat
open Go Go.Ab Go.Fa Go.ChangeShapes Go.WideShapes Go.ChangeAt Go.RowKit
set_option linter.unusedVariables false
theorem clusterNumbers_spec : LawSpec Rows.clusterNumbersSpec 0 := by
  refine ⟨rfl, fun H ds hd => ?_⟩
  rcases ds with _ | ⟨d1, ds⟩ <;> simp at hd
  rfl
set_option maxRecDepth 100000 in
theorem clusterNumbers_lifted (os : Os) (started : os.Started) (H : Type) (enc : TypeId × Value → H) :
    ReturnsInHanded {} Tryz.checked os 3 .any (Rows.clusterNumbersSpec.pre6 enc Tryz.prog Tryz.f3 [] false) (Rows.clusterNumbersSpec.post enc Tryz.prog Tryz.f3 false true false false) := by
  refine law_lifted (Ck := Tryz.checked) Tryz.own started (by kernel_rfl) Tryz.func3 Tryz.laidOut (tb := 4) (by kernel_rfl) Tryz.underlying4 (by intro t ht; cases ht) clusterNumbers_spec
    (ChangeSpec.witness6 (enc := enc) (C := Tryz.checked) false ⟨#[], #[], []⟩ 8 (by kernel_rfl) (by kernel_rfl) (by kernel_rfl) (by kernel_rfl))
    (n := 6) (shs := []) (by kernel_rfl) ?_
  intro w xs args hf ha
  cases hf
  exact law_calls (C := conf S) (conf_W S_ok) Tryz.func3 rfl (by kernel_rfl) ha run3
theorem clusterNumbers_holds : Rows.ClusterNumbersSaid :=
  OpenClaim.holds_of_wide 3 Tryz.f3 rfl rfl rfl rfl rfl rfl rfl ⟨rfl, rfl, rfl, rfl, rfl⟩ rfl rfl rfl rfl rfl (by kernel_rfl) Tryz.func3 clusterNumbers_facts
    (of_decide_eq_true (by kernel_rfl)) (by unfold Func.isWrapper; first | (rw [if_pos (by decide +kernel)]; kernel_rfl) | (rw [if_neg (by decide +kernel)]; exact ⟨rfl, rfl⟩))
    (fun os started H enc _ => clusterNumbers_lifted os started H enc)
#print axioms clusterNumbers_holds
end Go.Proofs.YtipfjhegcjnebaaGreat
