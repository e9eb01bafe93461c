/- A part of a proof over the abstract machine. No conditions. -/
import Derived.Test.YtgdonnfchhdflaaNumB
import Derived.Test.YtgdonnfchhdflaaNumC3
/- NumEdges: nothing and a number is the number, but for 0 and -0; what is no number stays so; infinities stay, unless they meet: for every input. No conditions. -/
namespace Go.Proofs.Ytgdonnfchhdflaa
open Go Go.Ab Go.ChangeShapes Go.WideShapes Go.ChangeAt Go.RowKit
set_option linter.unusedVariables false
theorem numEdges_spec : LawSpec Rows.numEdgesSpec 2 := by
  refine ⟨rfl, fun H ds hd => ?_⟩
  rcases ds with _ | ⟨d1, _ | ⟨d2, _ | ⟨d3, ds⟩⟩⟩ <;> simp at hd
  rfl
set_option maxRecDepth 100000 in
theorem numEdges_lifted (os : Os) (started : os.Started) (H : Type) (enc : TypeId × Value → H) :
    ReturnsInHanded {} Try.checked os 3 .any (Rows.numEdgesSpec.pre6 enc Try.prog Try.f3 [] false) (Rows.numEdgesSpec.post enc Try.prog Try.f3 false true false false) := by
  refine law_lifted (Ck := Try.checked) Try.own started (by kernel_rfl) Try.func3 Try.laidOut (tb := 4) (by kernel_rfl) Try.underlying4 (by intro t ht; have : t ∈ [22, 3] := ht; simp at this; rcases this with rfl | rfl <;> exact ⟨by kernel_rfl, of_decide_eq_true (by kernel_rfl)⟩) numEdges_spec
    (ChangeSpec.witness6 (enc := enc) (C := Try.checked) false ⟨#[], #[.int .u64 0, .int .i64 0], []⟩ 8 (by kernel_rfl) (by kernel_rfl) (by kernel_rfl) (by kernel_rfl))
    (n := 6) (shs := [(false, [.int .u64]), (false, [.int .i64])]) (by kernel_rfl) ?_
  intro w xs args hf ha
  obtain ⟨a0, r0, rfl, g0, hf⟩ := fit_cons hf
  obtain ⟨a1, r1, rfl, g1, hf⟩ := fit_cons hf
  cases fit_nil hf
  obtain ⟨n0, h0, rfl⟩ := u64_inv g0
  obtain ⟨n1, h11, h21, rfl⟩ := i64_inv g1
  exact law_calls (C := K) W_K Try.func3 rfl (by kernel_rfl) ha (⟨_, edges_c n0 n1 h0 h11 h21 _⟩)
theorem numEdges_holds : Rows.NumEdgesSaid :=
  OpenClaim.holds_of_wide 3 Try.f3 rfl rfl rfl rfl rfl rfl rfl ⟨rfl, rfl, rfl, rfl, rfl⟩ rfl rfl rfl rfl rfl (by kernel_rfl) Try.func3 (by kernel_rfl)
    (of_decide_eq_true (by kernel_rfl)) (by unfold Func.isWrapper; first | (rw [if_pos (by decide +kernel)]; kernel_rfl) | (rw [if_neg (by decide +kernel)]; exact ⟨rfl, rfl⟩))
    (fun os started H enc _ => numEdges_lifted os started H enc)
#print axioms numEdges_holds
end Go.Proofs.Ytgdonnfchhdflaa
