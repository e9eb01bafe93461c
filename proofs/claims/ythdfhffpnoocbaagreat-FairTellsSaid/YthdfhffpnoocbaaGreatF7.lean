/- A part of a proof over the abstract machine. No conditions. -/
import Derived.Test.YthdfhffpnoocbaaGreatF6
import Derived.Test.YthdfhffpnoocbaaGreatAb5
import Derived.Test.YthdfhffpnoocbaaGreatFJ
namespace Go.Proofs.YthdfhffpnoocbaaGreat
open Go Go.Ab Wm
set_option linter.unusedSimpArgs false
set_option linter.unusedVariables false
set_option maxRecDepth 10000
theorem fairTells_spec : LawSpec Rows.fairTellsSpec 6 := by
  refine ⟨rfl, fun H ds hd => ?_⟩
  rcases ds with _ | ⟨d1, _ | ⟨d2, _ | ⟨d3, _ | ⟨d4, _ | ⟨d5, _ | ⟨d6, _ | ⟨d7, ds⟩⟩⟩⟩⟩⟩⟩ <;> simp at hd
  rfl
theorem fit_it : ∀ l, FitL [.int .i64, .int .i64, .int .i64, .int .i64, .slc [.int .u8]] l → ∃ x : It, True ∧ l = encIt x := by
  intro l hf
  obtain ⟨a1, r1, rfl, g1, hf⟩ := fitL_cons hf
  obtain ⟨a2, r2, rfl, g2, hf⟩ := fitL_cons hf
  obtain ⟨a3, r3, rfl, g3, hf⟩ := fitL_cons hf
  obtain ⟨a4, r4, rfl, g4, hf⟩ := fitL_cons hf
  obtain ⟨a5, r5, rfl, g5, hf⟩ := fitL_cons hf
  cases fitL_nil hf
  obtain ⟨n1, b1, rfl⟩ := fit_i64 g1
  obtain ⟨n2, b2, rfl⟩ := fit_i64 g2
  obtain ⟨n3, b3, rfl⟩ := fit_i64 g3
  obtain ⟨n4, b4, rfl⟩ := fit_i64 g4
  exact ⟨⟨n1, n2, n3, n4, a5⟩, trivial, rfl⟩
theorem tells_c {a0 a1 a2 a3 a4 a5 : AV} (g0 : FitA (false, [.int .i64]) a0) (g1 : FitA (false, [.int .i64]) a1) (g2 : FitA (false, [.int .i64]) a2) (g3 : FitA (false, [.int .i64]) a3) (g4 : FitA (false, [.slc [.int .i64, .int .i64, .int .i64, .int .i64, .slc [.int .u8]]]) a4) (g5 : FitA (false, [.int .i64]) a5) :
    ∃ h', W K 4 [a0, a1, a2, a3, a4, a5] H.empty = some (.ret (.one (.bool true)) h') := by
  obtain ⟨x0, i0, j0, rfl⟩ := i64_inv g0
  obtain ⟨x1, i1, j1, rfl⟩ := i64_inv g1
  obtain ⟨x2, i2, j2, rfl⟩ := i64_inv g2
  obtain ⟨x3, i3, j3, rfl⟩ := i64_inv g3
  obtain ⟨x5, i5, j5, rfl⟩ := i64_inv g5
  obtain ⟨x4, rfl, f4⟩ := fit_one g4
  obtain ⟨o, _, _, rfl⟩ := fit_sl fit_it f4
  obtain ⟨r, e, hr⟩ := fairTells_c x0 x1 x2 x3 x5 ⟨i0, j0⟩ ⟨i1, j1⟩ ⟨i2, j2⟩ ⟨i3, j3⟩ ⟨i5, j5⟩ o H.empty
  obtain ⟨v, h', rfl, rfl⟩ := hr.ret
  exact ⟨h', e⟩
set_option maxRecDepth 100000 in
theorem fairTells_lifted (os : Os) (started : os.Started) (H : Type) (enc : TypeId × Value → H) :
    ReturnsInHanded {} Tryz.checked os 4 .any (Rows.fairTellsSpec.pre6 enc Tryz.prog Tryz.f4 [] false) (Rows.fairTellsSpec.post enc Tryz.prog Tryz.f4 false true false false) := by
  refine law_lifted (Ck := Tryz.checked) Tryz.own started (by kernel_rfl) Tryz.func4 Tryz.laidOut (tb := 4) (by kernel_rfl) Tryz.underlying4 (by intro t ht; have : t ∈ [3, 3, 3, 3, 24, 3] := ht; simp at this; rcases this with rfl | rfl | rfl <;> exact ⟨by kernel_rfl, of_decide_eq_true (by kernel_rfl)⟩) fairTells_spec
    (ChangeSpec.witness6 (enc := enc) (C := Tryz.checked) false ⟨#[], #[.int .i64 0, .int .i64 0, .int .i64 0, .int .i64 0, .slice none 0 0, .int .i64 0], []⟩ 8 (by kernel_rfl) (by kernel_rfl) (by kernel_rfl) (by kernel_rfl))
    (n := 6) (shs := [(false, [.int .i64]), (false, [.int .i64]), (false, [.int .i64]), (false, [.int .i64]), (false, [.slc [.int .i64, .int .i64, .int .i64, .int .i64, .slc [.int .u8]]]), (false, [.int .i64])]) (by kernel_rfl) ?_
  intro w xs args hf ha
  obtain ⟨a0, r0, rfl, g0, hf⟩ := fit_cons hf
  obtain ⟨a1, r1, rfl, g1, hf⟩ := fit_cons hf
  obtain ⟨a2, r2, rfl, g2, hf⟩ := fit_cons hf
  obtain ⟨a3, r3, rfl, g3, hf⟩ := fit_cons hf
  obtain ⟨a4, r4, rfl, g4, hf⟩ := fit_cons hf
  obtain ⟨a5, r5, rfl, g5, hf⟩ := fit_cons hf
  cases fit_nil hf
  exact law_calls (C := K) W_K Tryz.func4 rfl (by kernel_rfl) ha (tells_c g0 g1 g2 g3 g4 g5)
theorem fairTells_holds : Rows.FairTellsSaid :=
  OpenClaim.holds_of_wide 4 Tryz.f4 rfl rfl rfl rfl rfl rfl rfl ⟨rfl, rfl, rfl, rfl, rfl⟩ rfl rfl rfl rfl rfl (by kernel_rfl) Tryz.func4 fairTells_facts
    (of_decide_eq_true (by kernel_rfl)) (by unfold Func.isWrapper; first | (rw [if_pos (by decide +kernel)]; kernel_rfl) | (rw [if_neg (by decide +kernel)]; exact ⟨rfl, rfl⟩))
    (fun os started H enc _ => fairTells_lifted os started H enc)
#print axioms fairTells_holds
end Go.Proofs.YthdfhffpnoocbaaGreat
