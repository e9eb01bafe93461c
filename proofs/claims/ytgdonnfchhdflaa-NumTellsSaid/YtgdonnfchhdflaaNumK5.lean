/- A part of a proof over the abstract machine. No conditions. -/
import Derived.Test.YtgdonnfchhdflaaNumB
import Derived.Test.YtgdonnfchhdflaaNumC8
/- NumTells: floats are ordered, added, told apart as the document says, for any input. No conditions. -/
namespace Go.Proofs.Ytgdonnfchhdflaa
open Go Go.Ab Go.ChangeShapes Go.WideShapes Go.ChangeAt Go.RowKit
set_option linter.unusedVariables false
theorem fitN_f64 : ∀ {n : Nat} {cells : List AS}, FitN [.flt] n cells → ∃ us : List Nat, us.length = n ∧ (∀ u ∈ us, u < 2 ^ 64) ∧ cells = us.map AS.flt
  | _, _, .zero _ => ⟨[], rfl, by simp, rfl⟩
  | _, _, .succ _ n a l h1 h2 => by
    obtain ⟨us, e1, e2, rfl⟩ := fitN_f64 h2
    cases h1 with
    | cons _ x _ _ hx ht =>
      cases ht
      cases hx with
      | flt b hb =>
        refine ⟨b :: us, by simp [e1], ?_, rfl⟩
        intro u hu
        rcases List.mem_cons.1 hu with rfl | hu
        · exact hb
        · exact e2 u hu
theorem sf64_inv {a : AV} (h : FitA (false, [.slc [.flt]]) a) : ∃ (s : AS) (us : List Nat), AnyF s us ∧ (∀ u ∈ us, u < 2 ^ 64) ∧ us.length < 9223372036854775808 ∧ a = .one s := by
  obtain ⟨x, c, h1, rfl, h2⟩ : ∃ x c, [CS.slc [CS.flt]] = [c] ∧ a = .one x ∧ Fit c x := by simpa [FitA] using h
  cases h1
  cases h2 with
  | nil l => exact ⟨_, [], .inl ⟨rfl, rfl⟩, by simp, by simp, rfl⟩
  | slc l n s cells hs hn hf =>
    obtain ⟨us, e1, e2, rfl⟩ := fitN_f64 hf
    subst e1; subst hs
    exact ⟨_, us, .inr rfl, e2, by unfold maxLen at hn; omega, rfl⟩
theorem numTells_spec : LawSpec Rows.numTellsSpec 7 := by
  refine ⟨rfl, fun H ds hd => ?_⟩
  rcases ds with _ | ⟨d1, _ | ⟨d2, _ | ⟨d3, _ | ⟨d4, _ | ⟨d5, _ | ⟨d6, _ | ⟨d7, _ | ⟨d8, ds⟩⟩⟩⟩⟩⟩⟩⟩ <;> simp at hd
  rfl
set_option maxRecDepth 100000 in
theorem numTells_lifted (os : Os) (started : os.Started) (H : Type) (enc : TypeId × Value → H) :
    ReturnsInHanded {} Try.checked os 8 .any (Rows.numTellsSpec.pre6 enc Try.prog Try.f8 [] false) (Rows.numTellsSpec.post enc Try.prog Try.f8 false true false false) := by
  refine law_lifted (Ck := Try.checked) Try.own started (by kernel_rfl) Try.func8 Try.laidOut (tb := 4) (by kernel_rfl) Try.underlying4 (by intro t ht; have : t ∈ [22, 22, 23, 23, 3, 3, 39] := ht; simp at this; rcases this with rfl | rfl | rfl | rfl <;> exact ⟨by kernel_rfl, of_decide_eq_true (by kernel_rfl)⟩) numTells_spec
    (ChangeSpec.witness6 (enc := enc) (C := Try.checked) false ⟨#[], #[.int .u64 0, .int .u64 0, .float .f64 0, .float .f64 0, .int .i64 0, .int .i64 0, .slice none 0 0], []⟩ 8 (by kernel_rfl) (by kernel_rfl) (by kernel_rfl) (by kernel_rfl))
    (n := 6) (shs := [(false, [.int .u64]), (false, [.int .u64]), (false, [.flt]), (false, [.flt]), (false, [.int .i64]), (false, [.int .i64]), (false, [.slc [.flt]])]) (by kernel_rfl) ?_
  intro w xs args hf ha
  obtain ⟨a0, r0, rfl, g0, hf⟩ := fit_cons hf
  obtain ⟨a1, r1, rfl, g1, hf⟩ := fit_cons hf
  obtain ⟨a2, r2, rfl, g2, hf⟩ := fit_cons hf
  obtain ⟨a3, r3, rfl, g3, hf⟩ := fit_cons hf
  obtain ⟨a4, r4, rfl, g4, hf⟩ := fit_cons hf
  obtain ⟨a5, r5, rfl, g5, hf⟩ := fit_cons hf
  obtain ⟨a6, r6, rfl, g6, hf⟩ := fit_cons hf
  cases fit_nil hf
  obtain ⟨n0, h0, rfl⟩ := u64_inv g0
  obtain ⟨n1, h1, rfl⟩ := u64_inv g1
  obtain ⟨n2, h2, rfl⟩ := f64_inv g2
  obtain ⟨n3, h3, rfl⟩ := f64_inv g3
  obtain ⟨n4, h14, h24, rfl⟩ := i64_inv g4
  obtain ⟨n5, h15, h25, rfl⟩ := i64_inv g5
  obtain ⟨s6, us6, hs6, hb6, hl6, rfl⟩ := sf64_inv g6
  exact law_calls (C := K) W_K Try.func8 rfl (by kernel_rfl) ha (tells_c n0 n1 n2 n3 n4 n5 s6 us6 h0 h1 h2 h3 h14 h24 h15 h25 hs6 hb6 hl6 _)
theorem numTells_holds : Rows.NumTellsSaid :=
  OpenClaim.holds_of_wide 8 Try.f8 rfl rfl rfl rfl rfl rfl rfl ⟨rfl, rfl, rfl, rfl, rfl⟩ rfl rfl rfl rfl rfl (by kernel_rfl) Try.func8 (by kernel_rfl)
    (of_decide_eq_true (by kernel_rfl)) (by unfold Func.isWrapper; first | (rw [if_pos (by decide +kernel)]; kernel_rfl) | (rw [if_neg (by decide +kernel)]; exact ⟨rfl, rfl⟩))
    (fun os started H enc _ => numTells_lifted os started H enc)
#print axioms numTells_holds
end Go.Proofs.Ytgdonnfchhdflaa
