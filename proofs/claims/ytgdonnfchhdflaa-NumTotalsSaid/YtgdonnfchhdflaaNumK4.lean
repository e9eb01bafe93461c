/- A part of a proof over the abstract machine. No conditions. -/
import Derived.Test.YtgdonnfchhdflaaNumB
import Derived.Test.YtgdonnfchhdflaaNumC5
/- NumTotals: the least is not above the most; a total of a list is that of its first part and each of the rest; of one it is that one: for every input. No conditions. -/
namespace Go.Proofs.Ytgdonnfchhdflaa
open Go Go.Ab Go.ChangeShapes Go.WideShapes Go.ChangeAt Go.RowKit
set_option linter.unusedVariables false
theorem fitN_u64 : ∀ {n : Nat} {cells : List AS}, FitN [.int .u64] n cells → ∃ us : List Nat, us.length = n ∧ (∀ u ∈ us, u < 2 ^ 64) ∧ cells = us.map fun n : Nat => AS.int .u64 (n : Int)
  | _, _, .zero _ => ⟨[], rfl, by simp, rfl⟩
  | _, _, .succ _ n a l h1 h2 => by
    obtain ⟨us, e1, e2, rfl⟩ := fitN_u64 h2
    cases h1 with
    | cons _ x _ _ hx ht =>
      cases ht
      cases hx with
      | int k m h3 h4 =>
        have h3' : (0 : Int) ≤ m := h3
        have h4' : m ≤ 18446744073709551615 := h4
        refine ⟨m.toNat :: us, by simp [e1], ?_, ?_⟩
        · intro u hu
          rcases List.mem_cons.1 hu with rfl | hu
          · omega
          · exact e2 u hu
        · simp [Int.toNat_of_nonneg h3']
theorem su64_inv {a : AV} (h : FitA (false, [.slc [.int .u64]]) a) : ∃ (s : AS) (us : List Nat), AnyU s us ∧ (∀ u ∈ us, u < 2 ^ 64) ∧ us.length < 9223372036854775808 ∧ a = .one s := by
  obtain ⟨x, c, h1, rfl, h2⟩ : ∃ x c, [CS.slc [CS.int .u64]] = [c] ∧ a = .one x ∧ Fit c x := by simpa [FitA] using h
  cases h1
  cases h2 with
  | nil l => exact ⟨_, [], .inl ⟨rfl, rfl⟩, by simp, by simp, rfl⟩
  | slc l n s cells hs hn hf =>
    obtain ⟨us, e1, e2, rfl⟩ := fitN_u64 hf
    subst e1; subst hs
    exact ⟨_, us, .inr rfl, e2, by unfold maxLen at hn; omega, rfl⟩
theorem numTotals_spec : LawSpec Rows.numTotalsSpec 2 := by
  refine ⟨rfl, fun H ds hd => ?_⟩
  rcases ds with _ | ⟨d1, _ | ⟨d2, _ | ⟨d3, ds⟩⟩⟩ <;> simp at hd
  rfl
set_option maxRecDepth 100000 in
theorem numTotals_lifted (os : Os) (started : os.Started) (H : Type) (enc : TypeId × Value → H) :
    ReturnsInHanded {} Try.checked os 6 .any (Rows.numTotalsSpec.pre6 enc Try.prog Try.f6 [] false) (Rows.numTotalsSpec.post enc Try.prog Try.f6 false true false false) := by
  refine law_lifted (Ck := Try.checked) Try.own started (by kernel_rfl) Try.func6 Try.laidOut (tb := 4) (by kernel_rfl) Try.underlying4 (by intro t ht; have : t ∈ [38, 3] := ht; simp at this; rcases this with rfl | rfl <;> exact ⟨by kernel_rfl, of_decide_eq_true (by kernel_rfl)⟩) numTotals_spec
    (ChangeSpec.witness6 (enc := enc) (C := Try.checked) false ⟨#[], #[.slice none 0 0, .int .i64 0], []⟩ 8 (by kernel_rfl) (by kernel_rfl) (by kernel_rfl) (by kernel_rfl))
    (n := 6) (shs := [(false, [.slc [.int .u64]]), (false, [.int .i64])]) (by kernel_rfl) ?_
  intro w xs args hf ha
  obtain ⟨a0, r0, rfl, g0, hf⟩ := fit_cons hf
  obtain ⟨a1, r1, rfl, g1, hf⟩ := fit_cons hf
  cases fit_nil hf
  obtain ⟨s0, us0, hs0, hb0, hl0, rfl⟩ := su64_inv g0
  obtain ⟨n1, h11, h21, rfl⟩ := i64_inv g1
  exact law_calls (C := K) W_K Try.func6 rfl (by kernel_rfl) ha (totals_c s0 us0 n1 hs0 hb0 hl0 h11 h21 _)
theorem numTotals_holds : Rows.NumTotalsSaid :=
  OpenClaim.holds_of_wide 6 Try.f6 rfl rfl rfl rfl rfl rfl rfl ⟨rfl, rfl, rfl, rfl, rfl⟩ rfl rfl rfl rfl rfl (by kernel_rfl) Try.func6 (by kernel_rfl)
    (of_decide_eq_true (by kernel_rfl)) (by unfold Func.isWrapper; first | (rw [if_pos (by decide +kernel)]; kernel_rfl) | (rw [if_neg (by decide +kernel)]; exact ⟨rfl, rfl⟩))
    (fun os started H enc _ => numTotals_lifted os started H enc)
#print axioms numTotals_holds
end Go.Proofs.Ytgdonnfchhdflaa
