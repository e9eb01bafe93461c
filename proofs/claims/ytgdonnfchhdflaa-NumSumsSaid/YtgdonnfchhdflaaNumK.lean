/- A part of a proof over the abstract machine. No conditions. -/
import Derived.Test.YtgdonnfchhdflaaNumC2
import Derived.ProofKit
/- chapter 1: what the machine answers holds in the model -/
namespace Go.Proofs.Ytgdonnfchhdflaa
open Go Go.Ab Go.ChangeShapes Go.WideShapes Go.ChangeAt Go.RowKit
set_option linter.unusedVariables false
theorem Try.okT : OkT Try.prog := okT_ok (by kernel_rfl)
theorem Try.mixed : Try.prog.follows .mixedOrders = true := by kernel_rfl
theorem Try.okNB : okNB Try.prog = true := by kernel_rfl
theorem ext10 : ExtT Try.prog 10 .frombits := ⟨_, Try.func10, by kernel_rfl, by kernel_rfl, by kernel_rfl, by kernel_rfl⟩
theorem ext31 : ExtT Try.prog 31 .bits := ⟨_, Try.func31, by kernel_rfl, by kernel_rfl, by kernel_rfl, by kernel_rfl⟩
theorem K_ok : OkC K := by
  refine ⟨okN_ok Try.okNB, fun f x hx args h r hr φ w cargs R ha => ?_, fun f g h => (by cases h), fun f => rfl⟩
  simp only [K] at hx
  split at hx
  · rename_i h10; subst h10; cases hx; exact ext_ok ext10 hr R ha
  · split at hx
    · rename_i h31; subst h31; cases hx; exact ext_ok ext31 hr R ha
    · cases hx
theorem W_K : CallsOk Try.prog (W K) := W_ok (C := K) Try.okT (fun t z h => (by cases h)) K_ok hp Try.mixed
theorem Try.own : ownKnob Try.prog.godebug = none := by kernel_rfl
theorem Try.laidOut : laidOutB Try.prog = true := by kernel_rfl
theorem u64_inv {a : AV} (h : FitA (false, [.int .u64]) a) : ∃ n : Nat, n < 2 ^ 64 ∧ a = .one (.int .u64 n) := by
  obtain ⟨x, c, h1, rfl, h2⟩ : ∃ x c, [CS.int .u64] = [c] ∧ a = .one x ∧ Fit c x := by simpa [FitA] using h
  cases h1
  cases h2 with
  | int k n h3 h4 =>
    have h3' : (0 : Int) ≤ n := h3
    have h4' : n ≤ 18446744073709551615 := h4
    exact ⟨n.toNat, by omega, by rw [Int.toNat_of_nonneg h3']⟩
theorem i64_inv {a : AV} (h : FitA (false, [.int .i64]) a) : ∃ n : Int, -9223372036854775808 ≤ n ∧ n < 9223372036854775808 ∧ a = .one (.int .i64 n) := by
  obtain ⟨x, c, h1, rfl, h2⟩ : ∃ x c, [CS.int .i64] = [c] ∧ a = .one x ∧ Fit c x := by simpa [FitA] using h
  cases h1
  cases h2 with
  | int k n h3 h4 =>
    have h3' : (-9223372036854775808 : Int) ≤ n := h3
    have h4' : n ≤ 9223372036854775807 := h4
    exact ⟨n, h3', by omega, rfl⟩
theorem f64_inv {a : AV} (h : FitA (false, [.flt]) a) : ∃ n : Nat, n < 2 ^ 64 ∧ a = .one (.flt n) := by
  obtain ⟨x, c, h1, rfl, h2⟩ : ∃ x c, [CS.flt] = [c] ∧ a = .one x ∧ Fit c x := by simpa [FitA] using h
  cases h1
  cases h2 with
  | flt b hb => exact ⟨b, hb, rfl⟩
theorem fit_cons {p : Bool × List CS} {ps : List (Bool × List CS)} {xs : List AV} (h : FitAL (p :: ps) xs) : ∃ a xs', xs = a :: xs' ∧ FitA p a ∧ FitAL ps xs' := by
  cases h with | cons _ a _ xs' h1 h2 => exact ⟨a, xs', rfl, h1, h2⟩
theorem fit_nil {xs : List AV} (h : FitAL [] xs) : xs = [] := by cases h; rfl

/-! NumSums -/
theorem numSums_spec : LawSpec Rows.numSumsSpec 4 := by
  refine ⟨rfl, fun H ds hd => ?_⟩
  rcases ds with _ | ⟨d1, _ | ⟨d2, _ | ⟨d3, _ | ⟨d4, _ | ⟨d5, ds⟩⟩⟩⟩⟩ <;> simp at hd
  rfl
set_option maxRecDepth 100000 in
theorem numSums_lifted (os : Os) (started : os.Started) (H : Type) (enc : TypeId × Value → H) :
    ReturnsInHanded {} Try.checked os 4 .any (Rows.numSumsSpec.pre6 enc Try.prog Try.f4 [] false) (Rows.numSumsSpec.post enc Try.prog Try.f4 false true false false) := by
  refine law_lifted (Ck := Try.checked) Try.own started (by kernel_rfl) Try.func4 Try.laidOut (tb := 4) (by kernel_rfl) Try.underlying4 (by intro t ht; have : t ∈ [22, 22, 3, 3] := ht; simp at this; rcases this with rfl | rfl <;> exact ⟨by kernel_rfl, of_decide_eq_true (by kernel_rfl)⟩) numSums_spec
    (ChangeSpec.witness6 (enc := enc) (C := Try.checked) false ⟨#[], #[.int .u64 0, .int .u64 0, .int .i64 0, .int .i64 0], []⟩ 8 (by kernel_rfl) (by kernel_rfl) (by kernel_rfl) (by kernel_rfl))
    (n := 4) (shs := [(false, [.int .u64]), (false, [.int .u64]), (false, [.int .i64]), (false, [.int .i64])]) (by kernel_rfl) ?_
  intro w xs args hf ha
  obtain ⟨a1, r1, rfl, g1, hf⟩ := fit_cons hf
  obtain ⟨a2, r2, rfl, g2, hf⟩ := fit_cons hf
  obtain ⟨a3, r3, rfl, g3, hf⟩ := fit_cons hf
  obtain ⟨a4, r4, rfl, g4, hf⟩ := fit_cons hf
  cases fit_nil hf
  obtain ⟨a, ha1, rfl⟩ := u64_inv g1
  obtain ⟨b, hb1, rfl⟩ := u64_inv g2
  obtain ⟨n, hn1, hn2, rfl⟩ := i64_inv g3
  obtain ⟨m, hm1, hm2, rfl⟩ := i64_inv g4
  exact law_calls (C := K) W_K Try.func4 rfl (by kernel_rfl) ha ⟨_, sums_c a b n m ha1 hb1 hn1 hn2 hm1 hm2 _⟩
theorem numSums_holds : Rows.NumSumsSaid :=
  OpenClaim.holds_of_wide 4 Try.f4 rfl rfl rfl rfl rfl rfl rfl ⟨rfl, rfl, rfl, rfl, rfl⟩ rfl rfl rfl rfl rfl (by kernel_rfl) Try.func4 (by kernel_rfl)
    (of_decide_eq_true (by kernel_rfl)) (by unfold Func.isWrapper; first | (rw [if_pos (by decide +kernel)]; kernel_rfl) | (rw [if_neg (by decide +kernel)]; exact ⟨rfl, rfl⟩))
    (fun os started H enc _ => numSums_lifted os started H enc)
#print axioms numSums_holds
end Go.Proofs.Ytgdonnfchhdflaa
