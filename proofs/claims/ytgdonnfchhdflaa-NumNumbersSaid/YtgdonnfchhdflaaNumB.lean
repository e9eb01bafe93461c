/- A part of a proof over the abstract machine. No conditions. -/
import Derived.Test.YtgdonnfchhdflaaNumC2
import Derived.ProofKit
/- chapter 1: what the machine answers holds in the model -/
namespace Go.Proofs.Ytgdonnfchhdflaa
open Go Go.Ab Go.ChangeShapes Go.WideShapes Go.ChangeAt Go.RowKit
set_option linter.unusedVariables false
theorem Try.okT : OkT Try.prog := okT_ok (by kernel_rfl)
theorem Try.mixed : Try.prog.follows .mixedOrders = true := by kernel_rfl
theorem Try.okNB : okNB Try.prog = true := by kernel_rfl
theorem ext10 : ExtT Try.prog 10 .frombits := ⟨_, Try.func10, by kernel_rfl, by kernel_rfl, by kernel_rfl, by kernel_rfl⟩
theorem ext31 : ExtT Try.prog 31 .bits := ⟨_, Try.func31, by kernel_rfl, by kernel_rfl, by kernel_rfl, by kernel_rfl⟩
theorem K_ok : OkC K := by
  refine ⟨okN_ok Try.okNB, fun f x hx args h r hr φ w cargs R ha => ?_, fun f g h => (by cases h), fun f => rfl⟩
  simp only [K] at hx
  split at hx
  · rename_i h10; subst h10; cases hx; exact ext_ok ext10 hr R ha
  · split at hx
    · rename_i h31; subst h31; cases hx; exact ext_ok ext31 hr R ha
    · cases hx
theorem W_K : CallsOk Try.prog (W K) := W_ok (C := K) Try.okT (fun t z h => (by cases h)) K_ok hp Try.mixed
theorem Try.own : ownKnob Try.prog.godebug = none := by kernel_rfl
theorem Try.laidOut : laidOutB Try.prog = true := by kernel_rfl
theorem u64_inv {a : AV} (h : FitA (false, [.int .u64]) a) : ∃ n : Nat, n < 2 ^ 64 ∧ a = .one (.int .u64 n) := by
  obtain ⟨x, c, h1, rfl, h2⟩ : ∃ x c, [CS.int .u64] = [c] ∧ a = .one x ∧ Fit c x := by simpa [FitA] using h
  cases h1
  cases h2 with
  | int k n h3 h4 =>
    have h3' : (0 : Int) ≤ n := h3
    have h4' : n ≤ 18446744073709551615 := h4
    exact ⟨n.toNat, by omega, by rw [Int.toNat_of_nonneg h3']⟩
theorem i64_inv {a : AV} (h : FitA (false, [.int .i64]) a) : ∃ n : Int, -9223372036854775808 ≤ n ∧ n < 9223372036854775808 ∧ a = .one (.int .i64 n) := by
  obtain ⟨x, c, h1, rfl, h2⟩ : ∃ x c, [CS.int .i64] = [c] ∧ a = .one x ∧ Fit c x := by simpa [FitA] using h
  cases h1
  cases h2 with
  | int k n h3 h4 =>
    have h3' : (-9223372036854775808 : Int) ≤ n := h3
    have h4' : n ≤ 9223372036854775807 := h4
    exact ⟨n, h3', by omega, rfl⟩
theorem f64_inv {a : AV} (h : FitA (false, [.flt]) a) : ∃ n : Nat, n < 2 ^ 64 ∧ a = .one (.flt n) := by
  obtain ⟨x, c, h1, rfl, h2⟩ : ∃ x c, [CS.flt] = [c] ∧ a = .one x ∧ Fit c x := by simpa [FitA] using h
  cases h1
  cases h2 with
  | flt b hb => exact ⟨b, hb, rfl⟩
theorem fit_cons {p : Bool × List CS} {ps : List (Bool × List CS)} {xs : List AV} (h : FitAL (p :: ps) xs) : ∃ a xs', xs = a :: xs' ∧ FitA p a ∧ FitAL ps xs' := by
  cases h with | cons _ a _ xs' h1 h2 => exact ⟨a, xs', rfl, h1, h2⟩
theorem fit_nil {xs : List AV} (h : FitAL [] xs) : xs = [] := by cases h; rfl

end Go.Proofs.Ytgdonnfchhdflaa
