/- A part of a proof over the abstract machine. No conditions. -/
import Derived.Test.YthdfhffpnoocbaaGreatF1
import Derived.Test.YthdfhffpnoocbaaGreatF1b
import Derived.Test.YthdfhffpnoocbaaGreatF1c
namespace Go.Proofs.YthdfhffpnoocbaaGreat
open Go Go.Ab Wm
theorem round_c (g n k : Nat) (hg : g = 1 ∨ g = 2 ∨ g = 3) (hn : n = 1 ∨ n = 3) (hk : k = 1 ∨ k = 2 ∨ k = 3 ∨ k = 4) (h : H) : Laid 5 [.agg [ii g, ii n, ii k]] (roundL g n k) h := by
  rcases hg with rfl | rfl | rfl <;> rcases hn with rfl | rfl <;> rcases hk with rfl | rfl | rfl | rfl
  · exact laid_of r111 (by decide) h
  · exact laid_of r112 (by decide) h
  · exact laid_of r113 (by decide) h
  · exact laid_of r114 (by decide) h
  · exact laid_of r131 (by decide) h
  · exact laid_of r132 (by decide) h
  · exact laid_of r133 (by decide) h
  · exact laid_of r134 (by decide) h
  · exact laid_of r211 (by decide) h
  · exact laid_of r212 (by decide) h
  · exact laid_of r213 (by decide) h
  · exact laid_of r214 (by decide) h
  · exact laid_of r231 (by decide) h
  · exact laid_of r232 (by decide) h
  · exact laid_of r233 (by decide) h
  · exact laid_of r234 (by decide) h
  · exact laid_of r311 (by decide) h
  · exact laid_of r312 (by decide) h
  · exact laid_of r313 (by decide) h
  · exact laid_of r314 (by decide) h
  · exact laid_of r331 (by decide) h
  · exact laid_of r332 (by decide) h
  · exact laid_of r333 (by decide) h
  · exact laid_of r334 (by decide) h
theorem lawAsked_c (g n k : Nat) (hg : g = 1 ∨ g = 2 ∨ g = 3) (hn : n = 1 ∨ n = 3) (hk : k = 1 ∨ k = 2 ∨ k = 3 ∨ k = 4) (h : H) : Laid 6 [.agg [ii g, ii n, ii k]] (roundL g n k) h := by
  rcases hg with rfl | rfl | rfl <;> rcases hn with rfl | rfl <;> rcases hk with rfl | rfl | rfl | rfl
  · exact laid_of a111 (by decide) h
  · exact laid_of a112 (by decide) h
  · exact laid_of a113 (by decide) h
  · exact laid_of a114 (by decide) h
  · exact laid_of a131 (by decide) h
  · exact laid_of a132 (by decide) h
  · exact laid_of a133 (by decide) h
  · exact laid_of a134 (by decide) h
  · exact laid_of a211 (by decide) h
  · exact laid_of a212 (by decide) h
  · exact laid_of a213 (by decide) h
  · exact laid_of a214 (by decide) h
  · exact laid_of a231 (by decide) h
  · exact laid_of a232 (by decide) h
  · exact laid_of a233 (by decide) h
  · exact laid_of a234 (by decide) h
  · exact laid_of a311 (by decide) h
  · exact laid_of a312 (by decide) h
  · exact laid_of a313 (by decide) h
  · exact laid_of a314 (by decide) h
  · exact laid_of a331 (by decide) h
  · exact laid_of a332 (by decide) h
  · exact laid_of a333 (by decide) h
  · exact laid_of a334 (by decide) h
theorem known_c (h : H) : ∃ h', W K 10 [] h = some (.ret (.one (.bool true)) h') := by
  obtain ⟨h', e, _⟩ := W_entry hp hRn known_e rfl (fun ρ => rfl) h
  exact ⟨h', by simpa [knE, mV, mS] using e⟩
end Go.Proofs.YthdfhffpnoocbaaGreat
