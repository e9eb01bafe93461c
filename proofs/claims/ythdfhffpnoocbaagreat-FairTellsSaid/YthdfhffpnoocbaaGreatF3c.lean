/- A part of a proof over the abstract machine. No conditions. -/
import Derived.Test.YthdfhffpnoocbaaGreatF3
namespace Go.Proofs.YthdfhffpnoocbaaGreat
open Go Go.Ab Wm
set_option linter.unusedSimpArgs false
set_option linter.unnecessarySimpa false
set_option linter.unusedVariables false
set_option maxRecDepth 10000
set_option maxHeartbeats 4000000
@[simp] theorem ghost_new (e h : H) (k : Blk) (b : Nat) : (e.ghost h (h.new k)).f b = if b = h.next then some k else e.f b := by
  unfold H.ghost
  rw [if_pos (by simp [H.new])]
  by_cases hb : b = h.next
  · simp [hb, H.new]
  · simp [hb]
theorem config_c (g n k : Int) (hg : I64 g) (hn : I64 n) (hk : I64 k) (h : H) : ∃ g' n' k' : Nat, (g' = 1 ∨ g' = 2 ∨ g' = 3) ∧ (n' = 1 ∨ n' = 3) ∧ (k' = 1 ∨ k' = 2 ∨ k' = 3 ∨ k' = 4) ∧
    ∃ r, W K 11 [.one (ii g), .one (ii n), .one (ii k)] h = some r ∧ Rets (fun v h' => v = .agg [ii g', ii n', ii k'] ∧ h.next ≤ h'.next ∧ ∀ b, b < h.next → h'.f b = h.f b) r := by
  have c1 := within_c g 1 3 (by omega) (by omega) (by omega) hg
  have c2 := within_c n 0 1048576 (by omega) (by omega) (by omega) hn
  have c3 := within_c k 1 4 (by omega) (by omega) (by omega) hk
  have b1 := @withinI_bounds g 1 3 (by omega)
  have b2 := @withinI_bounds n 0 1048576 (by omega)
  have b3 := @withinI_bounds k 1 4 (by omega)
  obtain ⟨g', hg'⟩ : ∃ g' : Nat, withinI g 1 3 = g' := ⟨(withinI g 1 3).toNat, by omega⟩
  obtain ⟨k', hk'⟩ : ∃ k' : Nat, withinI k 1 4 = k' := ⟨(withinI k 1 4).toNat, by omega⟩
  have t2 : (withinI n 0 1048576).tmod 2 = withinI n 0 1048576 % 2 := tmod_pos b2.1
  rw [hg'] at c1 b1
  rw [hk'] at c3 b3
  generalize withinI n 0 1048576 = m at *
  obtain ⟨kn, hkn⟩ : ∃ kn : Nat, m % 2 = kn := ⟨(m % 2).toNat, by omega⟩
  have hkb : kn < 2 := by omega
  rw [hkn] at t2
  have hai := fun b => arr_index (P := Tryz.prog) (t := 45) (size := 1) (b := b) (v := 0) (n := 2) (i := kn) Tryz.underlying45 (by simp) (by omega) hkb
  simp only [Nat.mul_one] at hai
  obtain ⟨n', hn', hsub⟩ : ∃ n' : Nat, (n' = 1 ∨ n' = 3) ∧ sub [ii 1, ii 3] kn 1 = some [ii n'] := by
    rcases (show kn = 0 ∨ kn = 1 by omega) with rfl | rfl
    · exact ⟨1, by omega, rfl⟩
    · exact ⟨3, by omega, rfl⟩
  have hk1 : kn + 1 ≤ 2 := by omega
  refine ⟨g', n', k', by omega, hn', by omega, ?_⟩
  refine Rets.intro fun P hP => ?_
  have hne : ¬ h.next = h.next + 1 := by omega
  refine W_doesQ hp rfl rfl rfl Tryz.func11 rfl (by simp [Tryz.f11]) ?_
  simp only [Tryz.f11]
  refine hide ?_; intro Q1 hQ1
  repeat' (first
    | (replace hQ1 := hQ1; simp [c1, c2, c3, t2, hai, hsub, hk1, hne])
    | refine hQ1 _ _ _ ?_
    | refine dF (id := 1) [0, 1, 3, 4, 5, 8, 9, 2, 6, 7, 10, 11] [(9, 7)] ?_)
  all_goals (refine hP _ _ ?_; exact ⟨rfl, by simp <;> omega, fun b hb => by simp only [set_at, new_at, new_next, set_next, show ¬ b = h.next by omega, show ¬ b = h.next + 1 by omega, if_false]⟩)
end Go.Proofs.YthdfhffpnoocbaaGreat
