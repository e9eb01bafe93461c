/- A part of a proof over the abstract machine. No conditions. -/
import Derived.Test.YthdfhffpnoocbaaGreatF2
namespace Go.Proofs.YthdfhffpnoocbaaGreat
open Go Go.Ab Wm
set_option linter.unusedSimpArgs false
set_option linter.unnecessarySimpa false
set_option linter.unusedVariables false
set_option maxRecDepth 10000
set_option maxHeartbeats 4000000
theorem within_c (n lo hi : Int) (h1 : -1099511627776 ≤ lo) (h2 : lo ≤ hi) (h3 : hi ≤ 1099511627776) (hn : -9223372036854775808 ≤ n ∧ n < 9223372036854775808) (h : H) : W K 12 [.one (ii n), .one (ii lo), .one (ii hi)] h = some (.ret (.one (ii (withinI n lo hi))) h) := by
  have hd : 0 < hi - lo + 1 := by omega
  have m1 := Int.tmod_lt_of_pos n hd
  have m2 : -(hi - lo + 1) < n.tmod (hi - lo + 1) := by
    rcases Int.le_total 0 n with h | h
    · have := Int.tmod_nonneg (hi - lo + 1) h; omega
    · have h3 := Int.tmod_lt_of_pos (-n) hd
      rw [Int.neg_tmod] at h3; omega
  have w1 : IntKind.i64.wrap (hi - lo) = hi - lo := wrap_i64 (by omega) (by omega)
  have w2 : IntKind.i64.wrap (hi - lo + 1) = hi - lo + 1 := wrap_i64 (by omega) (by omega)
  have e0 : ¬ hi - lo + 1 = 0 := by omega
  unfold withinI
  generalize hm : n.tmod (hi - lo + 1) = m at *
  have w3 : IntKind.i64.wrap (m + hi) = m + hi := wrap_i64 (by omega) (by omega)
  have w4 : IntKind.i64.wrap (m + hi - lo) = m + hi - lo := wrap_i64 (by omega) (by omega)
  have w5 : IntKind.i64.wrap (m + hi - lo + 1) = m + hi - lo + 1 := wrap_i64 (by omega) (by omega)
  have w6 : IntKind.i64.wrap (lo + m) = lo + m := wrap_i64 (by omega) (by omega)
  have w7 : IntKind.i64.wrap (lo + (m + hi - lo + 1)) = lo + (m + hi - lo + 1) := wrap_i64 (by omega) (by omega)
  refine W_does hp rfl rfl rfl Tryz.func12 rfl (by simp [Tryz.f12]) ?_
  simp only [Tryz.f12]
  refine hide ?_; intro Q1 hQ1
  repeat' (first
    | (replace hQ1 := hQ1; simp [w1, w2, w3, w4, w5, w6, w7, e0, hm])
    | (refine hQ1 _ _ _ ?_; clear hQ1 Q1; first | simp only [] | simp [w1, w2, w3, w4, w5, w6, w7, e0, hm])
    | (first | apply cF | apply wN | apply wS) <;> intro hcnd <;> (try simp only [hcnd]) <;> (try simp [-List.isEmpty_iff, -List.isEmpty_eq_false_iff] at hcnd))
  all_goals first | done | (simp_all [-List.isEmpty_iff, -List.isEmpty_eq_false_iff, ← List.isEmpty_iff]; done) | (simp_all; done) | (simp_all; omega) | (simp; omega) | (intros; omega) | (intros; simp only [decide_eq_true_eq] at *; omega) | (intros; simp at *; omega) | skip
def I64 (n : Int) : Prop := -9223372036854775808 ≤ n ∧ n < 9223372036854775808
theorem tmod_pos {a b : Int} (h : 0 ≤ a) : a.tmod b = a % b := Int.tmod_eq_emod_of_nonneg h
def askedI (x : It) : It := if x.kind = 1 then (if x.n = 100 then ⟨1, 0, 100, 0, .nilslc⟩ else if x.n = 101 then ⟨1, 0, 101, x.client, .nilslc⟩ else ⟨1, x.group, x.n, 0, .nilslc⟩) else ⟨x.kind, 0, 0, 0, .nilslc⟩
theorem asked_c (x : It) (h : H) : ∃ r, W K 14 [.agg (encIt x)] h = some r ∧ Rets (fun v h' => v = .agg (encIt (askedI x)) ∧ h.next ≤ h'.next ∧ ∀ b, b < h.next → h'.f b = h.f b) r := by
  refine Rets.intro fun P hP => ?_
  obtain ⟨kind, group, n, client, z⟩ := x
  simp only [encIt]
  unfold askedI at hP
  simp only at hP
  have n1 : ¬ h.next = h.next + 1 := by omega
  have n2 : ¬ h.next + 1 = h.next := by omega
  have n3 : ¬ h.next = h.next + 1 + 1 := by omega
  have n4 : ¬ h.next + 1 = h.next + 1 + 1 := by omega
  have n5 : ¬ h.next + 1 + 1 = h.next := by omega
  have n6 : ¬ h.next + 1 + 1 = h.next + 1 := by omega
  have fin : ∀ b, b < h.next → (¬ b = h.next ∧ ¬ b = h.next + 1 ∧ ¬ b = h.next + 1 + 1) := fun b hb => by omega
  by_cases h1 : kind = 1
  · subst h1
    rw [if_pos rfl] at hP
    by_cases h2 : n = 100
    · subst h2
      rw [if_pos rfl] at hP
      refine W_doesQ hp rfl rfl rfl Tryz.func14 rfl (by simp [Tryz.f14]) ?_
      simp only [Tryz.f14]
      refine hide ?_; intro Q2 hQ2
      repeat' (first
        | (replace hQ2 := hQ2; simp [n1, n2, n3, n4, n5, n6])
        | refine hQ2 _ _ _ ?_
        | (first | apply cF | apply wN | apply wS) <;> intro hcnd <;> (try simp only [hcnd]) <;> (try simp [-List.isEmpty_iff, -List.isEmpty_eq_false_iff] at hcnd))
      all_goals (refine hP _ _ ?_; exact ⟨rfl, by simp <;> omega, fun b hb => by obtain ⟨f1, f2, f3⟩ := fin b hb; simp [set_at, new_at, f1, f2, f3]⟩)
    · rw [if_neg h2] at hP
      have d2 : (n == 100) = false := by simp [h2]
      by_cases h3 : n = 101
      · subst h3
        rw [if_pos rfl] at hP
        refine W_doesQ hp rfl rfl rfl Tryz.func14 rfl (by simp [Tryz.f14]) ?_
        simp only [Tryz.f14]
        refine hide ?_; intro Q3 hQ3
        repeat' (first
          | (replace hQ3 := hQ3; simp [n1, n2, n3, n4, n5, n6])
          | refine hQ3 _ _ _ ?_
          | (first | apply cF | apply wN | apply wS) <;> intro hcnd <;> (try simp only [hcnd]) <;> (try simp [-List.isEmpty_iff, -List.isEmpty_eq_false_iff] at hcnd))
        all_goals (refine hP _ _ ?_; exact ⟨rfl, by simp <;> omega, fun b hb => by obtain ⟨f1, f2, f3⟩ := fin b hb; simp [set_at, new_at, f1, f2, f3]⟩)
      · rw [if_neg h3] at hP
        have d3 : (n == 101) = false := by simp [h3]
        refine W_doesQ hp rfl rfl rfl Tryz.func14 rfl (by simp [Tryz.f14]) ?_
        simp only [Tryz.f14]
        refine hide ?_; intro Q4 hQ4
        repeat' (first
          | (replace hQ4 := hQ4; simp [n1, n2, n3, n4, n5, n6, h2, h3, d2, d3])
          | refine hQ4 _ _ _ ?_
          | (first | apply cF | apply wN | apply wS) <;> intro hcnd <;> (try simp only [hcnd]) <;> (try simp [-List.isEmpty_iff, -List.isEmpty_eq_false_iff] at hcnd))
        all_goals (refine hP _ _ ?_; exact ⟨rfl, by simp <;> omega, fun b hb => by obtain ⟨f1, f2, f3⟩ := fin b hb; simp [set_at, new_at, f1, f2, f3]⟩)
  · rw [if_neg h1] at hP
    have d1 : (kind == 1) = false := by simp [h1]
    refine W_doesQ hp rfl rfl rfl Tryz.func14 rfl (by simp [Tryz.f14]) ?_
    simp only [Tryz.f14]
    refine hide ?_; intro Q5 hQ5
    repeat' (first
      | (replace hQ5 := hQ5; simp [n1, n2, n3, n4, n5, n6, h1, d1])
      | refine hQ5 _ _ _ ?_
      | (first | apply cF | apply wN | apply wS) <;> intro hcnd <;> (try simp only [hcnd]) <;> (try simp [-List.isEmpty_iff, -List.isEmpty_eq_false_iff] at hcnd))
    all_goals (refine hP _ _ ?_; exact ⟨rfl, by simp <;> omega, fun b hb => by obtain ⟨f1, f2, f3⟩ := fin b hb; simp [set_at, new_at, f1, f2, f3]⟩)
def sameI (a b : It) : Bool := a.kind == b.kind && (if a.kind = 1 ∧ a.n = 100 then b.n == 100 else if a.kind = 1 ∧ a.n = 101 then b.n == 101 && a.client == b.client else a.kind != 1 || (a.n == b.n && a.group == b.group))
theorem same_c (a b : It) (h : H) : W K 7 [.agg (encIt a), .agg (encIt b)] h = some (.ret (.one (.bool (sameI a b))) ((h.new ⟨0, [5], true, encIt a⟩).new ⟨0, [5], true, encIt b⟩)) := by
  obtain ⟨k1, g1, n1, c1, z1⟩ := a
  obtain ⟨k2, g2, n2, c2, z2⟩ := b
  simp only [encIt]
  unfold sameI
  simp only
  have ne1 : ¬ h.next = h.next + 1 := by omega
  by_cases h1 : k1 = k2
  · subst h1
    by_cases h2 : k1 = 1
    · subst h2
      by_cases h3 : n1 = 100
      · subst h3
        refine W_does hp rfl rfl rfl Tryz.func7 rfl (by simp [Tryz.f7]) ?_
        simp only [Tryz.f7]
        refine hide ?_; intro Q6 hQ6
        repeat' (first
          | (replace hQ6 := hQ6; simp [ne1])
          | refine hQ6 _ _ _ ?_
          | (first | apply cF | apply wN | apply wS) <;> intro hcnd <;> (try simp only [hcnd]) <;> (try simp [-List.isEmpty_iff, -List.isEmpty_eq_false_iff] at hcnd))
        all_goals simp
      · have d3 : (n1 == 100) = false := by simp [h3]
        by_cases h4 : n1 = 101
        · subst h4
          by_cases h5 : n2 = 101
          · subst h5
            refine W_does hp rfl rfl rfl Tryz.func7 rfl (by simp [Tryz.f7]) ?_
            simp only [Tryz.f7]
            refine hide ?_; intro Q7 hQ7
            repeat' (first
              | (replace hQ7 := hQ7; simp [ne1])
              | refine hQ7 _ _ _ ?_
              | (first | apply cF | apply wN | apply wS) <;> intro hcnd <;> (try simp only [hcnd]) <;> (try simp [-List.isEmpty_iff, -List.isEmpty_eq_false_iff] at hcnd))
            all_goals simp
          · have d5 : (n2 == 101) = false := by simp [h5]
            refine W_does hp rfl rfl rfl Tryz.func7 rfl (by simp [Tryz.f7]) ?_
            simp only [Tryz.f7]
            refine hide ?_; intro Q8 hQ8
            repeat' (first
              | (replace hQ8 := hQ8; simp [ne1, h5, d5])
              | refine hQ8 _ _ _ ?_
              | (first | apply cF | apply wN | apply wS) <;> intro hcnd <;> (try simp only [hcnd]) <;> (try simp [-List.isEmpty_iff, -List.isEmpty_eq_false_iff] at hcnd))
            all_goals simp [h5]
        · have d4 : (n1 == 101) = false := by simp [h4]
          by_cases h5 : n1 = n2
          · subst h5
            refine W_does hp rfl rfl rfl Tryz.func7 rfl (by simp [Tryz.f7]) ?_
            simp only [Tryz.f7]
            refine hide ?_; intro Q9 hQ9
            repeat' (first
              | (replace hQ9 := hQ9; simp [ne1, h3, h4, d3, d4])
              | refine hQ9 _ _ _ ?_
              | (first | apply cF | apply wN | apply wS) <;> intro hcnd <;> (try simp only [hcnd]) <;> (try simp [-List.isEmpty_iff, -List.isEmpty_eq_false_iff] at hcnd))
            all_goals simp [h3, h4]
          · have d5 : (n1 == n2) = false := by simp [h5]
            refine W_does hp rfl rfl rfl Tryz.func7 rfl (by simp [Tryz.f7]) ?_
            simp only [Tryz.f7]
            refine hide ?_; intro Q10 hQ10
            repeat' (first
              | (replace hQ10 := hQ10; simp [ne1, h3, h4, h5, d3, d4, d5])
              | refine hQ10 _ _ _ ?_
              | (first | apply cF | apply wN | apply wS) <;> intro hcnd <;> (try simp only [hcnd]) <;> (try simp [-List.isEmpty_iff, -List.isEmpty_eq_false_iff] at hcnd))
            all_goals simp [h3, h4, h5]
    · have d2 : (k1 == 1) = false := by simp [h2]
      have e2 : (k1 != 1) = true := by simp [h2]
      refine W_does hp rfl rfl rfl Tryz.func7 rfl (by simp [Tryz.f7]) ?_
      simp only [Tryz.f7]
      refine hide ?_; intro Q11 hQ11
      repeat' (first
        | (replace hQ11 := hQ11; simp [ne1, h2, d2, e2])
        | refine hQ11 _ _ _ ?_
        | (first | apply cF | apply wN | apply wS) <;> intro hcnd <;> (try simp only [hcnd]) <;> (try simp [-List.isEmpty_iff, -List.isEmpty_eq_false_iff] at hcnd))
      all_goals simp [h2]
  · have d1 : (k1 == k2) = false := by simp [h1]
    have e1 : (k1 != k2) = true := by simp [h1]
    refine W_does hp rfl rfl rfl Tryz.func7 rfl (by simp [Tryz.f7]) ?_
    simp only [Tryz.f7]
    refine hide ?_; intro Q12 hQ12
    repeat' (first
      | (replace hQ12 := hQ12; simp [ne1, h1, d1, e1])
      | refine hQ12 _ _ _ ?_
      | (first | apply cF | apply wN | apply wS) <;> intro hcnd <;> (try simp only [hcnd]) <;> (try simp [-List.isEmpty_iff, -List.isEmpty_eq_false_iff] at hcnd))
    all_goals simp [h1]
end Go.Proofs.YthdfhffpnoocbaaGreat
