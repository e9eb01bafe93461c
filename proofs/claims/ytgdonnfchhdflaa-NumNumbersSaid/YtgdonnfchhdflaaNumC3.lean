/- A part of a proof over the abstract machine. No conditions. -/
import Derived.Test.YtgdonnfchhdflaaNumC2
/- chapter 1: edges, orders -/
namespace Go.Proofs.Ytgdonnfchhdflaa
open Go Go.Ab NumPlain
set_option linter.unusedSimpArgs false
set_option linter.unnecessarySimpa false
set_option linter.unusedVariables false
set_option maxRecDepth 10000
set_option maxHeartbeats 1000000

theorem frombits_n (n : Nat) (h : H) : W K 10 [.one (.int .u64 n)] h = some (.ret (.one (.flt n)) h) := by
  have := frombits_c n h
  rwa [Int.toNat_natCast] at this

/-! ### edges -/
theorem canB_nan {p : Nat} (h : INF < rung p) : canB p = QN := by unfold canB isN; simp [h]
theorem sum_nan_r (p : Nat) {q : Nat} (h : INF < rung q) : sumB p q = QN := by unfold sumB; rw [add_nan (.inr h)]
theorem sum_nan_l {p : Nat} (q : Nat) (h : INF < rung p) : sumB p q = QN := by unfold sumB; rw [add_nan (.inl h)]
theorem sum_mz (p : Nat) (hp : p < 2 ^ 64) : canB (sumB p 9223372036854775808) = canB p := by
  have hz : rung 9223372036854775808 = 0 := by decide
  have hn : neg 9223372036854775808 = true := by decide
  by_cases h : INF < rung p
  · rw [sum_nan_l _ h, canB_nan h]; decide
  · by_cases hi : rung p = INF
    · have : sumB p 9223372036854775808 = p := by
        unfold sumB
        rw [add_inf hi (by rw [hz]; decide)]
        have := word_self hp
        rw [hi] at this; exact this
      rw [this]
    · have : sumB p 9223372036854775808 = p := by
        unfold sumB
        rw [add_zero' (by omega) hz, hn, Bool.and_true]
        have := word_self hp
        simp [this]
      rw [this]
theorem sum_pz (p : Nat) (hp : p < 2 ^ 64) (h0 : rung p ≠ 0) : canB (sumB p 0) = canB p := by
  by_cases h : INF < rung p
  · rw [sum_nan_l _ h, canB_nan h]; decide
  · by_cases hi : rung p = INF
    · have : sumB p 0 = p := by
        unfold sumB
        rw [add_inf hi (by decide)]
        have := word_self hp
        rw [hi] at this; exact this
      rw [this]
    · have : sumB p 0 = p := by
        unfold sumB
        rw [add_zero' (by omega) (by decide), if_neg h0]
        exact word_self hp
      rw [this]
theorem eq_minf (p : Nat) : fcmp .eql (D.order p 18442240474082181120) = some (decide (rung p = INF) && neg p) := by
  have hm : rung 18442240474082181120 = INF := by decide
  have hn : neg 18442240474082181120 = true := by decide
  by_cases h : INF < rung p
  · rw [order_nan (.inl h)]
    have : ¬ rung p = INF := by omega
    simp [fcmp, this]
  · rw [order_word (by omega) (by rw [hm]; exact Nat.le_refl _)]
    have hs : srung 18442240474082181120 = -(INF : Int) := by unfold srung; rw [hn, hm]; rfl
    rw [hs]
    simp only [fcmp]; congr 1
    by_cases hg : rung p = INF ∧ neg p = true
    · have : srung p = -(INF : Int) := by unfold srung; rw [hg.1, hg.2]; rfl
      rw [this, hg.1, hg.2, Int.compare_eq_eq.2 rfl]; simp
    · have hlt : -(INF : Int) < srung p := by
        unfold srung sg
        cases hb : neg p with
        | true =>
          have : ¬ rung p = INF := fun h => hg ⟨h, hb⟩
          simp; omega
        | false => have : 0 < INF := by decide
                   simp; omega
      rw [Int.compare_eq_gt.2 hlt]
      cases hb : neg p
      · simp
      · have : ¬ rung p = INF := fun h => hg ⟨h, hb⟩
        simp [this]
theorem eq_zero (b : Nat) : fcmp .eql (D.order b 0) = some (decide (rung b = 0)) := by
  have := ne_zero b
  simp only [fcmp, Option.some.injEq] at this ⊢
  have hb : (D.order b 0 != some Ordering.eq) = !(D.order b 0 == some Ordering.eq) := rfl
  rw [hb] at this
  by_cases h0 : rung b = 0
  · simp only [h0, ne_eq, not_true_eq_false, decide_false] at this
    simp only [h0, decide_true]
    simpa using this
  · simp only [h0, ne_eq, not_false_eq_true, decide_true] at this
    simp only [h0, decide_false]
    simpa using this
theorem cls_nan (p : Nat) (h : INF < rung p) : clsN p = 6 := by unfold clsN isN; simp [h]
theorem edges_c (a : Nat) (n : Int) (ha : a < 2 ^ 64) (hn1 : -9223372036854775808 ≤ n) (hn2 : n < 9223372036854775808) (h : H) :
    W K 3 [.one (.int .u64 a), .one (.int .i64 n)] h = some (.ret (.one (.bool true)) h) := by
  obtain ⟨p, hp1, hp2⟩ := float_c n hn1 hn2 a ha
  have f1 := frombits_n a
  have hQ : INF < rung 9221120237041090561 := by decide
  have e1 : sumB p 9221120237041090561 = QN := sum_nan_r p hQ
  have e2 : canB (sumB 9223372036854775808 p) = canB p := by rw [sum_comm']; exact sum_mz p hp1
  have e3 := sum_mz p hp1
  have c1 := class_c QN (by decide)
  rw [cls_QN] at c1
  have c2 := class_c (sumB p 9218868437227405312) (sumB_lt _ _)
  by_cases hN : INF < rung p
  · have e4 : clsN (sumB p 9218868437227405312) = 6 := by rw [sum_nan_l _ hN]; exact cls_QN
    have e5 : isN p = true := by unfold isN; simp [hN]
    rw [e4] at c2
    refine W_does hp rfl rfl rfl Try.func3 rfl (by simp [Try.f3]) ?_
    simp only [Try.f3, List.length_cons, List.length_nil, List.replicate, List.cons_append, List.nil_append, Nat.reduceAdd, Nat.reduceSub]
    repeat' (first
      | (rw [doesO_cons]; simp [f1, hp2, copysign_c, nan_c, sum_c, bits15_c, e1, e2, e3, c1, c2, inf1_c, fcmp_self, e5, known_c])
      | (rw [doesO_nil']; refine hQ' _ _ _ ?_; simp only [])
      | refine does_seq hp ?_
      | (refine does_gen hp ?_; intro Q' hQ')
      | refine does_block hp ?_
      | (refine does_ret hp ?_; simp [f1, hp2, copysign_c, nan_c, sum_c, bits15_c, e1, e2, e3, c1, c2, inf1_c, fcmp_self, e5, known_c])
      | (refine does_skip hp ?_; simp [f1, hp2, copysign_c, nan_c, sum_c, bits15_c, e1, e2, e3, c1, c2, inf1_c, fcmp_self, e5, known_c])
      | (refine does_exit hp ?_; simp [f1, hp2, copysign_c, nan_c, sum_c, bits15_c, e1, e2, e3, c1, c2, inf1_c, fcmp_self, e5, known_c])
      | (refine does_cond' hp ?_; simp [f1, hp2, copysign_c, nan_c, sum_c, bits15_c, e1, e2, e3, c1, c2, inf1_c, fcmp_self, e5, known_c]; done)
      | (refine does_cond' hp ?_; simp [f1, hp2, copysign_c, nan_c, sum_c, bits15_c, e1, e2, e3, c1, c2, inf1_c, fcmp_self, e5, known_c]; refine fork (fun hcnd => ?_) (fun hcnd => ?_) <;> (try simp at hcnd))
      | (refine does_cond' hp ?_; simp [f1, hp2, copysign_c, nan_c, sum_c, bits15_c, e1, e2, e3, c1, c2, inf1_c, fcmp_self, e5, known_c]))
  · have e5 : isN p = false := by unfold isN; simp; omega
    by_cases hi : rung p = INF ∧ neg p = true
    · have e4 : clsN (sumB p 9218868437227405312) = 6 := by
        have : sumB p 9218868437227405312 = QN := by
          unfold sumB
          rw [add_inf_inf hi.1 (by decide), hi.2]
          have : neg 9218868437227405312 = false := by decide
          rw [this]; rfl
        rw [this]; exact cls_QN
      rw [e4] at c2
      refine W_does hp rfl rfl rfl Try.func3 rfl (by simp [Try.f3]) ?_
      simp only [Try.f3, List.length_cons, List.length_nil, List.replicate, List.cons_append, List.nil_append, Nat.reduceAdd, Nat.reduceSub]
      repeat' (first
        | (rw [doesO_cons]; simp [f1, hp2, copysign_c, nan_c, sum_c, bits15_c, e1, e2, e3, c1, c2, inf1_c, infm_c, fcmp_self, e5, eq_minf, hi.1, hi.2, known_c])
        | (rw [doesO_nil']; refine hQ' _ _ _ ?_; simp only [])
        | refine does_seq hp ?_
        | (refine does_gen hp ?_; intro Q' hQ')
        | refine does_block hp ?_
        | (refine does_ret hp ?_; simp [f1, hp2, copysign_c, nan_c, sum_c, bits15_c, e1, e2, e3, c1, c2, inf1_c, infm_c, fcmp_self, e5, eq_minf, hi.1, hi.2, known_c])
        | (refine does_skip hp ?_; simp [f1, hp2, copysign_c, nan_c, sum_c, bits15_c, e1, e2, e3, c1, c2, inf1_c, infm_c, fcmp_self, e5, eq_minf, hi.1, hi.2, known_c])
        | (refine does_exit hp ?_; simp [f1, hp2, copysign_c, nan_c, sum_c, bits15_c, e1, e2, e3, c1, c2, inf1_c, infm_c, fcmp_self, e5, eq_minf, hi.1, hi.2, known_c])
        | (refine does_cond' hp ?_; simp [f1, hp2, copysign_c, nan_c, sum_c, bits15_c, e1, e2, e3, c1, c2, inf1_c, infm_c, fcmp_self, e5, eq_minf, hi.1, hi.2, known_c]; done)
        | (refine does_cond' hp ?_; simp [f1, hp2, copysign_c, nan_c, sum_c, bits15_c, e1, e2, e3, c1, c2, inf1_c, infm_c, fcmp_self, e5, eq_minf, hi.1, hi.2, known_c]; refine fork (fun hcnd => ?_) (fun hcnd => ?_) <;> (try simp at hcnd))
        | (refine does_cond' hp ?_; simp [f1, hp2, copysign_c, nan_c, sum_c, bits15_c, e1, e2, e3, c1, c2, inf1_c, infm_c, fcmp_self, e5, eq_minf, hi.1, hi.2, known_c]))
    · have e4 : clsN (sumB p 9218868437227405312) = 4 := by
        have : sumB p 9218868437227405312 = 9218868437227405312 := by
          unfold sumB
          by_cases hr : rung p = INF
          · have hnp : neg p = false := by cases hb : neg p; rfl; exact absurd ⟨hr, hb⟩ hi
            rw [add_inf_inf hr (by decide), hnp]
            have : neg 9218868437227405312 = false := by decide
            rw [this]; rfl
          · rw [add_comm, add_inf (by decide) (by omega)]
            rfl
        rw [this]; decide
      have e6 : (decide (rung p = INF) && neg p) = false := by
        cases hb : neg p
        · simp
        · have : ¬ rung p = INF := fun h => hi ⟨h, hb⟩
          simp [this]
      have e7 : fcmp .eql (D.order p 18442240474082181120) = some false := by rw [eq_minf, e6]
      rw [e4] at c2
      by_cases h0 : rung p = 0
      · refine W_does hp rfl rfl rfl Try.func3 rfl (by simp [Try.f3]) ?_
        simp only [Try.f3, List.length_cons, List.length_nil, List.replicate, List.cons_append, List.nil_append, Nat.reduceAdd, Nat.reduceSub]
        repeat' (first
          | (rw [doesO_cons]; simp [f1, hp2, copysign_c, nan_c, sum_c, bits15_c, e1, e2, e3, c1, c2, inf1_c, infm_c, fcmp_self, e5, e7, eq_zero, h0, known_c])
          | (rw [doesO_nil']; refine hQ' _ _ _ ?_; simp only [])
          | refine does_seq hp ?_
          | (refine does_gen hp ?_; intro Q' hQ')
          | refine does_block hp ?_
          | (refine does_ret hp ?_; simp [f1, hp2, copysign_c, nan_c, sum_c, bits15_c, e1, e2, e3, c1, c2, inf1_c, infm_c, fcmp_self, e5, e7, eq_zero, h0, known_c])
          | (refine does_skip hp ?_; simp [f1, hp2, copysign_c, nan_c, sum_c, bits15_c, e1, e2, e3, c1, c2, inf1_c, infm_c, fcmp_self, e5, e7, eq_zero, h0, known_c])
          | (refine does_exit hp ?_; simp [f1, hp2, copysign_c, nan_c, sum_c, bits15_c, e1, e2, e3, c1, c2, inf1_c, infm_c, fcmp_self, e5, e7, eq_zero, h0, known_c])
          | (refine does_cond' hp ?_; simp [f1, hp2, copysign_c, nan_c, sum_c, bits15_c, e1, e2, e3, c1, c2, inf1_c, infm_c, fcmp_self, e5, e7, eq_zero, h0, known_c]; done)
          | (refine does_cond' hp ?_; simp [f1, hp2, copysign_c, nan_c, sum_c, bits15_c, e1, e2, e3, c1, c2, inf1_c, infm_c, fcmp_self, e5, e7, eq_zero, h0, known_c]; refine fork (fun hcnd => ?_) (fun hcnd => ?_) <;> (try simp at hcnd))
          | (refine does_cond' hp ?_; simp [f1, hp2, copysign_c, nan_c, sum_c, bits15_c, e1, e2, e3, c1, c2, inf1_c, infm_c, fcmp_self, e5, e7, eq_zero, h0, known_c]))
      · have e8 := sum_pz p hp1 h0
        refine W_does hp rfl rfl rfl Try.func3 rfl (by simp [Try.f3]) ?_
        simp only [Try.f3, List.length_cons, List.length_nil, List.replicate, List.cons_append, List.nil_append, Nat.reduceAdd, Nat.reduceSub]
        repeat' (first
          | (rw [doesO_cons]; simp [f1, hp2, copysign_c, nan_c, sum_c, bits15_c, e1, e2, e3, c1, c2, inf1_c, infm_c, fcmp_self, e5, e7, eq_zero, h0, e8, known_c])
          | (rw [doesO_nil']; refine hQ' _ _ _ ?_; simp only [])
          | refine does_seq hp ?_
          | (refine does_gen hp ?_; intro Q' hQ')
          | refine does_block hp ?_
          | (refine does_ret hp ?_; simp [f1, hp2, copysign_c, nan_c, sum_c, bits15_c, e1, e2, e3, c1, c2, inf1_c, infm_c, fcmp_self, e5, e7, eq_zero, h0, e8, known_c])
          | (refine does_skip hp ?_; simp [f1, hp2, copysign_c, nan_c, sum_c, bits15_c, e1, e2, e3, c1, c2, inf1_c, infm_c, fcmp_self, e5, e7, eq_zero, h0, e8, known_c])
          | (refine does_exit hp ?_; simp [f1, hp2, copysign_c, nan_c, sum_c, bits15_c, e1, e2, e3, c1, c2, inf1_c, infm_c, fcmp_self, e5, e7, eq_zero, h0, e8, known_c])
          | (refine does_cond' hp ?_; simp [f1, hp2, copysign_c, nan_c, sum_c, bits15_c, e1, e2, e3, c1, c2, inf1_c, infm_c, fcmp_self, e5, e7, eq_zero, h0, e8, known_c]; done)
          | (refine does_cond' hp ?_; simp [f1, hp2, copysign_c, nan_c, sum_c, bits15_c, e1, e2, e3, c1, c2, inf1_c, infm_c, fcmp_self, e5, e7, eq_zero, h0, e8, known_c]; refine fork (fun hcnd => ?_) (fun hcnd => ?_) <;> (try simp at hcnd))
          | (refine does_cond' hp ?_; simp [f1, hp2, copysign_c, nan_c, sum_c, bits15_c, e1, e2, e3, c1, c2, inf1_c, infm_c, fcmp_self, e5, e7, eq_zero, h0, e8, known_c]))

/-! ### orders -/
theorem key_lt {a b : Nat} (ha : a < 2 ^ 64) (hb : b < 2 ^ 64) : keyN a < keyN b ↔ srung a < srung b ∨ (rung a = 0 ∧ rung b = 0 ∧ neg a = true ∧ neg b = false) := by
  have h1 := word_self ha
  have h2 := word_self hb
  rw [word_eq] at h1 h2
  have r1 := rung_lt a
  have r2 := rung_lt b
  have hS : SW = 9223372036854775808 := rfl
  unfold keyN srung sg
  cases hna : neg a <;> cases hnb : neg b <;> simp [hna, hnb] at h1 h2 ⊢ <;> omega
theorem key_inj {a b : Nat} (ha : a < 2 ^ 64) (hb : b < 2 ^ 64) (h : keyN a = keyN b) : a = b := by
  have h1 := word_self ha
  have h2 := word_self hb
  rw [word_eq] at h1 h2
  have r1 := rung_lt a
  have r2 := rung_lt b
  have hS : SW = 9223372036854775808 := rfl
  unfold keyN at h
  cases hna : neg a <;> cases hnb : neg b <;> simp [hna, hnb] at h1 h2 h <;> omega
theorem cmpN_neg (x y : Nat) : IntKind.i64.wrap (-cmpN y x) = cmpN x y := by
  have : cmpN x y = -cmpN y x := by unfold cmpN; split <;> split <;> (try split) <;> omega
  rw [← this]
  apply wrap_i <;> unfold cmpN <;> split <;> (try split) <;> omega
set_option maxHeartbeats 20000000 in
theorem orders_c (a b c : Nat) (n m : Int) (ha : a < 2 ^ 64) (hb : b < 2 ^ 64) (hc : c < 2 ^ 64) (hn1 : -9223372036854775808 ≤ n) (hn2 : n < 9223372036854775808) (hm1 : -9223372036854775808 ≤ m) (hm2 : m < 9223372036854775808) (h : H) :
    W K 5 [.one (.int .u64 a), .one (.int .u64 b), .one (.int .u64 c), .one (.int .i64 n), .one (.int .i64 m)] h = some (.ret (.one (.bool true)) h) := by
  obtain ⟨q, hq1, hq2⟩ := float_c n hn1 hn2 b hb
  obtain ⟨r, hr1, hr2⟩ := float_c m hm1 hm2 c hc
  have fa := frombits_n a
  have fb := frombits_n b
  have fc := frombits_n c
  have o1 := order_c a q ha hq1
  have o2 := order_c q a hq1 ha
  have o3 := order_c q r hq1 hr1
  have o4 := order_c a r ha hr1
  have s1 := same_c a q ha hq1
  have cc : canB (canB a) = canB a := by
    rcases rung_can a with h | h
    · exact canB_id h
    · rw [h]; decide
  have hneg := cmpN_neg (keyN (canB a)) (keyN (canB q))
  have hka := canB_lt a ha
  have hkq := canB_lt q hq1
  have heq : (cmpN (keyN (canB a)) (keyN (canB q)) == 0) = ((canB a : Int) == (canB q : Int)) := by
    by_cases he : canB a = canB q
    · rw [he]; simp [cmpN]
    · have : keyN (canB a) ≠ keyN (canB q) := fun h => he (key_inj hka hkq h)
      have h2 : cmpN (keyN (canB a)) (keyN (canB q)) ≠ 0 := by unfold cmpN; split <;> (try split) <;> omega
      have h3 : ((canB a : Int) == (canB q : Int)) = false := by simp; omega
      rw [h3]; simpa using h2
  have htr : ¬ (cmpN (keyN (canB a)) (keyN (canB q)) ≤ 0 ∧ cmpN (keyN (canB q)) (keyN (canB r)) ≤ 0 ∧ 0 < cmpN (keyN (canB a)) (keyN (canB r))) := by
    unfold cmpN
    rintro ⟨h1, h2, h3⟩
    split at h1 <;> split at h2 <;> split at h3 <;> (try split at h1) <;> (try split at h2) <;> (try split at h3) <;> omega
  have hlast : ∀ g, fcmp .geq (D.order a q) = some g → g = false → isN a = false → isN q = false → cmpN (keyN (canB a)) (keyN (canB q)) = -1 := by
    intro g hg hgf hA hQ
    have hA' : ¬ INF < rung a := by unfold isN at hA; simpa using hA
    have hQ' : ¬ INF < rung q := by unfold isN at hQ; simpa using hQ
    rw [order_word (by omega) (by omega)] at hg
    have hlt : srung a < srung q := by
      rcases Int.lt_trichotomy (srung a) (srung q) with h | h | h
      · exact h
      · rw [Int.compare_eq_eq.2 h] at hg; simp [fcmp] at hg; rw [hgf] at hg; cases hg
      · rw [Int.compare_eq_gt.2 h] at hg; simp [fcmp] at hg; rw [hgf] at hg; cases hg
    have hk : keyN (canB a) < keyN (canB q) := by
      rw [canB_id (by omega), canB_id (by omega)]
      exact (key_lt ha hq1).2 (.inl hlt)
    unfold cmpN; rw [if_pos hk]
  have hgx : ∃ g, fcmp .geq (D.order a q) = some g := ⟨_, rfl⟩
  obtain ⟨g, hg⟩ := hgx
  have hl := hlast g hg
  clear hlast hka hkq ha hb hc hq1 hr1
  generalize cmpN (keyN (canB a)) (keyN (canB q)) = u1 at *
  generalize cmpN (keyN (canB q)) (keyN (canB a)) = u2 at *
  generalize cmpN (keyN (canB q)) (keyN (canB r)) = u3 at *
  generalize cmpN (keyN (canB a)) (keyN (canB r)) = u4 at *
  have r4 : (decide (u1 ≤ 0) = false ∧ True ∧ True) ∨ (decide (u1 ≤ 0) = true ∧ decide (u3 ≤ 0) = false ∧ True) ∨ (decide (u1 ≤ 0) = true ∧ decide (u3 ≤ 0) = true ∧ decide (0 < u4) = false) := by
    by_cases a1 : u1 ≤ 0 <;> by_cases a2 : u3 ≤ 0 <;> by_cases a3 : 0 < u4 <;> simp [a1, a2, a3]
    exact htr ⟨a1, a2, a3⟩
  have r6 : (g = true ∧ True ∧ True ∧ True) ∨ (g = false ∧ (u1 == -1) = true ∧ True ∧ True) ∨ (g = false ∧ (u1 == -1) = false ∧ isN a = true ∧ True) ∨ (g = false ∧ (u1 == -1) = false ∧ isN a = false ∧ isN q = true) := by
    cases hgg : g with
    | true => simp
    | false =>
      cases hu : (u1 == -1) with
      | true => simp
      | false =>
        have hu' : ¬ u1 = -1 := by simpa using hu
        cases hA : isN a with
        | true => simp
        | false =>
          cases hQ : isN q with
          | true => simp
          | false => exact absurd (hl hgg hA hQ) hu'
  clear hl htr
  rcases r4 with ⟨k1, k2, k3⟩ | ⟨k1, k2, k3⟩ | ⟨k1, k2, k3⟩ <;> rcases r6 with ⟨l1, l2, l3, l4⟩ | ⟨l1, l2, l3, l4⟩ | ⟨l1, l2, l3, l4⟩ | ⟨l1, l2, l3, l4⟩ <;> subst l1
  all_goals
    refine W_does hp rfl rfl rfl Try.func5 rfl (by simp [Try.f5]) ?_
    simp only [Try.f5, List.length_cons, List.length_nil, List.replicate, List.cons_append, List.nil_append, Nat.reduceAdd, Nat.reduceSub]
    repeat' (first
      | (rw [doesO_cons]; simp [fa, fb, fc, hq2, hr2, o1, o2, o3, o4, s1, bits15_c, hneg, heq, k1, k2, k3, hg, l2, l3, l4, fcmp_self, canon_c, cc, bits18_c, known_c])
      | (rw [doesO_nil']; refine hQ' _ _ _ ?_; simp only [])
      | refine does_seq hp ?_
      | (refine does_gen hp ?_; intro Q' hQ')
      | refine does_block hp ?_
      | (refine does_ret hp ?_; simp [fa, fb, fc, hq2, hr2, o1, o2, o3, o4, s1, bits15_c, hneg, heq, k1, k2, k3, hg, l2, l3, l4, fcmp_self, canon_c, cc, bits18_c, known_c])
      | (refine does_skip hp ?_; simp [fa, fb, fc, hq2, hr2, o1, o2, o3, o4, s1, bits15_c, hneg, heq, k1, k2, k3, hg, l2, l3, l4, fcmp_self, canon_c, cc, bits18_c, known_c])
      | (refine does_exit hp ?_; simp [fa, fb, fc, hq2, hr2, o1, o2, o3, o4, s1, bits15_c, hneg, heq, k1, k2, k3, hg, l2, l3, l4, fcmp_self, canon_c, cc, bits18_c, known_c])
      | (refine does_cond' hp ?_; simp [fa, fb, fc, hq2, hr2, o1, o2, o3, o4, s1, bits15_c, hneg, heq, k1, k2, k3, hg, l2, l3, l4, fcmp_self, canon_c, cc, bits18_c, known_c]; done)
      | (refine does_cond' hp ?_; simp [fa, fb, fc, hq2, hr2, o1, o2, o3, o4, s1, bits15_c, hneg, heq, k1, k2, k3, hg, l2, l3, l4, fcmp_self, canon_c, cc, bits18_c, known_c]; refine fork (fun hcnd => ?_) (fun hcnd => ?_) <;> (try simp at hcnd))
      | (refine does_cond' hp ?_; simp [fa, fb, fc, hq2, hr2, o1, o2, o3, o4, s1, bits15_c, hneg, heq, k1, k2, k3, hg, l2, l3, l4, fcmp_self, canon_c, cc, bits18_c, known_c]))
end Go.Proofs.Ytgdonnfchhdflaa
