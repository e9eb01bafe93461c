/- A part of a proof over the abstract machine. No conditions. -/
import Derived.Test.YtgdonnfchhdflaaNumC
/- chapter 1: the laws without lists -/
namespace Go.Proofs.Ytgdonnfchhdflaa
open Go Go.Ab NumPlain
set_option linter.unusedSimpArgs false
set_option linter.unnecessarySimpa false
set_option linter.unusedVariables false
set_option maxRecDepth 10000
set_option maxHeartbeats 1000000

theorem copysign_c (h : H) : W K 11 [.one (.flt 0), .one (.flt 13830554455654793216)] h = some (.ret (.one (.flt 9223372036854775808)) h) := by
  have e1 : andNotI .u64 0 9223372036854775808 = 0 := by decide
  have e2 : andI .u64 13830554455654793216 9223372036854775808 = 9223372036854775808 := by decide
  have e3 : orI .u64 0 9223372036854775808 = 9223372036854775808 := by decide
  refine W_does hp rfl rfl rfl Try.func11 rfl (by simp [Try.f11]) ?_
  simp only [Try.f11, List.length_cons, List.length_nil, List.replicate, List.cons_append, List.nil_append, Nat.reduceAdd, Nat.reduceSub]
  repeat' (first
    | (rw [doesO_cons]; simp [bits_c, frombits_c, e1, e2, e3])
    | (rw [doesO_nil']; refine hQ' _ _ _ ?_; simp only [])
    | refine does_seq hp ?_
    | (refine does_gen hp ?_; intro Q' hQ')
    | refine does_block hp ?_
    | (refine does_ret hp ?_; simp [bits_c, frombits_c, e1, e2, e3])
    | (refine does_skip hp ?_; simp [bits_c, frombits_c, e1, e2, e3])
    | (refine does_exit hp ?_; simp [bits_c, frombits_c, e1, e2, e3])
    | (refine does_cond' hp ?_; simp [bits_c, frombits_c, e1, e2, e3]; done)
    | (refine does_cond' hp ?_; simp [bits_c, frombits_c, e1, e2, e3]; refine fork (fun hcnd => ?_) (fun hcnd => ?_) <;> (try simp at hcnd))
    | (refine does_cond' hp ?_; simp [bits_c, frombits_c, e1, e2, e3]))
theorem bits18_c (b : Nat) (h : H) : W K 18 [.one (.flt b)] h = some (.ret (.one (.int .u64 b)) h) := by
  refine W_does hp rfl rfl rfl Try.func18 rfl (by simp [Try.f18]) ?_
  simp only [Try.f18, List.length_cons, List.length_nil, List.replicate, List.cons_append, List.nil_append, Nat.reduceAdd, Nat.reduceSub]
  repeat' (first
    | (rw [doesO_cons]; simp [bits_c])
    | (rw [doesO_nil']; refine hQ' _ _ _ ?_; simp only [])
    | refine does_seq hp ?_
    | (refine does_gen hp ?_; intro Q' hQ')
    | refine does_block hp ?_
    | (refine does_ret hp ?_; simp [bits_c])
    | (refine does_skip hp ?_; simp [bits_c])
    | (refine does_exit hp ?_; simp [bits_c])
    | (refine does_cond' hp ?_; simp [bits_c]; done)
    | (refine does_cond' hp ?_; simp [bits_c]; refine fork (fun hcnd => ?_) (fun hcnd => ?_) <;> (try simp at hcnd))
    | (refine does_cond' hp ?_; simp [bits_c]))
theorem known_c (h : H) : W K 17 [] h = some (.ret (.one (.bool true)) h) := by
  have e1 : cmpN (keyN (canB 9223372036854775808)) (keyN (canB 0)) = -1 := by decide
  have e2 : cmpN (keyN (canB 9218868437227405312)) (keyN (canB 9221120237041090561)) = -1 := by decide
  have e3 : sumB 9218868437227405312 18442240474082181120 = 9221120237041090561 := by decide
  have e4 : clsN 9221120237041090561 = 6 := by decide
  have e5 : sumB 9223372036854775808 9223372036854775808 = 9223372036854775808 := by decide
  have e6 : clsN 9223372036854775808 = 3 := by decide
  have o1 := order_c 9223372036854775808 0 (by decide) (by decide)
  have o2 := order_c 9218868437227405312 9221120237041090561 (by decide) (by decide)
  have c1 := class_c 9221120237041090561 (by decide)
  have c2 := class_c 9223372036854775808 (by decide)
  rw [e1] at o1; rw [e2] at o2; rw [e4] at c1; rw [e6] at c2
  refine W_does hp rfl rfl rfl Try.func17 rfl (by simp [Try.f17]) ?_
  simp only [Try.f17, List.length_cons, List.length_nil, List.replicate, List.cons_append, List.nil_append, Nat.reduceAdd, Nat.reduceSub]
  repeat' (first
    | (rw [doesO_cons]; simp [copysign_c, o1, o2, inf1_c, infm_c, nan_c, sum_c, e3, e5, c1, c2])
    | (rw [doesO_nil']; refine hQ' _ _ _ ?_; simp only [])
    | refine does_seq hp ?_
    | (refine does_gen hp ?_; intro Q' hQ')
    | refine does_block hp ?_
    | (refine does_ret hp ?_; simp [copysign_c, o1, o2, inf1_c, infm_c, nan_c, sum_c, e3, e5, c1, c2])
    | (refine does_skip hp ?_; simp [copysign_c, o1, o2, inf1_c, infm_c, nan_c, sum_c, e3, e5, c1, c2])
    | (refine does_exit hp ?_; simp [copysign_c, o1, o2, inf1_c, infm_c, nan_c, sum_c, e3, e5, c1, c2])
    | (refine does_cond' hp ?_; simp [copysign_c, o1, o2, inf1_c, infm_c, nan_c, sum_c, e3, e5, c1, c2]; done)
    | (refine does_cond' hp ?_; simp [copysign_c, o1, o2, inf1_c, infm_c, nan_c, sum_c, e3, e5, c1, c2]; refine fork (fun hcnd => ?_) (fun hcnd => ?_) <;> (try simp at hcnd))
    | (refine does_cond' hp ?_; simp [copysign_c, o1, o2, inf1_c, infm_c, nan_c, sum_c, e3, e5, c1, c2]))

theorem wrap_i {x : Int} (h1 : -9223372036854775808 ≤ x) (h2 : x < 9223372036854775808) : IntKind.i64.wrap x = x := by
  simp only [IntKind.wrap, IntKind.bits, IntKind.signed, Bool.true_and]
  simp
  split <;> omega
theorem within_c (n : Int) (h1 : -9223372036854775808 ≤ n) (h2 : n < 9223372036854775808) : ∃ r : Int, 0 ≤ r ∧ r ≤ 1048576 ∧ ∀ h : H, W K 30 [.one (.int .i64 n), .one (.int .i64 0), .one (.int .i64 1048576)] h = some (.ret (.one (.int .i64 r)) h) := by
  have e1 : IntKind.i64.wrap 1048576 = 1048576 := by decide
  have e2 : IntKind.i64.wrap 1048577 = 1048577 := by decide
  by_cases hin : 0 ≤ n ∧ n ≤ 1048576
  · refine ⟨n, hin.1, hin.2, fun h => ?_⟩
    refine W_does hp rfl rfl rfl Try.func30 rfl (by simp [Try.f30]) ?_
    simp only [Try.f30, List.length_cons, List.length_nil, List.replicate, List.cons_append, List.nil_append, Nat.reduceAdd, Nat.reduceSub]
    repeat' (first
      | (rw [doesO_cons]; simp [hin.1, hin.2])
      | (rw [doesO_nil']; refine hQ' _ _ _ ?_; simp only [])
      | refine does_seq hp ?_
      | (refine does_gen hp ?_; intro Q' hQ')
      | refine does_block hp ?_
      | (refine does_ret hp ?_; simp [hin.1, hin.2])
      | (refine does_skip hp ?_; simp [hin.1, hin.2])
      | (refine does_exit hp ?_; simp [hin.1, hin.2])
      | (refine does_cond' hp ?_; simp [hin.1, hin.2]; done)
      | (refine does_cond' hp ?_; simp [hin.1, hin.2]; refine fork (fun hcnd => ?_) (fun hcnd => ?_) <;> (try simp at hcnd))
      | (refine does_cond' hp ?_; simp [hin.1, hin.2]))
  · have hm := Int.tmod_lt_of_pos n (show (0 : Int) < 1048577 by decide)
    have hm2 : -1048577 < n.tmod 1048577 := by
      have := Int.lt_tmod_of_pos n (show (0 : Int) < 1048577 by decide)
      omega
    have hd : (decide (0 ≤ n) && decide (n ≤ 1048576)) = false := by
      simp; omega
    generalize hq : n.tmod 1048577 = q at hm hm2
    by_cases hneg : q < 0
    · have w1 : IntKind.i64.wrap (q + 1048576) = q + 1048576 := wrap_i (by omega) (by omega)
      have w2 : IntKind.i64.wrap (q + 1048576 + 1) = q + 1048577 := by rw [wrap_i (by omega) (by omega)]; omega
      have w3 : IntKind.i64.wrap (q + 1048577) = q + 1048577 := wrap_i (by omega) (by omega)
      refine ⟨q + 1048577, by omega, by omega, fun h => ?_⟩
      by_cases h0 : 0 ≤ n
      · have h3 : ¬ n ≤ 1048576 := fun h => hin ⟨h0, h⟩
        refine W_does hp rfl rfl rfl Try.func30 rfl (by simp [Try.f30]) ?_
        simp only [Try.f30, List.length_cons, List.length_nil, List.replicate, List.cons_append, List.nil_append, Nat.reduceAdd, Nat.reduceSub]
        repeat' (first
          | (rw [doesO_cons]; simp [h0, h3, e1, e2, hq, hneg, w1, w2, w3])
          | (rw [doesO_nil']; refine hQ' _ _ _ ?_; simp only [])
          | refine does_seq hp ?_
          | (refine does_gen hp ?_; intro Q' hQ')
          | refine does_block hp ?_
          | (refine does_ret hp ?_; simp [h0, h3, e1, e2, hq, hneg, w1, w2, w3])
          | (refine does_skip hp ?_; simp [h0, h3, e1, e2, hq, hneg, w1, w2, w3])
          | (refine does_exit hp ?_; simp [h0, h3, e1, e2, hq, hneg, w1, w2, w3])
          | (refine does_cond' hp ?_; simp [h0, h3, e1, e2, hq, hneg, w1, w2, w3]; done)
          | (refine does_cond' hp ?_; simp [h0, h3, e1, e2, hq, hneg, w1, w2, w3]; refine fork (fun hcnd => ?_) (fun hcnd => ?_) <;> (try simp at hcnd))
          | (refine does_cond' hp ?_; simp [h0, h3, e1, e2, hq, hneg, w1, w2, w3]))
      · refine W_does hp rfl rfl rfl Try.func30 rfl (by simp [Try.f30]) ?_
        simp only [Try.f30, List.length_cons, List.length_nil, List.replicate, List.cons_append, List.nil_append, Nat.reduceAdd, Nat.reduceSub]
        repeat' (first
          | (rw [doesO_cons]; simp [h0, e1, e2, hq, hneg, w1, w2, w3])
          | (rw [doesO_nil']; refine hQ' _ _ _ ?_; simp only [])
          | refine does_seq hp ?_
          | (refine does_gen hp ?_; intro Q' hQ')
          | refine does_block hp ?_
          | (refine does_ret hp ?_; simp [h0, e1, e2, hq, hneg, w1, w2, w3])
          | (refine does_skip hp ?_; simp [h0, e1, e2, hq, hneg, w1, w2, w3])
          | (refine does_exit hp ?_; simp [h0, e1, e2, hq, hneg, w1, w2, w3])
          | (refine does_cond' hp ?_; simp [h0, e1, e2, hq, hneg, w1, w2, w3]; done)
          | (refine does_cond' hp ?_; simp [h0, e1, e2, hq, hneg, w1, w2, w3]; refine fork (fun hcnd => ?_) (fun hcnd => ?_) <;> (try simp at hcnd))
          | (refine does_cond' hp ?_; simp [h0, e1, e2, hq, hneg, w1, w2, w3]))
    · have w1 : IntKind.i64.wrap q = q := wrap_i (by omega) (by omega)
      refine ⟨q, by omega, by omega, fun h => ?_⟩
      by_cases h0 : 0 ≤ n
      · have h3 : ¬ n ≤ 1048576 := fun h => hin ⟨h0, h⟩
        refine W_does hp rfl rfl rfl Try.func30 rfl (by simp [Try.f30]) ?_
        simp only [Try.f30, List.length_cons, List.length_nil, List.replicate, List.cons_append, List.nil_append, Nat.reduceAdd, Nat.reduceSub]
        repeat' (first
          | (rw [doesO_cons]; simp [h0, h3, e1, e2, hq, hneg, w1])
          | (rw [doesO_nil']; refine hQ' _ _ _ ?_; simp only [])
          | refine does_seq hp ?_
          | (refine does_gen hp ?_; intro Q' hQ')
          | refine does_block hp ?_
          | (refine does_ret hp ?_; simp [h0, h3, e1, e2, hq, hneg, w1])
          | (refine does_skip hp ?_; simp [h0, h3, e1, e2, hq, hneg, w1])
          | (refine does_exit hp ?_; simp [h0, h3, e1, e2, hq, hneg, w1])
          | (refine does_cond' hp ?_; simp [h0, h3, e1, e2, hq, hneg, w1]; done)
          | (refine does_cond' hp ?_; simp [h0, h3, e1, e2, hq, hneg, w1]; refine fork (fun hcnd => ?_) (fun hcnd => ?_) <;> (try simp at hcnd))
          | (refine does_cond' hp ?_; simp [h0, h3, e1, e2, hq, hneg, w1]))
      · refine W_does hp rfl rfl rfl Try.func30 rfl (by simp [Try.f30]) ?_
        simp only [Try.f30, List.length_cons, List.length_nil, List.replicate, List.cons_append, List.nil_append, Nat.reduceAdd, Nat.reduceSub]
        repeat' (first
          | (rw [doesO_cons]; simp [h0, e1, e2, hq, hneg, w1])
          | (rw [doesO_nil']; refine hQ' _ _ _ ?_; simp only [])
          | refine does_seq hp ?_
          | (refine does_gen hp ?_; intro Q' hQ')
          | refine does_block hp ?_
          | (refine does_ret hp ?_; simp [h0, e1, e2, hq, hneg, w1])
          | (refine does_skip hp ?_; simp [h0, e1, e2, hq, hneg, w1])
          | (refine does_exit hp ?_; simp [h0, e1, e2, hq, hneg, w1])
          | (refine does_cond' hp ?_; simp [h0, e1, e2, hq, hneg, w1]; done)
          | (refine does_cond' hp ?_; simp [h0, e1, e2, hq, hneg, w1]; refine fork (fun hcnd => ?_) (fun hcnd => ?_) <;> (try simp at hcnd))
          | (refine does_cond' hp ?_; simp [h0, e1, e2, hq, hneg, w1]))

theorem nearest_lt (n : Int) : FloatKind.nearest .f64 n < 2 ^ 64 := by
  unfold FloatKind.nearest FloatKind.encode
  show D.write (.number (decide (n < 0)) n.natAbs 0) < 2 ^ 64
  obtain ⟨r, hr, e⟩ := nearest_rung (decide (n < 0)) n.natAbs 0
  simp only [Ieee.Format.write, e]
  exact word_lt _ (by have := inf_lt_sw; omega)
theorem float_c (n : Int) (h1 : -9223372036854775808 ≤ n) (h2 : n < 9223372036854775808) (b : Nat) (hb : b < 2 ^ 64) : ∃ r, r < 2 ^ 64 ∧ ∀ h : H, W K 9 [.one (.int .i64 n), .one (.flt b)] h = some (.ret (.one (.flt r)) h) := by
  obtain ⟨q, q1, q2, hw⟩ := within_c n h1 h2
  have hq : q.tmod 9 = q % 9 := Int.tmod_eq_emod_of_nonneg q1
  have hq20 : q.tmod 20 = q % 20 := Int.tmod_eq_emod_of_nonneg q1
  by_cases c0 : q % 9 = 0
  · refine ⟨0, by decide, fun h => ?_⟩
    refine W_does hp rfl rfl rfl Try.func9 rfl (by simp [Try.f9]) ?_
    simp only [Try.f9, List.length_cons, List.length_nil, List.replicate, List.cons_append, List.nil_append, Nat.reduceAdd, Nat.reduceSub]
    repeat' (first
      | (rw [doesO_cons]; simp [hw, hq, c0])
      | (rw [doesO_nil']; refine hQ' _ _ _ ?_; simp only [])
      | refine does_seq hp ?_
      | (refine does_gen hp ?_; intro Q' hQ')
      | refine does_block hp ?_
      | (refine does_ret hp ?_; simp [hw, hq, c0])
      | (refine does_skip hp ?_; simp [hw, hq, c0])
      | (refine does_exit hp ?_; simp [hw, hq, c0])
      | (refine does_cond' hp ?_; simp [hw, hq, c0]; done)
      | (refine does_cond' hp ?_; simp [hw, hq, c0]; refine fork (fun hcnd => ?_) (fun hcnd => ?_) <;> (try simp at hcnd))
      | (refine does_cond' hp ?_; simp [hw, hq, c0]))
  by_cases c1 : q % 9 = 1
  · refine ⟨9223372036854775808, by decide, fun h => ?_⟩
    refine W_does hp rfl rfl rfl Try.func9 rfl (by simp [Try.f9]) ?_
    simp only [Try.f9, List.length_cons, List.length_nil, List.replicate, List.cons_append, List.nil_append, Nat.reduceAdd, Nat.reduceSub]
    repeat' (first
      | (rw [doesO_cons]; simp [hw, hq, c1, copysign_c])
      | (rw [doesO_nil']; refine hQ' _ _ _ ?_; simp only [])
      | refine does_seq hp ?_
      | (refine does_gen hp ?_; intro Q' hQ')
      | refine does_block hp ?_
      | (refine does_ret hp ?_; simp [hw, hq, c1, copysign_c])
      | (refine does_skip hp ?_; simp [hw, hq, c1, copysign_c])
      | (refine does_exit hp ?_; simp [hw, hq, c1, copysign_c])
      | (refine does_cond' hp ?_; simp [hw, hq, c1, copysign_c]; done)
      | (refine does_cond' hp ?_; simp [hw, hq, c1, copysign_c]; refine fork (fun hcnd => ?_) (fun hcnd => ?_) <;> (try simp at hcnd))
      | (refine does_cond' hp ?_; simp [hw, hq, c1, copysign_c]))
  by_cases c2 : q % 9 = 2
  · refine ⟨9218868437227405312, by decide, fun h => ?_⟩
    refine W_does hp rfl rfl rfl Try.func9 rfl (by simp [Try.f9]) ?_
    simp only [Try.f9, List.length_cons, List.length_nil, List.replicate, List.cons_append, List.nil_append, Nat.reduceAdd, Nat.reduceSub]
    repeat' (first
      | (rw [doesO_cons]; simp [hw, hq, c2, inf1_c])
      | (rw [doesO_nil']; refine hQ' _ _ _ ?_; simp only [])
      | refine does_seq hp ?_
      | (refine does_gen hp ?_; intro Q' hQ')
      | refine does_block hp ?_
      | (refine does_ret hp ?_; simp [hw, hq, c2, inf1_c])
      | (refine does_skip hp ?_; simp [hw, hq, c2, inf1_c])
      | (refine does_exit hp ?_; simp [hw, hq, c2, inf1_c])
      | (refine does_cond' hp ?_; simp [hw, hq, c2, inf1_c]; done)
      | (refine does_cond' hp ?_; simp [hw, hq, c2, inf1_c]; refine fork (fun hcnd => ?_) (fun hcnd => ?_) <;> (try simp at hcnd))
      | (refine does_cond' hp ?_; simp [hw, hq, c2, inf1_c]))
  by_cases c3 : q % 9 = 3
  · refine ⟨18442240474082181120, by decide, fun h => ?_⟩
    refine W_does hp rfl rfl rfl Try.func9 rfl (by simp [Try.f9]) ?_
    simp only [Try.f9, List.length_cons, List.length_nil, List.replicate, List.cons_append, List.nil_append, Nat.reduceAdd, Nat.reduceSub]
    repeat' (first
      | (rw [doesO_cons]; simp [hw, hq, c3, infm_c])
      | (rw [doesO_nil']; refine hQ' _ _ _ ?_; simp only [])
      | refine does_seq hp ?_
      | (refine does_gen hp ?_; intro Q' hQ')
      | refine does_block hp ?_
      | (refine does_ret hp ?_; simp [hw, hq, c3, infm_c])
      | (refine does_skip hp ?_; simp [hw, hq, c3, infm_c])
      | (refine does_exit hp ?_; simp [hw, hq, c3, infm_c])
      | (refine does_cond' hp ?_; simp [hw, hq, c3, infm_c]; done)
      | (refine does_cond' hp ?_; simp [hw, hq, c3, infm_c]; refine fork (fun hcnd => ?_) (fun hcnd => ?_) <;> (try simp at hcnd))
      | (refine does_cond' hp ?_; simp [hw, hq, c3, infm_c]))
  by_cases c4 : q % 9 = 4
  · refine ⟨9221120237041090561, by decide, fun h => ?_⟩
    refine W_does hp rfl rfl rfl Try.func9 rfl (by simp [Try.f9]) ?_
    simp only [Try.f9, List.length_cons, List.length_nil, List.replicate, List.cons_append, List.nil_append, Nat.reduceAdd, Nat.reduceSub]
    repeat' (first
      | (rw [doesO_cons]; simp [hw, hq, c4, nan_c])
      | (rw [doesO_nil']; refine hQ' _ _ _ ?_; simp only [])
      | refine does_seq hp ?_
      | (refine does_gen hp ?_; intro Q' hQ')
      | refine does_block hp ?_
      | (refine does_ret hp ?_; simp [hw, hq, c4, nan_c])
      | (refine does_skip hp ?_; simp [hw, hq, c4, nan_c])
      | (refine does_exit hp ?_; simp [hw, hq, c4, nan_c])
      | (refine does_cond' hp ?_; simp [hw, hq, c4, nan_c]; done)
      | (refine does_cond' hp ?_; simp [hw, hq, c4, nan_c]; refine fork (fun hcnd => ?_) (fun hcnd => ?_) <;> (try simp at hcnd))
      | (refine does_cond' hp ?_; simp [hw, hq, c4, nan_c]))
  by_cases c5 : q % 9 = 5
  · refine ⟨18444492273895866659, by decide, fun h => ?_⟩
    refine W_does hp rfl rfl rfl Try.func9 rfl (by simp [Try.f9]) ?_
    simp only [Try.f9, List.length_cons, List.length_nil, List.replicate, List.cons_append, List.nil_append, Nat.reduceAdd, Nat.reduceSub]
    repeat' (first
      | (rw [doesO_cons]; simp [hw, hq, c5, frombits_c])
      | (rw [doesO_nil']; refine hQ' _ _ _ ?_; simp only [])
      | refine does_seq hp ?_
      | (refine does_gen hp ?_; intro Q' hQ')
      | refine does_block hp ?_
      | (refine does_ret hp ?_; simp [hw, hq, c5, frombits_c])
      | (refine does_skip hp ?_; simp [hw, hq, c5, frombits_c])
      | (refine does_exit hp ?_; simp [hw, hq, c5, frombits_c])
      | (refine does_cond' hp ?_; simp [hw, hq, c5, frombits_c]; done)
      | (refine does_cond' hp ?_; simp [hw, hq, c5, frombits_c]; refine fork (fun hcnd => ?_) (fun hcnd => ?_) <;> (try simp at hcnd))
      | (refine does_cond' hp ?_; simp [hw, hq, c5, frombits_c]))
  by_cases c6 : q % 9 = 6
  · have hwr : IntKind.i64.wrap (q % 20 - 9) = q % 20 - 9 := wrap_i (by omega) (by omega)
    refine ⟨_, nearest_lt (q % 20 - 9), fun h => ?_⟩
    refine W_does hp rfl rfl rfl Try.func9 rfl (by simp [Try.f9]) ?_
    simp only [Try.f9, List.length_cons, List.length_nil, List.replicate, List.cons_append, List.nil_append, Nat.reduceAdd, Nat.reduceSub]
    repeat' (first
      | (rw [doesO_cons]; simp [hw, hq, c6, hq20, hwr, convA, Try.underlying3, Try.underlying23])
      | (rw [doesO_nil']; refine hQ' _ _ _ ?_; simp only [])
      | refine does_seq hp ?_
      | (refine does_gen hp ?_; intro Q' hQ')
      | refine does_block hp ?_
      | (refine does_ret hp ?_; simp [hw, hq, c6, hq20, hwr, convA, Try.underlying3, Try.underlying23])
      | (refine does_skip hp ?_; simp [hw, hq, c6, hq20, hwr, convA, Try.underlying3, Try.underlying23])
      | (refine does_exit hp ?_; simp [hw, hq, c6, hq20, hwr, convA, Try.underlying3, Try.underlying23])
      | (refine does_cond' hp ?_; simp [hw, hq, c6, hq20, hwr, convA, Try.underlying3, Try.underlying23]; done)
      | (refine does_cond' hp ?_; simp [hw, hq, c6, hq20, hwr, convA, Try.underlying3, Try.underlying23]; refine fork (fun hcnd => ?_) (fun hcnd => ?_) <;> (try simp at hcnd))
      | (refine does_cond' hp ?_; simp [hw, hq, c6, hq20, hwr, convA, Try.underlying3, Try.underlying23]))
  · generalize q % 9 = m at hq c0 c1 c2 c3 c4 c5 c6
    have b0 : (m == 0) = false := by simpa using c0
    have b1 : (m == 1) = false := by simpa using c1
    have b2 : (m == 2) = false := by simpa using c2
    have b3 : (m == 3) = false := by simpa using c3
    have b4 : (m == 4) = false := by simpa using c4
    have b5 : (m == 5) = false := by simpa using c5
    have b6 : (m == 6) = false := by simpa using c6
    refine ⟨b, hb, fun h => ?_⟩
    refine W_does hp rfl rfl rfl Try.func9 rfl (by simp [Try.f9]) ?_
    simp only [Try.f9, List.length_cons, List.length_nil, List.replicate, List.cons_append, List.nil_append, Nat.reduceAdd, Nat.reduceSub]
    repeat' (first
      | (rw [doesO_cons]; simp [hw, hq, b0, b1, b2, b3, b4, b5, b6])
      | (rw [doesO_nil']; refine hQ' _ _ _ ?_; simp only [])
      | refine does_seq hp ?_
      | (refine does_gen hp ?_; intro Q' hQ')
      | refine does_block hp ?_
      | (refine does_ret hp ?_; simp [hw, hq, b0, b1, b2, b3, b4, b5, b6])
      | (refine does_skip hp ?_; simp [hw, hq, b0, b1, b2, b3, b4, b5, b6])
      | (refine does_exit hp ?_; simp [hw, hq, b0, b1, b2, b3, b4, b5, b6])
      | (refine does_cond' hp ?_; simp [hw, hq, b0, b1, b2, b3, b4, b5, b6]; done)
      | (refine does_cond' hp ?_; simp [hw, hq, b0, b1, b2, b3, b4, b5, b6]; refine fork (fun hcnd => ?_) (fun hcnd => ?_) <;> (try simp at hcnd))
      | (refine does_cond' hp ?_; simp [hw, hq, b0, b1, b2, b3, b4, b5, b6]))

/-! ### the laws -/
theorem rung_can (b : Nat) : rung (canB b) ≤ INF ∨ canB b = QN := by
  unfold canB isN
  by_cases h : INF < rung b
  · right; simp [h]
  · left; simp [h]; omega
theorem sum_comm' (a b : Nat) : sumB a b = sumB b a := by unfold sumB; rw [add_comm]
/-- a sum that there is, canonical -/
theorem sumB_cases (a b : Nat) : (∃ r, D.add a b = some r ∧ sumB a b = r ∧ r < 2 ^ 64 ∧ rung r ≤ INF) ∨ (D.add a b = none ∧ sumB a b = QN) := by
  unfold sumB
  cases h : D.add a b with
  | none => exact .inr ⟨rfl, rfl⟩
  | some r => exact .inl ⟨r, rfl, rfl, add_word h⟩
theorem sumB_lt (a b : Nat) : sumB a b < 2 ^ 64 := by
  rcases sumB_cases a b with ⟨r, _, e, h, _⟩ | ⟨_, e⟩
  · rw [e]; exact h
  · rw [e]; decide
theorem isN_QN : isN QN = true := by decide
theorem cls_QN : clsN QN = 6 := by decide
/-- a number and its negative -/
theorem sum_opp (b : Nat) (h : b < 2 ^ 64) : clsN (sumB b (opp b)) = if clsN b = 1 ∨ clsN b = 2 ∨ clsN b = 3 then 2 else 6 := by
  obtain ⟨h1, h2, h3⟩ := opp_ok h
  by_cases hn : INF < rung b
  · have : sumB b (opp b) = QN := by unfold sumB; rw [add_nan (.inl hn)]
    rw [this, cls_QN]
    have hc : clsN b = 6 := by unfold clsN isN; simp [hn]
    rw [hc]; decide
  · by_cases hi : rung b = INF
    · have : sumB b (opp b) = QN := by
        unfold sumB
        rw [add_inf_inf hi (by rw [h2]; exact hi), h3]
        cases neg b <;> simp
      rw [this, cls_QN]
      have hc : clsN b = 4 ∨ clsN b = 5 := by
        unfold clsN isN
        simp [hi]
        try (cases neg b <;> simp)
      rcases hc with hc | hc <;> rw [hc] <;> decide
    · have : sumB b (opp b) = 0 := by unfold sumB; rw [add_opp (by omega) h2 h3]
      rw [this]
      have h0 : clsN 0 = 2 := by decide
      rw [h0]
      have hc : clsN b = 1 ∨ clsN b = 2 ∨ clsN b = 3 := by
        unfold clsN isN
        have : ¬ INF < rung b := hn
        simp [hn, hi]
        cases neg b <;> by_cases h0 : rung b = 0 <;> simp [h0]
      rw [if_pos hc]

theorem sums_c (a b : Nat) (n m : Int) (ha : a < 2 ^ 64) (hb : b < 2 ^ 64) (hn1 : -9223372036854775808 ≤ n) (hn2 : n < 9223372036854775808) (hm1 : -9223372036854775808 ≤ m) (hm2 : m < 9223372036854775808) (h : H) :
    W K 4 [.one (.int .u64 a), .one (.int .u64 b), .one (.int .i64 n), .one (.int .i64 m)] h = some (.ret (.one (.bool true)) h) := by
  obtain ⟨p, hp1, hp2⟩ := float_c n hn1 hn2 a ha
  obtain ⟨q, hq1, hq2⟩ := float_c m hm1 hm2 b hb
  have f1 := frombits_c a
  have f2 := frombits_c b
  have cz := class_c (sumB p (opp p)) (sumB_lt _ _)
  have ck := class_c p hp1
  have hs := sum_opp p hp1
  have hcomm := sum_comm' q p
  rw [Int.toNat_natCast] at f1 f2
  by_cases hc : clsN p = 1 ∨ clsN p = 2 ∨ clsN p = 3
  · rw [if_pos hc] at hs
    rw [hs] at cz
    rcases hc with hc | hc | hc <;> rw [hc] at ck
    · refine W_does hp rfl rfl rfl Try.func4 rfl (by simp [Try.f4]) ?_
      simp only [Try.f4, List.length_cons, List.length_nil, List.replicate, List.cons_append, List.nil_append, Nat.reduceAdd, Nat.reduceSub]
      repeat' (first
        | (rw [doesO_cons]; simp [f1, f2, hp2, hq2, sum_c, bits18_c, hcomm, neg_opp, cz, ck, known_c])
        | (rw [doesO_nil']; refine hQ' _ _ _ ?_; simp only [])
        | refine does_seq hp ?_
        | (refine does_gen hp ?_; intro Q' hQ')
        | refine does_block hp ?_
        | (refine does_ret hp ?_; simp [f1, f2, hp2, hq2, sum_c, bits18_c, hcomm, neg_opp, cz, ck, known_c])
        | (refine does_skip hp ?_; simp [f1, f2, hp2, hq2, sum_c, bits18_c, hcomm, neg_opp, cz, ck, known_c])
        | (refine does_exit hp ?_; simp [f1, f2, hp2, hq2, sum_c, bits18_c, hcomm, neg_opp, cz, ck, known_c])
        | (refine does_cond' hp ?_; simp [f1, f2, hp2, hq2, sum_c, bits18_c, hcomm, neg_opp, cz, ck, known_c]; done)
        | (refine does_cond' hp ?_; simp [f1, f2, hp2, hq2, sum_c, bits18_c, hcomm, neg_opp, cz, ck, known_c]; refine fork (fun hcnd => ?_) (fun hcnd => ?_) <;> (try simp at hcnd))
        | (refine does_cond' hp ?_; simp [f1, f2, hp2, hq2, sum_c, bits18_c, hcomm, neg_opp, cz, ck, known_c]))
    · refine W_does hp rfl rfl rfl Try.func4 rfl (by simp [Try.f4]) ?_
      simp only [Try.f4, List.length_cons, List.length_nil, List.replicate, List.cons_append, List.nil_append, Nat.reduceAdd, Nat.reduceSub]
      repeat' (first
        | (rw [doesO_cons]; simp [f1, f2, hp2, hq2, sum_c, bits18_c, hcomm, neg_opp, cz, ck, known_c])
        | (rw [doesO_nil']; refine hQ' _ _ _ ?_; simp only [])
        | refine does_seq hp ?_
        | (refine does_gen hp ?_; intro Q' hQ')
        | refine does_block hp ?_
        | (refine does_ret hp ?_; simp [f1, f2, hp2, hq2, sum_c, bits18_c, hcomm, neg_opp, cz, ck, known_c])
        | (refine does_skip hp ?_; simp [f1, f2, hp2, hq2, sum_c, bits18_c, hcomm, neg_opp, cz, ck, known_c])
        | (refine does_exit hp ?_; simp [f1, f2, hp2, hq2, sum_c, bits18_c, hcomm, neg_opp, cz, ck, known_c])
        | (refine does_cond' hp ?_; simp [f1, f2, hp2, hq2, sum_c, bits18_c, hcomm, neg_opp, cz, ck, known_c]; done)
        | (refine does_cond' hp ?_; simp [f1, f2, hp2, hq2, sum_c, bits18_c, hcomm, neg_opp, cz, ck, known_c]; refine fork (fun hcnd => ?_) (fun hcnd => ?_) <;> (try simp at hcnd))
        | (refine does_cond' hp ?_; simp [f1, f2, hp2, hq2, sum_c, bits18_c, hcomm, neg_opp, cz, ck, known_c]))
    · refine W_does hp rfl rfl rfl Try.func4 rfl (by simp [Try.f4]) ?_
      simp only [Try.f4, List.length_cons, List.length_nil, List.replicate, List.cons_append, List.nil_append, Nat.reduceAdd, Nat.reduceSub]
      repeat' (first
        | (rw [doesO_cons]; simp [f1, f2, hp2, hq2, sum_c, bits18_c, hcomm, neg_opp, cz, ck, known_c])
        | (rw [doesO_nil']; refine hQ' _ _ _ ?_; simp only [])
        | refine does_seq hp ?_
        | (refine does_gen hp ?_; intro Q' hQ')
        | refine does_block hp ?_
        | (refine does_ret hp ?_; simp [f1, f2, hp2, hq2, sum_c, bits18_c, hcomm, neg_opp, cz, ck, known_c])
        | (refine does_skip hp ?_; simp [f1, f2, hp2, hq2, sum_c, bits18_c, hcomm, neg_opp, cz, ck, known_c])
        | (refine does_exit hp ?_; simp [f1, f2, hp2, hq2, sum_c, bits18_c, hcomm, neg_opp, cz, ck, known_c])
        | (refine does_cond' hp ?_; simp [f1, f2, hp2, hq2, sum_c, bits18_c, hcomm, neg_opp, cz, ck, known_c]; done)
        | (refine does_cond' hp ?_; simp [f1, f2, hp2, hq2, sum_c, bits18_c, hcomm, neg_opp, cz, ck, known_c]; refine fork (fun hcnd => ?_) (fun hcnd => ?_) <;> (try simp at hcnd))
        | (refine does_cond' hp ?_; simp [f1, f2, hp2, hq2, sum_c, bits18_c, hcomm, neg_opp, cz, ck, known_c]))
  · rw [if_neg hc] at hs
    rw [hs] at cz
    have b1 : (clsN p == 1) = false := by simp; omega
    have b2 : (clsN p == 2) = false := by simp; omega
    have b3 : (clsN p == 3) = false := by simp; omega
    refine W_does hp rfl rfl rfl Try.func4 rfl (by simp [Try.f4]) ?_
    simp only [Try.f4, List.length_cons, List.length_nil, List.replicate, List.cons_append, List.nil_append, Nat.reduceAdd, Nat.reduceSub]
    repeat' (first
      | (rw [doesO_cons]; simp [f1, f2, hp2, hq2, sum_c, bits18_c, hcomm, neg_opp, cz, ck, b1, b2, b3, known_c])
      | (rw [doesO_nil']; refine hQ' _ _ _ ?_; simp only [])
      | refine does_seq hp ?_
      | (refine does_gen hp ?_; intro Q' hQ')
      | refine does_block hp ?_
      | (refine does_ret hp ?_; simp [f1, f2, hp2, hq2, sum_c, bits18_c, hcomm, neg_opp, cz, ck, b1, b2, b3, known_c])
      | (refine does_skip hp ?_; simp [f1, f2, hp2, hq2, sum_c, bits18_c, hcomm, neg_opp, cz, ck, b1, b2, b3, known_c])
      | (refine does_exit hp ?_; simp [f1, f2, hp2, hq2, sum_c, bits18_c, hcomm, neg_opp, cz, ck, b1, b2, b3, known_c])
      | (refine does_cond' hp ?_; simp [f1, f2, hp2, hq2, sum_c, bits18_c, hcomm, neg_opp, cz, ck, b1, b2, b3, known_c]; done)
      | (refine does_cond' hp ?_; simp [f1, f2, hp2, hq2, sum_c, bits18_c, hcomm, neg_opp, cz, ck, b1, b2, b3, known_c]; refine fork (fun hcnd => ?_) (fun hcnd => ?_) <;> (try simp at hcnd))
      | (refine does_cond' hp ?_; simp [f1, f2, hp2, hq2, sum_c, bits18_c, hcomm, neg_opp, cz, ck, b1, b2, b3, known_c]))
end Go.Proofs.Ytgdonnfchhdflaa
