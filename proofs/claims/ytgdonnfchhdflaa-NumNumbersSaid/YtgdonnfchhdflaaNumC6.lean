/- A part of a proof over the abstract machine. No conditions. -/
import Derived.Test.YtgdonnfchhdflaaNumC5
/- chapter 1: the document's own functions; two, lists -/
namespace Go.Proofs.Ytgdonnfchhdflaa
open Go Go.Ab NumPlain
set_option linter.unusedSimpArgs false
set_option linter.unnecessarySimpa false
set_option linter.unusedVariables false
set_option maxRecDepth 10000
set_option maxHeartbeats 2000000

/-! ### bits, as the document says -/
theorem and_inf (b : Nat) : b &&& 9218868437227405312 = (b / 4503599627370496 % 2048) * 4503599627370496 := by
  have h1 : (9218868437227405312 : Nat) = 2047 <<< 52 := by decide
  have h2 : b / 4503599627370496 % 2048 = (b >>> 52) &&& 2047 := by
    rw [Nat.shiftRight_eq_div_pow]
    have := Nat.and_two_pow_sub_one_eq_mod (b / 2 ^ 52) 11
    exact this.symm
  have h3 : ((b >>> 52) &&& 2047) * 4503599627370496 = ((b >>> 52) &&& 2047) <<< 52 := by rw [Nat.shiftLeft_eq]
  rw [h1, h2, h3]
  apply Nat.eq_of_testBit_eq
  intro i
  simp only [Nat.testBit_and, Nat.testBit_shiftLeft, Nat.testBit_shiftRight]
  by_cases hi : 52 ≤ i
  · have : 52 + (i - 52) = i := by omega
    simp [hi, this]
  · simp [hi]
theorem and_low (b : Nat) : b &&& 4503599627370495 = b % 4503599627370496 := Nat.and_two_pow_sub_one_eq_mod b 52
theorem ref_inf {b : Nat} (hb : b < 2 ^ 64) : (andI .u64 b 9218868437227405312 == 9218868437227405312) = decide (INF ≤ rung b) := by
  have := and_u hb (show 9218868437227405312 < 2 ^ 64 by decide)
  simp only [Int.cast_ofNat_Int] at this
  rw [this, and_inf]
  have hI : INF = 9218868437227405312 := rfl
  have hr : rung b = b % 9223372036854775808 := rfl
  by_cases h : INF ≤ rung b
  · simp only [h, decide_true, beq_iff_eq]; rw [hI, hr] at h; omega
  · simp only [h, decide_false]; rw [hI, hr] at h
    simp; omega
theorem ref_low {b : Nat} (hb : b < 2 ^ 64) : (andI .u64 b 4503599627370495 != 0) = decide (b % 4503599627370496 ≠ 0) := by
  have := and_u hb (show 4503599627370495 < 2 ^ 64 by decide)
  simp only [Int.cast_ofNat_Int] at this
  rw [this, and_low]
  by_cases h : b % 4503599627370496 = 0
  · simp [h]
  · simp [h]; omega
theorem isN_iff (b : Nat) : isN b = (decide (INF ≤ rung b) && decide (b % 4503599627370496 ≠ 0)) := by
  unfold isN
  have hI : INF = 9218868437227405312 := rfl
  have hr : rung b = b % 9223372036854775808 := rfl
  rw [hI, hr]
  by_cases h : 9218868437227405312 < b % 9223372036854775808
  · have h1 : 9218868437227405312 ≤ b % 9223372036854775808 := by omega
    have h2 : ¬ b % 4503599627370496 = 0 := by omega
    simp [h, h1, h2]
  · by_cases h1 : 9218868437227405312 ≤ b % 9223372036854775808
    · have h2 : b % 4503599627370496 = 0 := by omega
      simp [h, h2]
    · simp [h, h1]
theorem rbits_c (b : Nat) (hb : b < 2 ^ 64) (h : H) : W K 40 [.one (.flt b)] h = some (.ret (.one (.int .u64 (canB b))) h) := by
  have e := isN_iff b
  have i1 := ref_inf hb
  have i2 := ref_low hb
  unfold canB QN
  by_cases h1 : INF ≤ rung b
  · by_cases h2 : b % 4503599627370496 = 0
    · have hi : isN b = false := by rw [e]; simp [h2]
      simp only [h1, decide_true] at i1
      simp only [h2, ne_eq, not_true_eq_false, decide_false] at i2
      refine W_does hp rfl rfl rfl Try.func40 rfl (by simp [Try.f40]) ?_
      simp only [Try.f40, List.length_cons, List.length_nil, List.replicate, List.cons_append, List.nil_append, Nat.reduceAdd, Nat.reduceSub]
      repeat' (first
        | (rw [doesO_cons]; simp [bits_c, i1, i2, hi])
        | (rw [doesO_nil']; refine hQ' _ _ _ ?_; clear hQ' Q'; simp only [])
        | refine does_seq hp ?_
        | (refine does_gen hp ?_; intro Q' hQ')
        | refine does_block hp ?_
        | (refine does_ret hp ?_; simp [bits_c, i1, i2, hi])
        | (refine does_skip hp ?_; simp [bits_c, i1, i2, hi])
        | (refine does_exit hp ?_; simp [bits_c, i1, i2, hi])
        | (refine does_cond' hp ?_; simp [bits_c, i1, i2, hi]; done)
        | (refine does_cond' hp ?_; simp [bits_c, i1, i2, hi]; refine fork (fun hcnd => ?_) (fun hcnd => ?_) <;> (try simp at hcnd))
        | (refine does_cond' hp ?_; simp [bits_c, i1, i2, hi]))
    · have hi : isN b = true := by rw [e]; simp [h1, h2]
      simp only [h1, decide_true] at i1
      simp only [h2, ne_eq, not_false_eq_true, decide_true] at i2
      refine W_does hp rfl rfl rfl Try.func40 rfl (by simp [Try.f40]) ?_
      simp only [Try.f40, List.length_cons, List.length_nil, List.replicate, List.cons_append, List.nil_append, Nat.reduceAdd, Nat.reduceSub]
      repeat' (first
        | (rw [doesO_cons]; simp [bits_c, i1, i2, hi])
        | (rw [doesO_nil']; refine hQ' _ _ _ ?_; clear hQ' Q'; simp only [])
        | refine does_seq hp ?_
        | (refine does_gen hp ?_; intro Q' hQ')
        | refine does_block hp ?_
        | (refine does_ret hp ?_; simp [bits_c, i1, i2, hi])
        | (refine does_skip hp ?_; simp [bits_c, i1, i2, hi])
        | (refine does_exit hp ?_; simp [bits_c, i1, i2, hi])
        | (refine does_cond' hp ?_; simp [bits_c, i1, i2, hi]; done)
        | (refine does_cond' hp ?_; simp [bits_c, i1, i2, hi]; refine fork (fun hcnd => ?_) (fun hcnd => ?_) <;> (try simp at hcnd))
        | (refine does_cond' hp ?_; simp [bits_c, i1, i2, hi]))
  · have hi : isN b = false := by rw [e]; simp [h1]
    simp only [h1, decide_false] at i1
    refine W_does hp rfl rfl rfl Try.func40 rfl (by simp [Try.f40]) ?_
    simp only [Try.f40, List.length_cons, List.length_nil, List.replicate, List.cons_append, List.nil_append, Nat.reduceAdd, Nat.reduceSub]
    repeat' (first
      | (rw [doesO_cons]; simp [bits_c, i1, i2, hi])
      | (rw [doesO_nil']; refine hQ' _ _ _ ?_; clear hQ' Q'; simp only [])
      | refine does_seq hp ?_
      | (refine does_gen hp ?_; intro Q' hQ')
      | refine does_block hp ?_
      | (refine does_ret hp ?_; simp [bits_c, i1, i2, hi])
      | (refine does_skip hp ?_; simp [bits_c, i1, i2, hi])
      | (refine does_exit hp ?_; simp [bits_c, i1, i2, hi])
      | (refine does_cond' hp ?_; simp [bits_c, i1, i2, hi]; done)
      | (refine does_cond' hp ?_; simp [bits_c, i1, i2, hi]; refine fork (fun hcnd => ?_) (fun hcnd => ?_) <;> (try simp at hcnd))
      | (refine does_cond' hp ?_; simp [bits_c, i1, i2, hi]))
theorem rbits_nan (h : H) : W K 40 [.one .nan] h = some (.ret (.one (.int .u64 QN)) h) := by
  unfold QN
  refine W_does hp rfl rfl rfl Try.func40 rfl (by simp [Try.f40]) ?_
  simp only [Try.f40, List.length_cons, List.length_nil, List.replicate, List.cons_append, List.nil_append, Nat.reduceAdd, Nat.reduceSub]
  repeat' (first
    | (rw [doesO_cons]; simp [bits_nan])
    | (rw [doesO_nil']; refine hQ' _ _ _ ?_; clear hQ' Q'; simp only [])
    | refine does_seq hp ?_
    | (refine does_gen hp ?_; intro Q' hQ')
    | refine does_block hp ?_
    | (refine does_ret hp ?_; simp [bits_nan])
    | (refine does_skip hp ?_; simp [bits_nan])
    | (refine does_exit hp ?_; simp [bits_nan])
    | (refine does_cond' hp ?_; simp [bits_nan]; done)
    | (refine does_cond' hp ?_; simp [bits_nan]; refine fork (fun hcnd => ?_) (fun hcnd => ?_) <;> (try simp at hcnd))
    | (refine does_cond' hp ?_; simp [bits_nan]))
theorem rfrom_c (n : Nat) (hn : n < 2 ^ 64) (h : H) : W K 29 [.one (.int .u64 n)] h = some (.ret (.one (.flt (canB n))) h) := by
  have f1 := frombits_n n
  have f2 := frombits_n (canB n)
  have f3 := rbits_c n hn
  refine W_does hp rfl rfl rfl Try.func29 rfl (by simp [Try.f29]) ?_
  simp only [Try.f29, List.length_cons, List.length_nil, List.replicate, List.cons_append, List.nil_append, Nat.reduceAdd, Nat.reduceSub]
  repeat' (first
    | (rw [doesO_cons]; simp [f1, f2, f3])
    | (rw [doesO_nil']; refine hQ' _ _ _ ?_; clear hQ' Q'; simp only [])
    | refine does_seq hp ?_
    | (refine does_gen hp ?_; intro Q' hQ')
    | refine does_block hp ?_
    | (refine does_ret hp ?_; simp [f1, f2, f3])
    | (refine does_skip hp ?_; simp [f1, f2, f3])
    | (refine does_exit hp ?_; simp [f1, f2, f3])
    | (refine does_cond' hp ?_; simp [f1, f2, f3]; done)
    | (refine does_cond' hp ?_; simp [f1, f2, f3]; refine fork (fun hcnd => ?_) (fun hcnd => ?_) <;> (try simp at hcnd))
    | (refine does_cond' hp ?_; simp [f1, f2, f3]))
theorem rfrom_nan (h : H) : W K 29 [.one .nanb] h = some (.ret (.one (.flt QN)) h) := by
  have f2 := frombits_n QN
  refine W_does hp rfl rfl rfl Try.func29 rfl (by simp [Try.f29]) ?_
  simp only [Try.f29, List.length_cons, List.length_nil, List.replicate, List.cons_append, List.nil_append, Nat.reduceAdd, Nat.reduceSub]
  repeat' (first
    | (rw [doesO_cons]; simp [frombits_nan, f2, rbits_nan])
    | (rw [doesO_nil']; refine hQ' _ _ _ ?_; clear hQ' Q'; simp only [])
    | refine does_seq hp ?_
    | (refine does_gen hp ?_; intro Q' hQ')
    | refine does_block hp ?_
    | (refine does_ret hp ?_; simp [frombits_nan, f2, rbits_nan])
    | (refine does_skip hp ?_; simp [frombits_nan, f2, rbits_nan])
    | (refine does_exit hp ?_; simp [frombits_nan, f2, rbits_nan])
    | (refine does_cond' hp ?_; simp [frombits_nan, f2, rbits_nan]; done)
    | (refine does_cond' hp ?_; simp [frombits_nan, f2, rbits_nan]; refine fork (fun hcnd => ?_) (fun hcnd => ?_) <;> (try simp at hcnd))
    | (refine does_cond' hp ?_; simp [frombits_nan, f2, rbits_nan]))
def placeN (w : Nat) : Nat := if w = 9221120237041090561 then 18446744073709551615 else keyN w
theorem shr_neg {b : Nat} (hb : b < 2 ^ 64) : shiftI .shr .u64 (b : Int) 63 = some (.int .u64 ((b / 9223372036854775808 : Nat) : Int)) := by
  simp [shiftI, IntKind.bits]
  rw [Int.fdiv_eq_ediv_of_nonneg _ (by decide)]
theorem place_c (b : Nat) (hb : b < 2 ^ 64) (h : H) : W K 44 [.one (.flt b)] h = some (.ret (.one (.int .u64 (placeN (canB b)))) h) := by
  have hc := canB_lt b hb
  have f1 := rbits_c b hb
  have f2 := shr_neg hc
  unfold placeN keyN
  by_cases hq : canB b = 9221120237041090561
  · refine W_does hp rfl rfl rfl Try.func44 rfl (by simp [Try.f44]) ?_
    simp only [Try.f44, List.length_cons, List.length_nil, List.replicate, List.cons_append, List.nil_append, Nat.reduceAdd, Nat.reduceSub]
    repeat' (first
      | (rw [doesO_cons]; simp [f1, hq])
      | (rw [doesO_nil']; refine hQ' _ _ _ ?_; clear hQ' Q'; simp only [])
      | refine does_seq hp ?_
      | (refine does_gen hp ?_; intro Q' hQ')
      | refine does_block hp ?_
      | (refine does_ret hp ?_; simp [f1, hq])
      | (refine does_skip hp ?_; simp [f1, hq])
      | (refine does_exit hp ?_; simp [f1, hq])
      | (refine does_cond' hp ?_; simp [f1, hq]; done)
      | (refine does_cond' hp ?_; simp [f1, hq]; refine fork (fun hcnd => ?_) (fun hcnd => ?_) <;> (try simp at hcnd))
      | (refine does_cond' hp ?_; simp [f1, hq]))
  · have hqb : ((canB b : Int) == 9221120237041090561) = false := by simp; omega
    have hn : neg (canB b) = (canB b / 9223372036854775808 % 2 == 1) := rfl
    have hd : canB b / 9223372036854775808 = 0 ∨ canB b / 9223372036854775808 = 1 := by omega
    rcases hd with hd | hd
    · rw [hd] at f2 hn
      have hn' : neg (canB b) = false := by rw [hn]; rfl
      have f3 := or_top (neg_false hc hn')
      refine W_does hp rfl rfl rfl Try.func44 rfl (by simp [Try.f44]) ?_
      simp only [Try.f44, List.length_cons, List.length_nil, List.replicate, List.cons_append, List.nil_append, Nat.reduceAdd, Nat.reduceSub]
      repeat' (first
        | (rw [doesO_cons]; simp [f1, hqb, hq, f2, f3, hn'])
        | (rw [doesO_nil']; refine hQ' _ _ _ ?_; clear hQ' Q'; simp only [])
        | refine does_seq hp ?_
        | (refine does_gen hp ?_; intro Q' hQ')
        | refine does_block hp ?_
        | (refine does_ret hp ?_; simp [f1, hqb, hq, f2, f3, hn'])
        | (refine does_skip hp ?_; simp [f1, hqb, hq, f2, f3, hn'])
        | (refine does_exit hp ?_; simp [f1, hqb, hq, f2, f3, hn'])
        | (refine does_cond' hp ?_; simp [f1, hqb, hq, f2, f3, hn']; done)
        | (refine does_cond' hp ?_; simp [f1, hqb, hq, f2, f3, hn']; refine fork (fun hcnd => ?_) (fun hcnd => ?_) <;> (try simp at hcnd))
        | (refine does_cond' hp ?_; simp [f1, hqb, hq, f2, f3, hn']))
    · rw [hd] at f2 hn
      have hn' : neg (canB b) = true := by rw [hn]; rfl
      have f3 := not_u hc
      refine W_does hp rfl rfl rfl Try.func44 rfl (by simp [Try.f44]) ?_
      simp only [Try.f44, List.length_cons, List.length_nil, List.replicate, List.cons_append, List.nil_append, Nat.reduceAdd, Nat.reduceSub]
      repeat' (first
        | (rw [doesO_cons]; simp [f1, hqb, hq, f2, f3, hn'])
        | (rw [doesO_nil']; refine hQ' _ _ _ ?_; clear hQ' Q'; simp only [])
        | refine does_seq hp ?_
        | (refine does_gen hp ?_; intro Q' hQ')
        | refine does_block hp ?_
        | (refine does_ret hp ?_; simp [f1, hqb, hq, f2, f3, hn'])
        | (refine does_skip hp ?_; simp [f1, hqb, hq, f2, f3, hn'])
        | (refine does_exit hp ?_; simp [f1, hqb, hq, f2, f3, hn'])
        | (refine does_cond' hp ?_; simp [f1, hqb, hq, f2, f3, hn']; done)
        | (refine does_cond' hp ?_; simp [f1, hqb, hq, f2, f3, hn']; refine fork (fun hcnd => ?_) (fun hcnd => ?_) <;> (try simp at hcnd))
        | (refine does_cond' hp ?_; simp [f1, hqb, hq, f2, f3, hn']))
theorem place_cmp (a b : Nat) (ha : a < 2 ^ 64) (hb : b < 2 ^ 64) : cmpN (placeN (canB a)) (placeN (canB b)) = cmpN (keyN (canB a)) (keyN (canB b)) := by
  have key : ∀ w, w < 2 ^ 64 → rung w ≤ INF → keyN w < 18444492273895866369 ∧ w ≠ 9221120237041090561 := by
    intro w hw hr
    have hI : INF = 9218868437227405312 := rfl
    have h1 := word_self hw
    rw [word_eq] at h1
    have hS : SW = 9223372036854775808 := rfl
    unfold keyN
    cases hn : neg w <;> simp [hn] at h1 ⊢ <;> omega
  have kq : keyN QN = 18444492273895866369 := by decide
  have hQ : QN = 9221120237041090561 := rfl
  have ha' := canB_lt a ha
  have hb' := canB_lt b hb
  rcases rung_can a with h1 | h1 <;> rcases rung_can b with h2 | h2
  · obtain ⟨_, n1⟩ := key _ ha' h1
    obtain ⟨_, n2⟩ := key _ hb' h2
    unfold placeN; rw [if_neg n1, if_neg n2]
  · obtain ⟨k1, n1⟩ := key _ ha' h1
    rw [h2, kq]
    unfold placeN; rw [if_neg n1, if_pos hQ]
    unfold cmpN; rw [if_pos (by omega), if_pos (by omega)]
  · obtain ⟨k2, n2⟩ := key _ hb' h2
    rw [h1, kq]
    unfold placeN; rw [if_neg n2, if_pos hQ]
    unfold cmpN; rw [if_neg (by omega), if_pos (by omega), if_neg (by omega), if_pos (by omega)]
  · rw [h1, h2]; simp [cmpN]
theorem rorder_c (a b : Nat) (ha : a < 2 ^ 64) (hb : b < 2 ^ 64) (h : H) : W K 37 [.one (.flt a), .one (.flt b)] h = some (.ret (.one (.int .i64 (cmpN (keyN (canB a)) (keyN (canB b))))) h) := by
  rw [← place_cmp a b ha hb]
  have f1 := place_c a ha
  have f2 := place_c b hb
  generalize placeN (canB a) = x at *
  generalize placeN (canB b) = y at *
  refine W_does hp rfl rfl rfl Try.func37 rfl (by simp [Try.f37]) ?_
  simp only [Try.f37, List.length_cons, List.length_nil, List.replicate, List.cons_append, List.nil_append, Nat.reduceAdd, Nat.reduceSub]
  repeat' (first
    | (rw [doesO_cons]; simp [f1, f2])
    | (rw [doesO_nil']; refine hQ' _ _ _ ?_; clear hQ' Q'; simp only [])
    | refine does_seq hp ?_
    | (refine does_gen hp ?_; intro Q' hQ')
    | refine does_block hp ?_
    | (refine does_ret hp ?_; simp [f1, f2])
    | (refine does_skip hp ?_; simp [f1, f2])
    | (refine does_exit hp ?_; simp [f1, f2])
    | (refine does_cond' hp ?_; simp [f1, f2]; done)
    | (refine does_cond' hp ?_; simp [f1, f2]; refine fork (fun hcnd => ?_) (fun hcnd => ?_) <;> (try simp at hcnd))
    | (refine does_cond' hp ?_; simp [f1, f2]))
  all_goals (simp only [cmpN]; split <;> (try split) <;> first | rfl | omega | simp_all)
theorem rsame_c (a b : Nat) (ha : a < 2 ^ 64) (hb : b < 2 ^ 64) (h : H) : W K 38 [.one (.flt a), .one (.flt b)] h = some (.ret (.one (.bool ((canB a : Int) == (canB b : Int)))) h) := by
  have f1 := rbits_c a ha
  have f2 := rbits_c b hb
  refine W_does hp rfl rfl rfl Try.func38 rfl (by simp [Try.f38]) ?_
  simp only [Try.f38, List.length_cons, List.length_nil, List.replicate, List.cons_append, List.nil_append, Nat.reduceAdd, Nat.reduceSub]
  repeat' (first
    | (rw [doesO_cons]; simp [f1, f2])
    | (rw [doesO_nil']; refine hQ' _ _ _ ?_; clear hQ' Q'; simp only [])
    | refine does_seq hp ?_
    | (refine does_gen hp ?_; intro Q' hQ')
    | refine does_block hp ?_
    | (refine does_ret hp ?_; simp [f1, f2])
    | (refine does_skip hp ?_; simp [f1, f2])
    | (refine does_exit hp ?_; simp [f1, f2])
    | (refine does_cond' hp ?_; simp [f1, f2]; done)
    | (refine does_cond' hp ?_; simp [f1, f2]; refine fork (fun hcnd => ?_) (fun hcnd => ?_) <;> (try simp at hcnd))
    | (refine does_cond' hp ?_; simp [f1, f2]))
theorem rsum_c (a b : Nat) (h : H) : W K 39 [.one (.flt a), .one (.flt b)] h = some (.ret (.one (.flt (sumB a b))) h) := by
  rcases sumB_cases a b with ⟨r, h1, h2, h3, h4⟩ | ⟨h1, h2⟩
  · have f1 := rfrom_c r h3
    rw [canB_id h4] at f1
    rw [h2]
    refine W_does hp rfl rfl rfl Try.func39 rfl (by simp [Try.f39]) ?_
    simp only [Try.f39, List.length_cons, List.length_nil, List.replicate, List.cons_append, List.nil_append, Nat.reduceAdd, Nat.reduceSub]
    repeat' (first
      | (rw [doesO_cons]; simp [ford_flt, fadd_flt, h1, fres, bits_c, f1])
      | (rw [doesO_nil']; refine hQ' _ _ _ ?_; clear hQ' Q'; simp only [])
      | refine does_seq hp ?_
      | (refine does_gen hp ?_; intro Q' hQ')
      | refine does_block hp ?_
      | (refine does_ret hp ?_; simp [ford_flt, fadd_flt, h1, fres, bits_c, f1])
      | (refine does_skip hp ?_; simp [ford_flt, fadd_flt, h1, fres, bits_c, f1])
      | (refine does_exit hp ?_; simp [ford_flt, fadd_flt, h1, fres, bits_c, f1])
      | (refine does_cond' hp ?_; simp [ford_flt, fadd_flt, h1, fres, bits_c, f1]; done)
      | (refine does_cond' hp ?_; simp [ford_flt, fadd_flt, h1, fres, bits_c, f1]; refine fork (fun hcnd => ?_) (fun hcnd => ?_) <;> (try simp at hcnd))
      | (refine does_cond' hp ?_; simp [ford_flt, fadd_flt, h1, fres, bits_c, f1]))
  · rw [h2]
    refine W_does hp rfl rfl rfl Try.func39 rfl (by simp [Try.f39]) ?_
    simp only [Try.f39, List.length_cons, List.length_nil, List.replicate, List.cons_append, List.nil_append, Nat.reduceAdd, Nat.reduceSub]
    repeat' (first
      | (rw [doesO_cons]; simp [ford_flt, fadd_flt, h1, fres, bits_nan, rfrom_nan])
      | (rw [doesO_nil']; refine hQ' _ _ _ ?_; clear hQ' Q'; simp only [])
      | refine does_seq hp ?_
      | (refine does_gen hp ?_; intro Q' hQ')
      | refine does_block hp ?_
      | (refine does_ret hp ?_; simp [ford_flt, fadd_flt, h1, fres, bits_nan, rfrom_nan])
      | (refine does_skip hp ?_; simp [ford_flt, fadd_flt, h1, fres, bits_nan, rfrom_nan])
      | (refine does_exit hp ?_; simp [ford_flt, fadd_flt, h1, fres, bits_nan, rfrom_nan])
      | (refine does_cond' hp ?_; simp [ford_flt, fadd_flt, h1, fres, bits_nan, rfrom_nan]; done)
      | (refine does_cond' hp ?_; simp [ford_flt, fadd_flt, h1, fres, bits_nan, rfrom_nan]; refine fork (fun hcnd => ?_) (fun hcnd => ?_) <;> (try simp at hcnd))
      | (refine does_cond' hp ?_; simp [ford_flt, fadd_flt, h1, fres, bits_nan, rfrom_nan]))
theorem rcls_eq (b : Nat) (hb : b < 2 ^ 64) : clsN b = if canB b = 0 then 2 else if canB b = 9223372036854775808 then 3 else if canB b = 9218868437227405312 then 4 else if canB b = 18442240474082181120 then 5 else if canB b = 9221120237041090561 then 6 else 1 := by
  unfold clsN
  by_cases hN : isN b = true
  · have : canB b = 9221120237041090561 := by unfold canB; rw [if_pos hN]; rfl
    rw [this, if_pos hN]; rfl
  · have hc : canB b = b := by unfold canB; rw [if_neg hN]
    rw [hc, if_neg hN]
    have h1 := word_self hb
    rw [word_eq] at h1
    have hr := rung_lt b
    have hS : SW = 9223372036854775808 := rfl
    have hI : INF = 9218868437227405312 := rfl
    have hNr : rung b ≤ INF := by unfold isN at hN; simp at hN; exact hN
    rw [hI] at hNr ⊢
    cases hn : neg b <;> simp [hn] at h1
    · by_cases c1 : rung b = 9218868437227405312
      · have : b = 9218868437227405312 := by omega
        rw [if_pos c1, this]; rfl
      · by_cases c0 : rung b = 0
        · have : b = 0 := by omega
          rw [if_neg c1, if_pos c0, this]; rfl
        · rw [if_neg c1, if_neg c0, if_neg (by omega), if_neg (by omega), if_neg (by omega), if_neg (by omega), if_neg (by omega)]
    · by_cases c1 : rung b = 9218868437227405312
      · have : b = 18442240474082181120 := by omega
        rw [if_pos c1, this]; rfl
      · by_cases c0 : rung b = 0
        · have : b = 9223372036854775808 := by omega
          rw [if_neg c1, if_pos c0, this]; rfl
        · rw [if_neg c1, if_neg c0, if_neg (by omega), if_neg (by omega), if_neg (by omega), if_neg (by omega), if_neg (by omega)]
theorem rclass_c (b : Nat) (hb : b < 2 ^ 64) (h : H) : W K 41 [.one (.flt b)] h = some (.ret (.one (.int .i64 (clsN b))) h) := by
  rw [rcls_eq b hb]
  have f1 := rbits_c b hb
  generalize canB b = w at *
  have hcase : (w = 0 ∨ w = 9223372036854775808 ∨ w = 9218868437227405312 ∨ w = 18442240474082181120 ∨ w = 9221120237041090561) ∨ ((((w : Int) == 0) = false ∧ ((w : Int) == 9223372036854775808) = false ∧ ((w : Int) == 9218868437227405312) = false ∧ ((w : Int) == 18442240474082181120) = false ∧ ((w : Int) == 9221120237041090561) = false) ∧ w ≠ 0 ∧ w ≠ 9223372036854775808 ∧ w ≠ 9218868437227405312 ∧ w ≠ 18442240474082181120 ∧ w ≠ 9221120237041090561) := by
    by_cases hc : w = 0 ∨ w = 9223372036854775808 ∨ w = 9218868437227405312 ∨ w = 18442240474082181120 ∨ w = 9221120237041090561
    · exact .inl hc
    · right
      refine ⟨⟨?_, ?_, ?_, ?_, ?_⟩, ?_, ?_, ?_, ?_, ?_⟩ <;> first | omega | (simp; omega)
  rcases hcase with (hw | hw | hw | hw | hw) | ⟨⟨b1, b2, b3, b4, b5⟩, n1, n2, n3, n4, n5⟩
  · subst hw
    refine W_does hp rfl rfl rfl Try.func41 rfl (by simp [Try.f41]) ?_
    simp only [Try.f41, List.length_cons, List.length_nil, List.replicate, List.cons_append, List.nil_append, Nat.reduceAdd, Nat.reduceSub]
    repeat' (first
      | (rw [doesO_cons]; simp [f1])
      | (rw [doesO_nil']; refine hQ' _ _ _ ?_; clear hQ' Q'; simp only [])
      | refine does_seq hp ?_
      | (refine does_gen hp ?_; intro Q' hQ')
      | refine does_block hp ?_
      | (refine does_ret hp ?_; simp [f1])
      | (refine does_skip hp ?_; simp [f1])
      | (refine does_exit hp ?_; simp [f1])
      | (refine does_cond' hp ?_; simp [f1]; done)
      | (refine does_cond' hp ?_; simp [f1]; refine fork (fun hcnd => ?_) (fun hcnd => ?_) <;> (try simp at hcnd))
      | (refine does_cond' hp ?_; simp [f1]))
  · subst hw
    refine W_does hp rfl rfl rfl Try.func41 rfl (by simp [Try.f41]) ?_
    simp only [Try.f41, List.length_cons, List.length_nil, List.replicate, List.cons_append, List.nil_append, Nat.reduceAdd, Nat.reduceSub]
    repeat' (first
      | (rw [doesO_cons]; simp [f1])
      | (rw [doesO_nil']; refine hQ' _ _ _ ?_; clear hQ' Q'; simp only [])
      | refine does_seq hp ?_
      | (refine does_gen hp ?_; intro Q' hQ')
      | refine does_block hp ?_
      | (refine does_ret hp ?_; simp [f1])
      | (refine does_skip hp ?_; simp [f1])
      | (refine does_exit hp ?_; simp [f1])
      | (refine does_cond' hp ?_; simp [f1]; done)
      | (refine does_cond' hp ?_; simp [f1]; refine fork (fun hcnd => ?_) (fun hcnd => ?_) <;> (try simp at hcnd))
      | (refine does_cond' hp ?_; simp [f1]))
  · subst hw
    refine W_does hp rfl rfl rfl Try.func41 rfl (by simp [Try.f41]) ?_
    simp only [Try.f41, List.length_cons, List.length_nil, List.replicate, List.cons_append, List.nil_append, Nat.reduceAdd, Nat.reduceSub]
    repeat' (first
      | (rw [doesO_cons]; simp [f1])
      | (rw [doesO_nil']; refine hQ' _ _ _ ?_; clear hQ' Q'; simp only [])
      | refine does_seq hp ?_
      | (refine does_gen hp ?_; intro Q' hQ')
      | refine does_block hp ?_
      | (refine does_ret hp ?_; simp [f1])
      | (refine does_skip hp ?_; simp [f1])
      | (refine does_exit hp ?_; simp [f1])
      | (refine does_cond' hp ?_; simp [f1]; done)
      | (refine does_cond' hp ?_; simp [f1]; refine fork (fun hcnd => ?_) (fun hcnd => ?_) <;> (try simp at hcnd))
      | (refine does_cond' hp ?_; simp [f1]))
  · subst hw
    refine W_does hp rfl rfl rfl Try.func41 rfl (by simp [Try.f41]) ?_
    simp only [Try.f41, List.length_cons, List.length_nil, List.replicate, List.cons_append, List.nil_append, Nat.reduceAdd, Nat.reduceSub]
    repeat' (first
      | (rw [doesO_cons]; simp [f1])
      | (rw [doesO_nil']; refine hQ' _ _ _ ?_; clear hQ' Q'; simp only [])
      | refine does_seq hp ?_
      | (refine does_gen hp ?_; intro Q' hQ')
      | refine does_block hp ?_
      | (refine does_ret hp ?_; simp [f1])
      | (refine does_skip hp ?_; simp [f1])
      | (refine does_exit hp ?_; simp [f1])
      | (refine does_cond' hp ?_; simp [f1]; done)
      | (refine does_cond' hp ?_; simp [f1]; refine fork (fun hcnd => ?_) (fun hcnd => ?_) <;> (try simp at hcnd))
      | (refine does_cond' hp ?_; simp [f1]))
  · subst hw
    refine W_does hp rfl rfl rfl Try.func41 rfl (by simp [Try.f41]) ?_
    simp only [Try.f41, List.length_cons, List.length_nil, List.replicate, List.cons_append, List.nil_append, Nat.reduceAdd, Nat.reduceSub]
    repeat' (first
      | (rw [doesO_cons]; simp [f1])
      | (rw [doesO_nil']; refine hQ' _ _ _ ?_; clear hQ' Q'; simp only [])
      | refine does_seq hp ?_
      | (refine does_gen hp ?_; intro Q' hQ')
      | refine does_block hp ?_
      | (refine does_ret hp ?_; simp [f1])
      | (refine does_skip hp ?_; simp [f1])
      | (refine does_exit hp ?_; simp [f1])
      | (refine does_cond' hp ?_; simp [f1]; done)
      | (refine does_cond' hp ?_; simp [f1]; refine fork (fun hcnd => ?_) (fun hcnd => ?_) <;> (try simp at hcnd))
      | (refine does_cond' hp ?_; simp [f1]))
  · refine W_does hp rfl rfl rfl Try.func41 rfl (by simp [Try.f41]) ?_
    simp only [Try.f41, List.length_cons, List.length_nil, List.replicate, List.cons_append, List.nil_append, Nat.reduceAdd, Nat.reduceSub]
    repeat' (first
      | (rw [doesO_cons]; simp [f1, b1, b2, b3, b4, b5, n1, n2, n3, n4, n5])
      | (rw [doesO_nil']; refine hQ' _ _ _ ?_; clear hQ' Q'; simp only [])
      | refine does_seq hp ?_
      | (refine does_gen hp ?_; intro Q' hQ')
      | refine does_block hp ?_
      | (refine does_ret hp ?_; simp [f1, b1, b2, b3, b4, b5, n1, n2, n3, n4, n5])
      | (refine does_skip hp ?_; simp [f1, b1, b2, b3, b4, b5, n1, n2, n3, n4, n5])
      | (refine does_exit hp ?_; simp [f1, b1, b2, b3, b4, b5, n1, n2, n3, n4, n5])
      | (refine does_cond' hp ?_; simp [f1, b1, b2, b3, b4, b5, n1, n2, n3, n4, n5]; done)
      | (refine does_cond' hp ?_; simp [f1, b1, b2, b3, b4, b5, n1, n2, n3, n4, n5]; refine fork (fun hcnd => ?_) (fun hcnd => ?_) <;> (try simp at hcnd))
      | (refine does_cond' hp ?_; simp [f1, b1, b2, b3, b4, b5, n1, n2, n3, n4, n5]))
theorem from_c (n : Nat) (h : H) : W K 28 [.one (.int .u64 n)] h = some (.ret (.one (.flt (canB n))) h) := by
  have f1 := frombits_n n
  refine W_does hp rfl rfl rfl Try.func28 rfl (by simp [Try.f28]) ?_
  simp only [Try.f28, List.length_cons, List.length_nil, List.replicate, List.cons_append, List.nil_append, Nat.reduceAdd, Nat.reduceSub]
  repeat' (first
    | (rw [doesO_cons]; simp [f1, canon_c])
    | (rw [doesO_nil']; refine hQ' _ _ _ ?_; clear hQ' Q'; simp only [])
    | refine does_seq hp ?_
    | (refine does_gen hp ?_; intro Q' hQ')
    | refine does_block hp ?_
    | (refine does_ret hp ?_; simp [f1, canon_c])
    | (refine does_skip hp ?_; simp [f1, canon_c])
    | (refine does_exit hp ?_; simp [f1, canon_c])
    | (refine does_cond' hp ?_; simp [f1, canon_c]; done)
    | (refine does_cond' hp ?_; simp [f1, canon_c]; refine fork (fun hcnd => ?_) (fun hcnd => ?_) <;> (try simp at hcnd))
    | (refine does_cond' hp ?_; simp [f1, canon_c]))
theorem same_eq (a b : Nat) (ha : a < 2 ^ 64) (hb : b < 2 ^ 64) : (cmpN (keyN (canB a)) (keyN (canB b)) == 0) = ((canB a : Int) == (canB b : Int)) := by
  by_cases he : canB a = canB b
  · rw [he]; simp [cmpN]
  · have : keyN (canB a) ≠ keyN (canB b) := fun h => he (key_inj (canB_lt a ha) (canB_lt b hb) h)
    have h2 : cmpN (keyN (canB a)) (keyN (canB b)) ≠ 0 := by unfold cmpN; split <;> (try split) <;> omega
    have h3 : ((canB a : Int) == (canB b : Int)) = false := by simp; omega
    rw [h3]; simpa using h2
theorem two_c (a b : Nat) (ha : a < 2 ^ 64) (hb : b < 2 ^ 64) (h : H) : W K 26 [.one (.flt a), .one (.flt b)] h = some (.ret (.one (.bool true)) h) := by
  have f1 := order_c a b ha hb
  have f2 := rorder_c a b ha hb
  have f3 := same_c a b ha hb
  have f4 := rsame_c a b ha hb
  have f5 := same_eq a b ha hb
  have f6 := rbits_c a ha
  have f7 := class_c a ha
  have f8 := rclass_c a ha
  have f9 := from_c a
  generalize cmpN (keyN (canB a)) (keyN (canB b)) = o at *
  generalize clsN a = cl at *
  refine W_does hp rfl rfl rfl Try.func26 rfl (by simp [Try.f26]) ?_
  simp only [Try.f26, List.length_cons, List.length_nil, List.replicate, List.cons_append, List.nil_append, Nat.reduceAdd, Nat.reduceSub]
  repeat' (first
    | (rw [doesO_cons]; simp [f1, f2, f3, f4, f5, sum_c, rsum_c, bits18_c, bits15_c, f6, canon_c, f9, f7, f8])
    | (rw [doesO_nil']; refine hQ' _ _ _ ?_; clear hQ' Q'; simp only [])
    | refine does_seq hp ?_
    | (refine does_gen hp ?_; intro Q' hQ')
    | refine does_block hp ?_
    | (refine does_ret hp ?_; simp [f1, f2, f3, f4, f5, sum_c, rsum_c, bits18_c, bits15_c, f6, canon_c, f9, f7, f8])
    | (refine does_skip hp ?_; simp [f1, f2, f3, f4, f5, sum_c, rsum_c, bits18_c, bits15_c, f6, canon_c, f9, f7, f8])
    | (refine does_exit hp ?_; simp [f1, f2, f3, f4, f5, sum_c, rsum_c, bits18_c, bits15_c, f6, canon_c, f9, f7, f8])
    | (refine does_cond' hp ?_; simp [f1, f2, f3, f4, f5, sum_c, rsum_c, bits18_c, bits15_c, f6, canon_c, f9, f7, f8]; done)
    | (refine does_cond' hp ?_; simp [f1, f2, f3, f4, f5, sum_c, rsum_c, bits18_c, bits15_c, f6, canon_c, f9, f7, f8]; refine fork (fun hcnd => ?_) (fun hcnd => ?_) <;> (try simp at hcnd))
    | (refine does_cond' hp ?_; simp [f1, f2, f3, f4, f5, sum_c, rsum_c, bits18_c, bits15_c, f6, canon_c, f9, f7, f8]))
end Go.Proofs.Ytgdonnfchhdflaa
