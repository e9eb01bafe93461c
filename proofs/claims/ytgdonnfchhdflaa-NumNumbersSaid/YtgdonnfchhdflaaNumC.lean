/- A part of a proof over the abstract machine. No conditions. -/
import Derived.Test.YtgdonnfchhdflaaNumF
import Derived.Test.YtgdonnfchhdflaaNumPlain
import Derived.Test.YtgdonnfchhdflaaRows
/- chapter 1: what each function answers -/
namespace Go.Proofs.Ytgdonnfchhdflaa
open Go Go.Ab NumPlain
set_option linter.unusedSimpArgs false
set_option linter.unnecessarySimpa false
set_option linter.unusedVariables false
noncomputable def K : Conf := { P := Try.prog, ext := fun f => if f = 10 then some .frombits else if f = 31 then some .bits else none, prim := fun _ => none, frz := fun _ => false, cmp := fun _ => none }
theorem hp : PrimOk K := ⟨fun f g h => (by cases h), fun f g h => (by cases h)⟩
set_option maxRecDepth 10000
set_option maxHeartbeats 1000000

theorem u22 : Try.prog.underlying 22 = some (.int .u64) := Try.underlying22
@[simp] theorem fmt64 : FloatKind.f64.format = Ieee.double := rfl
@[simp] theorem KP : K.P = Try.prog := rfl

/-! ### floats -/
def QN : Nat := 9221120237041090561
def canB (b : Nat) : Nat := if isN b then QN else b
def canW : AS → Nat
  | .flt b => canB b
  | _ => QN
theorem ford_flt (a b : Nat) : ford (.flt a) (.flt b) = some (D.order a b) := rfl
theorem fcmp_self (b : Nat) : fcmp .neq (D.order b b) = some (isN b) := by
  unfold isN
  by_cases h : INF < rung b
  · rw [order_nan (.inl h)]; simp [fcmp, h]
  · rw [order_word (by omega) (by omega)]
    simp [fcmp, h, Int.compare_eq_eq.2 rfl]

theorem frombits_c (n : Int) (h : H) : W K 10 [.one (.int .u64 n)] h = some (.ret (.one (.flt n.toNat)) h) := by rw [W_ext hp rfl rfl]; rfl
theorem frombits_nan (h : H) : W K 10 [.one .nanb] h = some (.ret (.one .nan) h) := by rw [W_ext hp rfl rfl]; rfl
theorem bits_c (n : Nat) (h : H) : W K 31 [.one (.flt n)] h = some (.ret (.one (.int .u64 n)) h) := by rw [W_ext hp rfl rfl]; rfl
theorem bits_nan (h : H) : W K 31 [.one .nan] h = some (.ret (.one .nanb) h) := by rw [W_ext hp rfl rfl]; rfl

theorem isnan_c (b : Nat) (h : H) : W K 32 [.one (.flt b)] h = some (.ret (.one (.bool (isN b))) h) := by
  refine W_does hp rfl rfl rfl Try.func32 rfl (by simp [Try.f32]) ?_
  simp only [Try.f32, List.length_cons, List.length_nil, List.replicate, List.cons_append, List.nil_append, Nat.reduceAdd, Nat.reduceSub]
  repeat' (first
    | (rw [doesO_cons]; simp [ford_flt, fcmp_self])
    | (rw [doesO_nil']; refine hQ' _ _ _ ?_; simp only [])
    | refine does_seq hp ?_
    | (refine does_gen hp ?_; intro Q' hQ')
    | refine does_block hp ?_
    | (refine does_ret hp ?_; simp [ford_flt, fcmp_self])
    | (refine does_skip hp ?_; simp [ford_flt, fcmp_self])
    | (refine does_exit hp ?_; simp [ford_flt, fcmp_self])
    | (refine does_cond' hp ?_; simp [ford_flt, fcmp_self]; done)
    | (refine does_cond' hp ?_; simp [ford_flt, fcmp_self]; refine fork (fun hcnd => ?_) (fun hcnd => ?_) <;> (try simp at hcnd))
    | (refine does_cond' hp ?_; simp [ford_flt, fcmp_self]))
theorem isnan_nan (h : H) : W K 32 [.one .nan] h = some (.ret (.one (.bool true)) h) := by
  refine W_does hp rfl rfl rfl Try.func32 rfl (by simp [Try.f32]) ?_
  simp only [Try.f32, List.length_cons, List.length_nil, List.replicate, List.cons_append, List.nil_append, Nat.reduceAdd, Nat.reduceSub]
  repeat' (first
    | (rw [doesO_cons]; simp [ford, fcmp])
    | (rw [doesO_nil']; refine hQ' _ _ _ ?_; simp only [])
    | refine does_seq hp ?_
    | (refine does_gen hp ?_; intro Q' hQ')
    | refine does_block hp ?_
    | (refine does_ret hp ?_; simp [ford, fcmp])
    | (refine does_skip hp ?_; simp [ford, fcmp])
    | (refine does_exit hp ?_; simp [ford, fcmp])
    | (refine does_cond' hp ?_; simp [ford, fcmp]; done)
    | (refine does_cond' hp ?_; simp [ford, fcmp]; refine fork (fun hcnd => ?_) (fun hcnd => ?_) <;> (try simp at hcnd))
    | (refine does_cond' hp ?_; simp [ford, fcmp]))
theorem canon_c (b : Nat) (h : H) : W K 21 [.one (.flt b)] h = some (.ret (.one (.flt (canB b))) h) := by
  refine W_does hp rfl rfl rfl Try.func21 rfl (by simp [Try.f21]) ?_
  simp only [Try.f21, List.length_cons, List.length_nil, List.replicate, List.cons_append, List.nil_append, Nat.reduceAdd, Nat.reduceSub]
  repeat' (first
    | (rw [doesO_cons]; simp [isnan_c, frombits_c])
    | (rw [doesO_nil']; refine hQ' _ _ _ ?_; simp only [])
    | refine does_seq hp ?_
    | (refine does_gen hp ?_; intro Q' hQ')
    | refine does_block hp ?_
    | (refine does_ret hp ?_; simp [isnan_c, frombits_c])
    | (refine does_skip hp ?_; simp [isnan_c, frombits_c])
    | (refine does_exit hp ?_; simp [isnan_c, frombits_c])
    | (refine does_cond' hp ?_; simp [isnan_c, frombits_c]; done)
    | (refine does_cond' hp ?_; simp [isnan_c, frombits_c]; refine fork (fun hcnd => ?_) (fun hcnd => ?_) <;> (try simp at hcnd))
    | (refine does_cond' hp ?_; simp [isnan_c, frombits_c]))
  all_goals simp_all [canB, QN]
theorem canon_nan (h : H) : W K 21 [.one .nan] h = some (.ret (.one (.flt QN)) h) := by
  refine W_does hp rfl rfl rfl Try.func21 rfl (by simp [Try.f21]) ?_
  simp only [Try.f21, List.length_cons, List.length_nil, List.replicate, List.cons_append, List.nil_append, Nat.reduceAdd, Nat.reduceSub]
  repeat' (first
    | (rw [doesO_cons]; simp [isnan_nan, frombits_c])
    | (rw [doesO_nil']; refine hQ' _ _ _ ?_; simp only [])
    | refine does_seq hp ?_
    | (refine does_gen hp ?_; intro Q' hQ')
    | refine does_block hp ?_
    | (refine does_ret hp ?_; simp [isnan_nan, frombits_c])
    | (refine does_skip hp ?_; simp [isnan_nan, frombits_c])
    | (refine does_exit hp ?_; simp [isnan_nan, frombits_c])
    | (refine does_cond' hp ?_; simp [isnan_nan, frombits_c]; done)
    | (refine does_cond' hp ?_; simp [isnan_nan, frombits_c]; refine fork (fun hcnd => ?_) (fun hcnd => ?_) <;> (try simp at hcnd))
    | (refine does_cond' hp ?_; simp [isnan_nan, frombits_c]))
  all_goals simp_all [canB, QN]

theorem canB_lt (b : Nat) (h : b < 2 ^ 64) : canB b < 2 ^ 64 := by unfold canB QN; split <;> omega
theorem rung_QN : rung QN = QN := by decide

/-! ### bits -/
theorem ofInt_nat (n m : Nat) : BitVec.ofInt n (m : Int) = BitVec.ofNat n m := by apply BitVec.eq_of_toNat_eq; simp [BitVec.toNat_ofInt]
theorem wrap_nat {n : Nat} (h : n < 2 ^ 64) : IntKind.u64.wrap (n : Int) = n := by
  have : ((n : Int) % (2 : Int) ^ 64) = n := Int.emod_eq_of_lt (by omega) (by omega)
  show (n : Int) % (2 : Int) ^ 64 = n
  exact this
theorem and_u {a b : Nat} (ha : a < 2 ^ 64) (hb : b < 2 ^ 64) : andI .u64 a b = (a &&& b : Nat) := by
  unfold andI
  have e : (BitVec.ofInt IntKind.u64.bits (a : Int) &&& BitVec.ofInt IntKind.u64.bits (b : Int)).toNat = a &&& b := by
    show (BitVec.ofInt 64 (a : Int) &&& BitVec.ofInt 64 (b : Int)).toNat = a &&& b
    rw [ofInt_nat, ofInt_nat, BitVec.toNat_and, BitVec.toNat_ofNat, BitVec.toNat_ofNat, Nat.mod_eq_of_lt ha, Nat.mod_eq_of_lt hb]
  rw [e]; exact wrap_nat (Nat.lt_of_le_of_lt Nat.and_le_left ha)
theorem or_u {a b : Nat} (ha : a < 2 ^ 64) (hb : b < 2 ^ 64) : orI .u64 a b = (a ||| b : Nat) := by
  unfold orI
  have e : (BitVec.ofInt IntKind.u64.bits (a : Int) ||| BitVec.ofInt IntKind.u64.bits (b : Int)).toNat = a ||| b := by
    show (BitVec.ofInt 64 (a : Int) ||| BitVec.ofInt 64 (b : Int)).toNat = a ||| b
    rw [ofInt_nat, ofInt_nat, BitVec.toNat_or, BitVec.toNat_ofNat, BitVec.toNat_ofNat, Nat.mod_eq_of_lt ha, Nat.mod_eq_of_lt hb]
  rw [e]; exact wrap_nat (Nat.or_lt_two_pow ha hb)
theorem not_u {b : Nat} (h : b < 2 ^ 64) : notI .u64 b = (18446744073709551615 - b : Nat) := by
  unfold notI
  have e : (BitVec.ofInt IntKind.u64.bits (if IntKind.u64.signed = true then -1 else IntKind.u64.max) ^^^ BitVec.ofInt IntKind.u64.bits (b : Int)).toNat = 18446744073709551615 - b := by
    show (BitVec.ofInt 64 18446744073709551615 ^^^ BitVec.ofInt 64 (b : Int)).toNat = _
    have h2 : BitVec.ofInt 64 18446744073709551615 = BitVec.allOnes 64 := by decide
    rw [h2, ofInt_nat, BitVec.allOnes_xor, BitVec.toNat_not]
    simp [Nat.mod_eq_of_lt h]
  rw [e]; exact wrap_nat (by omega)
theorem testBit_neg (b : Nat) : b.testBit 63 = neg b := by
  unfold neg SW
  rw [Nat.testBit_eq_decide_div_mod_eq]
  by_cases hd : b / 9223372036854775808 % 2 = 1 <;> simp [hd]
theorem and_top {b : Nat} (h : b < 2 ^ 64) : andI .u64 b 9223372036854775808 = if neg b then 9223372036854775808 else 0 := by
  have := and_u h (show 9223372036854775808 < 2 ^ 64 by decide)
  simp only [Int.cast_ofNat_Int] at this
  rw [this, ← testBit_neg]
  have e : b &&& 9223372036854775808 = (b.testBit 63).toNat * 2 ^ 63 := by
    apply Nat.eq_of_testBit_eq
    intro i
    have h63 : (9223372036854775808 : Nat) = 2 ^ 63 := by decide
    rw [h63, Nat.testBit_and, Nat.testBit_two_pow]
    by_cases hi : 63 = i
    · subst hi; cases hb : b.testBit 63 <;> simp [hb]; decide
    · have h2 := Nat.testBit_two_pow (n := 63) (m := i)
      cases hb : b.testBit 63 <;> simp [hi, hb]
      simpa [hi] using h2
  rw [e]; cases b.testBit 63 <;> rfl
theorem or_top {b : Nat} (h : b < 9223372036854775808) : orI .u64 b 9223372036854775808 = ((b + 9223372036854775808 : Nat) : Int) := by
  have := or_u (show b < 2 ^ 64 by omega) (show 9223372036854775808 < 2 ^ 64 by decide)
  simp only [Int.cast_ofNat_Int] at this
  rw [this]
  have h2 := Nat.two_pow_add_eq_or_of_lt (show b < 2 ^ 63 from h) 1
  rw [Nat.mul_one] at h2
  have h3 : b ||| 9223372036854775808 = 9223372036854775808 + b := by rw [Nat.or_comm]; exact h2.symm
  rw [h3, Nat.add_comm]

/-! ### num -/
theorem bits15_c (b : Nat) (h : H) : W K 15 [.one (.flt b)] h = some (.ret (.one (.int .u64 (canB b))) h) := by
  refine W_does hp rfl rfl rfl Try.func15 rfl (by simp [Try.f15]) ?_
  simp only [Try.f15, List.length_cons, List.length_nil, List.replicate, List.cons_append, List.nil_append, Nat.reduceAdd, Nat.reduceSub]
  repeat' (first
    | (rw [doesO_cons]; simp [canon_c, bits_c])
    | (rw [doesO_nil']; refine hQ' _ _ _ ?_; simp only [])
    | refine does_seq hp ?_
    | (refine does_gen hp ?_; intro Q' hQ')
    | refine does_block hp ?_
    | (refine does_ret hp ?_; simp [canon_c, bits_c])
    | (refine does_skip hp ?_; simp [canon_c, bits_c])
    | (refine does_exit hp ?_; simp [canon_c, bits_c])
    | (refine does_cond' hp ?_; simp [canon_c, bits_c]; done)
    | (refine does_cond' hp ?_; simp [canon_c, bits_c]; refine fork (fun hcnd => ?_) (fun hcnd => ?_) <;> (try simp at hcnd))
    | (refine does_cond' hp ?_; simp [canon_c, bits_c]))
def keyN (w : Nat) : Nat := if neg w then 18446744073709551615 - w else w + 9223372036854775808
theorem neg_false {b : Nat} (h : b < 2 ^ 64) (hn : neg b = false) : b < 9223372036854775808 := by
  unfold neg SW at hn
  simp at hn
  omega
theorem key_c (b : Nat) (hb : b < 2 ^ 64) (h : H) : W K 35 [.one (.flt b)] h = some (.ret (.one (.int .u64 (keyN (canB b)))) h) := by
  have hc := canB_lt b hb
  by_cases hn : neg (canB b) = true
  · have hk : keyN (canB b) = 18446744073709551615 - canB b := by unfold keyN; rw [if_pos hn]
    rw [hk]
    refine W_does hp rfl rfl rfl Try.func35 rfl (by simp [Try.f35]) ?_
    simp only [Try.f35, List.length_cons, List.length_nil, List.replicate, List.cons_append, List.nil_append, Nat.reduceAdd, Nat.reduceSub]
    repeat' (first
      | (rw [doesO_cons]; simp [bits15_c, and_top hc, not_u hc, un, hn])
      | (rw [doesO_nil']; refine hQ' _ _ _ ?_; simp only [])
      | refine does_seq hp ?_
      | (refine does_gen hp ?_; intro Q' hQ')
      | refine does_block hp ?_
      | (refine does_ret hp ?_; simp [bits15_c, and_top hc, not_u hc, un, hn])
      | (refine does_skip hp ?_; simp [bits15_c, and_top hc, not_u hc, un, hn])
      | (refine does_exit hp ?_; simp [bits15_c, and_top hc, not_u hc, un, hn])
      | (refine does_cond' hp ?_; simp [bits15_c, and_top hc, not_u hc, un, hn]; done)
      | (refine does_cond' hp ?_; simp [bits15_c, and_top hc, not_u hc, un, hn]; refine fork (fun hcnd => ?_) (fun hcnd => ?_) <;> (try simp at hcnd))
      | (refine does_cond' hp ?_; simp [bits15_c, and_top hc, not_u hc, un, hn]))
  · have hn : neg (canB b) = false := by simpa using hn
    have hk : keyN (canB b) = canB b + 9223372036854775808 := by unfold keyN; rw [if_neg (by simp [hn])]
    rw [hk]
    refine W_does hp rfl rfl rfl Try.func35 rfl (by simp [Try.f35]) ?_
    simp only [Try.f35, List.length_cons, List.length_nil, List.replicate, List.cons_append, List.nil_append, Nat.reduceAdd, Nat.reduceSub]
    repeat' (first
      | (rw [doesO_cons]; simp [bits15_c, and_top hc, or_top (neg_false hc hn), un, hn])
      | (rw [doesO_nil']; refine hQ' _ _ _ ?_; simp only [])
      | refine does_seq hp ?_
      | (refine does_gen hp ?_; intro Q' hQ')
      | refine does_block hp ?_
      | (refine does_ret hp ?_; simp [bits15_c, and_top hc, or_top (neg_false hc hn), un, hn])
      | (refine does_skip hp ?_; simp [bits15_c, and_top hc, or_top (neg_false hc hn), un, hn])
      | (refine does_exit hp ?_; simp [bits15_c, and_top hc, or_top (neg_false hc hn), un, hn])
      | (refine does_cond' hp ?_; simp [bits15_c, and_top hc, or_top (neg_false hc hn), un, hn]; done)
      | (refine does_cond' hp ?_; simp [bits15_c, and_top hc, or_top (neg_false hc hn), un, hn]; refine fork (fun hcnd => ?_) (fun hcnd => ?_) <;> (try simp at hcnd))
      | (refine does_cond' hp ?_; simp [bits15_c, and_top hc, or_top (neg_false hc hn), un, hn]))
def cmpN (x y : Nat) : Int := if x < y then -1 else if y < x then 1 else 0
theorem order_c (a b : Nat) (ha : a < 2 ^ 64) (hb : b < 2 ^ 64) (h : H) : W K 19 [.one (.flt a), .one (.flt b)] h = some (.ret (.one (.int .i64 (cmpN (keyN (canB a)) (keyN (canB b))))) h) := by
  refine W_does hp rfl rfl rfl Try.func19 rfl (by simp [Try.f19]) ?_
  simp only [Try.f19, List.length_cons, List.length_nil, List.replicate, List.cons_append, List.nil_append, Nat.reduceAdd, Nat.reduceSub]
  repeat' (first
    | (rw [doesO_cons]; simp [key_c a ha, key_c b hb])
    | (rw [doesO_nil']; refine hQ' _ _ _ ?_; simp only [])
    | refine does_seq hp ?_
    | (refine does_gen hp ?_; intro Q' hQ')
    | refine does_block hp ?_
    | (refine does_ret hp ?_; simp [key_c a ha, key_c b hb])
    | (refine does_skip hp ?_; simp [key_c a ha, key_c b hb])
    | (refine does_exit hp ?_; simp [key_c a ha, key_c b hb])
    | (refine does_cond' hp ?_; simp [key_c a ha, key_c b hb]; done)
    | (refine does_cond' hp ?_; simp [key_c a ha, key_c b hb]; refine fork (fun hcnd => ?_) (fun hcnd => ?_) <;> (try simp at hcnd))
    | (refine does_cond' hp ?_; simp [key_c a ha, key_c b hb]))
  all_goals (simp only [cmpN]; split <;> (try split) <;> first | rfl | omega | simp_all)

/-! ### sums, classes -/
def sumB (a b : Nat) : Nat := match D.add a b with | some r => r | none => QN
theorem fadd_flt (a b : Nat) : farith .add (.flt a) (.flt b) = some (fres (D.add a b)) := rfl
theorem canB_id {r : Nat} (h : rung r ≤ INF) : canB r = r := by unfold canB isN; simp; omega
theorem sum_c (a b : Nat) (h : H) : W K 12 [.one (.flt a), .one (.flt b)] h = some (.ret (.one (.flt (sumB a b))) h) := by
  cases hs : D.add a b with
  | none =>
    have : sumB a b = QN := by unfold sumB; rw [hs]
    rw [this]
    refine W_does hp rfl rfl rfl Try.func12 rfl (by simp [Try.f12]) ?_
    simp only [Try.f12, List.length_cons, List.length_nil, List.replicate, List.cons_append, List.nil_append, Nat.reduceAdd, Nat.reduceSub]
    repeat' (first
      | (rw [doesO_cons]; simp [ford_flt, fadd_flt, hs, fres, canon_nan])
      | (rw [doesO_nil']; refine hQ' _ _ _ ?_; simp only [])
      | refine does_seq hp ?_
      | (refine does_gen hp ?_; intro Q' hQ')
      | refine does_block hp ?_
      | (refine does_ret hp ?_; simp [ford_flt, fadd_flt, hs, fres, canon_nan])
      | (refine does_skip hp ?_; simp [ford_flt, fadd_flt, hs, fres, canon_nan])
      | (refine does_exit hp ?_; simp [ford_flt, fadd_flt, hs, fres, canon_nan])
      | (refine does_cond' hp ?_; simp [ford_flt, fadd_flt, hs, fres, canon_nan]; done)
      | (refine does_cond' hp ?_; simp [ford_flt, fadd_flt, hs, fres, canon_nan]; refine fork (fun hcnd => ?_) (fun hcnd => ?_) <;> (try simp at hcnd))
      | (refine does_cond' hp ?_; simp [ford_flt, fadd_flt, hs, fres, canon_nan]))
  | some r =>
    have h1 : sumB a b = r := by unfold sumB; rw [hs]
    have h2 := canB_id (add_word hs).2
    rw [h1]
    refine W_does hp rfl rfl rfl Try.func12 rfl (by simp [Try.f12]) ?_
    simp only [Try.f12, List.length_cons, List.length_nil, List.replicate, List.cons_append, List.nil_append, Nat.reduceAdd, Nat.reduceSub]
    repeat' (first
      | (rw [doesO_cons]; simp [ford_flt, fadd_flt, hs, fres, canon_c, h2])
      | (rw [doesO_nil']; refine hQ' _ _ _ ?_; simp only [])
      | refine does_seq hp ?_
      | (refine does_gen hp ?_; intro Q' hQ')
      | refine does_block hp ?_
      | (refine does_ret hp ?_; simp [ford_flt, fadd_flt, hs, fres, canon_c, h2])
      | (refine does_skip hp ?_; simp [ford_flt, fadd_flt, hs, fres, canon_c, h2])
      | (refine does_exit hp ?_; simp [ford_flt, fadd_flt, hs, fres, canon_c, h2])
      | (refine does_cond' hp ?_; simp [ford_flt, fadd_flt, hs, fres, canon_c, h2]; done)
      | (refine does_cond' hp ?_; simp [ford_flt, fadd_flt, hs, fres, canon_c, h2]; refine fork (fun hcnd => ?_) (fun hcnd => ?_) <;> (try simp at hcnd))
      | (refine does_cond' hp ?_; simp [ford_flt, fadd_flt, hs, fres, canon_c, h2]))
theorem same_c (a b : Nat) (ha : a < 2 ^ 64) (hb : b < 2 ^ 64) (h : H) : W K 20 [.one (.flt a), .one (.flt b)] h = some (.ret (.one (.bool (cmpN (keyN (canB a)) (keyN (canB b)) == 0))) h) := by
  refine W_does hp rfl rfl rfl Try.func20 rfl (by simp [Try.f20]) ?_
  simp only [Try.f20, List.length_cons, List.length_nil, List.replicate, List.cons_append, List.nil_append, Nat.reduceAdd, Nat.reduceSub]
  repeat' (first
    | (rw [doesO_cons]; simp [order_c a b ha hb])
    | (rw [doesO_nil']; refine hQ' _ _ _ ?_; simp only [])
    | refine does_seq hp ?_
    | (refine does_gen hp ?_; intro Q' hQ')
    | refine does_block hp ?_
    | (refine does_ret hp ?_; simp [order_c a b ha hb])
    | (refine does_skip hp ?_; simp [order_c a b ha hb])
    | (refine does_exit hp ?_; simp [order_c a b ha hb])
    | (refine does_cond' hp ?_; simp [order_c a b ha hb]; done)
    | (refine does_cond' hp ?_; simp [order_c a b ha hb]; refine fork (fun hcnd => ?_) (fun hcnd => ?_) <;> (try simp at hcnd))
    | (refine does_cond' hp ?_; simp [order_c a b ha hb]))
theorem signbit_c (b : Nat) (hb : b < 2 ^ 64) (h : H) : W K 34 [.one (.flt b)] h = some (.ret (.one (.bool (neg b))) h) := by
  have hw : decide (IntKind.i64.wrap (b : Int) < 0) = neg b := by
    unfold neg SW
    simp only [IntKind.wrap, IntKind.bits, IntKind.signed, Bool.true_and]
    have : b / 9223372036854775808 = 0 ∨ b / 9223372036854775808 = 1 := by omega
    rcases this with h0 | h0 <;> simp [h0] <;> omega
  refine W_does hp rfl rfl rfl Try.func34 rfl (by simp [Try.f34]) ?_
  simp only [Try.f34, List.length_cons, List.length_nil, List.replicate, List.cons_append, List.nil_append, Nat.reduceAdd, Nat.reduceSub]
  repeat' (first
    | (rw [doesO_cons]; simp [bits_c, convA, u22, KP, Try.underlying2, hw])
    | (rw [doesO_nil']; refine hQ' _ _ _ ?_; simp only [])
    | refine does_seq hp ?_
    | (refine does_gen hp ?_; intro Q' hQ')
    | refine does_block hp ?_
    | (refine does_ret hp ?_; simp [bits_c, convA, u22, KP, Try.underlying2, hw])
    | (refine does_skip hp ?_; simp [bits_c, convA, u22, KP, Try.underlying2, hw])
    | (refine does_exit hp ?_; simp [bits_c, convA, u22, KP, Try.underlying2, hw])
    | (refine does_cond' hp ?_; simp [bits_c, convA, u22, KP, Try.underlying2, hw]; done)
    | (refine does_cond' hp ?_; simp [bits_c, convA, u22, KP, Try.underlying2, hw]; refine fork (fun hcnd => ?_) (fun hcnd => ?_) <;> (try simp at hcnd))
    | (refine does_cond' hp ?_; simp [bits_c, convA, u22, KP, Try.underlying2, hw]))
theorem nan_c (h : H) : W K 13 [] h = some (.ret (.one (.flt 9221120237041090561)) h) := by
  refine W_does hp rfl rfl rfl Try.func13 rfl (by simp [Try.f13]) ?_
  simp only [Try.f13, List.length_cons, List.length_nil, List.replicate, List.cons_append, List.nil_append, Nat.reduceAdd, Nat.reduceSub]
  repeat' (first
    | (rw [doesO_cons]; simp [frombits_c])
    | (rw [doesO_nil']; refine hQ' _ _ _ ?_; simp only [])
    | refine does_seq hp ?_
    | (refine does_gen hp ?_; intro Q' hQ')
    | refine does_block hp ?_
    | (refine does_ret hp ?_; simp [frombits_c])
    | (refine does_skip hp ?_; simp [frombits_c])
    | (refine does_exit hp ?_; simp [frombits_c])
    | (refine does_cond' hp ?_; simp [frombits_c]; done)
    | (refine does_cond' hp ?_; simp [frombits_c]; refine fork (fun hcnd => ?_) (fun hcnd => ?_) <;> (try simp at hcnd))
    | (refine does_cond' hp ?_; simp [frombits_c]))
theorem inf1_c (h : H) : W K 16 [.one (.int .i64 1)] h = some (.ret (.one (.flt 9218868437227405312)) h) := by
  refine W_does hp rfl rfl rfl Try.func16 rfl (by simp [Try.f16]) ?_
  simp only [Try.f16, List.length_cons, List.length_nil, List.replicate, List.cons_append, List.nil_append, Nat.reduceAdd, Nat.reduceSub]
  repeat' (first
    | (rw [doesO_cons]; simp [frombits_c])
    | (rw [doesO_nil']; refine hQ' _ _ _ ?_; simp only [])
    | refine does_seq hp ?_
    | (refine does_gen hp ?_; intro Q' hQ')
    | refine does_block hp ?_
    | (refine does_ret hp ?_; simp [frombits_c])
    | (refine does_skip hp ?_; simp [frombits_c])
    | (refine does_exit hp ?_; simp [frombits_c])
    | (refine does_cond' hp ?_; simp [frombits_c]; done)
    | (refine does_cond' hp ?_; simp [frombits_c]; refine fork (fun hcnd => ?_) (fun hcnd => ?_) <;> (try simp at hcnd))
    | (refine does_cond' hp ?_; simp [frombits_c]))
theorem infm_c (h : H) : W K 16 [.one (.int .i64 (-1))] h = some (.ret (.one (.flt 18442240474082181120)) h) := by
  refine W_does hp rfl rfl rfl Try.func16 rfl (by simp [Try.f16]) ?_
  simp only [Try.f16, List.length_cons, List.length_nil, List.replicate, List.cons_append, List.nil_append, Nat.reduceAdd, Nat.reduceSub]
  repeat' (first
    | (rw [doesO_cons]; simp [frombits_c])
    | (rw [doesO_nil']; refine hQ' _ _ _ ?_; simp only [])
    | refine does_seq hp ?_
    | (refine does_gen hp ?_; intro Q' hQ')
    | refine does_block hp ?_
    | (refine does_ret hp ?_; simp [frombits_c])
    | (refine does_skip hp ?_; simp [frombits_c])
    | (refine does_exit hp ?_; simp [frombits_c])
    | (refine does_cond' hp ?_; simp [frombits_c]; done)
    | (refine does_cond' hp ?_; simp [frombits_c]; refine fork (fun hcnd => ?_) (fun hcnd => ?_) <;> (try simp at hcnd))
    | (refine does_cond' hp ?_; simp [frombits_c]))

theorem gt_max (b : Nat) : fcmp .gtr (D.order b 9218868437227405311) = some (decide (rung b = INF) && !neg b) := by
  have hm : rung 9218868437227405311 = 9218868437227405311 := by decide
  have hn : neg 9218868437227405311 = false := by decide
  by_cases h : INF < rung b
  · rw [order_nan (.inl h)]; simp [fcmp]
    first | done | omega
  · rw [order_word (by omega) (by rw [hm]; decide)]
    have hs : srung 9218868437227405311 = 9218868437227405311 := by unfold srung; rw [hn, hm]; rfl
    rw [hs]
    simp only [fcmp]
    congr 1
    have hI : INF = 9218868437227405312 := rfl
    by_cases hg : rung b = INF ∧ neg b = false
    · have : srung b = 9218868437227405312 := by unfold srung; rw [hg.1, hg.2]; rfl
      rw [this, hg.1, hg.2]; decide
    · have hle : srung b ≤ 9218868437227405311 := by
        unfold srung sg
        cases hb : neg b with
        | true => simp <;> omega
        | false =>
          have : ¬ rung b = INF := fun h => hg ⟨h, hb⟩
          simp; omega
      have hc : (some (compare (srung b) 9218868437227405311) == some Ordering.gt) = false := by
        rcases Int.lt_or_eq_of_le hle with h1 | h1
        · rw [Int.compare_eq_lt.2 h1]; rfl
        · rw [Int.compare_eq_eq.2 h1]; rfl
      rw [hc]
      cases hb : neg b
      · have : ¬ rung b = INF := fun h => hg ⟨h, hb⟩
        simp [this]
      · simp
theorem ne_zero (b : Nat) : fcmp .neq (D.order b 0) = some (decide (rung b ≠ 0)) := by
  by_cases h : INF < rung b
  · rw [order_nan (.inl h)]; simp only [fcmp]; have hI : INF = 9218868437227405312 := rfl
    rw [hI] at h
    have h0 : ¬ rung b = 0 := by omega
    simp [h0]
  · rw [order_word (by omega) (by decide)]
    have hs : srung 0 = 0 := by decide
    rw [hs]; simp only [fcmp]; congr 1
    by_cases h0 : rung b = 0
    · have : srung b = 0 := by unfold srung; rw [h0]; cases neg b <;> rfl
      rw [this, h0]; decide
    · have hne : srung b ≠ 0 := by unfold srung sg; cases neg b <;> simp <;> omega
      rcases Int.lt_or_gt_of_ne hne with h1 | h1
      · rw [Int.compare_eq_lt.2 h1]; simp [h0]
      · rw [Int.compare_eq_gt.2 h1]; simp [h0]
def opp (b : Nat) : Nat := Op.negFloat .f64 b
theorem opp_eq (b : Nat) (h : b < 2 ^ 64) : opp b = if neg b then b - SW else b + SW := by
  have hs : opp b = b ^^^ 2 ^ 63 := rfl
  rw [hs]
  have h1 : b = (if neg b then SW else 0) + rung b := by
    have := word_self h
    rw [word_eq] at this
    cases hn : neg b <;> simp [hn] at this ⊢ <;> omega
  have hr := rung_lt b
  have hx : ∀ r, r < SW → r ^^^ 2 ^ 63 = r + SW := by
    intro r hr
    have h2 := Nat.two_pow_add_eq_or_of_lt (show r < 2 ^ 63 from hr) 1
    rw [Nat.mul_one] at h2
    have : r ^^^ 2 ^ 63 = 2 ^ 63 ||| r := by
      apply Nat.eq_of_testBit_eq
      intro i
      rw [Nat.testBit_xor, Nat.testBit_or, Nat.testBit_two_pow]
      by_cases hi : 63 = i
      · subst hi
        rw [Nat.testBit_lt_two_pow hr]; simp
      · simp [hi]
    rw [this, ← h2]; unfold SW; omega
  cases hn : neg b with
  | false =>
    rw [hn] at h1
    have hb : b = rung b := by simpa using h1
    rw [hb, hx _ hr, ← hb]; simp
  | true =>
    rw [hn] at h1
    have hb : b = rung b + SW := by simp at h1; omega
    have h2 : b = rung b ^^^ 2 ^ 63 := by rw [hx _ hr]; exact hb
    have h3 : b ^^^ 2 ^ 63 = rung b := by
      conv => lhs; rw [h2]
      rw [Nat.xor_assoc, Nat.xor_self, Nat.xor_zero]
    rw [h3]; simp; omega
theorem opp_ok {b : Nat} (h : b < 2 ^ 64) : opp b < 2 ^ 64 ∧ rung (opp b) = rung b ∧ neg (opp b) = !neg b := by
  have e := opp_eq b h
  have hsw : (2 : Nat) ^ 64 = SW + SW := by decide
  have hw := word_self h
  rw [word_eq] at hw
  have hr := rung_lt b
  cases hn : neg b with
  | false =>
    rw [hn] at hw e; simp at hw e
    have e2 : opp b = D.word true (rung b) := by rw [word_eq, e]; simp; omega
    exact ⟨by omega, by rw [e2, rung_word _ hr], by rw [e2, neg_word _ hr]; rfl⟩
  | true =>
    rw [hn] at hw e; simp at hw e
    have e2 : opp b = D.word false (rung b) := by rw [word_eq, e]; simp; omega
    exact ⟨by omega, by rw [e2, rung_word _ hr], by rw [e2, neg_word _ hr]; rfl⟩
theorem neg_opp (b : Nat) : Op.negFloat .f64 b = opp b := rfl
theorem isinf1_c (b : Nat) (h : H) : W K 33 [.one (.flt b), .one (.int .i64 1)] h = some (.ret (.one (.bool (decide (rung b = INF) && !neg b))) h) := by
  refine W_does hp rfl rfl rfl Try.func33 rfl (by simp [Try.f33]) ?_
  simp only [Try.f33, List.length_cons, List.length_nil, List.replicate, List.cons_append, List.nil_append, Nat.reduceAdd, Nat.reduceSub]
  repeat' (first
    | (rw [doesO_cons]; simp [ford_flt, gt_max])
    | (rw [doesO_nil']; refine hQ' _ _ _ ?_; simp only [])
    | refine does_seq hp ?_
    | (refine does_gen hp ?_; intro Q' hQ')
    | refine does_block hp ?_
    | (refine does_ret hp ?_; simp [ford_flt, gt_max])
    | (refine does_skip hp ?_; simp [ford_flt, gt_max])
    | (refine does_exit hp ?_; simp [ford_flt, gt_max])
    | (refine does_cond' hp ?_; simp [ford_flt, gt_max]; done)
    | (refine does_cond' hp ?_; simp [ford_flt, gt_max]; refine fork (fun hcnd => ?_) (fun hcnd => ?_) <;> (try simp at hcnd))
    | (refine does_cond' hp ?_; simp [ford_flt, gt_max]))
theorem isinfm_c (b : Nat) (hb : b < 2 ^ 64) (h : H) : W K 33 [.one (.flt b), .one (.int .i64 (-1))] h = some (.ret (.one (.bool (decide (rung b = INF) && neg b))) h) := by
  obtain ⟨h1, h2, h3⟩ := opp_ok hb
  refine W_does hp rfl rfl rfl Try.func33 rfl (by simp [Try.f33]) ?_
  simp only [Try.f33, List.length_cons, List.length_nil, List.replicate, List.cons_append, List.nil_append, Nat.reduceAdd, Nat.reduceSub]
  repeat' (first
    | (rw [doesO_cons]; simp [ford_flt, gt_max, un, neg_opp, h2, h3])
    | (rw [doesO_nil']; refine hQ' _ _ _ ?_; simp only [])
    | refine does_seq hp ?_
    | (refine does_gen hp ?_; intro Q' hQ')
    | refine does_block hp ?_
    | (refine does_ret hp ?_; simp [ford_flt, gt_max, un, neg_opp, h2, h3])
    | (refine does_skip hp ?_; simp [ford_flt, gt_max, un, neg_opp, h2, h3])
    | (refine does_exit hp ?_; simp [ford_flt, gt_max, un, neg_opp, h2, h3])
    | (refine does_cond' hp ?_; simp [ford_flt, gt_max, un, neg_opp, h2, h3]; done)
    | (refine does_cond' hp ?_; simp [ford_flt, gt_max, un, neg_opp, h2, h3]; refine fork (fun hcnd => ?_) (fun hcnd => ?_) <;> (try simp at hcnd))
    | (refine does_cond' hp ?_; simp [ford_flt, gt_max, un, neg_opp, h2, h3]))
def clsN (b : Nat) : Int := if isN b then 6 else if rung b = INF then (if neg b then 5 else 4) else if rung b = 0 then (if neg b then 3 else 2) else 1
theorem class_c (b : Nat) (hb : b < 2 ^ 64) (h : H) : W K 14 [.one (.flt b)] h = some (.ret (.one (.int .i64 (clsN b))) h) := by
  have hs := signbit_c b hb
  unfold clsN
  refine W_does hp rfl rfl rfl Try.func14 rfl (by simp [Try.f14]) ?_
  simp only [Try.f14, List.length_cons, List.length_nil, List.replicate, List.cons_append, List.nil_append, Nat.reduceAdd, Nat.reduceSub]
  repeat' (first
    | (rw [doesO_cons]; simp [isnan_c, isinf1_c, isinfm_c b hb, hs, ford_flt, ne_zero])
    | (rw [doesO_nil']; refine hQ' _ _ _ ?_; simp only [])
    | refine does_seq hp ?_
    | (refine does_gen hp ?_; intro Q' hQ')
    | refine does_block hp ?_
    | (refine does_ret hp ?_; simp [isnan_c, isinf1_c, isinfm_c b hb, hs, ford_flt, ne_zero])
    | (refine does_skip hp ?_; simp [isnan_c, isinf1_c, isinfm_c b hb, hs, ford_flt, ne_zero])
    | (refine does_exit hp ?_; simp [isnan_c, isinf1_c, isinfm_c b hb, hs, ford_flt, ne_zero])
    | (refine does_cond' hp ?_; simp [isnan_c, isinf1_c, isinfm_c b hb, hs, ford_flt, ne_zero]; done)
    | (refine does_cond' hp ?_; simp [isnan_c, isinf1_c, isinfm_c b hb, hs, ford_flt, ne_zero]; refine fork (fun hcnd => ?_) (fun hcnd => ?_) <;> (try simp at hcnd))
    | (refine does_cond' hp ?_; simp [isnan_c, isinf1_c, isinfm_c b hb, hs, ford_flt, ne_zero]))
  all_goals simp_all
end Go.Proofs.Ytgdonnfchhdflaa
