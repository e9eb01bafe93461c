/-
  FLOATS, PLAINLY: words of a double; their order; sums.
-/
import Ieee.Arith
namespace NumPlain
set_option linter.unusedSimpArgs false
set_option linter.unnecessarySimpa false
set_option linter.unusedVariables false
open Ieee

abbrev D := Ieee.double
def SW : Nat := 9223372036854775808
def BN : Nat := 4503599627370496
def INF : Nat := 9218868437227405312
theorem sw_eq : D.signWeight = SW := by decide
theorem bn_eq : D.binade = BN := by decide
theorem inf_eq : D.infRung = INF := by decide
theorem least_eq : D.leastPlace = -1074 := by decide

def rung (a : Nat) : Nat := a % SW
def neg (a : Nat) : Bool := a / SW % 2 == 1
def isN (a : Nat) : Bool := decide (INF < rung a)
theorem read_eq (a : Nat) : D.read a = if rung a < BN then .number (neg a) (rung a) (-1074) else if rung a < INF then .number (neg a) (BN + rung a % BN) (-1074 + (rung a / BN - 1 : Nat)) else if rung a = INF then .infinity (neg a) else .nan (neg a) (rung a - INF) := by
  unfold Format.read
  simp only [sw_eq, bn_eq, inf_eq, least_eq, rung, neg]
  rfl

/-- a rung's number, in units of the least place -/
def V (r : Nat) : Nat := if r < BN then r else (BN + r % BN) * 2 ^ (r / BN - 1)
theorem V_lt {r q : Nat} (h : r < q) : V r < V q := by
  unfold V
  have hb : 0 < BN := by decide
  by_cases h1 : r < BN <;> by_cases h2 : q < BN
  · rw [if_pos h1, if_pos h2]; exact h
  · rw [if_pos h1, if_neg h2]
    have : 1 ≤ 2 ^ (q / BN - 1) := Nat.one_le_two_pow
    calc r < BN := h1
      _ ≤ BN + q % BN := Nat.le_add_right _ _
      _ = (BN + q % BN) * 1 := (Nat.mul_one _).symm
      _ ≤ _ := Nat.mul_le_mul_left _ this
  · omega
  · rw [if_neg h1, if_neg h2]
    have hd : r / BN ≤ q / BN := Nat.div_le_div_right (by omega)
    have e1 := Nat.div_add_mod r BN
    have e2 := Nat.div_add_mod q BN
    rcases Nat.eq_or_lt_of_le hd with he | hlt
    · rw [he]
      have : r % BN < q % BN := by rw [he] at e1; omega
      exact Nat.mul_lt_mul_of_pos_right (by omega) (Nat.two_pow_pos _)
    · have hr1 : 1 ≤ r / BN := Nat.div_pos (by omega) hb |> fun h => h
      obtain ⟨k, hk⟩ : ∃ k, q / BN - 1 = (r / BN - 1) + 1 + k := ⟨q / BN - 1 - (r / BN - 1) - 1, by omega⟩
      rw [hk, Nat.pow_add, Nat.pow_add, Nat.pow_one]
      have hm : r % BN < BN := Nat.mod_lt _ hb
      have hp : 0 < 2 ^ (r / BN - 1) := Nat.two_pow_pos _
      have hk1 : 1 ≤ 2 ^ k := Nat.one_le_two_pow
      calc (BN + r % BN) * 2 ^ (r / BN - 1) < (BN * 2) * 2 ^ (r / BN - 1) := Nat.mul_lt_mul_of_pos_right (by omega) hp
        _ = BN * (2 ^ (r / BN - 1) * 2) := by rw [Nat.mul_assoc, Nat.mul_comm 2]
        _ ≤ (BN + q % BN) * (2 ^ (r / BN - 1) * 2 * 2 ^ k) := Nat.mul_le_mul (Nat.le_add_right _ _) (by
            calc 2 ^ (r / BN - 1) * 2 = 2 ^ (r / BN - 1) * 2 * 1 := (Nat.mul_one _).symm
              _ ≤ _ := Nat.mul_le_mul_left _ hk1)
theorem V_inj {r q : Nat} (h : V r = V q) : r = q := by
  rcases Nat.lt_trichotomy r q with h1 | h1 | h1
  · have := V_lt h1; omega
  · exact h1
  · have := V_lt h1; omega
theorem V_lt_iff {r q : Nat} : V r < V q ↔ r < q := ⟨fun h => by
  rcases Nat.lt_trichotomy r q with h1 | h1 | h1
  · exact h1
  · subst h1; omega
  · have := V_lt h1; omega, V_lt⟩
theorem V_zero : V 0 = 0 := by decide

/-- a finite word's number -/
def mag (r : Nat) : Nat := if r < BN then r else BN + r % BN
def sh (r : Nat) : Nat := if r < BN then 0 else r / BN - 1
theorem V_eq (r : Nat) : V r = mag r * 2 ^ sh r := by
  unfold V mag sh; split <;> simp
theorem read_fin {a : Nat} (h : rung a < INF) : D.read a = .number (neg a) (mag (rung a)) (-1074 + (sh (rung a) : Nat)) := by
  rw [read_eq]
  unfold mag sh
  split
  · simp
  · simp [h]
theorem read_inf {a : Nat} (h : rung a = INF) : D.read a = .infinity (neg a) := by
  rw [read_eq, if_neg (by rw [h]; decide), if_neg (by omega), if_pos h]
theorem read_nan {a : Nat} (h : INF < rung a) : D.read a = .nan (neg a) (rung a - INF) := by
  rw [read_eq, if_neg (by have : BN < INF := by decide
                          omega), if_neg (by omega), if_neg (by omega)]

def sg (s : Bool) (n : Nat) : Int := if s then -(n : Int) else n
theorem signed_eq (s : Bool) (m k : Nat) : signed s m k = sg s (m * 2 ^ k) := by
  unfold signed sg; simp only [Nat.shiftLeft_eq]
def srung (a : Nat) : Int := sg (neg a) (rung a)

theorem cmp_int {a b : Int} (c : Ordering) (h : match c with | .lt => a < b | .eq => a = b | .gt => b < a) : compare a b = c := by
  cases c <;> simp only at h
  · exact Int.compare_eq_lt.2 h
  · exact Int.compare_eq_eq.2 h
  · exact Int.compare_eq_gt.2 h
theorem cmp_congr {a b c d : Int} (h1 : a < b ↔ c < d) (h2 : b < a ↔ d < c) : compare a b = compare c d := by
  rcases Int.lt_trichotomy c d with h | h | h
  · rw [Int.compare_eq_lt.2 h, Int.compare_eq_lt.2 (h1.2 h)]
  · have : a = b := by omega
    rw [Int.compare_eq_eq.2 h, Int.compare_eq_eq.2 this]
  · rw [Int.compare_eq_gt.2 h, Int.compare_eq_gt.2 (h2.2 h)]
theorem sg_lt {s t : Bool} {m n : Nat} (p q : Nat) (h1 : m < n ↔ p < q) (h2 : n < m ↔ q < p) (hm : m = 0 ↔ p = 0) (hn : n = 0 ↔ q = 0) : (sg s m < sg t n ↔ sg s p < sg t q) := by
  unfold sg; cases s <;> cases t <;> simp <;> omega

theorem order_fin {a b : Nat} (ha : rung a < INF) (hb : rung b < INF) : D.order a b = some (compare (srung a) (srung b)) := by
  unfold Format.order
  rw [read_fin ha, read_fin hb]
  simp only [Datum.order, signed_eq]
  have key : ∀ (x y : Nat), ((x : Int) + (-1074) - min (-1074 + (x : Int)) (-1074 + (y : Int))).toNat = x - min x y := by intro x y; omega
  have e1 : (-1074 + ((sh (rung a) : Nat) : Int) - min (-1074 + ((sh (rung a) : Nat) : Int)) (-1074 + ((sh (rung b) : Nat) : Int))).toNat = sh (rung a) - min (sh (rung a)) (sh (rung b)) := by omega
  have e2 : (-1074 + ((sh (rung b) : Nat) : Int) - min (-1074 + ((sh (rung a) : Nat) : Int)) (-1074 + ((sh (rung b) : Nat) : Int))).toNat = sh (rung b) - min (sh (rung a)) (sh (rung b)) := by omega
  rw [e1, e2]
  congr 1
  -- in units of the common place
  have hs : ∀ (r k : Nat), k ≤ sh r → mag r * 2 ^ (sh r - k) * 2 ^ k = V r := by
    intro r k hk
    rw [V_eq, Nat.mul_assoc, ← Nat.pow_add]; congr 2; omega
  have h1 := hs (rung a) (min (sh (rung a)) (sh (rung b))) (Nat.min_le_left _ _)
  have h2 := hs (rung b) (min (sh (rung a)) (sh (rung b))) (Nat.min_le_right _ _)
  have hp : 0 < 2 ^ min (sh (rung a)) (sh (rung b)) := Nat.two_pow_pos _
  generalize 2 ^ min (sh (rung a)) (sh (rung b)) = u at *
  generalize mag (rung a) * 2 ^ (sh (rung a) - min (sh (rung a)) (sh (rung b))) = x at *
  generalize mag (rung b) * 2 ^ (sh (rung b) - min (sh (rung a)) (sh (rung b))) = y at *
  have g1 : x < y ↔ rung a < rung b := by rw [← V_lt_iff (r := rung a) (q := rung b), ← h1, ← h2]; exact (Nat.mul_lt_mul_right hp).symm
  have g2 : y < x ↔ rung b < rung a := by rw [← V_lt_iff (r := rung b) (q := rung a), ← h1, ← h2]; exact (Nat.mul_lt_mul_right hp).symm
  have z : ∀ (r x : Nat), x * u = V r → (x = 0 ↔ r = 0) := by
    intro r x h
    constructor
    · intro hx; rw [hx, Nat.zero_mul] at h; exact (V_inj (h.symm.trans V_zero.symm))
    · intro hr; rw [hr, V_zero] at h
      rcases Nat.mul_eq_zero.1 h with h | h
      · exact h
      · omega
  exact cmp_congr (sg_lt _ _ g1 g2 (z _ _ h1) (z _ _ h2)) (sg_lt _ _ g2 g1 (z _ _ h2) (z _ _ h1))

theorem order_word {a b : Nat} (ha : rung a ≤ INF) (hb : rung b ≤ INF) : D.order a b = some (compare (srung a) (srung b)) := by
  rcases Nat.eq_or_lt_of_le ha with h1 | h1 <;> rcases Nat.eq_or_lt_of_le hb with h2 | h2
  · unfold Format.order
    rw [read_inf h1, read_inf h2]
    simp only [Datum.order, srung, h1, h2, sg]
    cases neg a <;> cases neg b <;> decide
  · unfold Format.order
    rw [read_inf h1, read_fin h2]
    simp only [Datum.order, srung, h1, sg]
    have : (0 : Int) < INF := by decide
    cases neg a <;> cases neg b <;> simp <;> symm <;> first | (apply Int.compare_eq_gt.2; omega) | (apply Int.compare_eq_lt.2; omega)
  · unfold Format.order
    rw [read_inf h2, read_fin h1]
    simp only [Datum.order, srung, h2, sg]
    have : (0 : Int) < INF := by decide
    cases neg a <;> cases neg b <;> simp <;> symm <;> first | (apply Int.compare_eq_gt.2; omega) | (apply Int.compare_eq_lt.2; omega)
  · exact order_fin h1 h2
theorem order_nan {a b : Nat} (h : INF < rung a ∨ INF < rung b) : D.order a b = none := by
  unfold Format.order
  rcases h with h | h
  · rw [read_nan h]; rfl
  · rw [read_nan h]; cases D.read a <;> rfl

/-! ### Sums -/
theorem word_eq (s : Bool) (r : Nat) : D.word s r = if s then SW + r else r := by unfold Format.word; rw [sw_eq]
theorem rung_word (s : Bool) {r : Nat} (h : r < SW) : rung (D.word s r) = r := by
  rw [word_eq]; unfold rung; cases s <;> simp
  · exact Nat.mod_eq_of_lt h
  · exact Nat.mod_eq_of_lt h
theorem neg_word (s : Bool) {r : Nat} (h : r < SW) : neg (D.word s r) = s := by
  rw [word_eq]; unfold neg
  have : 0 < SW := by decide
  cases s <;> simp
  · rw [Nat.div_eq_of_lt h]
  · rw [Nat.add_div_left _ this, Nat.div_eq_of_lt h]
theorem word_lt (s : Bool) {r : Nat} (h : r < SW) : D.word s r < 2 ^ 64 := by
  have : (2 : Nat) ^ 64 = SW + SW := by decide
  rw [word_eq, this]; cases s <;> simp <;> omega
theorem word_self {a : Nat} (h : a < 2 ^ 64) : D.word (neg a) (rung a) = a := by
  have h2 : (2 : Nat) ^ 64 = SW + SW := by decide
  have hs : 0 < SW := by decide
  rw [word_eq]
  unfold neg rung
  have e := Nat.div_add_mod a SW
  have hd : a / SW < 2 := Nat.div_lt_of_lt_mul (by omega)
  generalize a / SW = q at *
  have : q = 0 ∨ q = 1 := by omega
  rcases this with h0 | h0 <;> subst h0 <;> simp <;> omega
theorem rung_lt (a : Nat) : rung a < SW := Nat.mod_lt _ (by decide)

theorem log_mag {r : Nat} (h : 0 < r) : (mag r).log2 ≤ 52 ∧ (BN ≤ r → (mag r).log2 = 52) ∧ (r < BN → (mag r).log2 ≤ 51) := by
  have hb : BN = 2 ^ 52 := by decide
  by_cases h1 : r < BN
  · have e : mag r = r := by unfold mag; rw [if_pos h1]
    have : (mag r).log2 < 52 := by rw [e]; exact (Nat.log2_lt (by omega)).2 (by omega)
    exact ⟨by omega, fun h => absurd h (by omega), fun _ => by omega⟩
  · have e : mag r = BN + r % BN := by unfold mag; rw [if_neg h1]
    have hm : r % BN < BN := Nat.mod_lt _ (by decide)
    have hlt : (mag r).log2 < 53 := (Nat.log2_lt (by omega)).2 (by rw [e]; have : (2:Nat)^53 = BN + BN := by decide
                                                                   omega)
    have hge : 52 ≤ (mag r).log2 := (Nat.le_log2 (by omega)).2 (by omega)
    exact ⟨by omega, fun _ => by omega, fun h => absurd h h1⟩
theorem mag_pos {r : Nat} (h : 0 < r) : 0 < mag r := by
  unfold mag; split
  · exact h
  · have : 0 < BN := by decide
    omega
theorem log_shift {m : Nat} (hm : 0 < m) (k : Nat) : (m * 2 ^ k).log2 = m.log2 + k := by
  have h0 : m * 2 ^ k ≠ 0 := Nat.ne_of_gt (Nat.mul_pos hm (Nat.two_pow_pos k))
  apply Nat.le_antisymm
  · have : m < 2 ^ (m.log2 + 1) := Nat.lt_log2_self
    have : (m * 2 ^ k).log2 < m.log2 + k + 1 := (Nat.log2_lt h0).2 (by
      rw [show m.log2 + k + 1 = (m.log2 + 1) + k by omega, Nat.pow_add]
      exact Nat.mul_lt_mul_of_pos_right this (Nat.two_pow_pos k))
    omega
  · exact (Nat.le_log2 h0).2 (by
      rw [Nat.pow_add]
      exact Nat.mul_le_mul_right _ (Nat.log2_self_le (by omega)))
theorem cut_exact (s : Bool) (m k : Nat) (hm : 0 < m) : Toward.even.cut s (m * 2 ^ k) k = m := by
  unfold Toward.cut
  have hk : min k ((m * 2 ^ k).log2 + 2) = k := by rw [log_shift hm]; omega
  rw [hk]
  have hg : (1 <<< k : Nat) = 2 ^ k := by simp [Nat.shiftLeft_eq]
  simp only [hg, Nat.mul_div_cancel _ (Nat.two_pow_pos k), Nat.mul_mod_left]
  simp
/-- the word nearest to a word's number is that word -/
theorem nearest_exact (s : Bool) {r : Nat} (h : r < INF) (k : Nat) : D.nearest s (mag r * 2 ^ k) (-1074 + (sh r : Nat) - (k : Nat)) = D.word s r := by
  unfold Format.nearest
  by_cases h0 : r = 0
  · subst h0
    have : mag 0 = 0 := by decide
    rw [this]; simp
  · have hp := mag_pos (Nat.pos_of_ne_zero h0)
    have hne : mag r * 2 ^ k ≠ 0 := Nat.ne_of_gt (Nat.mul_pos hp (Nat.two_pow_pos k))
    rw [if_neg hne, log_shift hp, least_eq, inf_eq, bn_eq]
    obtain ⟨l1, l2, l3⟩ := log_mag (Nat.pos_of_ne_zero h0)
    have hfb : ((D.fractionBits : Nat) : Int) = 52 := by decide
    rw [hfb]
    have hlast : max (-1074 + (sh r : Int) - (k : Int) + (((mag r).log2 + k : Nat) : Int) - 52) (-1074) = -1074 + (sh r : Int) := by
      by_cases hb : r < BN
      · have : sh r = 0 := by unfold sh; rw [if_pos hb]
        have := l3 hb
        omega
      · have := l2 (by omega)
        omega
    simp only [hlast]
    have e1 : (-1074 + (sh r : Int) - (k : Int) - (-1074 + (sh r : Int))).toNat = 0 := by omega
    have e2 : (-1074 + (sh r : Int) - (-1074 + (sh r : Int) - (k : Int))).toNat = k := by omega
    have e3 : (-1074 + (sh r : Int) - -1074).toNat = sh r := by omega
    rw [e1, e2, e3, Nat.shiftLeft_zero, cut_exact s _ _ hp]
    congr 1
    have hr : sh r * BN + mag r = r := by
      unfold sh mag
      split
      · omega
      · have e := Nat.div_add_mod r BN
        have hd : 1 ≤ r / BN := Nat.div_pos (by omega) (by decide)
        obtain ⟨q, hq⟩ : ∃ q, r / BN = q + 1 := ⟨r / BN - 1, by omega⟩
        rw [hq] at e ⊢
        rw [Nat.mul_succ, Nat.mul_comm BN q] at e
        simp only [Nat.add_sub_cancel]
        omega
    rw [hr]; omega

theorem nearest_rung (s : Bool) (m : Nat) (p : Int) : ∃ r, r ≤ INF ∧ D.nearest s m p = D.word s r := by
  unfold Format.nearest
  split
  · exact ⟨0, by decide, rfl⟩
  · exact ⟨_, by rw [inf_eq]; exact Nat.min_le_right _ _, rfl⟩
theorem inf_lt_sw : INF < SW := by decide
/-- a sum that there is is no NaN -/
theorem add_word {a b r : Nat} (h : D.add a b = some r) : r < 2 ^ 64 ∧ rung r ≤ INF := by
  have hi := inf_lt_sw
  unfold Format.add at h
  simp only [Option.map_eq_some_iff] at h
  obtain ⟨d, hd, rfl⟩ := h
  cases d with
  | number s m p =>
    obtain ⟨q, hq, e⟩ := nearest_rung s m p
    simp only [Format.write, e]
    exact ⟨word_lt s (by omega), by rw [rung_word s (by omega)]; exact hq⟩
  | infinity s =>
    simp only [Format.write, inf_eq]
    exact ⟨word_lt s hi, by rw [rung_word s hi]; exact Nat.le_refl _⟩
  | nan s f => cases ha : D.read a <;> cases hb : D.read b <;> simp [ha, hb, Datum.sum] at hd
theorem sum_comm (x y : Datum) : x.sum y = y.sum x := by
  cases x <;> cases y <;> simp only [Datum.sum]
  · rename_i s m i t n j
    simp only [Int.min_comm i j, Int.add_comm (signed s m _) _, Bool.and_comm s t]
  · rename_i s t
    cases s <;> cases t <;> rfl
theorem add_comm (a b : Nat) : D.add a b = D.add b a := by
  unfold Format.add; rw [sum_comm]
theorem add_nan {a b : Nat} (h : INF < rung a ∨ INF < rung b) : D.add a b = none := by
  unfold Format.add
  rcases h with h | h
  · rw [read_nan h]; rfl
  · rw [read_nan h]; cases D.read a <;> rfl
theorem add_inf {a b : Nat} (ha : rung a = INF) (hb : rung b < INF) : D.add a b = some (D.word (neg a) INF) := by
  unfold Format.add
  rw [read_inf ha, read_fin hb]
  simp only [Datum.sum, Option.map_some, Format.write, inf_eq]
theorem add_inf_inf {a b : Nat} (ha : rung a = INF) (hb : rung b = INF) : D.add a b = if neg a = neg b then some (D.word (neg a) INF) else none := by
  unfold Format.add
  rw [read_inf ha, read_inf hb]
  simp only [Datum.sum]
  split <;> simp [Format.write, inf_eq]
theorem sg_zero (s : Bool) : sg s 0 = 0 := by cases s <;> rfl
theorem sg_abs (s : Bool) (n : Nat) : (sg s n).natAbs = n := by cases s <;> simp [sg]
theorem sg_neg (s : Bool) {n : Nat} (h : 0 < n) : decide (sg s n < 0) = s := by cases s <;> simp [sg] <;> omega
theorem add_zero' {a b : Nat} (ha : rung a < INF) (hb : rung b = 0) : D.add a b = some (D.word (if rung a = 0 then neg a && neg b else neg a) (rung a)) := by
  unfold Format.add
  rw [read_fin ha, read_fin (by rw [hb]; decide), hb]
  have m0 : mag 0 = 0 := by decide
  have s0 : sh 0 = 0 := by decide
  rw [m0, s0]
  simp only [Datum.sum, signed_eq, Option.map_some, Nat.zero_mul, sg_zero, Int.add_zero, Format.write]
  have e1 : min (-1074 + (sh (rung a) : Int)) (-1074 + ((0 : Nat) : Int)) = -1074 := by omega
  have e1' : min (-1074 + (sh (rung a) : Int)) (-1074) = -1074 := by omega
  first
    | rw [e1]
    | simp only [Int.ofNat_zero, Int.add_zero, Int.cast_ofNat_Int, e1']
  have e2 : (-1074 + (sh (rung a) : Int) - -1074).toNat = sh (rung a) := by omega
  rw [e2, sg_abs]
  congr 1
  have hn := nearest_exact (if rung a = 0 then neg a && neg b else neg a) ha (sh (rung a))
  have e3 : -1074 + (sh (rung a) : Int) - (sh (rung a) : Int) = -1074 := by omega
  rw [e3] at hn
  rw [← hn]
  congr 1
  by_cases h0 : rung a = 0
  · rw [h0, m0]; simp [sg_zero]
  · have hp : 0 < mag (rung a) * 2 ^ sh (rung a) := Nat.mul_pos (mag_pos (Nat.pos_of_ne_zero h0)) (Nat.two_pow_pos _)
    have hz : ¬ sg (neg a) (mag (rung a) * 2 ^ sh (rung a)) = 0 := by
      intro h; have := congrArg Int.natAbs h; rw [sg_abs] at this; simp at this; omega
    rw [if_neg hz, if_neg h0]
    exact sg_neg _ hp
theorem add_opp {a b : Nat} (ha : rung a < INF) (hr : rung b = rung a) (hn : neg b = !neg a) : D.add a b = some 0 := by
  unfold Format.add
  rw [read_fin ha, read_fin (by rw [hr]; exact ha), hr, hn]
  simp only [Datum.sum, signed_eq, Option.map_some, Format.write, Int.min_self]
  have : ∀ n, sg (neg a) n + sg (!neg a) n = 0 := by intro n; cases neg a <;> simp [sg] <;> omega
  rw [this]
  simp [Format.nearest, word_eq]
end NumPlain
