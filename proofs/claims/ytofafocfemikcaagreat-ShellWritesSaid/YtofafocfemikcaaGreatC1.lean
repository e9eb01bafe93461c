/- A part of a proof over the abstract machine. No conditions. -/
import Derived.Test.YtofafocfemikcaaGreatW5
import Derived.Test.YtofafocfemikcaaGreatSeatK
import Derived.Test.YtofafocfemikcaaGreatSeatF
import Derived.Test.YtofafocfemikcaaGreatAb5
set_option linter.unusedSimpArgs false
set_option linter.unnecessarySimpa false
set_option linter.unusedVariables false
namespace Go.Proofs.YtofafocfemikcaaGreat
open Go Go.Ab Wm
set_option maxRecDepth 10000
set_option maxHeartbeats 2000000
@[simp] theorem KP : K.P = Tryz.prog := rfl
theorem K_own (f : Nat) : K.own f = memL S.own f := rfl
theorem gen_c (n : Int) (h : H) : W K 221 [.one (ii n)] h = some (.ret (.one (.bool (genOk n))) h) := by
 have hown : memL S.own 221 = false := by kernel_rfl
 refine W_pure hp (by simp [pureV, genOk, outV, frzV, frzS, frzS_pure, frzP, pureS, pureL, K_own, hown]) (apart_does rfl rfl (by kernel_rfl) Tryz.func221 rfl (by simp [Tryz.f221]) ?_)
 simp only [Tryz.f221]
 refine hide ?_; intro Q1 hQ1
 repeat' (first
  | (replace hQ1 := hQ1; simp [genOk, outV, frzV, frzS, frzS_pure, frzP, pureS, pureL, K_own, hown])
  | (refine hQ1 _ _ _ ?_; clear hQ1 Q1; first | simp only [] | simp [genOk, outV, frzV, frzS, frzS_pure, frzP, pureS, pureL, K_own, hown])
  | (first | apply cF | apply wN | apply wS) <;> intro hcnd <;> (try simp only [hcnd]) <;> (try simp [-List.isEmpty_iff, -List.isEmpty_eq_false_iff] at hcnd))
 all_goals first | done | (simp_all [-List.isEmpty_iff, -List.isEmpty_eq_false_iff, ← List.isEmpty_iff]; done) | (simp_all; done) | (simp_all; omega) | (simp; omega) | (intros; omega) | (intros; simp only [decide_eq_true_eq] at *; omega) | (intros; simp at *; omega) | skip
theorem in_c (n m : Int) (h : H) : W K 223 [.one (ii n), .one (ii m)] h = some (.ret (.one (.bool (inTo n m))) h) := by
 have hown : memL S.own 223 = false := by kernel_rfl
 refine W_pure hp (by simp [pureV, inTo, outV, frzV, frzS, frzS_pure, frzP, pureS, pureL, K_own, hown]) (apart_does rfl rfl (by kernel_rfl) Tryz.func223 rfl (by simp [Tryz.f223]) ?_)
 simp only [Tryz.f223]
 refine hide ?_; intro Q2 hQ2
 repeat' (first
  | (replace hQ2 := hQ2; simp [inTo, outV, frzV, frzS, frzS_pure, frzP, pureS, pureL, K_own, hown])
  | (refine hQ2 _ _ _ ?_; clear hQ2 Q2; first | simp only [] | simp [inTo, outV, frzV, frzS, frzS_pure, frzP, pureS, pureL, K_own, hown])
  | (first | apply cF | apply wN | apply wS) <;> intro hcnd <;> (try simp only [hcnd]) <;> (try simp [-List.isEmpty_iff, -List.isEmpty_eq_false_iff] at hcnd))
 all_goals first | done | (simp_all [-List.isEmpty_iff, -List.isEmpty_eq_false_iff, ← List.isEmpty_iff]; done) | (simp_all; done) | (simp_all; omega) | (simp; omega) | (intros; omega) | (intros; simp only [decide_eq_true_eq] at *; omega) | (intros; simp at *; omega) | skip
theorem name_c (s : BL) (h : H) : W K 280 [.one (.str s)] h = some (.ret (.one (.bool (nameOk s))) h) := by
 have hown : memL S.own 280 = false := by kernel_rfl
 refine W_pure hp (by simp [pureV, nameOk, outV, frzV, frzS, frzS_pure, frzP, pureS, pureL, K_own, hown]) (apart_does rfl rfl (by kernel_rfl) Tryz.func280 rfl (by simp [Tryz.f280]) ?_)
 simp only [Tryz.f280]
 refine hide ?_; intro Q3 hQ3
 repeat' (first
  | (replace hQ3 := hQ3; simp [nameOk, outV, frzV, frzS, frzS_pure, frzP, pureS, pureL, K_own, hown])
  | (refine hQ3 _ _ _ ?_; clear hQ3 Q3; first | simp only [] | simp [nameOk, outV, frzV, frzS, frzS_pure, frzP, pureS, pureL, K_own, hown])
  | (first | apply cF | apply wN | apply wS) <;> intro hcnd <;> (try simp only [hcnd]) <;> (try simp [-List.isEmpty_iff, -List.isEmpty_eq_false_iff] at hcnd))
 all_goals first | done | (simp_all [-List.isEmpty_iff, -List.isEmpty_eq_false_iff, ← List.isEmpty_iff]; done) | (simp_all; done) | (simp_all; omega) | (simp; omega) | (intros; omega) | (intros; simp only [decide_eq_true_eq] at *; omega) | (intros; simp at *; omega) | skip
theorem valRight_c (v_kind : Int) (v_b : Option BL) (v_n : Nat) (h : H) : W K 330 [.agg [ii v_kind, bs v_b, .flt v_n]] h = some (.ret (.one (.bool (valOk ⟨v_kind, v_b, v_n⟩))) h) := by
 have hown : memL S.own 330 = false := by kernel_rfl
 refine W_pure hp (by simp [pureV, valOk, lenB, outV, frzV, frzS, frzS_pure, frzP, pureS, pureL, K_own, hown]) (apart_does rfl rfl (by kernel_rfl) Tryz.func330 rfl (by simp [Tryz.f330]) ?_)
 simp only [Tryz.f330]
 refine hide ?_; intro Q4 hQ4
 repeat' (first
  | (replace hQ4 := hQ4; simp [valOk, lenB, outV, frzV, frzS, frzS_pure, frzP, pureS, pureL, K_own, hown])
  | (refine hQ4 _ _ _ ?_; clear hQ4 Q4; first | simp only [] | simp [valOk, lenB, outV, frzV, frzS, frzS_pure, frzP, pureS, pureL, K_own, hown])
  | (first | apply cF | apply wN | apply wS) <;> intro hcnd <;> (try simp only [hcnd]) <;> (try simp [-List.isEmpty_iff, -List.isEmpty_eq_false_iff] at hcnd))
 all_goals first | done | (simp_all [-List.isEmpty_iff, -List.isEmpty_eq_false_iff, ← List.isEmpty_iff]; done) | (simp_all; done) | (simp_all; omega) | (simp; omega) | (intros; omega) | (intros; simp only [decide_eq_true_eq] at *; omega) | (intros; simp at *; omega) | skip
theorem asks_c (k : Int) (h : H) : W K 327 [.one (ii k)] h = some (.ret (.tup [(false, [.bool (asks k).1]), (false, [.bool (asks k).2.1]), (false, [.bool (asks k).2.2.1]), (false, [.bool (asks k).2.2.2])]) h) := by
 have hown : memL S.own 327 = false := by kernel_rfl
 refine W_pure hp (by simp [pureV, asks, outV, frzV, frzS, frzS_pure, frzP, pureS, pureL, K_own, hown]) (apart_does rfl rfl (by kernel_rfl) Tryz.func327 rfl (by simp [Tryz.f327]) ?_)
 simp only [Tryz.f327]
 refine hide ?_; intro Q5 hQ5
 repeat' (first
  | (replace hQ5 := hQ5; simp [asks, outV, frzV, frzS, frzS_pure, frzP, pureS, pureL, K_own, hown])
  | (refine hQ5 _ _ _ ?_; clear hQ5 Q5; first | simp only [] | simp [asks, outV, frzV, frzS, frzS_pure, frzP, pureS, pureL, K_own, hown])
  | (first | apply cF | apply wN | apply wS) <;> intro hcnd <;> (try simp only [hcnd]) <;> (try simp [-List.isEmpty_iff, -List.isEmpty_eq_false_iff] at hcnd))
 all_goals first | done | (simp_all [-List.isEmpty_iff, -List.isEmpty_eq_false_iff, ← List.isEmpty_iff]; done) | (simp_all; done) | (simp_all; omega) | (simp; omega) | (intros; omega) | (intros; simp only [decide_eq_true_eq] at *; omega) | (intros; simp at *; omega) | skip
theorem spanRight_c (lo hi : BL) (h : H) : W K 162 [.agg [.str lo, .str hi]] h = some (.ret (.one (.bool (spanOk ⟨lo, hi⟩))) h) := by
 have hown : memL S.own 162 = false := by kernel_rfl
 refine W_pure hp (by simp [pureV, spanOk, blt, strOp, outV, frzV, frzS, frzS_pure, frzP, pureS, pureL, K_own, hown]) (apart_does rfl rfl (by kernel_rfl) Tryz.func162 rfl (by simp [Tryz.f162]) ?_)
 simp only [Tryz.f162]
 refine hide ?_; intro Q6 hQ6
 repeat' (first
  | (replace hQ6 := hQ6; simp [spanOk, blt, strOp, outV, frzV, frzS, frzS_pure, frzP, pureS, pureL, K_own, hown])
  | (refine hQ6 _ _ _ ?_; clear hQ6 Q6; first | simp only [] | simp [spanOk, blt, strOp, outV, frzV, frzS, frzS_pure, frzP, pureS, pureL, K_own, hown])
  | (first | apply cF | apply wN | apply wS) <;> intro hcnd <;> (try simp only [hcnd]) <;> (try simp [-List.isEmpty_iff, -List.isEmpty_eq_false_iff] at hcnd))
 all_goals first | done | (simp_all [-List.isEmpty_iff, -List.isEmpty_eq_false_iff, ← List.isEmpty_iff]; done) | (simp_all; done) | (simp_all; omega) | (simp; omega) | (intros; omega) | (intros; simp only [decide_eq_true_eq] at *; omega) | (intros; simp at *; omega) | skip
theorem spanSplit_c (lo hi n : BL) (h : H) : W K 222 [.agg [.str lo, .str hi], .one (.str n)] h =
  some (.ret (.tup [(true, [.str (bif splitOk ⟨lo, hi⟩ n then lo else []), .str (bif splitOk ⟨lo, hi⟩ n then n else [])]), (true, [.str (bif splitOk ⟨lo, hi⟩ n then n else []), .str (bif splitOk ⟨lo, hi⟩ n then hi else [])]), (false, [.bool (splitOk ⟨lo, hi⟩ n)])]) h) := by
 have hown : memL S.own 222 = false := by kernel_rfl
 refine W_pure hp (by simp [pureV, splitOk, blt, strOp, spanRight_c, outV, frzV, frzS, frzS_pure, frzP, pureS, pureL, K_own, hown]) (apart_does rfl rfl (by kernel_rfl) Tryz.func222 rfl (by simp [Tryz.f222]) ?_)
 simp only [Tryz.f222]
 refine hide ?_; intro Q8 hQ8
 repeat' (first
  | (replace hQ8 := hQ8; simp [splitOk, blt, strOp, spanRight_c, outV, frzV, frzS, frzS_pure, frzP, pureS, pureL, K_own, hown])
  | (refine hQ8 _ _ _ ?_; clear hQ8 Q8; first | simp only [] | simp [splitOk, blt, strOp, spanRight_c, outV, frzV, frzS, frzS_pure, frzP, pureS, pureL, K_own, hown])
  | (first | refine dF (id := 1) [0, 1, 2, 3, 4, 5, 6, 7, 8, 9, 10, 11] [(6, 10)] ?_ | refine dF (id := 4) [0, 1, 2, 3, 4] [(1, 2)] ?_)
  | (first | apply cF | apply wN | apply wS) <;> intro hcnd <;> (try simp only [hcnd]) <;> (try simp [-List.isEmpty_iff, -List.isEmpty_eq_false_iff] at hcnd))
 all_goals first | done | (simp_all [-List.isEmpty_iff, -List.isEmpty_eq_false_iff, ← List.isEmpty_iff]; done) | (simp_all; done) | (simp_all; omega) | (simp; omega) | (intros; omega) | (intros; simp only [decide_eq_true_eq] at *; omega) | (intros; simp at *; omega) | skip
theorem cond_c (c_has : Bool) (c_want : Bool) (c_col : BL) (c_v_kind : Int) (c_v_b : Option BL) (c_v_n : Nat) (h : H) : W K 284 [.agg [.bool c_has, .bool c_want, .str c_col, ii c_v_kind, bs c_v_b, .flt c_v_n]] h = some (.ret (.one (.bool (condOk ⟨c_has, c_want, c_col, ⟨c_v_kind, c_v_b, c_v_n⟩⟩))) h) := by
 have hown : memL S.own 284 = false := by kernel_rfl
 refine W_pure hp (by simp [pureV, condOk, name_c, valRight_c, outV, frzV, frzS, frzS_pure, frzP, pureS, pureL, K_own, hown]) (apart_does rfl rfl (by kernel_rfl) Tryz.func284 rfl (by simp [Tryz.f284]) ?_)
 simp only [Tryz.f284]
 refine hide ?_; intro Q9 hQ9
 repeat' (first
  | (replace hQ9 := hQ9; simp [condOk, name_c, valRight_c, outV, frzV, frzS, frzS_pure, frzP, pureS, pureL, K_own, hown])
  | (refine hQ9 _ _ _ ?_; clear hQ9 Q9; first | simp only [] | simp [condOk, name_c, valRight_c, outV, frzV, frzS, frzS_pure, frzP, pureS, pureL, K_own, hown])
  | (first | apply cF | apply wN | apply wS) <;> intro hcnd <;> (try simp only [hcnd]) <;> (try simp [-List.isEmpty_iff, -List.isEmpty_eq_false_iff] at hcnd))
 all_goals first | done | (simp_all [-List.isEmpty_iff, -List.isEmpty_eq_false_iff, ← List.isEmpty_iff]; done) | (simp_all; done) | (simp_all; omega) | (simp; omega) | (intros; omega) | (intros; simp only [decide_eq_true_eq] at *; omega) | (intros; simp at *; omega) | skip
theorem changeRight_c (c_kind : Int) (c_col : BL) (c_time : Int) (c_v_kind : Int) (c_v_b : Option BL) (c_v_n : Nat) (h : H) : W K 283 [.agg [ii c_kind, .str c_col, ii c_time, ii c_v_kind, bs c_v_b, .flt c_v_n]] h = some (.ret (.one (ii (changeWhy ⟨c_kind, c_col, c_time, ⟨c_v_kind, c_v_b, c_v_n⟩⟩))) h) := by
 have hown : memL S.own 283 = false := by kernel_rfl
 refine W_pure hp (by simp [pureV, changeWhy, name_c, valRight_c, asks_c, outV, frzV, frzS, frzS_pure, frzP, pureS, pureL, K_own, hown]) (apart_does rfl rfl (by kernel_rfl) Tryz.func283 rfl (by simp [Tryz.f283]) ?_)
 simp only [Tryz.f283]
 refine hide ?_; intro Q10 hQ10
 repeat' (first
  | (replace hQ10 := hQ10; simp [changeWhy, name_c, valRight_c, asks_c, outV, frzV, frzS, frzS_pure, frzP, pureS, pureL, K_own, hown])
  | (refine hQ10 _ _ _ ?_; clear hQ10 Q10; first | simp only [] | simp [changeWhy, name_c, valRight_c, asks_c, outV, frzV, frzS, frzS_pure, frzP, pureS, pureL, K_own, hown])
  | (first | apply cF | apply wN | apply wS) <;> intro hcnd <;> (try simp only [hcnd]) <;> (try simp [-List.isEmpty_iff, -List.isEmpty_eq_false_iff] at hcnd))
 all_goals first | done | (simp_all [-List.isEmpty_iff, -List.isEmpty_eq_false_iff, ← List.isEmpty_iff]; done) | (simp_all; done) | (simp_all; omega) | (simp; omega) | (intros; omega) | (intros; simp only [decide_eq_true_eq] at *; omega) | (intros; simp at *; omega) | skip
end Go.Proofs.YtofafocfemikcaaGreat
