/- A part of a proof over the abstract machine. No conditions. -/
import Derived.Test.YtmhbdpgflomihaaSeatK
import Derived.Test.YtmhbdpgflomihaaSeatF
import Derived.Test.YtmhbdpgflomihaaAb5
/- Numbers, names, values, spans: what each function answers. No conditions. -/
namespace Go.Proofs.Ytmhbdpgflomihaa
open Go Go.Ab Wm
set_option linter.unusedSimpArgs false
set_option linter.unnecessarySimpa false
set_option linter.unusedVariables false
set_option maxRecDepth 10000
set_option maxHeartbeats 2000000
@[simp] theorem KP : K.P = Try.prog := rfl
theorem K_own (f : Nat) : K.own f = memL S.own f := rfl

theorem gen_c (n : Int) (h : H) : W K 38 [.one (ii n)] h = some (.ret (.one (.bool (genOk n))) h) := by
  refine W_pure hp (by simp [pureV, genOk, outV, frzV, frzS, frzP, pureS, pureL, K_own]) (apart_does rfl rfl (by kernel_rfl) Try.func38 rfl (by simp [Try.f38]) ?_)
  simp only [Try.f38, List.length_cons, List.length_nil, List.replicate, List.cons_append, List.nil_append, Nat.reduceAdd, Nat.reduceSub]
  repeat' (first
    | (rw [doesO_cons]; simp [genOk, outV, frzV, frzS, frzP, pureS, pureL, K_own])
    | (rw [doesO_nil']; refine hQ' _ _ _ ?_; clear hQ' Q'; first | simp only [] | simp [genOk, outV, frzV, frzS, frzP, pureS, pureL, K_own])
    | refine does_seq hp ?_
    | (refine does_gen hp ?_; intro Q' hQ')
    | refine does_block hp ?_
    | (refine does_ret hp ?_; simp [genOk, outV, frzV, frzS, frzP, pureS, pureL, K_own])
    | (refine does_skip hp ?_; simp [genOk, outV, frzV, frzS, frzP, pureS, pureL, K_own])
    | (refine does_exit hp ?_; simp [genOk, outV, frzV, frzS, frzP, pureS, pureL, K_own])
    | (refine does_cond' hp ?_; simp [genOk, outV, frzV, frzS, frzP, pureS, pureL, K_own]; done)
    | (refine onW_split (fun hcnd => ?_) (fun hcnd => ?_) <;> simp only [hcnd] <;> (try simp [-List.isEmpty_iff, -List.isEmpty_eq_false_iff] at hcnd) <;> simp [genOk, outV, frzV, frzS, frzP, pureS, pureL, K_own])
    | (refine does_cond' hp ?_; simp [genOk, outV, frzV, frzS, frzP, pureS, pureL, K_own]; refine fork (fun hcnd => ?_) (fun hcnd => ?_) <;> (try simp only [hcnd]) <;> (try simp [-List.isEmpty_iff, -List.isEmpty_eq_false_iff] at hcnd))
    | (refine does_cond' hp ?_; simp [genOk, outV, frzV, frzS, frzP, pureS, pureL, K_own]))
  all_goals first | done | (simp_all [-List.isEmpty_iff, -List.isEmpty_eq_false_iff, ← List.isEmpty_iff]; done) | (simp_all; done) | (simp_all; omega) | (simp; omega) | (intros; omega) | (intros; simp only [decide_eq_true_eq] at *; omega) | (intros; simp at *; omega) | skip
theorem in_c (n m : Int) (h : H) : W K 40 [.one (ii n), .one (ii m)] h = some (.ret (.one (.bool (inTo n m))) h) := by
  refine W_pure hp (by simp [pureV, inTo, outV, frzV, frzS, frzP, pureS, pureL, K_own]) (apart_does rfl rfl (by kernel_rfl) Try.func40 rfl (by simp [Try.f40]) ?_)
  simp only [Try.f40, List.length_cons, List.length_nil, List.replicate, List.cons_append, List.nil_append, Nat.reduceAdd, Nat.reduceSub]
  repeat' (first
    | (rw [doesO_cons]; simp [inTo, outV, frzV, frzS, frzP, pureS, pureL, K_own])
    | (rw [doesO_nil']; refine hQ' _ _ _ ?_; clear hQ' Q'; first | simp only [] | simp [inTo, outV, frzV, frzS, frzP, pureS, pureL, K_own])
    | refine does_seq hp ?_
    | (refine does_gen hp ?_; intro Q' hQ')
    | refine does_block hp ?_
    | (refine does_ret hp ?_; simp [inTo, outV, frzV, frzS, frzP, pureS, pureL, K_own])
    | (refine does_skip hp ?_; simp [inTo, outV, frzV, frzS, frzP, pureS, pureL, K_own])
    | (refine does_exit hp ?_; simp [inTo, outV, frzV, frzS, frzP, pureS, pureL, K_own])
    | (refine does_cond' hp ?_; simp [inTo, outV, frzV, frzS, frzP, pureS, pureL, K_own]; done)
    | (refine onW_split (fun hcnd => ?_) (fun hcnd => ?_) <;> simp only [hcnd] <;> (try simp [-List.isEmpty_iff, -List.isEmpty_eq_false_iff] at hcnd) <;> simp [inTo, outV, frzV, frzS, frzP, pureS, pureL, K_own])
    | (refine does_cond' hp ?_; simp [inTo, outV, frzV, frzS, frzP, pureS, pureL, K_own]; refine fork (fun hcnd => ?_) (fun hcnd => ?_) <;> (try simp only [hcnd]) <;> (try simp [-List.isEmpty_iff, -List.isEmpty_eq_false_iff] at hcnd))
    | (refine does_cond' hp ?_; simp [inTo, outV, frzV, frzS, frzP, pureS, pureL, K_own]))
  all_goals first | done | (simp_all [-List.isEmpty_iff, -List.isEmpty_eq_false_iff, ← List.isEmpty_iff]; done) | (simp_all; done) | (simp_all; omega) | (simp; omega) | (intros; omega) | (intros; simp only [decide_eq_true_eq] at *; omega) | (intros; simp at *; omega) | skip
theorem name_c (s : BL) (h : H) : W K 59 [.one (.str s)] h = some (.ret (.one (.bool (nameOk s))) h) := by
  refine W_pure hp (by simp [pureV, nameOk, outV, frzV, frzS, frzP, pureS, pureL, K_own]) (apart_does rfl rfl (by kernel_rfl) Try.func59 rfl (by simp [Try.f59]) ?_)
  simp only [Try.f59, List.length_cons, List.length_nil, List.replicate, List.cons_append, List.nil_append, Nat.reduceAdd, Nat.reduceSub]
  repeat' (first
    | (rw [doesO_cons]; simp [nameOk, outV, frzV, frzS, frzP, pureS, pureL, K_own])
    | (rw [doesO_nil']; refine hQ' _ _ _ ?_; clear hQ' Q'; first | simp only [] | simp [nameOk, outV, frzV, frzS, frzP, pureS, pureL, K_own])
    | refine does_seq hp ?_
    | (refine does_gen hp ?_; intro Q' hQ')
    | refine does_block hp ?_
    | (refine does_ret hp ?_; simp [nameOk, outV, frzV, frzS, frzP, pureS, pureL, K_own])
    | (refine does_skip hp ?_; simp [nameOk, outV, frzV, frzS, frzP, pureS, pureL, K_own])
    | (refine does_exit hp ?_; simp [nameOk, outV, frzV, frzS, frzP, pureS, pureL, K_own])
    | (refine does_cond' hp ?_; simp [nameOk, outV, frzV, frzS, frzP, pureS, pureL, K_own]; done)
    | (refine onW_split (fun hcnd => ?_) (fun hcnd => ?_) <;> simp only [hcnd] <;> (try simp [-List.isEmpty_iff, -List.isEmpty_eq_false_iff] at hcnd) <;> simp [nameOk, outV, frzV, frzS, frzP, pureS, pureL, K_own])
    | (refine does_cond' hp ?_; simp [nameOk, outV, frzV, frzS, frzP, pureS, pureL, K_own]; refine fork (fun hcnd => ?_) (fun hcnd => ?_) <;> (try simp only [hcnd]) <;> (try simp [-List.isEmpty_iff, -List.isEmpty_eq_false_iff] at hcnd))
    | (refine does_cond' hp ?_; simp [nameOk, outV, frzV, frzS, frzP, pureS, pureL, K_own]))
  all_goals first | done | (simp_all [-List.isEmpty_iff, -List.isEmpty_eq_false_iff, ← List.isEmpty_iff]; done) | (simp_all; done) | (simp_all; omega) | (simp; omega) | (intros; omega) | (intros; simp only [decide_eq_true_eq] at *; omega) | (intros; simp at *; omega) | skip
theorem valRight_c (v_kind : Int) (v_b : Option BL) (v_n : Nat) (h : H) : W K 71 [.agg [ii v_kind, bs v_b, .flt v_n]] h = some (.ret (.one (.bool (valOk ⟨v_kind, v_b, v_n⟩))) h) := by
  refine W_pure hp (by simp [pureV, valOk, lenB, outV, frzV, frzS, frzP, pureS, pureL, K_own]) (apart_does rfl rfl (by kernel_rfl) Try.func71 rfl (by simp [Try.f71]) ?_)
  simp only [Try.f71, List.length_cons, List.length_nil, List.replicate, List.cons_append, List.nil_append, Nat.reduceAdd, Nat.reduceSub]
  repeat' (first
    | (rw [doesO_cons]; simp [valOk, lenB, outV, frzV, frzS, frzP, pureS, pureL, K_own])
    | (rw [doesO_nil']; refine hQ' _ _ _ ?_; clear hQ' Q'; first | simp only [] | simp [valOk, lenB, outV, frzV, frzS, frzP, pureS, pureL, K_own])
    | refine does_seq hp ?_
    | (refine does_gen hp ?_; intro Q' hQ')
    | refine does_block hp ?_
    | (refine does_ret hp ?_; simp [valOk, lenB, outV, frzV, frzS, frzP, pureS, pureL, K_own])
    | (refine does_skip hp ?_; simp [valOk, lenB, outV, frzV, frzS, frzP, pureS, pureL, K_own])
    | (refine does_exit hp ?_; simp [valOk, lenB, outV, frzV, frzS, frzP, pureS, pureL, K_own])
    | (refine does_cond' hp ?_; simp [valOk, lenB, outV, frzV, frzS, frzP, pureS, pureL, K_own]; done)
    | (refine onW_split (fun hcnd => ?_) (fun hcnd => ?_) <;> simp only [hcnd] <;> (try simp [-List.isEmpty_iff, -List.isEmpty_eq_false_iff] at hcnd) <;> simp [valOk, lenB, outV, frzV, frzS, frzP, pureS, pureL, K_own])
    | (refine does_cond' hp ?_; simp [valOk, lenB, outV, frzV, frzS, frzP, pureS, pureL, K_own]; refine fork (fun hcnd => ?_) (fun hcnd => ?_) <;> (try simp only [hcnd]) <;> (try simp [-List.isEmpty_iff, -List.isEmpty_eq_false_iff] at hcnd))
    | (refine does_cond' hp ?_; simp [valOk, lenB, outV, frzV, frzS, frzP, pureS, pureL, K_own]))
  all_goals first | done | (simp_all [-List.isEmpty_iff, -List.isEmpty_eq_false_iff, ← List.isEmpty_iff]; done) | (simp_all; done) | (simp_all; omega) | (simp; omega) | (intros; omega) | (intros; simp only [decide_eq_true_eq] at *; omega) | (intros; simp at *; omega) | skip
theorem asks_c (k : Int) (h : H) : W K 65 [.one (ii k)] h = some (.ret (.tup [(false, [.bool (asks k).1]), (false, [.bool (asks k).2.1]), (false, [.bool (asks k).2.2.1]), (false, [.bool (asks k).2.2.2])]) h) := by
  refine W_pure hp (by simp [pureV, asks, outV, frzV, frzS, frzP, pureS, pureL, K_own]) (apart_does rfl rfl (by kernel_rfl) Try.func65 rfl (by simp [Try.f65]) ?_)
  simp only [Try.f65, List.length_cons, List.length_nil, List.replicate, List.cons_append, List.nil_append, Nat.reduceAdd, Nat.reduceSub]
  repeat' (first
    | (rw [doesO_cons]; simp [asks, outV, frzV, frzS, frzP, pureS, pureL, K_own])
    | (rw [doesO_nil']; refine hQ' _ _ _ ?_; clear hQ' Q'; first | simp only [] | simp [asks, outV, frzV, frzS, frzP, pureS, pureL, K_own])
    | refine does_seq hp ?_
    | (refine does_gen hp ?_; intro Q' hQ')
    | refine does_block hp ?_
    | (refine does_ret hp ?_; simp [asks, outV, frzV, frzS, frzP, pureS, pureL, K_own])
    | (refine does_skip hp ?_; simp [asks, outV, frzV, frzS, frzP, pureS, pureL, K_own])
    | (refine does_exit hp ?_; simp [asks, outV, frzV, frzS, frzP, pureS, pureL, K_own])
    | (refine does_cond' hp ?_; simp [asks, outV, frzV, frzS, frzP, pureS, pureL, K_own]; done)
    | (refine onW_split (fun hcnd => ?_) (fun hcnd => ?_) <;> simp only [hcnd] <;> (try simp [-List.isEmpty_iff, -List.isEmpty_eq_false_iff] at hcnd) <;> simp [asks, outV, frzV, frzS, frzP, pureS, pureL, K_own])
    | (refine does_cond' hp ?_; simp [asks, outV, frzV, frzS, frzP, pureS, pureL, K_own]; refine fork (fun hcnd => ?_) (fun hcnd => ?_) <;> (try simp only [hcnd]) <;> (try simp [-List.isEmpty_iff, -List.isEmpty_eq_false_iff] at hcnd))
    | (refine does_cond' hp ?_; simp [asks, outV, frzV, frzS, frzP, pureS, pureL, K_own]))
  all_goals first | done | (simp_all [-List.isEmpty_iff, -List.isEmpty_eq_false_iff, ← List.isEmpty_iff]; done) | (simp_all; done) | (simp_all; omega) | (simp; omega) | (intros; omega) | (intros; simp only [decide_eq_true_eq] at *; omega) | (intros; simp at *; omega) | skip
theorem spanRight_c (lo hi : BL) (h : H) : W K 37 [.agg [.str lo, .str hi]] h = some (.ret (.one (.bool (spanOk ⟨lo, hi⟩))) h) := by
  refine W_pure hp (by simp [pureV, spanOk, blt, strOp, outV, frzV, frzS, frzP, pureS, pureL, K_own]) (apart_does rfl rfl (by kernel_rfl) Try.func37 rfl (by simp [Try.f37]) ?_)
  simp only [Try.f37, List.length_cons, List.length_nil, List.replicate, List.cons_append, List.nil_append, Nat.reduceAdd, Nat.reduceSub]
  repeat' (first
    | (rw [doesO_cons]; simp [spanOk, blt, strOp, outV, frzV, frzS, frzP, pureS, pureL, K_own])
    | (rw [doesO_nil']; refine hQ' _ _ _ ?_; clear hQ' Q'; first | simp only [] | simp [spanOk, blt, strOp, outV, frzV, frzS, frzP, pureS, pureL, K_own])
    | refine does_seq hp ?_
    | (refine does_gen hp ?_; intro Q' hQ')
    | refine does_block hp ?_
    | (refine does_ret hp ?_; simp [spanOk, blt, strOp, outV, frzV, frzS, frzP, pureS, pureL, K_own])
    | (refine does_skip hp ?_; simp [spanOk, blt, strOp, outV, frzV, frzS, frzP, pureS, pureL, K_own])
    | (refine does_exit hp ?_; simp [spanOk, blt, strOp, outV, frzV, frzS, frzP, pureS, pureL, K_own])
    | (refine does_cond' hp ?_; simp [spanOk, blt, strOp, outV, frzV, frzS, frzP, pureS, pureL, K_own]; done)
    | (refine onW_split (fun hcnd => ?_) (fun hcnd => ?_) <;> simp only [hcnd] <;> (try simp [-List.isEmpty_iff, -List.isEmpty_eq_false_iff] at hcnd) <;> simp [spanOk, blt, strOp, outV, frzV, frzS, frzP, pureS, pureL, K_own])
    | (refine does_cond' hp ?_; simp [spanOk, blt, strOp, outV, frzV, frzS, frzP, pureS, pureL, K_own]; refine fork (fun hcnd => ?_) (fun hcnd => ?_) <;> (try simp only [hcnd]) <;> (try simp [-List.isEmpty_iff, -List.isEmpty_eq_false_iff] at hcnd))
    | (refine does_cond' hp ?_; simp [spanOk, blt, strOp, outV, frzV, frzS, frzP, pureS, pureL, K_own]))
  all_goals first | done | (simp_all [-List.isEmpty_iff, -List.isEmpty_eq_false_iff, ← List.isEmpty_iff]; done) | (simp_all; done) | (simp_all; omega) | (simp; omega) | (intros; omega) | (intros; simp only [decide_eq_true_eq] at *; omega) | (intros; simp at *; omega) | skip
theorem spanHas_c (lo hi n : BL) (h : H) : W K 51 [.agg [.str lo, .str hi], .one (.str n)] h = some (.ret (.one (.bool (hasName ⟨lo, hi⟩ n))) h) := by
  refine W_pure hp (by simp [pureV, hasName, blt, strOp, outV, frzV, frzS, frzP, pureS, pureL, K_own]) (apart_does rfl rfl (by kernel_rfl) Try.func51 rfl (by simp [Try.f51]) ?_)
  simp only [Try.f51, List.length_cons, List.length_nil, List.replicate, List.cons_append, List.nil_append, Nat.reduceAdd, Nat.reduceSub]
  repeat' (first
    | (rw [doesO_cons]; simp [hasName, blt, strOp, outV, frzV, frzS, frzP, pureS, pureL, K_own])
    | (rw [doesO_nil']; refine hQ' _ _ _ ?_; clear hQ' Q'; first | simp only [] | simp [hasName, blt, strOp, outV, frzV, frzS, frzP, pureS, pureL, K_own])
    | refine does_seq hp ?_
    | (refine does_gen hp ?_; intro Q' hQ')
    | refine does_block hp ?_
    | (refine does_ret hp ?_; simp [hasName, blt, strOp, outV, frzV, frzS, frzP, pureS, pureL, K_own])
    | (refine does_skip hp ?_; simp [hasName, blt, strOp, outV, frzV, frzS, frzP, pureS, pureL, K_own])
    | (refine does_exit hp ?_; simp [hasName, blt, strOp, outV, frzV, frzS, frzP, pureS, pureL, K_own])
    | (refine does_cond' hp ?_; simp [hasName, blt, strOp, outV, frzV, frzS, frzP, pureS, pureL, K_own]; done)
    | (refine onW_split (fun hcnd => ?_) (fun hcnd => ?_) <;> simp only [hcnd] <;> (try simp [-List.isEmpty_iff, -List.isEmpty_eq_false_iff] at hcnd) <;> simp [hasName, blt, strOp, outV, frzV, frzS, frzP, pureS, pureL, K_own])
    | (refine does_cond' hp ?_; simp [hasName, blt, strOp, outV, frzV, frzS, frzP, pureS, pureL, K_own]; refine fork (fun hcnd => ?_) (fun hcnd => ?_) <;> (try simp only [hcnd]) <;> (try simp [-List.isEmpty_iff, -List.isEmpty_eq_false_iff] at hcnd))
    | (refine does_cond' hp ?_; simp [hasName, blt, strOp, outV, frzV, frzS, frzP, pureS, pureL, K_own]))
  all_goals first | done | (simp_all [-List.isEmpty_iff, -List.isEmpty_eq_false_iff, ← List.isEmpty_iff]; done) | (simp_all; done) | (simp_all; omega) | (simp; omega) | (intros; omega) | (intros; simp only [decide_eq_true_eq] at *; omega) | (intros; simp at *; omega) | skip
theorem spanSplit_c (lo hi n : BL) (h : H) : W K 39 [.agg [.str lo, .str hi], .one (.str n)] h =
    some (.ret (.tup [(true, [.str (bif splitOk ⟨lo, hi⟩ n then lo else []), .str (bif splitOk ⟨lo, hi⟩ n then n else [])]), (true, [.str (bif splitOk ⟨lo, hi⟩ n then n else []), .str (bif splitOk ⟨lo, hi⟩ n then hi else [])]), (false, [.bool (splitOk ⟨lo, hi⟩ n)])]) h) := by
  refine W_pure hp (by simp [pureV, splitOk, blt, strOp, spanRight_c, outV, frzV, frzS, frzP, pureS, pureL, K_own]) (apart_does rfl rfl (by kernel_rfl) Try.func39 rfl (by simp [Try.f39]) ?_)
  simp only [Try.f39, List.length_cons, List.length_nil, List.replicate, List.cons_append, List.nil_append, Nat.reduceAdd, Nat.reduceSub]
  repeat' (first
    | (rw [doesO_cons]; simp [splitOk, blt, strOp, spanRight_c, outV, frzV, frzS, frzP, pureS, pureL, K_own])
    | (rw [doesO_nil']; refine hQ' _ _ _ ?_; clear hQ' Q'; first | simp only [] | simp [splitOk, blt, strOp, spanRight_c, outV, frzV, frzS, frzP, pureS, pureL, K_own])
    | (rw [doesD_cons]; simp [splitOk, blt, strOp, spanRight_c, outV, frzV, frzS, frzP, pureS, pureL, K_own])
    | (rw [doesD_nil]; refine hQ' _ _ _ ?_; clear hQ' Q'; first | simp only [] | simp [splitOk, blt, strOp, spanRight_c, outV, frzV, frzS, frzP, pureS, pureL, K_own])
    | refine does_seq hp ?_
    | (refine does_gen hp ?_; intro Q' hQ')
    | (refine doesD_gen (id := 1) hp [0, 1, 2, 3, 4, 5, 6, 7, 8, 9, 10, 11] [(6, 10)] (by kernel_rfl) ?_; intro Q' hQ')
    | (refine doesD_gen (id := 4) hp [0, 1, 2, 3, 4] [(1, 2)] (by kernel_rfl) ?_; intro Q' hQ')
    | refine does_block hp ?_
    | (refine does_ret hp ?_; simp [splitOk, blt, strOp, spanRight_c, outV, frzV, frzS, frzP, pureS, pureL, K_own])
    | (refine does_skip hp ?_; simp [splitOk, blt, strOp, spanRight_c, outV, frzV, frzS, frzP, pureS, pureL, K_own])
    | (refine does_exit hp ?_; simp [splitOk, blt, strOp, spanRight_c, outV, frzV, frzS, frzP, pureS, pureL, K_own])
    | (refine does_cond' hp ?_; simp [splitOk, blt, strOp, spanRight_c, outV, frzV, frzS, frzP, pureS, pureL, K_own]; done)
    | (refine onW_split (fun hcnd => ?_) (fun hcnd => ?_) <;> simp only [hcnd] <;> (try simp [-List.isEmpty_iff, -List.isEmpty_eq_false_iff] at hcnd) <;> simp [splitOk, blt, strOp, spanRight_c, outV, frzV, frzS, frzP, pureS, pureL, K_own])
    | (refine does_cond' hp ?_; simp [splitOk, blt, strOp, spanRight_c, outV, frzV, frzS, frzP, pureS, pureL, K_own]; refine fork (fun hcnd => ?_) (fun hcnd => ?_) <;> (try simp only [hcnd]) <;> (try simp [-List.isEmpty_iff, -List.isEmpty_eq_false_iff] at hcnd))
    | (refine does_cond' hp ?_; simp [splitOk, blt, strOp, spanRight_c, outV, frzV, frzS, frzP, pureS, pureL, K_own]))
  all_goals first | done | (simp_all [-List.isEmpty_iff, -List.isEmpty_eq_false_iff, ← List.isEmpty_iff]; done) | (simp_all; done) | (simp_all; omega) | (simp; omega) | (intros; omega) | (intros; simp only [decide_eq_true_eq] at *; omega) | (intros; simp at *; omega) | skip
theorem cond_c (c_has : Bool) (c_want : Bool) (c_col : BL) (c_v_kind : Int) (c_v_b : Option BL) (c_v_n : Nat) (h : H) : W K 63 [.agg [.bool c_has, .bool c_want, .str c_col, ii c_v_kind, bs c_v_b, .flt c_v_n]] h = some (.ret (.one (.bool (condOk ⟨c_has, c_want, c_col, ⟨c_v_kind, c_v_b, c_v_n⟩⟩))) h) := by
  refine W_pure hp (by simp [pureV, condOk, name_c, valRight_c, outV, frzV, frzS, frzP, pureS, pureL, K_own]) (apart_does rfl rfl (by kernel_rfl) Try.func63 rfl (by simp [Try.f63]) ?_)
  simp only [Try.f63, List.length_cons, List.length_nil, List.replicate, List.cons_append, List.nil_append, Nat.reduceAdd, Nat.reduceSub]
  repeat' (first
    | (rw [doesO_cons]; simp [condOk, name_c, valRight_c, outV, frzV, frzS, frzP, pureS, pureL, K_own])
    | (rw [doesO_nil']; refine hQ' _ _ _ ?_; clear hQ' Q'; first | simp only [] | simp [condOk, name_c, valRight_c, outV, frzV, frzS, frzP, pureS, pureL, K_own])
    | refine does_seq hp ?_
    | (refine does_gen hp ?_; intro Q' hQ')
    | refine does_block hp ?_
    | (refine does_ret hp ?_; simp [condOk, name_c, valRight_c, outV, frzV, frzS, frzP, pureS, pureL, K_own])
    | (refine does_skip hp ?_; simp [condOk, name_c, valRight_c, outV, frzV, frzS, frzP, pureS, pureL, K_own])
    | (refine does_exit hp ?_; simp [condOk, name_c, valRight_c, outV, frzV, frzS, frzP, pureS, pureL, K_own])
    | (refine does_cond' hp ?_; simp [condOk, name_c, valRight_c, outV, frzV, frzS, frzP, pureS, pureL, K_own]; done)
    | (refine onW_split (fun hcnd => ?_) (fun hcnd => ?_) <;> simp only [hcnd] <;> (try simp [-List.isEmpty_iff, -List.isEmpty_eq_false_iff] at hcnd) <;> simp [condOk, name_c, valRight_c, outV, frzV, frzS, frzP, pureS, pureL, K_own])
    | (refine does_cond' hp ?_; simp [condOk, name_c, valRight_c, outV, frzV, frzS, frzP, pureS, pureL, K_own]; refine fork (fun hcnd => ?_) (fun hcnd => ?_) <;> (try simp only [hcnd]) <;> (try simp [-List.isEmpty_iff, -List.isEmpty_eq_false_iff] at hcnd))
    | (refine does_cond' hp ?_; simp [condOk, name_c, valRight_c, outV, frzV, frzS, frzP, pureS, pureL, K_own]))
  all_goals first | done | (simp_all [-List.isEmpty_iff, -List.isEmpty_eq_false_iff, ← List.isEmpty_iff]; done) | (simp_all; done) | (simp_all; omega) | (simp; omega) | (intros; omega) | (intros; simp only [decide_eq_true_eq] at *; omega) | (intros; simp at *; omega) | skip
theorem changeRight_c (c_kind : Int) (c_col : BL) (c_time : Int) (c_v_kind : Int) (c_v_b : Option BL) (c_v_n : Nat) (h : H) : W K 62 [.agg [ii c_kind, .str c_col, ii c_time, ii c_v_kind, bs c_v_b, .flt c_v_n]] h = some (.ret (.one (ii (changeWhy ⟨c_kind, c_col, c_time, ⟨c_v_kind, c_v_b, c_v_n⟩⟩))) h) := by
  refine W_pure hp (by simp [pureV, changeWhy, name_c, valRight_c, asks_c, outV, frzV, frzS, frzP, pureS, pureL, K_own]) (apart_does rfl rfl (by kernel_rfl) Try.func62 rfl (by simp [Try.f62]) ?_)
  simp only [Try.f62, List.length_cons, List.length_nil, List.replicate, List.cons_append, List.nil_append, Nat.reduceAdd, Nat.reduceSub]
  repeat' (first
    | (rw [doesO_cons]; simp [changeWhy, name_c, valRight_c, asks_c, outV, frzV, frzS, frzP, pureS, pureL, K_own])
    | (rw [doesO_nil']; refine hQ' _ _ _ ?_; clear hQ' Q'; first | simp only [] | simp [changeWhy, name_c, valRight_c, asks_c, outV, frzV, frzS, frzP, pureS, pureL, K_own])
    | refine does_seq hp ?_
    | (refine does_gen hp ?_; intro Q' hQ')
    | refine does_block hp ?_
    | (refine does_ret hp ?_; simp [changeWhy, name_c, valRight_c, asks_c, outV, frzV, frzS, frzP, pureS, pureL, K_own])
    | (refine does_skip hp ?_; simp [changeWhy, name_c, valRight_c, asks_c, outV, frzV, frzS, frzP, pureS, pureL, K_own])
    | (refine does_exit hp ?_; simp [changeWhy, name_c, valRight_c, asks_c, outV, frzV, frzS, frzP, pureS, pureL, K_own])
    | (refine does_cond' hp ?_; simp [changeWhy, name_c, valRight_c, asks_c, outV, frzV, frzS, frzP, pureS, pureL, K_own]; done)
    | (refine onW_split (fun hcnd => ?_) (fun hcnd => ?_) <;> simp only [hcnd] <;> (try simp [-List.isEmpty_iff, -List.isEmpty_eq_false_iff] at hcnd) <;> simp [changeWhy, name_c, valRight_c, asks_c, outV, frzV, frzS, frzP, pureS, pureL, K_own])
    | (refine does_cond' hp ?_; simp [changeWhy, name_c, valRight_c, asks_c, outV, frzV, frzS, frzP, pureS, pureL, K_own]; refine fork (fun hcnd => ?_) (fun hcnd => ?_) <;> (try simp only [hcnd]) <;> (try simp [-List.isEmpty_iff, -List.isEmpty_eq_false_iff] at hcnd))
    | (refine does_cond' hp ?_; simp [changeWhy, name_c, valRight_c, asks_c, outV, frzV, frzS, frzP, pureS, pureL, K_own]))
  all_goals first | done | (simp_all [-List.isEmpty_iff, -List.isEmpty_eq_false_iff, ← List.isEmpty_iff]; done) | (simp_all; done) | (simp_all; omega) | (simp; omega) | (intros; omega) | (intros; simp only [decide_eq_true_eq] at *; omega) | (intros; simp at *; omega) | skip
end Go.Proofs.Ytmhbdpgflomihaa
