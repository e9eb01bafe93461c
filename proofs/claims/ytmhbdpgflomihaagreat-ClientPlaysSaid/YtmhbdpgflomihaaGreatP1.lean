/- A part of a proof over the abstract machine. No conditions. -/
import Derived.Test.YtmhbdpgflomihaaGreatL4
namespace Go.Proofs.YtmhbdpgflomihaaGreat
open Go Go.Ab Wm NumPlain
set_option linter.unusedSimpArgs false
set_option linter.unnecessarySimpa false
set_option linter.unusedVariables false
set_option maxRecDepth 10000
set_option maxHeartbeats 4000000
theorem refSpan_c (lo hi : BL) (h : H) : W K 97 [.agg [.str lo, .str hi]] h = some (.ret (.one (.bool (spanOk ⟨lo, hi⟩))) h) := by
  have hown : memL S.own 97 = false := by kernel_rfl
  refine W_pure hp (by simp [pureV, spanOk, blt, strOp, outV, frzV, frzS, frzS_pure, frzP, pureS, pureL, K_own, hown]) (apart_does rfl rfl (by kernel_rfl) Tryz.func97 rfl (by simp [Tryz.f97]) ?_)
  simp only [Tryz.f97]
  refine hide ?_; intro Q1 hQ1
  repeat' (first
    | (replace hQ1 := hQ1; simp [spanOk, blt, strOp, outV, frzV, frzS, frzS_pure, frzP, pureS, pureL, K_own, hown])
    | (refine hQ1 _ _ _ ?_; clear hQ1 Q1; first | simp only [] | simp [spanOk, blt, strOp, outV, frzV, frzS, frzS_pure, frzP, pureS, pureL, K_own, hown])
    | (first | apply cF | apply wN | apply wS) <;> intro hcnd <;> (try simp only [hcnd]) <;> (try simp [-List.isEmpty_iff, -List.isEmpty_eq_false_iff] at hcnd))
  all_goals first | done | (simp_all [-List.isEmpty_iff, -List.isEmpty_eq_false_iff, ← List.isEmpty_iff]; done) | (simp_all; done) | (simp_all; omega) | (simp; omega) | (intros; omega) | (intros; simp only [decide_eq_true_eq] at *; omega) | (intros; simp at *; omega) | skip
theorem refHas_c (lo hi n : BL) (h : H) : W K 53 [.agg [.str lo, .str hi], .one (.str n)] h = some (.ret (.one (.bool (hasName ⟨lo, hi⟩ n))) h) := by
  have hown : memL S.own 53 = false := by kernel_rfl
  refine W_pure hp (by simp [pureV, hasName, blt, strOp, outV, frzV, frzS, frzS_pure, frzP, pureS, pureL, K_own, hown]) (apart_does rfl rfl (by kernel_rfl) Tryz.func53 rfl (by simp [Tryz.f53]) ?_)
  simp only [Tryz.f53]
  refine hide ?_; intro Q2 hQ2
  repeat' (first
    | (replace hQ2 := hQ2; simp [hasName, blt, strOp, outV, frzV, frzS, frzS_pure, frzP, pureS, pureL, K_own, hown])
    | (refine hQ2 _ _ _ ?_; clear hQ2 Q2; first | simp only [] | simp [hasName, blt, strOp, outV, frzV, frzS, frzS_pure, frzP, pureS, pureL, K_own, hown])
    | (first | apply cF | apply wN | apply wS) <;> intro hcnd <;> (try simp only [hcnd]) <;> (try simp [-List.isEmpty_iff, -List.isEmpty_eq_false_iff] at hcnd))
  all_goals first | done | (simp_all [-List.isEmpty_iff, -List.isEmpty_eq_false_iff, ← List.isEmpty_iff]; done) | (simp_all; done) | (simp_all; omega) | (simp; omega) | (intros; omega) | (intros; simp only [decide_eq_true_eq] at *; omega) | (intros; simp at *; omega) | skip
def meet7 (a b : Span) : Bool := spanOk a && (spanOk b && ((a.hi == [] || blt b.lo a.hi) && (b.hi == [] || blt a.lo b.hi)))
theorem refMeet_c (l1 h1 l2 h2 : BL) (h : H) : W K 98 [.agg [.str l1, .str h1], .agg [.str l2, .str h2]] h = some (.ret (.one (.bool (meet7 ⟨l1, h1⟩ ⟨l2, h2⟩))) h) := by
  have r1 := refSpan_c l1 h1
  have r2 := refSpan_c l2 h2
  have hown : memL S.own 98 = false := by kernel_rfl
  refine W_pure hp (by simp [pureV, r1, r2, meet7, blt, strOp, outV, frzV, frzS, frzS_pure, frzP, pureS, pureL, K_own, hown]) (apart_does rfl rfl (by kernel_rfl) Tryz.func98 rfl (by simp [Tryz.f98]) ?_)
  simp only [Tryz.f98]
  refine hide ?_; intro Q3 hQ3
  repeat' (first
    | (replace hQ3 := hQ3; simp [r1, r2, meet7, blt, strOp, outV, frzV, frzS, frzS_pure, frzP, pureS, pureL, K_own, hown])
    | (refine hQ3 _ _ _ ?_; clear hQ3 Q3; first | simp only [] | simp [r1, r2, meet7, blt, strOp, outV, frzV, frzS, frzS_pure, frzP, pureS, pureL, K_own, hown])
    | (first | apply cF | apply wN | apply wS) <;> intro hcnd <;> (try simp only [hcnd]) <;> (try simp [-List.isEmpty_iff, -List.isEmpty_eq_false_iff] at hcnd))
  all_goals first | done | (simp_all [-List.isEmpty_iff, -List.isEmpty_eq_false_iff, ← List.isEmpty_iff]; done) | (simp_all; done) | (simp_all; omega) | (simp; omega) | (intros; omega) | (intros; simp only [decide_eq_true_eq] at *; omega) | (intros; simp at *; omega) | skip
theorem refName_c (s : BL) (h : H) : W K 94 [.one (.str s)] h = some (.ret (.one (.bool (nameOk s))) h) := by
  have hown : memL S.own 94 = false := by kernel_rfl
  refine W_pure hp (by simp [pureV, nameOk, outV, frzV, frzS, frzS_pure, frzP, pureS, pureL, K_own, hown]) (apart_does rfl rfl (by kernel_rfl) Tryz.func94 rfl (by simp [Tryz.f94]) ?_)
  simp only [Tryz.f94]
  refine hide ?_; intro Q4 hQ4
  repeat' (first
    | (replace hQ4 := hQ4; simp [nameOk, outV, frzV, frzS, frzS_pure, frzP, pureS, pureL, K_own, hown])
    | (refine hQ4 _ _ _ ?_; clear hQ4 Q4; first | simp only [] | simp [nameOk, outV, frzV, frzS, frzS_pure, frzP, pureS, pureL, K_own, hown])
    | (first | apply cF | apply wN | apply wS) <;> intro hcnd <;> (try simp only [hcnd]) <;> (try simp [-List.isEmpty_iff, -List.isEmpty_eq_false_iff] at hcnd))
  all_goals first | done | (simp_all [-List.isEmpty_iff, -List.isEmpty_eq_false_iff, ← List.isEmpty_iff]; done) | (simp_all; done) | (simp_all; omega) | (simp; omega) | (intros; omega) | (intros; simp only [decide_eq_true_eq] at *; omega) | (intros; simp at *; omega) | skip
theorem refVal_c (v_kind : Int) (v_b : Option BL) (v_n : Nat) (h : H) : W K 129 [.agg [ii v_kind, bs v_b, .flt v_n]] h = some (.ret (.one (.bool (valOk ⟨v_kind, v_b, v_n⟩))) h) := by
  have hown : memL S.own 129 = false := by kernel_rfl
  refine W_pure hp (by simp [pureV, valOk, lenB, outV, frzV, frzS, frzS_pure, frzP, pureS, pureL, K_own, hown]) (apart_does rfl rfl (by kernel_rfl) Tryz.func129 rfl (by simp [Tryz.f129]) ?_)
  simp only [Tryz.f129]
  refine hide ?_; intro Q5 hQ5
  repeat' (first
    | (replace hQ5 := hQ5; simp [valOk, lenB, outV, frzV, frzS, frzS_pure, frzP, pureS, pureL, K_own, hown])
    | (refine hQ5 _ _ _ ?_; clear hQ5 Q5; first | simp only [] | simp [valOk, lenB, outV, frzV, frzS, frzS_pure, frzP, pureS, pureL, K_own, hown])
    | (first | apply cF | apply wN | apply wS) <;> intro hcnd <;> (try simp only [hcnd]) <;> (try simp [-List.isEmpty_iff, -List.isEmpty_eq_false_iff] at hcnd))
  all_goals first | done | (simp_all [-List.isEmpty_iff, -List.isEmpty_eq_false_iff, ← List.isEmpty_iff]; done) | (simp_all; done) | (simp_all; omega) | (simp; omega) | (intros; omega) | (intros; simp only [decide_eq_true_eq] at *; omega) | (intros; simp at *; omega) | skip
theorem refCond_c (c_has : Bool) (c_want : Bool) (c_col : BL) (c_v_kind : Int) (c_v_b : Option BL) (c_v_n : Nat) (h : H) : W K 95 [.agg [.bool c_has, .bool c_want, .str c_col, ii c_v_kind, bs c_v_b, .flt c_v_n]] h = some (.ret (.one (.bool (condOk ⟨c_has, c_want, c_col, ⟨c_v_kind, c_v_b, c_v_n⟩⟩))) h) := by
  have hown : memL S.own 95 = false := by kernel_rfl
  refine W_pure hp (by simp [pureV, condOk, refName_c, refVal_c, outV, frzV, frzS, frzS_pure, frzP, pureS, pureL, K_own, hown]) (apart_does rfl rfl (by kernel_rfl) Tryz.func95 rfl (by simp [Tryz.f95]) ?_)
  simp only [Tryz.f95]
  refine hide ?_; intro Q6 hQ6
  repeat' (first
    | (replace hQ6 := hQ6; simp [condOk, refName_c, refVal_c, outV, frzV, frzS, frzS_pure, frzP, pureS, pureL, K_own, hown])
    | (refine hQ6 _ _ _ ?_; clear hQ6 Q6; first | simp only [] | simp [condOk, refName_c, refVal_c, outV, frzV, frzS, frzS_pure, frzP, pureS, pureL, K_own, hown])
    | (first | apply cF | apply wN | apply wS) <;> intro hcnd <;> (try simp only [hcnd]) <;> (try simp [-List.isEmpty_iff, -List.isEmpty_eq_false_iff] at hcnd))
  all_goals first | done | (simp_all [-List.isEmpty_iff, -List.isEmpty_eq_false_iff, ← List.isEmpty_iff]; done) | (simp_all; done) | (simp_all; omega) | (simp; omega) | (intros; omega) | (intros; simp only [decide_eq_true_eq] at *; omega) | (intros; simp at *; omega) | skip
theorem refChange_c (c_kind : Int) (c_col : BL) (c_time : Int) (c_v_kind : Int) (c_v_b : Option BL) (c_v_n : Nat) (hc : changeWhy ⟨c_kind, c_col, c_time, ⟨c_v_kind, c_v_b, c_v_n⟩⟩ = 0) (h : H) : W K 96 [.agg [ii c_kind, .str c_col, ii c_time, ii c_v_kind, bs c_v_b, .flt c_v_n]] h = some (.ret (.one (ii 0)) h) := by
  have hk5 : c_kind = 1 ∨ c_kind = 2 ∨ c_kind = 3 ∨ c_kind = 4 ∨ c_kind = 5 := by
    by_cases h1 : c_kind = 1 ∨ c_kind = 5
    · omega
    by_cases h2 : c_kind = 2
    · omega
    by_cases h3 : c_kind = 3
    · omega
    by_cases h4 : c_kind = 4
    · omega
    simp [changeWhy, asks, h1, h2, h3, h4] at hc
  unfold changeWhy at hc
  simp only at hc
  have hown : memL S.own 96 = false := by kernel_rfl
  refine W_pure hp (by simp [pureV, refName_c, refVal_c, outV, frzV, frzS, frzS_pure, frzP, pureS, pureL, K_own, hown]) (apart_does rfl rfl (by kernel_rfl) Tryz.func96 rfl (by simp [Tryz.f96]) ?_)
  simp only [Tryz.f96]
  refine hide ?_; intro Q7 hQ7
  repeat' (first
    | (replace hQ7 := hQ7; simp [refName_c, refVal_c, outV, frzV, frzS, frzS_pure, frzP, pureS, pureL, K_own, hown])
    | refine hQ7 _ _ _ ?_
    | (first | apply cF | apply wN | apply wS) <;> intro hcnd <;> (try simp only [hcnd]) <;> (try simp [-List.isEmpty_iff, -List.isEmpty_eq_false_iff] at hcnd))
  all_goals first | omega | (rcases hk5 with rfl | rfl | rfl | rfl | rfl <;> simp_all [asks]) | (rcases hk5 with rfl | rfl | rfl | rfl | rfl <;> simp_all [asks] <;> omega)
theorem ne_span (a b c d : BL) : bin Tryz.prog K.cmp .neq 55 (.agg [.str a, .str b]) (.agg [.str c, .str d]) = some (.bool (!(decide (a = c) && decide (b = d)))) := by
  have hc : K.cmp 55 = some [.str [], .str []] := by kernel_rfl
  simp [bin, hc, kindsA, eqL, eqS]
  rw [Bool.eq_iff_iff]; simp
theorem sameAns_c (code : Int) (lo hi : BL) (group gen old to do_ : Int) (at_ : BL) (st st' : Option BL) (hs : ls st = ls st') (h : H) :
    W K 25 [.agg [ii code, .nilslc, .str lo, .str hi, ii group, ii gen, ii old, ii to, ii do_, .str at_, bs st], .agg [ii code, .nilslc, .str lo, .str hi, ii group, ii gen, ii old, ii to, ii do_, .str at_, bs st']] h = some (.ret (.one (.bool true)) h) := by
  have hc := ne_span lo hi lo hi
  have hown : memL S.own 25 = false := by kernel_rfl
  refine W_pure hp (by simp [pureV, conv_bs, strOp, hs, hc, outV, frzV, frzS, frzS_pure, frzP, pureS, pureL, K_own, hown]) (apart_does rfl rfl (by kernel_rfl) Tryz.func25 rfl (by simp [Tryz.f25]) ?_)
  simp only [Tryz.f25]
  refine hide ?_; intro Q8 hQ8
  repeat' (first
    | (replace hQ8 := hQ8; simp [conv_bs, strOp, hs, hc, outV, frzV, frzS, frzS_pure, frzP, pureS, pureL, K_own, hown])
    | refine hQ8 _ _ _ ?_
    | refine dF (id := 6) [0, 1, 2, 3, 4, 5, 6, 7, 8, 9, 10, 11, 12, 13, 14, 15, 16, 17, 18, 19, 20, 21, 22, 23, 24, 25, 26, 27, 28] [] ?_
    | (first | apply cF | apply wN | apply wS) <;> intro hcnd <;> (try simp only [hcnd]) <;> (try simp [-List.isEmpty_iff, -List.isEmpty_eq_false_iff] at hcnd))
  refine does_count hp 0 (fun i fr hh => (∃ j : Nat → AV, fr = (j 0 :: j 1 :: (.one (.ptr 0 0 0)) :: (.one (.ptr 1 0 0)) :: j 4 :: (.one (ii 0)) :: j 6 :: j 7 :: j 8 :: j 9 :: j 10 :: j 11 :: j 12 :: j 13 :: j 14 :: j 15 :: j 16 :: j 17 :: j 18 :: j 19 :: j 20 :: j 21 :: j 22 :: j 23 :: j 24 :: j 25 :: j 26 :: j 27 :: j 28 :: j 29 :: j 30 :: j 31 :: j 32 :: j 33 :: j 34 :: j 35 :: j 36 :: j 37 :: j 38 :: j 39 :: j 40 :: j 41 :: j 42 :: j 43 :: j 44 :: j 45 :: j 46 :: j 47 :: j 48 :: j 49 :: j 50 :: j 51 :: j 52 :: j 53 :: j 54 :: j 55 :: j 56 :: j 57 :: j 58 :: j 59 :: j 60 :: j 61 :: j 62 :: j 63 :: j 64 :: j 65 :: j 66 :: j 67 :: j 68 :: j 69 :: j 70 :: j 71 :: j 72 :: j 73 :: j 74 :: j 75 :: j 76 :: j 77 :: j 78 :: j 79 :: j 80 :: j 81 :: j 82 :: j 83 :: j 84 :: j 85 :: j 86 :: j 87 :: j 88 :: j 89 :: j 90 :: j 91 :: j 92 :: j 93 :: j 94 :: j 95 :: j 96 :: j 97 :: j 98 :: j 99 :: j 100 :: j 101 :: j 102 :: j 103 :: j 104 :: j 105 :: j 106 :: j 107 :: j 108 :: j 109 :: j 110 :: j 111 :: j 112 :: j 113 :: []) ∧ True) ∧ hh.f 0 = some ⟨0, [11], true, [ii code, .nilslc, .str lo, .str hi, ii group, ii gen, ii old, ii to, ii do_, .str at_, bs st]⟩) ?_ ?_ _ _ (by exact ⟨ex_get (by simp) trivial, by simp⟩)
  · intro i fr hh hi; omega
  · rintro fr hh ⟨⟨j, rfl, _⟩, h0⟩
    first | (refine hide ?_; intro Q9 hQ9) | have hQ9 := True.intro
    repeat' (first
      | (replace hQ9 := hQ9; simp [h0, outV, frzV, frzS, frzS_pure, frzP, pureS, pureL, K_own, hown])
      | (refine hQ9 _ _ _ ?_; clear hQ9 Q9; first | simp only [] | simp [h0, outV, frzV, frzS, frzS_pure, frzP, pureS, pureL, K_own, hown] | skip)
      | (refine hadQ (by assumption) ?_; (try clear hQ9); first | simp only [] | simp [h0, outV, frzV, frzS, frzS_pure, frzP, pureS, pureL, K_own, hown] | skip)
      | ((fail_if_success replace hQ9 := hQ9); (first | refine hide ?_ | refine hideS ?_ | refine hideB ?_); intro Q9 hQ9)
      | refine dF (id := 6) [0, 1, 2, 3, 4, 5, 6, 7, 8, 9, 10, 11, 12, 13, 14, 15, 16, 17, 18, 19, 20, 21, 22, 23, 24, 25, 26, 27, 28] [] ?_
      | (first | apply cF | apply wN | apply wS) <;> intro hcnd <;> (try simp only [hcnd]) <;> (try simp [-List.isEmpty_iff, -List.isEmpty_eq_false_iff] at hcnd))
    all_goals trace_state
theorem eq_tab (x y : Tablet) : bin Tryz.prog K.cmp .eql 99 (.agg (encTablet x)) (.agg (encTablet y)) = some (.bool (decide (x = y))) := by
  have hc : K.cmp 99 = some [.str [], .str [], ii 0, ii 0] := by kernel_rfl
  obtain ⟨⟨a, b⟩, c, d⟩ := x
  obtain ⟨⟨a', b'⟩, c', d'⟩ := y
  simp [bin, hc, encTablet, kindsA, eqL, eqS]
  rw [Bool.eq_iff_iff]; simp [and_assoc]
theorem same_g (l m : Option (List Tablet)) (hlen : (ls l).length = (ls m).length) (hsub : ∀ t ∈ ls l, t ∈ ls m) (hs : (ls l).Pairwise (fun a b => blt a.span.lo b.span.lo = true)) (hb : (ls l).length < 1000) : Fun K 26 [.one (sl 4 encTablet l), .one (sl 4 encTablet m)] (fun h => .ret (.one (.bool true)) h) := by
  have hown : memL S.own 26 = false := by kernel_rfl
  refine ⟨by simp [pureV, hlen, outV, frzV, frzS, frzS_pure, frzP, pureS, pureL, K_own, hown], fun hh => apart_does rfl rfl (by kernel_rfl) Tryz.func26 rfl (by simp [Tryz.f26]) ?_⟩
  simp only [Tryz.f26]
  refine hide ?_; intro Q10 hQ10
  repeat' (first
    | (replace hQ10 := hQ10; simp [hlen, outV, frzV, frzS, frzS_pure, frzP, pureS, pureL, K_own, hown])
    | refine hQ10 _ _ _ ?_
    | (first | refine dF (id := 10) [0, 1, 2, 3, 4, 5, 6, 7, 8, 9, 10, 11, 12] [] ?_ | refine dF (id := 11) [0, 1, 2, 3, 4, 5, 6, 7, 8, 9, 10, 11, 12, 13, 14, 15, 16, 17, 18, 19, 20, 21] [] ?_)
    | (first | apply cF | apply wN | apply wS) <;> intro hcnd <;> (try simp only [hcnd]) <;> (try simp [-List.isEmpty_iff, -List.isEmpty_eq_false_iff] at hcnd))
  refine does_count hp (ls l).length (fun i fr hh => ∃ j, fr = ((.one (sl 4 encTablet l)) :: (.one (sl 4 encTablet m)) :: j 2 :: j 3 :: (.one (.bool false)) :: (.one (ii i)) :: j 6 :: j 7 :: j 8 :: j 9 :: j 10 :: j 11 :: j 12 :: j 13 :: j 14 :: j 15 :: j 16 :: j 17 :: j 18 :: j 19 :: j 20 :: j 21 :: j 22 :: j 23 :: j 24 :: j 25 :: j 26 :: j 27 :: j 28 :: j 29 :: j 30 :: j 31 :: j 32 :: j 33 :: j 34 :: j 35 :: j 36 :: j 37 :: j 38 :: j 39 :: j 40 :: j 41 :: j 42 :: j 43 :: j 44 :: j 45 :: j 46 :: j 47 :: j 48 :: j 49 :: j 50 :: j 51 :: j 52 :: j 53 :: j 54 :: j 55 :: j 56 :: j 57 :: j 58 :: []) ∧ True) ?_ ?_ _ _ (ex_get (by simp) trivial)
  · rintro i fr hh hi ⟨j, rfl, _⟩
    obtain ⟨a, x, r, hl, ha⟩ : ∃ a x r, ls l = a ++ x :: r ∧ a.length = i := ⟨(ls l).take i, (ls l)[i], (ls l).drop (i + 1), split_at hi, by simp; omega⟩
    obtain rfl := ls_cons hl
    subst ha
    have hix := index_sl (P := Tryz.prog) (enc := encTablet) (s := 4) (l := a ++ x :: r) (i := a.length) Tryz.underlying66 (by simp) (by omega) (by simp)
    have hrd := sub_flat (enc := encTablet) (s := 4) len_tablet a x r (o := 0) (n := 4) (by omega)
    simp only [Nat.add_zero, sub_all (len_tablet x)] at hrd
    have hlt : decide ((a.length : Int) < (ls (some (a ++ x :: r))).length) = true := by simp; omega
    have hxm : x ∈ ls m := hsub x (by simp)
    have hw : IntKind.i64.wrap ((a.length : Int) + 1) = (a.length : Int) + 1 := step_wrap (by simp at hb; omega)
    have hml : (ls m).length < 1000 := by omega
    have hlt9 : (a.length : Int) < (a.length : Int) + ((r.length : Int) + 1) := by omega
    first | (refine hide ?_; intro Q11 hQ11) | have hQ11 := True.intro
    repeat' (first
      | (replace hQ11 := hQ11; simp [hlt, hlt9, outV, frzV, frzS, frzS_pure, frzP, pureS, pureL, K_own, hown])
      | (refine hQ11 _ _ _ ?_; clear hQ11 Q11; first | simp only [] | simp [hlt, hlt9, outV, frzV, frzS, frzS_pure, frzP, pureS, pureL, K_own, hown] | skip)
      | (refine hadQ (by assumption) ?_; (try clear hQ11); first | simp only [] | simp [hlt, hlt9, outV, frzV, frzS, frzS_pure, frzP, pureS, pureL, K_own, hown] | skip)
      | ((fail_if_success replace hQ11 := hQ11); (first | refine hide ?_ | refine hideS ?_ | refine hideB ?_); intro Q11 hQ11)
      | (first | refine dF (id := 10) [0, 1, 2, 3, 4, 5, 6, 7, 8, 9, 10, 11, 12] [] ?_ | refine dF (id := 11) [0, 1, 2, 3, 4, 5, 6, 7, 8, 9, 10, 11, 12, 13, 14, 15, 16, 17, 18, 19, 20, 21] [] ?_)
      | (first | apply cF | apply wN | apply wS) <;> intro hcnd <;> (try simp only [hcnd]) <;> (try simp [-List.isEmpty_iff, -List.isEmpty_eq_false_iff] at hcnd))
    refine does_each hp (ls m) (fun b r2 fr hh => ∃ j, fr = ((.one (sl 4 encTablet (some (a ++ x :: r)))) :: (.one (sl 4 encTablet m)) :: j 2 :: j 3 :: (.one (.bool false)) :: (.one (ii a.length)) :: (.one (.bool (b.any fun t => decide (t = x)))) :: (.one (ii b.length)) :: j 8 :: j 9 :: j 10 :: j 11 :: j 12 :: j 13 :: j 14 :: j 15 :: j 16 :: j 17 :: j 18 :: j 19 :: j 20 :: j 21 :: j 22 :: j 23 :: j 24 :: j 25 :: j 26 :: j 27 :: j 28 :: j 29 :: j 30 :: j 31 :: j 32 :: j 33 :: j 34 :: j 35 :: j 36 :: j 37 :: j 38 :: j 39 :: j 40 :: j 41 :: j 42 :: j 43 :: j 44 :: j 45 :: j 46 :: j 47 :: j 48 :: j 49 :: j 50 :: j 51 :: j 52 :: j 53 :: j 54 :: j 55 :: j 56 :: j 57 :: j 58 :: []) ∧ True) ?_ ?_ _ _ (ex_get (by simp) trivial)
    · rintro b y r2 fr hh hm ⟨j, rfl, _⟩
      obtain rfl := ls_cons hm
      have hix2 := index_sl (P := Tryz.prog) (enc := encTablet) (s := 4) (l := b ++ y :: r2) (i := b.length) Tryz.underlying66 (by simp) (by omega) (by simp)
      have hrd2 := sub_flat (enc := encTablet) (s := 4) len_tablet b y r2 (o := 0) (n := 4) (by omega)
      simp only [Nat.add_zero, sub_all (len_tablet y)] at hrd2
      have hw2 : IntKind.i64.wrap ((b.length : Int) + 1) = (b.length : Int) + 1 := step_wrap (by simp at hml; omega)
      have hq := eq_tab y x
      have hlt2 : (b.length : Int) < (b.length : Int) + ((r2.length : Int) + 1) := by omega
      have hany : ((b ++ [y]).any fun t => decide (t = x)) = (bif (b.any fun t => decide (t = x)) then true else decide (y = x)) := by simp
      generalize (b.any fun t => decide (t = x)) = B at *
      generalize decide (y = x) = D at *
      cases B
      · first | (refine hide ?_; intro Q12 hQ12) | have hQ12 := True.intro
        repeat' (first
          | (replace hQ12 := hQ12; simp [hix, hrd, hix2, hrd2, hw2, hq, hlt2, outV, frzV, frzS, frzS_pure, frzP, pureS, pureL, K_own, hown])
          | (refine hQ12 _ _ _ ?_; clear hQ12 Q12; first | simp only [] | simp [hix, hrd, hix2, hrd2, hw2, hq, hlt2, outV, frzV, frzS, frzS_pure, frzP, pureS, pureL, K_own, hown] | skip)
          | (refine hadQ (by assumption) ?_; (try clear hQ12); first | simp only [] | simp [hix, hrd, hix2, hrd2, hw2, hq, hlt2, outV, frzV, frzS, frzS_pure, frzP, pureS, pureL, K_own, hown] | skip)
          | ((fail_if_success replace hQ12 := hQ12); (first | refine hide ?_ | refine hideS ?_ | refine hideB ?_); intro Q12 hQ12)
          | (first | refine dF (id := 10) [0, 1, 2, 3, 4, 5, 6, 7, 8, 9, 10, 11, 12] [] ?_ | refine dF (id := 11) [0, 1, 2, 3, 4, 5, 6, 7, 8, 9, 10, 11, 12, 13, 14, 15, 16, 17, 18, 19, 20, 21] [] ?_)
          | (first | apply cF | apply wN | apply wS) <;> intro hcnd <;> (try simp only [hcnd]) <;> (try simp [-List.isEmpty_iff, -List.isEmpty_eq_false_iff] at hcnd))
        all_goals (rw [hany]; exact ex_get (by simp) trivial)
      · first | (refine hide ?_; intro Q13 hQ13) | have hQ13 := True.intro
        repeat' (first
          | (replace hQ13 := hQ13; simp [hix, hrd, hix2, hrd2, hw2, hq, hlt2, outV, frzV, frzS, frzS_pure, frzP, pureS, pureL, K_own, hown])
          | (refine hQ13 _ _ _ ?_; clear hQ13 Q13; first | simp only [] | simp [hix, hrd, hix2, hrd2, hw2, hq, hlt2, outV, frzV, frzS, frzS_pure, frzP, pureS, pureL, K_own, hown] | skip)
          | (refine hadQ (by assumption) ?_; (try clear hQ13); first | simp only [] | simp [hix, hrd, hix2, hrd2, hw2, hq, hlt2, outV, frzV, frzS, frzS_pure, frzP, pureS, pureL, K_own, hown] | skip)
          | ((fail_if_success replace hQ13 := hQ13); (first | refine hide ?_ | refine hideS ?_ | refine hideB ?_); intro Q13 hQ13)
          | (first | refine dF (id := 10) [0, 1, 2, 3, 4, 5, 6, 7, 8, 9, 10, 11, 12] [] ?_ | refine dF (id := 11) [0, 1, 2, 3, 4, 5, 6, 7, 8, 9, 10, 11, 12, 13, 14, 15, 16, 17, 18, 19, 20, 21] [] ?_)
          | (first | apply cF | apply wN | apply wS) <;> intro hcnd <;> (try simp only [hcnd]) <;> (try simp [-List.isEmpty_iff, -List.isEmpty_eq_false_iff] at hcnd))
        all_goals (rw [hany]; exact ex_get (by simp) trivial)
    · rintro fr hh ⟨j, rfl, _⟩
      have hany : ((ls m).any fun t => decide (t = x)) = true := List.any_eq_true.2 ⟨x, hxm, by simp⟩
      rw [hany]
      rcases List.eq_nil_or_concat a with rfl | ⟨a', w, rfl⟩
      · have w1 : IntKind.i64.wrap 1 = 1 := rfl
        first | (refine hide ?_; intro Q14 hQ14) | have hQ14 := True.intro
        repeat' (first
          | (replace hQ14 := hQ14; simp [hw, w1, outV, frzV, frzS, frzS_pure, frzP, pureS, pureL, K_own, hown])
          | (refine hQ14 _ _ _ ?_; clear hQ14 Q14; first | simp only [] | simp [hw, w1, outV, frzV, frzS, frzS_pure, frzP, pureS, pureL, K_own, hown] | skip)
          | (refine hadQ (by assumption) ?_; (try clear hQ14); first | simp only [] | simp [hw, w1, outV, frzV, frzS, frzS_pure, frzP, pureS, pureL, K_own, hown] | skip)
          | ((fail_if_success replace hQ14 := hQ14); (first | refine hide ?_ | refine hideS ?_ | refine hideB ?_); intro Q14 hQ14)
          | (first | refine dF (id := 10) [0, 1, 2, 3, 4, 5, 6, 7, 8, 9, 10, 11, 12] [] ?_ | refine dF (id := 11) [0, 1, 2, 3, 4, 5, 6, 7, 8, 9, 10, 11, 12, 13, 14, 15, 16, 17, 18, 19, 20, 21] [] ?_)
          | (first | apply cF | apply wN | apply wS) <;> intro hcnd <;> (try simp only [hcnd]) <;> (try simp [-List.isEmpty_iff, -List.isEmpty_eq_false_iff] at hcnd))
        all_goals exact ex_get (by simp) trivial
      · simp only [List.concat_eq_append] at *
        have hlo : blt w.span.lo x.span.lo = true := by
          have := (List.pairwise_append.1 hs).2.2 w (by simp) x (by simp)
          exact this
        have hlo2 : Op.bytesLess w.span.lo x.span.lo = true := hlo
        have hix3 := index_sl (P := Tryz.prog) (enc := encTablet) (s := 4) (l := a' ++ w :: x :: r) (i := a'.length) Tryz.underlying66 (by simp) (by omega) (by simp)
        have hrd3 := sub_flat (enc := encTablet) (s := 4) len_tablet a' w (x :: r) (o := 0) (n := 1) (by omega)
        have hrd4 := sub_flat (enc := encTablet) (s := 4) len_tablet (a' ++ [w]) x r (o := 0) (n := 1) (by omega)
        have e1 : sub (encTablet w) 0 1 = some [.str w.span.lo] := rfl
        have e2 : sub (encTablet x) 0 1 = some [.str x.span.lo] := rfl
        have e3 : a' ++ [w] ++ x :: r = a' ++ w :: x :: r := by simp
        have e4 : (a' ++ [w]).length = a'.length + 1 := by simp
        rw [e3, e4] at hrd4
        rw [e1] at hrd3
        rw [e2] at hrd4
        simp only [Nat.add_zero] at hrd3 hrd4
        have hix4 := index_sl (P := Tryz.prog) (enc := encTablet) (s := 4) (l := a' ++ w :: x :: r) (i := a'.length + 1) Tryz.underlying66 (by simp) (by omega) (by simp)
        rw [e4] at hw
        have hw1 : IntKind.i64.wrap (a'.length : Int) = (a'.length : Int) := wrap_i64 (by omega) (by simp at hb; omega)
        have hge : (0 : Int) ≤ (a'.length : Int) + 1 := by omega
        have hw5 : IntKind.i64.wrap ((a'.length : Int) + 1 + 1) = (a'.length : Int) + 1 + 1 := wrap_i64 (by omega) (by simp at hb; omega)
        first | (refine hide ?_; intro Q15 hQ15) | have hQ15 := True.intro
        repeat' (first
          | (replace hQ15 := hQ15; simp [hw5, hw1, hge, hix4, hix3, hrd3, hrd4, hlo2, strOp, outV, frzV, frzS, frzS_pure, frzP, pureS, pureL, K_own, hown])
          | (refine hQ15 _ _ _ ?_; clear hQ15 Q15; first | simp only [] | simp [hw5, hw1, hge, hix4, hix3, hrd3, hrd4, hlo2, strOp, outV, frzV, frzS, frzS_pure, frzP, pureS, pureL, K_own, hown] | skip)
          | (refine hadQ (by assumption) ?_; (try clear hQ15); first | simp only [] | simp [hw5, hw1, hge, hix4, hix3, hrd3, hrd4, hlo2, strOp, outV, frzV, frzS, frzS_pure, frzP, pureS, pureL, K_own, hown] | skip)
          | ((fail_if_success replace hQ15 := hQ15); (first | refine hide ?_ | refine hideS ?_ | refine hideB ?_); intro Q15 hQ15)
          | (first | refine dF (id := 10) [0, 1, 2, 3, 4, 5, 6, 7, 8, 9, 10, 11, 12] [] ?_ | refine dF (id := 11) [0, 1, 2, 3, 4, 5, 6, 7, 8, 9, 10, 11, 12, 13, 14, 15, 16, 17, 18, 19, 20, 21] [] ?_)
          | (first | apply cF | apply wN | apply wS) <;> intro hcnd <;> (try simp only [hcnd]) <;> (try simp [-List.isEmpty_iff, -List.isEmpty_eq_false_iff] at hcnd))
        all_goals exact ex_get (by simp) trivial
  · rintro fr hh ⟨j, rfl, _⟩
    first | (refine hide ?_; intro Q16 hQ16) | have hQ16 := True.intro
    repeat' (first
      | (replace hQ16 := hQ16; simp [outV, frzV, frzS, frzS_pure, frzP, pureS, pureL, K_own, hown])
      | (refine hQ16 _ _ _ ?_; clear hQ16 Q16; first | simp only [] | simp [outV, frzV, frzS, frzS_pure, frzP, pureS, pureL, K_own, hown] | skip)
      | (refine hadQ (by assumption) ?_; (try clear hQ16); first | simp only [] | simp [outV, frzV, frzS, frzS_pure, frzP, pureS, pureL, K_own, hown] | skip)
      | ((fail_if_success replace hQ16 := hQ16); (first | refine hide ?_ | refine hideS ?_ | refine hideB ?_); intro Q16 hQ16)
      | (first | refine dF (id := 10) [0, 1, 2, 3, 4, 5, 6, 7, 8, 9, 10, 11, 12] [] ?_ | refine dF (id := 11) [0, 1, 2, 3, 4, 5, 6, 7, 8, 9, 10, 11, 12, 13, 14, 15, 16, 17, 18, 19, 20, 21] [] ?_)
      | (first | apply cF | apply wN | apply wS) <;> intro hcnd <;> (try simp only [hcnd]) <;> (try simp [-List.isEmpty_iff, -List.isEmpty_eq_false_iff] at hcnd))
    all_goals trace_state
end Go.Proofs.YtmhbdpgflomihaaGreat
