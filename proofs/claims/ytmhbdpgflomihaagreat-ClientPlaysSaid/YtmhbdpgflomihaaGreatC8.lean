/- A part of a proof over the abstract machine. No conditions. -/
import Derived.Test.YtmhbdpgflomihaaGreatC6
import Derived.Test.YtmhbdpgflomihaaGreatC7
namespace Go.Proofs.YtmhbdpgflomihaaGreat
open Go Go.Ab Wm NumPlain
set_option linter.unusedSimpArgs false
set_option linter.unnecessarySimpa false
set_option linter.unusedVariables false
set_option maxRecDepth 10000
set_option maxHeartbeats 4000000
theorem client_c (n : Int) (hn : 0 ≤ n ∧ n ≤ 1000) (h : H) : W K 34 [.one (ii n)] h = some (.ret (.one (ii (100 + n))) h) := by
  have w : IntKind.i64.wrap (100 + n) = 100 + n := wrap_i64 (by omega) (by omega)
  have hown : memL S.own 34 = false := by kernel_rfl
  refine W_pure hp (by simp [pureV, w, outV, frzV, frzS, frzS_pure, frzP, pureS, pureL, K_own, hown]) (apart_does rfl rfl (by kernel_rfl) Tryz.func34 rfl (by simp [Tryz.f34]) ?_)
  simp only [Tryz.f34]
  refine hide ?_; intro Q1 hQ1
  repeat' (first
    | (replace hQ1 := hQ1; simp [w, outV, frzV, frzS, frzS_pure, frzP, pureS, pureL, K_own, hown])
    | refine hQ1 _ _ _ ?_)
theorem clone_c (o : Option BL) (ho : (ls o).length ≤ 1099511627776) (h : H) : W K 93 [.one (bs o)] h = some (.ret (.one (bs o)) h) := (clone_g o ho).pure hp h
theorem copy0_c (k g f t bl s c q : Int) (b : Option BL) (hb : (ls b).length ≤ 1099511627776) (h : H) : W K 67 [.agg [ii k, ii g, ii f, ii t, ii bl, ii s, ii c, ii q, bs b, .nilslc]] h = some (.ret (.agg [ii k, ii g, ii f, ii t, ii bl, ii s, ii c, ii q, bs b, .nilslc]) h) := by
  have hc := clone_c b hb
  have hown : memL S.own 67 = false := by kernel_rfl
  refine W_pure hp (by simp [pureV, hc, outV, frzV, frzS, frzS_pure, frzP, pureS, pureL, K_own, hown]) (apart_does rfl rfl (by kernel_rfl) Tryz.func67 rfl (by simp [Tryz.f67]) ?_)
  simp only [Tryz.f67]
  refine hide ?_; intro Q2 hQ2
  repeat' (first
    | (replace hQ2 := hQ2; simp [hc, outV, frzV, frzS, frzS_pure, frzP, pureS, pureL, K_own, hown])
    | refine hQ2 _ _ _ ?_
    | (first | apply cF | apply wN | apply wS) <;> intro hcnd <;> (try simp only [hcnd]) <;> (try simp [-List.isEmpty_iff, -List.isEmpty_eq_false_iff] at hcnd))
  refine does_count hp 0 (fun i fr hh => ∃ j, fr = (j 0 :: (.one (.ptr 0 0 0)) :: (.one (.ptr 1 0 0)) :: (.one .nilslc) :: j 4 :: j 5 :: j 6 :: j 7 :: j 8 :: j 9 :: j 10 :: j 11 :: (.one (.int .i64 0)) :: (.one (.int .i64 0)) :: j 14 :: j 15 :: j 16 :: j 17 :: j 18 :: j 19 :: j 20 :: j 21 :: j 22 :: j 23 :: j 24 :: j 25 :: j 26 :: j 27 :: j 28 :: []) ∧ hh.f 0 = some ⟨0, [10], true, [ii k, ii g, ii f, ii t, ii bl, ii s, ii c, ii q, bs b, .nilslc]⟩ ∧ ∃ z, hh.f 1 = some ⟨0, [10], true, z⟩ ∧ z.length = 10) ?_ ?_ _ _ (ex_get rfl (by simp))
  · intro i fr hh hi; omega
  · rintro fr hh ⟨j, rfl, h0, z, h1, hz⟩
    first | (refine hide ?_; intro Q3 hQ3) | have hQ3 := True.intro
    repeat' (first
      | (replace hQ3 := hQ3; simp [h0, h1, hz, outV, frzV, frzS, frzS_pure, frzP, pureS, pureL, K_own, hown])
      | (refine hQ3 _ _ _ ?_; clear hQ3 Q3; first | simp only [] | simp [h0, h1, hz, outV, frzV, frzS, frzS_pure, frzP, pureS, pureL, K_own, hown] | skip)
      | (refine hadQ (by assumption) ?_; (try clear hQ3); first | simp only [] | simp [h0, h1, hz, outV, frzV, frzS, frzS_pure, frzP, pureS, pureL, K_own, hown] | skip)
      | ((fail_if_success replace hQ3 := hQ3); (first | refine hide ?_ | refine hideS ?_ | refine hideB ?_); intro Q3 hQ3)
      | (first | apply cF | apply wN | apply wS) <;> intro hcnd <;> (try simp only [hcnd]) <;> (try simp [-List.isEmpty_iff, -List.isEmpty_eq_false_iff] at hcnd))
    all_goals trace_state
theorem conv_bs (o : Option BL) (h : H) : convA Tryz.prog 29 9 (bs o) h = some (.val (.one (.str (ls o))) h) := by
  have he := elems_bs h o
  have hl := lenS_bs o
  have : ∀ s, bs o ≠ .str s := by cases o <;> simp [bs_none, bs_some]
  simp only [convA]
  cases hbs : bs o <;> simp_all [isByteT, bytesOf_map]
theorem same0_c (k g f t bl s c q : Int) (b : Option BL) (t' : Int) (b' : Option BL) (hb : ls b = ls b') (h : H) :
    W K 32 [.agg [ii k, ii g, ii f, ii t, ii bl, ii s, ii c, ii q, bs b, .nilslc], .agg [ii k, ii g, ii f, ii t', ii bl, ii s, ii c, ii q, bs b', .nilslc]] h = some (.ret (.one (.bool (t == t'))) h) := by
  by_cases ht : t = t'
  · subst ht
    have hown : memL S.own 32 = false := by kernel_rfl
    refine W_pure hp (by simp [pureV, conv_bs, strOp, hb, outV, frzV, frzS, frzS_pure, frzP, pureS, pureL, K_own, hown]) (apart_does rfl rfl (by kernel_rfl) Tryz.func32 rfl (by simp [Tryz.f32]) ?_)
    simp only [Tryz.f32]
    refine hide ?_; intro Q4 hQ4
    repeat' (first
      | (replace hQ4 := hQ4; simp [conv_bs, strOp, hb, outV, frzV, frzS, frzS_pure, frzP, pureS, pureL, K_own, hown])
      | refine hQ4 _ _ _ ?_
      | refine dF (id := 6) [0, 1, 2, 3, 4, 5, 6, 7, 8, 9, 10, 11, 12, 13, 14, 15, 16, 17, 18, 19, 20, 21, 22, 23, 24, 25, 26, 27, 28, 29, 30, 31, 32, 33, 34, 35, 36, 37, 38, 39, 40, 41, 42, 43, 44] [] ?_
      | (first | apply cF | apply wN | apply wS) <;> intro hcnd <;> (try simp only [hcnd]) <;> (try simp [-List.isEmpty_iff, -List.isEmpty_eq_false_iff] at hcnd))
    refine does_count hp 0 (fun i fr hh => ∃ j, fr = (j 0 :: j 1 :: (.one (.ptr 0 0 0)) :: (.one (.ptr 1 0 0)) :: j 4 :: (.one (.int .i64 0)) :: j 6 :: j 7 :: j 8 :: j 9 :: j 10 :: j 11 :: j 12 :: j 13 :: j 14 :: j 15 :: j 16 :: j 17 :: j 18 :: j 19 :: j 20 :: j 21 :: j 22 :: j 23 :: j 24 :: j 25 :: j 26 :: j 27 :: j 28 :: j 29 :: j 30 :: j 31 :: j 32 :: j 33 :: j 34 :: j 35 :: j 36 :: j 37 :: j 38 :: j 39 :: j 40 :: j 41 :: j 42 :: j 43 :: j 44 :: j 45 :: j 46 :: j 47 :: j 48 :: j 49 :: j 50 :: j 51 :: j 52 :: j 53 :: j 54 :: j 55 :: j 56 :: j 57 :: j 58 :: j 59 :: j 60 :: j 61 :: j 62 :: j 63 :: j 64 :: j 65 :: j 66 :: j 67 :: j 68 :: j 69 :: j 70 :: j 71 :: j 72 :: j 73 :: j 74 :: j 75 :: j 76 :: j 77 :: j 78 :: j 79 :: j 80 :: j 81 :: j 82 :: j 83 :: j 84 :: j 85 :: j 86 :: j 87 :: j 88 :: j 89 :: j 90 :: j 91 :: j 92 :: j 93 :: j 94 :: j 95 :: j 96 :: j 97 :: j 98 :: j 99 :: j 100 :: j 101 :: j 102 :: j 103 :: j 104 :: j 105 :: j 106 :: j 107 :: j 108 :: j 109 :: j 110 :: j 111 :: j 112 :: j 113 :: j 114 :: j 115 :: j 116 :: j 117 :: j 118 :: j 119 :: j 120 :: j 121 :: j 122 :: j 123 :: j 124 :: j 125 :: j 126 :: j 127 :: j 128 :: j 129 :: []) ∧ hh.f 0 = some ⟨0, [10], true, [ii k, ii g, ii f, ii t, ii bl, ii s, ii c, ii q, bs b, .nilslc]⟩) ?_ ?_ _ _ (ex_get rfl (by simp))
    · intro i fr hh hi; omega
    · rintro fr hh ⟨j, rfl, h0⟩
      first | (refine hide ?_; intro Q5 hQ5) | have hQ5 := True.intro
      repeat' (first
        | (replace hQ5 := hQ5; simp [h0, outV, frzV, frzS, frzS_pure, frzP, pureS, pureL, K_own, hown])
        | (refine hQ5 _ _ _ ?_; clear hQ5 Q5; first | simp only [] | simp [h0, outV, frzV, frzS, frzS_pure, frzP, pureS, pureL, K_own, hown] | skip)
        | (refine hadQ (by assumption) ?_; (try clear hQ5); first | simp only [] | simp [h0, outV, frzV, frzS, frzS_pure, frzP, pureS, pureL, K_own, hown] | skip)
        | ((fail_if_success replace hQ5 := hQ5); (first | refine hide ?_ | refine hideS ?_ | refine hideB ?_); intro Q5 hQ5)
        | refine dF (id := 6) [0, 1, 2, 3, 4, 5, 6, 7, 8, 9, 10, 11, 12, 13, 14, 15, 16, 17, 18, 19, 20, 21, 22, 23, 24, 25, 26, 27, 28, 29, 30, 31, 32, 33, 34, 35, 36, 37, 38, 39, 40, 41, 42, 43, 44] [] ?_
        | (first | apply cF | apply wN | apply wS) <;> intro hcnd <;> (try simp only [hcnd]) <;> (try simp [-List.isEmpty_iff, -List.isEmpty_eq_false_iff] at hcnd))
      all_goals trace_state
  · have hq : (t == t') = false := by simp [ht]
    have hown : memL S.own 32 = false := by kernel_rfl
    refine W_pure hp (by simp [pureV, conv_bs, strOp, hb, hq, ht, outV, frzV, frzS, frzS_pure, frzP, pureS, pureL, K_own, hown]) (apart_does rfl rfl (by kernel_rfl) Tryz.func32 rfl (by simp [Tryz.f32]) ?_)
    simp only [Tryz.f32]
    refine hide ?_; intro Q6 hQ6
    repeat' (first
      | (replace hQ6 := hQ6; simp [conv_bs, strOp, hb, hq, ht, outV, frzV, frzS, frzS_pure, frzP, pureS, pureL, K_own, hown])
      | refine hQ6 _ _ _ ?_
      | refine dF (id := 6) [0, 1, 2, 3, 4, 5, 6, 7, 8, 9, 10, 11, 12, 13, 14, 15, 16, 17, 18, 19, 20, 21, 22, 23, 24, 25, 26, 27, 28, 29, 30, 31, 32, 33, 34, 35, 36, 37, 38, 39, 40, 41, 42, 43, 44] [] ?_
      | (first | apply cF | apply wN | apply wS) <;> intro hcnd <;> (try simp only [hcnd]) <;> (try simp [-List.isEmpty_iff, -List.isEmpty_eq_false_iff] at hcnd))
    exact absurd hcnd ht
end Go.Proofs.YtmhbdpgflomihaaGreat
