/- A part of a proof over the abstract machine. No conditions. -/
import Derived.Test.YtmhbdpgflomihaaGreatP2
namespace Go.Proofs.YtmhbdpgflomihaaGreat
open Go Go.Ab Wm NumPlain
set_option linter.unusedSimpArgs false
set_option linter.unnecessarySimpa false
set_option linter.unusedVariables false
set_option maxRecDepth 10000
set_option maxHeartbeats 4000000
theorem refRightOp_c (o_kind : Int) (o_row : BL) (o_hi : BL) (o_cond_has : Bool) (o_cond_want : Bool) (o_cond_col : BL) (o_cond_v_kind : Int) (o_cond_v_b : Option BL) (o_cond_v_n : Nat) (o_l : Option (List Change)) (o_most : Int) (hk : opOk ⟨o_kind, o_row, o_hi, ⟨o_cond_has, o_cond_want, o_cond_col, ⟨o_cond_v_kind, o_cond_v_b, o_cond_v_n⟩⟩, o_l, o_most⟩ = true) (h : H) : W K 52 [.agg [ii o_kind, .str o_row, .str o_hi, .bool o_cond_has, .bool o_cond_want, .str o_cond_col, ii o_cond_v_kind, bs o_cond_v_b, .flt o_cond_v_n, sl 6 encChange o_l, ii o_most]] h = some (.ret (.one (.bool true)) h) := by
  simp only [opOk] at hk
  by_cases h1 : o_kind = 1
  · subst h1
    have hn : nameOk o_row = true := by simpa using hk
    have hown : memL S.own 52 = false := by kernel_rfl
    refine W_pure hp (by simp [pureV, refName_c, hn, outV, frzV, frzS, frzS_pure, frzP, pureS, pureL, K_own, hown]) (apart_does rfl rfl (by kernel_rfl) Tryz.func52 rfl (by simp [Tryz.f52]) ?_)
    simp only [Tryz.f52]
    refine hide ?_; intro Q1 hQ1
    repeat' (first
      | (replace hQ1 := hQ1; simp [refName_c, hn, outV, frzV, frzS, frzS_pure, frzP, pureS, pureL, K_own, hown])
      | refine hQ1 _ _ _ ?_
      | (first | apply cF | apply wN | apply wS) <;> intro hcnd <;> (try simp only [hcnd]) <;> (try simp [-List.isEmpty_iff, -List.isEmpty_eq_false_iff] at hcnd))
  by_cases h2 : o_kind = 2
  · subst h2
    simp only [Int.reduceEq, if_true, if_false, Bool.and_eq_true, decide_eq_true_eq] at hk
    obtain ⟨k1, k2, k3, k4, k5⟩ := hk
    have k5' := List.all_eq_true.1 k5
    have d3 : (1 : Int) ≤ (ls o_l).length := by omega
    have d4 : ((ls o_l).length : Int) ≤ 8 := by omega
    have d3' : decide (((ls o_l).length : Int) < 1) = false := by simp; omega
    have d4' : decide ((8 : Int) < (ls o_l).length) = false := by simp; omega
    have d3n : ¬ (ls o_l).length < 1 := by omega
    have d4n : ¬ 8 < (ls o_l).length := by omega
    have hown : memL S.own 52 = false := by kernel_rfl
    refine W_pure hp (by simp [pureV, refName_c, refCond_c, k1, k2, d3, d4, d3', d4', d3n, d4n, outV, frzV, frzS, frzS_pure, frzP, pureS, pureL, K_own, hown]) (apart_does rfl rfl (by kernel_rfl) Tryz.func52 rfl (by simp [Tryz.f52]) ?_)
    simp only [Tryz.f52]
    refine hide ?_; intro Q2 hQ2
    repeat' (first
      | (replace hQ2 := hQ2; simp [refName_c, refCond_c, k1, k2, d3, d4, d3', d4', d3n, d4n, outV, frzV, frzS, frzS_pure, frzP, pureS, pureL, K_own, hown])
      | refine hQ2 _ _ _ ?_
      | (first | apply cF | apply wN | apply wS) <;> intro hcnd <;> (try simp only [hcnd]) <;> (try simp [-List.isEmpty_iff, -List.isEmpty_eq_false_iff] at hcnd))
    refine does_each hp (ls o_l) (fun a r fr hh => ∃ j : Nat → AV, fr = (j 0 :: (.one (.ptr 0 0 0)) :: j 2 :: (.one (ii a.length)) :: j 4 :: j 5 :: j 6 :: j 7 :: j 8 :: j 9 :: j 10 :: j 11 :: j 12 :: j 13 :: j 14 :: j 15 :: j 16 :: j 17 :: j 18 :: j 19 :: j 20 :: j 21 :: j 22 :: j 23 :: j 24 :: j 25 :: j 26 :: j 27 :: j 28 :: j 29 :: j 30 :: j 31 :: j 32 :: j 33 :: j 34 :: j 35 :: j 36 :: j 37 :: j 38 :: j 39 :: j 40 :: j 41 :: j 42 :: j 43 :: j 44 :: j 45 :: j 46 :: j 47 :: j 48 :: j 49 :: j 50 :: j 51 :: j 52 :: j 53 :: j 54 :: j 55 :: j 56 :: j 57 :: j 58 :: j 59 :: j 60 :: j 61 :: j 62 :: j 63 :: j 64 :: j 65 :: j 66 :: []) ∧ hh.f 0 = some ⟨0, [11], true, [ii 2, .str o_row, .str o_hi, .bool o_cond_has, .bool o_cond_want, .str o_cond_col, ii o_cond_v_kind, bs o_cond_v_b, .flt o_cond_v_n, sl 6 encChange o_l, ii o_most]⟩) ?_ ?_ _ _ (by exact ex_get (by simp) (by simp))
    · rintro a x r fr hh hl ⟨j, rfl, h0⟩
      obtain rfl := ls_cons hl
      have hix := index_sl (P := Tryz.prog) (enc := encChange) (s := 6) (l := a ++ x :: r) (i := a.length) Tryz.underlying35 (by simp) (by omega) (by simp)
      have hrd := sub_flat (enc := encChange) (s := 6) len_change a x r (o := 0) (n := 6) (by omega)
      simp only [Nat.add_zero, sub_all (len_change x)] at hrd
      have hw : IntKind.i64.wrap ((a.length : Int) + 1) = (a.length : Int) + 1 := step_wrap (by simp at k4; omega)
      have hx0 : changeWhy x = 0 := by simpa using k5' x (by simp)
      have hx : ∀ h, W K 96 [.agg (encChange x)] h = some (.ret (.one (ii 0)) h) := fun h => by
        obtain ⟨c_kind, c_col, c_time, c_v_kind, c_v_b, c_v_n⟩ := x
        exact refChange_c _ _ _ _ _ _ hx0 h
      have hlt9 : (a.length : Int) < (a.length : Int) + ((r.length : Int) + 1) := by omega
      first | (refine hide ?_; intro Q3 hQ3) | have hQ3 := True.intro
      repeat' (first
        | (replace hQ3 := hQ3; simp [h0, hix, hrd, hx, hw, hlt9, outV, frzV, frzS, frzS_pure, frzP, pureS, pureL, K_own, hown])
        | (refine hQ3 _ _ _ ?_; clear hQ3 Q3; first | simp only [] | simp [h0, hix, hrd, hx, hw, hlt9, outV, frzV, frzS, frzS_pure, frzP, pureS, pureL, K_own, hown] | skip)
        | (refine hadQ (by assumption) ?_; (try clear hQ3); first | simp only [] | simp [h0, hix, hrd, hx, hw, hlt9, outV, frzV, frzS, frzS_pure, frzP, pureS, pureL, K_own, hown] | skip)
        | ((fail_if_success replace hQ3 := hQ3); (first | refine hide ?_ | refine hideS ?_ | refine hideB ?_); intro Q3 hQ3)
        | (first | apply cF | apply wN | apply wS) <;> intro hcnd <;> (try simp only [hcnd]) <;> (try simp [-List.isEmpty_iff, -List.isEmpty_eq_false_iff] at hcnd))
      all_goals exact ex_get (by simp) h0
    · rintro fr hh ⟨j, rfl, h0⟩
      first | (refine hide ?_; intro Q4 hQ4) | have hQ4 := True.intro
      repeat' (first
        | (replace hQ4 := hQ4; simp [h0, outV, frzV, frzS, frzS_pure, frzP, pureS, pureL, K_own, hown])
        | (refine hQ4 _ _ _ ?_; clear hQ4 Q4; first | simp only [] | simp [h0, outV, frzV, frzS, frzS_pure, frzP, pureS, pureL, K_own, hown] | skip)
        | (refine hadQ (by assumption) ?_; (try clear hQ4); first | simp only [] | simp [h0, outV, frzV, frzS, frzS_pure, frzP, pureS, pureL, K_own, hown] | skip)
        | ((fail_if_success replace hQ4 := hQ4); (first | refine hide ?_ | refine hideS ?_ | refine hideB ?_); intro Q4 hQ4)
        | (first | apply cF | apply wN | apply wS) <;> intro hcnd <;> (try simp only [hcnd]) <;> (try simp [-List.isEmpty_iff, -List.isEmpty_eq_false_iff] at hcnd))
      all_goals trace_state
  by_cases h3 : o_kind = 3
  · subst h3
    simp only [Int.reduceEq, if_true, if_false, Bool.and_eq_true, decide_eq_true_eq] at hk
    obtain ⟨k1, k2, k3⟩ := hk
    have hown : memL S.own 52 = false := by kernel_rfl
    refine W_pure hp (by simp [pureV, refSpan_c, k1, k2, k3, outV, frzV, frzS, frzS_pure, frzP, pureS, pureL, K_own, hown]) (apart_does rfl rfl (by kernel_rfl) Tryz.func52 rfl (by simp [Tryz.f52]) ?_)
    simp only [Tryz.f52]
    refine hide ?_; intro Q5 hQ5
    repeat' (first
      | (replace hQ5 := hQ5; simp [refSpan_c, k1, k2, k3, outV, frzV, frzS, frzS_pure, frzP, pureS, pureL, K_own, hown])
      | (refine hQ5 _ _ _ ?_; clear hQ5 Q5; first | simp only [] | simp [refSpan_c, k1, k2, k3, outV, frzV, frzS, frzS_pure, frzP, pureS, pureL, K_own, hown])
      | (first | apply cF | apply wN | apply wS) <;> intro hcnd <;> (try simp only [hcnd]) <;> (try simp [-List.isEmpty_iff, -List.isEmpty_eq_false_iff] at hcnd))
    all_goals first | done | (simp_all [-List.isEmpty_iff, -List.isEmpty_eq_false_iff, ← List.isEmpty_iff]; done) | (simp_all; done) | (simp_all; omega) | (simp; omega) | (intros; omega) | (intros; simp only [decide_eq_true_eq] at *; omega) | (intros; simp at *; omega) | skip
  · rw [if_neg h1, if_neg h2, if_neg h3] at hk; cases hk
theorem submit_m (o_kind : Int) (o_row : BL) (o_hi : BL) (o_cond_has : Bool) (o_cond_want : Bool) (o_cond_col : BL) (o_cond_v_kind : Int) (o_cond_v_b : Option BL) (o_cond_v_n : Nat) (o_l : Option (List Change)) (o_most : Int) (ho : OpIs ⟨o_kind, o_row, o_hi, ⟨o_cond_has, o_cond_want, o_cond_col, ⟨o_cond_v_kind, o_cond_v_b, o_cond_v_n⟩⟩, o_l, o_most⟩) {h : H} {p : Nat} {m : Md} (ma : MdAt h p m) (hs : 0 ≤ m.seq ∧ m.seq < 1000) :
    ∃ r, W K 21 [.one (.ptr p 0 0), .agg [ii o_kind, .str o_row, .str o_hi, .bool o_cond_has, .bool o_cond_want, .str o_cond_col, ii o_cond_v_kind, bs o_cond_v_b, .flt o_cond_v_n, sl 6 encChange o_l, ii o_most]] h = some r ∧ Rets (fun v h' => if m.busy then v = .tup [(false, [ii 0]), (false, [ii 4])] ∧ h' = h.new ⟨0, [11], true, [ii o_kind, .str o_row, .str o_hi, .bool o_cond_has, .bool o_cond_want, .str o_cond_col, ii o_cond_v_kind, bs o_cond_v_b, .flt o_cond_v_n, sl 6 encChange o_l, ii o_most]⟩ else v = .tup [(false, [ii (m.seq + 1)]), (false, [ii 0])] ∧ MdAt h' p { m with seq := m.seq + 1, busy := true, op := ⟨o_kind, o_row, o_hi, ⟨o_cond_has, o_cond_want, o_cond_col, ⟨o_cond_v_kind, o_cond_v_b, o_cond_v_n⟩⟩, o_l, o_most⟩, gap := 0, wait := 0 } ∧ HeldM h h' p) r := by
  refine Rets.intro fun P hP => ?_
  have hr := refRightOp_c o_kind o_row o_hi o_cond_has o_cond_want o_cond_col o_cond_v_kind o_cond_v_b o_cond_v_n o_l o_most ho.ok
  obtain ⟨hpn, s, hf, hsl, hos⟩ := ma
  have hw : IntKind.i64.wrap (m.seq + 1) = m.seq + 1 := wrap_i64 (by omega) (by omega)
  have hne : ¬ p = h.next := by omega
  have hne2 : ¬ h.next = p := by omega
  obtain ⟨id, n, seq, gap, wait, busy, ⟨m_kind, m_row, m_hi, ⟨m_has, m_want, m_col, ⟨m_vk, m_vb, m_vn⟩⟩, m_l, m_most⟩, cached, last, ⟨a1, a2, ⟨a3, a4⟩, a5, a6, a7, a8, a9, a10, a11⟩⟩ := m
  simp only [mdC] at hf
  simp only at hw
  cases busy
  · refine W_doesQ hp rfl rfl rfl Tryz.func21 rfl (by simp [Tryz.f21]) ?_
    simp only [Tryz.f21]
    refine hide ?_; intro Q6 hQ6
    repeat' (first
      | (replace hQ6 := hQ6; simp [hf, hr, hne, hne2, hw])
      | refine hQ6 _ _ _ ?_
      | refine dF (id := 6) [0, 1, 2, 3, 4, 5, 6, 7, 8, 9, 10, 11, 12, 13, 14, 15, 16] [(4, 7)] ?_
      | (first | apply cF | apply wN | apply wS) <;> intro hcnd <;> (try simp only [hcnd]) <;> (try simp [-List.isEmpty_iff, -List.isEmpty_eq_false_iff] at hcnd))
    all_goals (
      refine hP _ _ ?_
      refine ⟨rfl, ?_, ?_⟩
      · refine mdAt_set hpn hsl hos ?_ ?_ ?_ ?_
        · rfl
        · simp
        · intro b hb hbp
          rw [set_at, if_neg hbp, new_at, if_neg (by omega)]
        · simp [mdC]
      · refine ⟨by simp, fun b hb hbp _ => by rw [set_at, if_neg hbp, new_at, if_neg (by omega)], fun b hq => .inl ?_⟩
        simpa [mdQ, hf] using hq)
  · refine W_doesQ hp rfl rfl rfl Tryz.func21 rfl (by simp [Tryz.f21]) ?_
    simp only [Tryz.f21]
    refine hide ?_; intro Q7 hQ7
    repeat' (first
      | (replace hQ7 := hQ7; simp [hf, hr, hne, hne2])
      | refine hQ7 _ _ _ ?_
      | refine dF (id := 6) [0, 1, 2, 3, 4, 5, 6, 7, 8, 9, 10, 11, 12, 13, 14, 15, 16] [(4, 7)] ?_
      | (first | apply cF | apply wN | apply wS) <;> intro hcnd <;> (try simp only [hcnd]) <;> (try simp [-List.isEmpty_iff, -List.isEmpty_eq_false_iff] at hcnd))
    all_goals exact hP _ _ ⟨rfl, rfl⟩
def tickM (m : Md) : Md × Bool :=
  if m.busy then (if 1 ≤ m.wait - 1 then ({ m with wait := m.wait - 1 }, false) else (let g := (if (if 1 < 2 * m.gap then 2 * m.gap else 1) < 4 then if 1 < 2 * m.gap then 2 * m.gap else 1 else 4); ({ m with wait := g, gap := g }, true))) else (m, false)
theorem tick_m {h : H} {p : Nat} {m : Md} (ma : MdAt h p m) (hwt : 0 ≤ m.wait ∧ m.wait ≤ 4) (hgp : 0 ≤ m.gap ∧ m.gap ≤ 4) : ∃ r, W K 22 [.one (.ptr p 0 0)] h = some r ∧ Rets (fun v h' => v = .one (.bool (tickM m).2) ∧ MdAt h' p (tickM m).1 ∧ HeldM h h' p) r := by
  refine Rets.intro fun P hP => ?_
  have ma0 := ma
  obtain ⟨hpn, s, hf, hsl, hos⟩ := ma
  have key : ∀ m' : Md, m'.cached = m.cached → MdAt (h.set p ⟨0, [30], true, mdC m' s⟩) p m' ∧ HeldM h (h.set p ⟨0, [30], true, mdC m' s⟩) p := fun m' hc => ⟨mdAt_set hpn hsl hos hc (by simp) (fun b hb hbp => by rw [set_at, if_neg hbp]) (by simp), heldM_set hf (by simp; rfl) (by simp) (fun b hb hbp => by rw [set_at, if_neg hbp])⟩
  cases hb : m.busy
  · have e1 : tickM m = (m, false) := by simp [tickM, hb]
    rw [e1] at hP
    have hq : P (.one (.bool false)) h := hP _ _ ⟨rfl, ma0, HeldM.refl _ _⟩
    have g5 : sub (mdC m s) 5 1 = some [.bool false] := by simp [mdC, hb]
    have gl : (mdC m s).length = 30 := rfl
    clear hP key hsl ma0
    generalize mdC m s = M at *
    refine W_doesQ hp rfl rfl rfl Tryz.func22 rfl (by simp [Tryz.f22]) ?_
    simp only [Tryz.f22]
    refine hide ?_; intro Q8 hQ8
    repeat' (first
      | (replace hQ8 := hQ8; simp [hf, g5])
      | refine hQ8 _ _ _ ?_
      | (first | apply cF | apply wN | apply wS) <;> intro hcnd <;> (try simp only [hcnd]) <;> (try simp [-List.isEmpty_iff, -List.isEmpty_eq_false_iff] at hcnd))
    all_goals exact hq
  · by_cases hw : 1 ≤ m.wait - 1
    · have e1 : tickM m = ({ m with wait := m.wait - 1 }, false) := by simp [tickM, hb, hw]
      rw [e1] at hP
      have hq : P (.one (.bool false)) (h.set p ⟨0, [30], true, mdC { m with wait := m.wait - 1 } s⟩) := hP _ _ ⟨rfl, (key { m with wait := m.wait - 1 } rfl).1, (key { m with wait := m.wait - 1 } rfl).2⟩
      have w1 : IntKind.i64.wrap (m.wait - 1) = m.wait - 1 := wrap_i64 (by omega) (by omega)
      have d1 : decide (1 ≤ m.wait - 1) = true := by simp; omega
      clear hP key hsl ma0
      obtain ⟨id, n, seq, gap, wait, busy, ⟨m_kind, m_row, m_hi, ⟨m_has, m_want, m_col, ⟨m_vk, m_vb, m_vn⟩⟩, m_l, m_most⟩, cached, last, ⟨a1, a2, ⟨a3, a4⟩, a5, a6, a7, a8, a9, a10, a11⟩⟩ := m
      simp only at hb hw w1 d1
      subst hb
      simp only [mdC] at hf hq
      refine W_doesQ hp rfl rfl rfl Tryz.func22 rfl (by simp [Tryz.f22]) ?_
      simp only [Tryz.f22]
      refine hide ?_; intro Q9 hQ9
      repeat' (first
        | (replace hQ9 := hQ9; simp [hf, w1, hw, d1])
        | refine hQ9 _ _ _ ?_
        | (first | apply cF | apply wN | apply wS) <;> intro hcnd <;> (try simp only [hcnd]) <;> (try simp [-List.isEmpty_iff, -List.isEmpty_eq_false_iff] at hcnd))
      all_goals exact hq
    · obtain ⟨g', hg'⟩ : ∃ g', (if (if 1 < 2 * m.gap then 2 * m.gap else 1) < 4 then if 1 < 2 * m.gap then 2 * m.gap else 1 else 4) = g' := ⟨_, rfl⟩
      have e1 : tickM m = ({ m with wait := g', gap := g' }, true) := by simp only [tickM, hb, if_true, hw, if_false, hg']
      rw [e1] at hP
      have hq : P (.one (.bool true)) (h.set p ⟨0, [30], true, mdC { m with wait := g', gap := g' } s⟩) := hP _ _ ⟨rfl, (key { m with wait := g', gap := g' } rfl).1, (key { m with wait := g', gap := g' } rfl).2⟩
      have w1 : IntKind.i64.wrap (m.wait - 1) = m.wait - 1 := wrap_i64 (by omega) (by omega)
      have w2 : IntKind.i64.wrap (2 * m.gap) = 2 * m.gap := wrap_i64 (by omega) (by omega)
      have d1 : decide (1 ≤ m.wait - 1) = false := by simp; omega
      have hg2 : (if 4 < if 2 * m.gap < 1 then 1 else 2 * m.gap then 4 else if 2 * m.gap < 1 then 1 else 2 * m.gap) = g' := by rw [← hg']; (repeat' split) <;> omega
      clear hP key hsl ma0
      obtain ⟨id, n, seq, gap, wait, busy, ⟨m_kind, m_row, m_hi, ⟨m_has, m_want, m_col, ⟨m_vk, m_vb, m_vn⟩⟩, m_l, m_most⟩, cached, last, ⟨a1, a2, ⟨a3, a4⟩, a5, a6, a7, a8, a9, a10, a11⟩⟩ := m
      simp only at hb hw w1 d1 w2 hg2
      subst hb
      simp only [mdC] at hf hq
      refine W_doesQ hp rfl rfl rfl Tryz.func22 rfl (by simp [Tryz.f22]) ?_
      simp only [Tryz.f22]
      refine hide ?_; intro Q10 hQ10
      repeat' (first
        | (replace hQ10 := hQ10; simp [hf, w1, w2, hw, d1, hg2])
        | refine hQ10 _ _ _ ?_
        | (first | apply cF | apply wN | apply wS) <;> intro hcnd <;> (try simp only [hcnd]) <;> (try simp [-List.isEmpty_iff, -List.isEmpty_eq_false_iff] at hcnd))
      all_goals exact hq
end Go.Proofs.YtmhbdpgflomihaaGreat
