/- A part of a proof over the abstract machine. No conditions. -/
import Derived.Test.YtmhbdpgflomihaaGreatP12
import Derived.Test.YtmhbdpgflomihaaGreatP13
import Derived.Test.YtmhbdpgflomihaaGreatP15
namespace Go.Proofs.YtmhbdpgflomihaaGreat
open Go Go.Ab Wm NumPlain
set_option linter.unusedSimpArgs false
set_option linter.unnecessarySimpa false
set_option linter.unusedVariables false
set_option maxRecDepth 10000
set_option maxHeartbeats 8000000
abbrev zDr : List AS := [ii 0, ii 0, ii 0, ii 0, ii 0, ii 0, ii 0, ii 0, ii 0, ii 0, .bool false, .bool false, .bool false, ii 0, .flt 0, .nilslc, .nilslc]
theorem sw_apply {b : Code} {fr : Fr} {h : H} {Q : Ex → Fr → H → Prop} {F : (Nat → AV) → Fr} (hfr : ∃ j, fr = F j) (hl : ∀ j, Does K b (F j) h Q) : Does K b fr h Q := by
  obtain ⟨j, rfl⟩ := hfr; exact hl j
theorem play_c (kid n : Int) (hid : 0 ≤ kid ∧ kid < 4) (hn : n = 1 ∨ n = 3 ∨ n = 5) (l : Option (List KDr)) (hl : ∀ d ∈ ls l, DrOk d) (hll : (ls l).length < 9223372036854775808) (h : H) :
    ∃ r, W K 8 [.one (ii kid), .one (ii n), .one (sl 17 encDr l)] h = some r ∧ Rets (fun v _ => v = .one (.bool true)) r := by
  refine Rets.intro fun P hP => ?_
  have hnew := new_cl kid n hid hn h
  obtain ⟨CB, hCB⟩ : ∃ CB : Blk, (⟨0, [21], true, clC ⟨kid, n, 0, false, [], none, 0, 0, [], 0, ⟨0, none, ⟨[], []⟩, 0, 0, 0, 0, 0, [], none⟩⟩ .nilslc⟩ : Blk) = CB := ⟨_, rfl⟩
  rw [hCB] at hnew
  refine W_doesQ hp rfl rfl rfl Tryz.func8 rfl (by simp [Tryz.f8]) ?_
  simp only [Tryz.f8]
  refine hide ?_; intro Q1 hQ1
  repeat' (first
    | (replace hQ1 := hQ1; simp [hnew, nil1])
    | refine hQ1 _ _ _ ?_
    | (first | refine dF (id := 37) [0, 1, 2, 3, 4, 5, 6, 7, 8, 9] [] ?_ | refine dF (id := 46) [0, 1, 2, 3, 4, 5, 6, 7, 8, 9, 10] [] ?_ | refine dF (id := 49) [0, 1, 2, 3, 4, 5, 6, 7, 8, 9, 10, 11, 12, 13, 14, 15, 16, 17, 18, 19, 20, 21, 22] [] ?_ | refine dF (id := 52) [0, 1, 2, 3, 4, 5, 6, 7, 8, 9, 10, 11, 12, 13, 14, 15, 16, 17, 18, 19, 20, 21, 22, 23, 24, 25, 26, 27, 28, 29, 30, 31, 32, 33, 34, 35, 36, 37, 38, 39, 40, 41, 42] [(1, 5), (35, 39)] ?_)
    | (first | apply cF | apply wN | apply wS) <;> intro hcnd <;> (try simp only [hcnd]) <;> (try simp [-List.isEmpty_iff, -List.isEmpty_eq_false_iff] at hcnd))
  obtain ⟨p, hp1⟩ : ∃ p, h.next = p := ⟨_, rfl⟩
  obtain ⟨q, hq1⟩ : ∃ q, h.next + 1 = q := ⟨_, rfl⟩
  have bt0 : Bt ((h.new CB).new ⟨0, [30], true, mdC ⟨kid, n, 0, 0, 0, false, ⟨0, [], [], noCond, none, 0⟩, [], 0, zAns⟩ .nilslc⟩) p q ⟨kid, n, 0, false, [], none, 0, 0, [], 0, zAns⟩ ⟨kid, n, 0, 0, 0, false, ⟨0, [], [], noCond, none, 0⟩, [], 0, zAns⟩ := by
    have e1 : ((h.new CB).new ⟨0, [30], true, mdC ⟨kid, n, 0, 0, 0, false, ⟨0, [], [], noCond, none, 0⟩, [], 0, zAns⟩ .nilslc⟩).f p = some ⟨0, [21], true, clC ⟨kid, n, 0, false, [], none, 0, 0, [], 0, zAns⟩ .nilslc⟩ := by
      rw [new_at, if_neg (by simp; omega), new_at, if_pos hp1.symm, hCB]
    have e2 : ((h.new CB).new ⟨0, [30], true, mdC ⟨kid, n, 0, 0, 0, false, ⟨0, [], [], noCond, none, 0⟩, [], 0, zAns⟩ .nilslc⟩).f q = some ⟨0, [30], true, mdC ⟨kid, n, 0, 0, 0, false, ⟨0, [], [], noCond, none, 0⟩, [], 0, zAns⟩ .nilslc⟩ := by
      rw [new_at, if_pos (by simp; omega)]
    refine ⟨⟨by simp; omega, .nilslc, e1, .inl ⟨rfl, rfl⟩, by simp [ownB]⟩, ⟨by simp; omega, .nilslc, e2, .inl ⟨rfl, rfl⟩, by simp [ownB]⟩, by omega, ?_, ?_, ?_⟩
    · rw [clQ_at e1]; simp [ownB]
    · rw [mdQ_at e2]; simp [ownB]
    · intro b hb; rw [clQ_at e1] at hb; simp [ownB] at hb
  have rl0 : Rl ⟨kid, n, 0, false, [], none, 0, 0, [], 0, zAns⟩ ⟨kid, n, 0, 0, 0, false, ⟨0, [], [], noCond, none, 0⟩, [], 0, zAns⟩ :=
    ⟨rfl, rfl, rfl, rfl, rfl, rfl, rfl, rfl, .refl _, .nil, ⟨by simp, .nil⟩, (fun h => by cases h), by simp, by simp [rows9], by simp, by simp, (fun h => by cases h), by simp, hid, hn, by simp, ⟨by simp [ansOk0, inTo, spanOk, lenB], rfl⟩, .inl ⟨rfl, rfl⟩⟩
  have em : (⟨0, [30], true, mdC ⟨kid, n, 0, 0, 0, false, ⟨0, [], [], noCond, none, 0⟩, [], 0, zAns⟩ .nilslc⟩ : Blk) = ⟨0, [30], true, [ii kid, ii n, ii 0, ii 0, ii 0, .bool false, ii 0, .str [], .str [], .bool false, .bool false, .str [], ii 0, .nilslc, .flt 0, .nilslc, ii 0, .nilslc, ii 0, ii 0, .nilslc, .str [], .str [], ii 0, ii 0, ii 0, ii 0, ii 0, .str [], .nilslc]⟩ := rfl
  rw [em] at bt0
  obtain ⟨I, hI⟩ : ∃ I : Nat → Fr → H → Prop, I = fun (i : Nat) fr hh => ∃ c m, Bt hh p q c m ∧ Rl c m ∧ m.seq ≤ i ∧ m.id = kid ∧ m.n = n ∧ ∃ j : Nat → AV, fr = frP kid n (sl 17 encDr l) p q i j := ⟨_, rfl⟩
  refine does_count hp (min (ls l).length 60) I ?_ ?_ _ _ (by rw [hI]; exact ⟨_, _, bt0, rl0, by simp, rfl, rfl, ex_get' (by subst hp1 hq1; rfl)⟩)
  · intro i fr hh hi hx
    rw [hI] at hx
    obtain ⟨c, m, bt, rl, hsq, hmi, hmn, j, rfl⟩ := hx
    have hi1 : i < (ls l).length := by omega
    have hi2 : i < 60 := by omega
    have hwi : IntKind.i64.wrap ((i : Int) + 1) = (i : Int) + 1 := step_wrap (by omega)
    have hlt : decide ((i : Int) < (ls l).length) = true := by simp; omega
    have hlt2 : decide ((i : Int) < 60) = true := by simp; omega
    have hlt3 : (i : Int) < (ls l).length := by omega
    have hlt4 : (i : Int) < 60 := by omega
    obtain ⟨a0, x, r0, hspl, hal⟩ : ∃ a x r, ls l = a ++ x :: r ∧ a.length = i := ⟨(ls l).take i, (ls l)[i], (ls l).drop (i + 1), split_at hi1, by simp; omega⟩
    have hx0 : DrOk x := hl x (by rw [hspl]; simp)
    obtain rfl := ls_cons hspl
    have hix := index_sl (P := Tryz.prog) (enc := encDr) (s := 17) (l := a0 ++ x :: r0) (i := a0.length) Tryz.underlying38 (by simp) (by omega) (by simp)
    have hrd := sub_flat (enc := encDr) (s := 17) len_dr a0 x r0 (o := 0) (n := 17) (by omega)
    simp only [Nat.add_zero, sub_all (len_dr x), hal] at hix hrd
    have hlt5 : (i : Int) < (a0.length : Int) + ((r0.length : Int) + 1) := by omega
    obtain ⟨x_kind, x_a, x_b, x_group, x_code, ⟨o_kind, o_row, o_hi, o_most, o_col, o_has, o_want, ⟨o_v_text, o_v_n, o_v_x, o_v_b⟩, o_l⟩⟩ := x
    have hs1 := new_set hh ⟨0, [17], true, zDr⟩ ⟨0, [17], true, [ii x_kind, ii x_a, ii x_b, ii x_group, ii x_code, ii o_kind, ii o_row, ii o_hi, ii o_most, ii o_col, .bool o_has, .bool o_want, .bool o_v_text, ii o_v_n, .flt o_v_x, bs o_v_b, sl 7 encKC o_l]⟩
    simp only [encDr] at hrd
    have hml := rl.len.2
    obtain ⟨r1, d1, hr1⟩ := ask_m (bt.md.new ⟨0, [17], true, [ii x_kind, ii x_a, ii x_b, ii x_group, ii x_code, ii o_kind, ii o_row, ii o_hi, ii o_most, ii o_col, .bool o_has, .bool o_want, .bool o_v_text, ii o_v_n, .flt o_v_x, bs o_v_b, sl 7 encKC o_l]⟩) (by omega)
    obtain ⟨v1, h1, rfl, rfl, n1, k1⟩ := hr1.ret
    have hs2 := new_set h1 ⟨0, [19], true, zC⟩ ⟨0, [19], true, mW m⟩
    have hcl := mW_len m
    have bt2 : Bt (h1.new ⟨0, [19], true, mW m⟩) p q c m := ((bt.new ⟨0, [17], true, [ii x_kind, ii x_a, ii x_b, ii x_group, ii x_code, ii o_kind, ii o_row, ii o_hi, ii o_most, ii o_col, .bool o_has, .bool o_want, .bool o_v_text, ii o_v_n, .flt o_v_x, bs o_v_b, sl 7 encKC o_l]⟩).keep n1 k1).new _
    simp only [new_next] at n1 k1
    have f2x : (h1.new ⟨0, [19], true, mW m⟩).f hh.next = some ⟨0, [17], true, [ii x_kind, ii x_a, ii x_b, ii x_group, ii x_code, ii o_kind, ii o_row, ii o_hi, ii o_most, ii o_col, .bool o_has, .bool o_want, .bool o_v_text, ii o_v_n, .flt o_v_x, bs o_v_b, sl 7 encKC o_l]⟩ := by rw [new_at, if_neg (by omega), k1 hh.next (by omega)]; simp
    have f1x : h1.f hh.next = some ⟨0, [17], true, [ii x_kind, ii x_a, ii x_b, ii x_group, ii x_code, ii o_kind, ii o_row, ii o_hi, ii o_most, ii o_col, .bool o_has, .bool o_want, .bool o_v_text, ii o_v_n, .flt o_v_x, bs o_v_b, sl 7 encKC o_l]⟩ := by rw [k1 hh.next (by omega)]; simp
    have hxn : ¬ hh.next = h1.next := by omega
    have hxn2 : ¬ h1.next = hh.next := by omega
    have hxp : ¬ hh.next = p := by have := bt.cl.1; omega
    have hxq : ¬ hh.next = q := by have := bt.md.1; omega
    have hxlt : hh.next < (h1.new ⟨0, [19], true, mW m⟩).next := by simp; omega
    have hxc : clQ (h1.new ⟨0, [19], true, mW m⟩) p ≠ some hh.next := fun e => by
      have h2 : clQ (h1.new ⟨0, [19], true, mW m⟩) p = clQ hh p := by have := bt.cl.1; simp only [clQ]; rw [new_at, if_neg (by omega), k1 p (by omega), new_at, if_neg (by omega)]
      rw [h2] at e; have := bt.cl.qlt e; omega
    have hxm : mdQ (h1.new ⟨0, [19], true, mW m⟩) q ≠ some hh.next := fun e => by
      have h2 : mdQ (h1.new ⟨0, [19], true, mW m⟩) q = mdQ hh q := by have := bt.md.1; simp only [mdQ]; rw [new_at, if_neg (by omega), k1 q (by omega), new_at, if_neg (by omega)]
      rw [h2] at e; have := bt.md.qlt e; omega
    have hwk := m20_c x_kind hx0.kind
    have hbk := m20_bounds x_kind
    have ht9 : (m20 x_kind).tmod 9 = m20 x_kind % 9 := tmod_pos hbk.1
    obtain ⟨k9, hk9⟩ : ∃ k9, m20 x_kind % 9 = k9 := ⟨_, rfl⟩
    have hk9b : 0 ≤ k9 ∧ k9 < 9 := by omega
    rw [hk9] at ht9
    have hsw : Sw kid n p q i hh.next ⟨0, [17], true, [ii x_kind, ii x_a, ii x_b, ii x_group, ii x_code, ii o_kind, ii o_row, ii o_hi, ii o_most, ii o_col, .bool o_has, .bool o_want, .bool o_v_text, ii o_v_n, .flt o_v_x, bs o_v_b, sl 7 encKC o_l]⟩ c m (h1.new ⟨0, [19], true, mW m⟩) := ⟨bt2, rl, hsq, hi2, hmi, hmn, f2x, hxlt, hxp, hxq, hxc, hxm⟩
    obtain ⟨q1, q2, q3, q4, q5, q6, q7⟩ := hx0
    have hcase : ∀ (L : AS) j, Does K swC (frS kid n L p q i hh.next (mG m) h1.next k9 j) (h1.new ⟨0, [19], true, mW m⟩) (EndR kid n L p q i) := by
      intro L j
      rcases (show k9 = 0 ∨ (k9 = 1 ∨ k9 = 2 ∨ k9 = 3) ∨ k9 = 4 ∨ (k9 = 5 ∨ k9 = 6 ∨ k9 = 7) ∨ k9 = 8 by omega) with e | h123 | e | h567 | e
      · rw [e]; exact case_submit L x_kind x_a x_b x_group x_code o_kind o_row o_hi o_most o_col o_has o_want o_v_text o_v_n o_v_x o_v_b o_l q6 q7 hsw _ _ j
      · exact case_tick L hsw _ _ k9 h123 j
      · rw [e]; exact case_master L x_kind x_a x_b x_group x_code o_kind o_row o_hi o_most o_col o_has o_want o_v_text o_v_n o_v_x o_v_b o_l q2 q3 q4 q5 hsw _ _ j
      · exact case_group L x_kind x_a x_b x_group x_code o_kind o_row o_hi o_most o_col o_has o_want o_v_text o_v_n o_v_x o_v_b o_l q4 q5 hsw _ _ k9 h567 j
      · rw [e]; exact case_other L x_kind x_a x_b x_group x_code o_kind o_row o_hi o_most o_col o_has o_want o_v_text o_v_n o_v_x o_v_b o_l q5 hsw _ _ j
    simp [swC, codeOf, Tryz.f8, blkC, -K_seq, -K_region, -K_block, -K_cond] at hcase
    refine hide ?_; intro Q9 hQ9
    simp [frP, hlt, hlt2, hlt3, hlt4, hlt5, -K_block]
    rw [K_block]
    simp [hix, hrd, hs1, d1, hcl, hs2, f1x, hxn, hxn2, hwk, ht9, -K_block]
    generalize sl 17 encDr (some (a0 ++ (⟨x_kind, x_a, x_b, x_group, x_code, ⟨o_kind, o_row, o_hi, o_most, o_col, o_has, o_want, ⟨o_v_text, o_v_n, o_v_x, o_v_b⟩, o_l⟩⟩ : KDr) :: r0)) = L at *
    refine cut_block (R := EndR kid n L p q i) (T := TailR kid n L p q i) ?_ ?_ ?_
    · exact sw_apply (F := frS kid n L p q i hh.next (mG m) h1.next k9) (ex_get' (by rfl)) (hcase L)
    · rintro x fr h5 ⟨rfl, c', m', s, sends, hm, j', rfl⟩
      have ht := tail_c L hm j'
      simp [tlC, codeOf, Tryz.f8, restC, isBlk, -K_seq, -K_region, -K_block, -K_cond] at ht
      exact ⟨rfl, ht⟩
    · rintro x fr h5 ⟨rfl, c', m', bt5, rl5, hsq5, hmi5, hmn5, j', rfl⟩
      clear hcase
      first | (refine hide ?_; intro Q2 hQ2) | have hQ2 := True.intro
      repeat' (first
        | (replace hQ2 := hQ2; simp [frP, hwi])
        | (refine hQ2 _ _ _ ?_; clear hQ2 Q2; first | simp only [] | simp [frP, hwi] | skip)
        | (refine hadQ (by assumption) ?_; (try clear hQ2); first | simp only [] | simp [frP, hwi] | skip)
        | ((fail_if_success replace hQ2 := hQ2); (first | refine hide ?_ | refine hideS ?_ | refine hideB ?_); intro Q2 hQ2)
        | (first | refine dF (id := 37) [0, 1, 2, 3, 4, 5, 6, 7, 8, 9] [] ?_ | refine dF (id := 46) [0, 1, 2, 3, 4, 5, 6, 7, 8, 9, 10] [] ?_ | refine dF (id := 49) [0, 1, 2, 3, 4, 5, 6, 7, 8, 9, 10, 11, 12, 13, 14, 15, 16, 17, 18, 19, 20, 21, 22] [] ?_ | refine dF (id := 52) [0, 1, 2, 3, 4, 5, 6, 7, 8, 9, 10, 11, 12, 13, 14, 15, 16, 17, 18, 19, 20, 21, 22, 23, 24, 25, 26, 27, 28, 29, 30, 31, 32, 33, 34, 35, 36, 37, 38, 39, 40, 41, 42] [(1, 5), (35, 39)] ?_)
        | (first | apply cF | apply wN | apply wS) <;> intro hcnd <;> (try simp only [hcnd]) <;> (try simp [-List.isEmpty_iff, -List.isEmpty_eq_false_iff] at hcnd))
      all_goals (rw [hI]; exact ⟨c', m', bt5, rl5, by omega, hmi5, hmn5, ex_get' (by rfl)⟩)
  · intro fr hh hx
    rw [hI] at hx
    obtain ⟨c, m, bt, rl, hsq, hmi, hmn, j, rfl⟩ := hx
    obtain ⟨mn, hmnE⟩ : ∃ mn, min (ls l).length 60 = mn := ⟨_, rfl⟩
    rw [hmnE]
    have hq := fun h => hP (.one (.bool true)) h rfl
    rcases (show mn = (ls l).length ∨ (mn = 60 ∧ mn < (ls l).length) by omega) with e | ⟨e, e2⟩
    · rw [e]
      first | (refine hide ?_; intro Q3 hQ3) | have hQ3 := True.intro
      repeat' (first
        | (replace hQ3 := hQ3; simp [frP])
        | (refine hQ3 _ _ _ ?_; clear hQ3 Q3; first | simp only [] | simp [frP] | skip)
        | (refine hadQ (by assumption) ?_; (try clear hQ3); first | simp only [] | simp [frP] | skip)
        | ((fail_if_success replace hQ3 := hQ3); (first | refine hide ?_ | refine hideS ?_ | refine hideB ?_); intro Q3 hQ3)
        | (first | refine dF (id := 37) [0, 1, 2, 3, 4, 5, 6, 7, 8, 9] [] ?_ | refine dF (id := 46) [0, 1, 2, 3, 4, 5, 6, 7, 8, 9, 10] [] ?_ | refine dF (id := 49) [0, 1, 2, 3, 4, 5, 6, 7, 8, 9, 10, 11, 12, 13, 14, 15, 16, 17, 18, 19, 20, 21, 22] [] ?_ | refine dF (id := 52) [0, 1, 2, 3, 4, 5, 6, 7, 8, 9, 10, 11, 12, 13, 14, 15, 16, 17, 18, 19, 20, 21, 22, 23, 24, 25, 26, 27, 28, 29, 30, 31, 32, 33, 34, 35, 36, 37, 38, 39, 40, 41, 42] [(1, 5), (35, 39)] ?_)
        | (first | apply cF | apply wN | apply wS) <;> intro hcnd <;> (try simp only [hcnd]) <;> (try simp [-List.isEmpty_iff, -List.isEmpty_eq_false_iff] at hcnd))
      all_goals exact hq _
    · rw [e] at e2 ⊢
      have d1 : (60 : Int) < (ls l).length := by omega
      first | (refine hide ?_; intro Q4 hQ4) | have hQ4 := True.intro
      repeat' (first
        | (replace hQ4 := hQ4; simp [frP, d1, e2])
        | (refine hQ4 _ _ _ ?_; clear hQ4 Q4; first | simp only [] | simp [frP, d1, e2] | skip)
        | (refine hadQ (by assumption) ?_; (try clear hQ4); first | simp only [] | simp [frP, d1, e2] | skip)
        | ((fail_if_success replace hQ4 := hQ4); (first | refine hide ?_ | refine hideS ?_ | refine hideB ?_); intro Q4 hQ4)
        | (first | refine dF (id := 37) [0, 1, 2, 3, 4, 5, 6, 7, 8, 9] [] ?_ | refine dF (id := 46) [0, 1, 2, 3, 4, 5, 6, 7, 8, 9, 10] [] ?_ | refine dF (id := 49) [0, 1, 2, 3, 4, 5, 6, 7, 8, 9, 10, 11, 12, 13, 14, 15, 16, 17, 18, 19, 20, 21, 22] [] ?_ | refine dF (id := 52) [0, 1, 2, 3, 4, 5, 6, 7, 8, 9, 10, 11, 12, 13, 14, 15, 16, 17, 18, 19, 20, 21, 22, 23, 24, 25, 26, 27, 28, 29, 30, 31, 32, 33, 34, 35, 36, 37, 38, 39, 40, 41, 42] [(1, 5), (35, 39)] ?_)
        | (first | apply cF | apply wN | apply wS) <;> intro hcnd <;> (try simp only [hcnd]) <;> (try simp [-List.isEmpty_iff, -List.isEmpty_eq_false_iff] at hcnd))
      all_goals exact hq _
end Go.Proofs.YtmhbdpgflomihaaGreat
