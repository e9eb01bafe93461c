/- A part of a proof over the abstract machine. No conditions. -/
import Derived.Test.YtmhbdpgflomihaaGreatP11
namespace Go.Proofs.YtmhbdpgflomihaaGreat
open Go Go.Ab Wm NumPlain
set_option linter.unusedSimpArgs false
set_option linter.unnecessarySimpa false
set_option linter.unusedVariables false
set_option maxRecDepth 10000
set_option maxHeartbeats 8000000
theorem decAns_badF : Fun K 35 [.one (bs (some [1]))] (fun h => .ret (.tup [(true, zA), (false, [ii 12])]) h) := by
  obtain ⟨r, e, hx⟩ := takeAns_bad (rdA_start (some [1]) (by simp))
  obtain ⟨h', o', rfl, w'⟩ := hx
  have f0 : h'.f 0 = some ⟨0, [11], true, zA⟩ := by rw [w'.same 0 (by simp) (by omega)]; simp
  have f1 : h'.f 1 = some ⟨0, [11], true, zA⟩ := by rw [w'.same 1 (by simp) (by omega)]; simp
  have f2 : h'.f 2 = some ⟨0, [1], true, [.bool false]⟩ := by rw [w'.same 2 (by simp) (by omega)]; simp
  have f4 : h'.f 4 = some ⟨0, [1], true, [.ptr 3 0 0]⟩ := by rw [w'.same 4 (by simp) (by omega)]; simp
  have hc : W K 69 [.one (.ptr 3 0 0), .one (.ptr 1 0 0)] (rdH hA (some [1])) = some (.pan (.ifc rT (.ptr 3 0 0)) h') := by
    generalize rdH hA (some [1]) = H0 at *
    refine W_does hp rfl rfl rfl Tryz.func69 rfl (by simp [Tryz.f69]) ?_
    simp only [Tryz.f69]
    refine hide ?_; intro Q1 hQ1
    repeat' (first
      | (replace hQ1 := hQ1; simp [e, f1])
      | refine hQ1 _ _ _ ?_)
  have hr := read_pan (h := hA) (o := some [1]) (g := 69) (caps := [.ptr 1 0 0]) hc (by simp [f2]) (by simpa using f4)
  have hown : memL S.own 35 = false := by kernel_rfl
  refine ⟨by simp [pureV, hr, f0, f1, outV, frzV, frzS, frzS_pure, frzP, pureS, pureL, K_own, hown], fun hh => apart_does rfl rfl (by kernel_rfl) Tryz.func35 rfl (by simp [Tryz.f35]) ?_⟩
  simp only [Tryz.f35]
  refine hide ?_; intro Q2 hQ2
  repeat' (first
    | (replace hQ2 := hQ2; simp [hr, f0, f1, outV, frzV, frzS, frzS_pure, frzP, pureS, pureL, K_own, hown])
    | refine hQ2 _ _ _ ?_
    | (first | apply cF | apply wN | apply wS) <;> intro hcnd <;> (try simp only [hcnd]) <;> (try simp [-List.isEmpty_iff, -List.isEmpty_eq_false_iff] at hcnd))
theorem decBad_c {h : H} {b : Nat} (hb : h.f b = some ⟨0, [1], true, [.int .u8 1]⟩) : W K 35 [.one (.slc b 0 0 1 1 none)] h = some (.ret (.tup [(true, zA), (false, [ii 12])]) h) := by
  refine decAns_badF.view hp ?_
  unfold viewA
  rw [if_neg (by simp [pureV, pureS])]
  have : viewS h 64 (.slc b 0 0 1 1 none) = some (bs (some [1])) := by
    simp [viewS, readC, hb, Blk.ext, sub, bs_some, byteS, pureS, pureL]
  simp only [List.mapM_cons, List.mapM_nil, viewV, this, Option.bind_eq_bind, Option.bind_some, Option.pure_def]
theorem on_bad {h : H} {p : Nat} {c : Cl} (ca : ClAt h p c) (ok : ClOk c) (group : Int) (b : Nat) (hbb : h.f b = some ⟨0, [1], true, [.int .u8 1]⟩) (hbn : b < h.next) :
    ∃ r, W K 14 [.one (.ptr p 0 0), .agg [ii 2, ii group, ii 1, ii (100 + c.id), ii 0, ii 0, ii c.id, ii c.seq, .slc b 0 0 1 1 none, .nilslc]] h = some r ∧ Rets (fun v h' => v = .one .nilslc ∧ ClAt h' p c ∧ Held h h' p) r := by
  refine Rets.intro fun P hP => ?_
  have okid := ok.id
  have hcl := client_c c.id (by omega)
  have hpn := ca.1
  have hne : ¬ p = h.next := by omega
  have hne2 : ¬ h.next = p := by omega
  have hkeep : ∀ k, ClAt (h.new k) p c ∧ Held h (h.new k) p := fun k => ⟨ca.new k, by simp, fun b hb _ _ => by rw [new_at, if_neg (by omega)], fun b hb => .inl (by rw [clQ, new_at, if_neg hne] at hb; exact hb)⟩
  obtain ⟨BM, hBM⟩ : ∃ BM : Blk, (⟨0, [10], true, [ii 2, ii group, ii 1, ii (100 + c.id), ii 0, ii 0, ii c.id, ii c.seq, .slc b 0 0 1 1 none, .nilslc]⟩ : Blk) = BM := ⟨_, rfl⟩
  have hdec : W K 35 [.one (.slc b 0 0 1 1 none)] (h.new BM) = some (.ret (.tup [(true, zA), (false, [ii 12])]) (h.new BM)) := decBad_c (by rw [new_at, if_neg (by omega)]; exact hbb)
  have hs := new_set (h.new BM) ⟨0, [11], true, zA⟩ ⟨0, [11], true, zA⟩
  have ca2 : ClAt ((h.new BM).new ⟨0, [11], true, zA⟩) p c := (hkeep _).1.new _
  have held2 : Held h ((h.new BM).new ⟨0, [11], true, zA⟩) p := ⟨by simp; omega, fun b hb _ _ => by rw [new_at, if_neg (by simp; omega), new_at, if_neg (by omega)], fun b hb => .inl (by rw [clQ, new_at, if_neg (by simp; omega), new_at, if_neg hne] at hb; exact hb)⟩
  have hq1 : P (.one .nilslc) (h.new BM) := hP _ _ ⟨rfl, (hkeep _).1, (hkeep _).2⟩
  have hq2 : P (.one .nilslc) ((h.new BM).new ⟨0, [11], true, zA⟩) := hP _ _ ⟨rfl, ca2, held2⟩
  have hne3 : ¬ p = h.next + 1 := by omega
  have hne4 : ¬ h.next + 1 = p := by omega
  simp only [new_next] at hs
  have hfi := find_c ca2 ok.cached
  generalize hix : idx (fun t => hasName t.span c.row) c.cached = ix at hfi
  obtain ⟨_, s, hf, hsl, hos⟩ := ca
  clear hP hkeep ca2 held2
  obtain ⟨id, n, sq, busy, row, op, w, g, cached, told, ⟨a1, a2, ⟨a3, a4⟩, a5, a6, a7, a8, a9, a10, a11⟩⟩ := c
  simp only [clC, zA] at *
  subst hBM
  cases busy
  · refine W_doesQ hp rfl rfl rfl Tryz.func14 rfl (by simp [Tryz.f14]) ?_
    simp only [Tryz.f14]
    refine hide ?_; intro Q3 hQ3
    repeat' (first
      | (replace hQ3 := hQ3; simp [hf, hne, hne2, hcl])
      | refine hQ3 _ _ _ ?_
      | (first | refine dF (id := 1) [0, 1, 2, 3, 4, 5, 6, 7, 8, 9, 10, 11, 12, 13, 14, 15, 16, 17, 18, 19, 20, 21, 22, 23, 24, 25, 26, 27, 28, 29, 30, 31, 32, 33, 34, 35, 36, 37] [(21, 26)] ?_ | refine dF (id := 8) [0, 1, 2, 3, 4, 5, 6, 7, 8, 9, 10, 11, 12, 13, 14, 15] [] ?_)
      | (first | apply cF | apply wN | apply wS) <;> intro hcnd <;> (try simp only [hcnd]) <;> (try simp [-List.isEmpty_iff, -List.isEmpty_eq_false_iff] at hcnd))
    all_goals exact hq1
  · refine W_doesQ hp rfl rfl rfl Tryz.func14 rfl (by simp [Tryz.f14]) ?_
    simp only [Tryz.f14]
    refine hide ?_; intro Q4 hQ4
    repeat' (first
      | (replace hQ4 := hQ4; simp [hf, hne, hne2, hne3, hne4, hcl, hdec, hs, hfi])
      | refine hQ4 _ _ _ ?_
      | (first | refine dF (id := 1) [0, 1, 2, 3, 4, 5, 6, 7, 8, 9, 10, 11, 12, 13, 14, 15, 16, 17, 18, 19, 20, 21, 22, 23, 24, 25, 26, 27, 28, 29, 30, 31, 32, 33, 34, 35, 36, 37] [(21, 26)] ?_ | refine dF (id := 8) [0, 1, 2, 3, 4, 5, 6, 7, 8, 9, 10, 11, 12, 13, 14, 15] [] ?_)
      | (first | apply cF | apply wN | apply wS) <;> intro hcnd <;> (try simp only [hcnd]) <;> (try simp [-List.isEmpty_iff, -List.isEmpty_eq_false_iff] at hcnd))
    all_goals first | exact hq2 | trace_state
theorem zAns_is : AnsIs zAns := ⟨by simp [ansOk0, inTo, spanOk, lenB], rfl⟩
theorem on_no {h : H} {p : Nat} {c : Cl} (ca : ClAt h p c) (ok : ClOk c) (hl : c.cached.length < 12) (kind group to client seq : Int) (hno : ¬ (kind = 2 ∧ client = c.id ∧ to = 100 + c.id ∧ seq = c.seq)) :
    ∃ h3, W K 14 [.one (.ptr p 0 0), .agg (msgC kind group 1 to 0 0 client seq (some (ansB0 zAns)))] h = some (.ret (.one .nilslc) h3) ∧ ClAt h3 p c ∧ Held h h3 p := by
  obtain ⟨r, e, hr⟩ := on_cl ca ok kind group 1 to 0 0 client seq (some (ansB0 zAns)) (some (norm zAns)) (fun x hx => by cases hx; rfl) (fun h => dec_c zAns zAns_is h) (fun x _ => Nat.lt_of_le_of_lt (List.length_filter_le _ _) hl)
  have e1 : onC c kind group to client seq (some (norm zAns)) = (c, false) := by
    unfold onC; rw [if_neg]; rintro ⟨_, h1, h2, h3, h4⟩; exact hno ⟨h1, h2, h3, h4⟩
  rw [e1] at hr
  obtain ⟨v, h', rfl, h1, h2, s, rfl, hs, _⟩ := hr.ret
  have : s = .nilslc := hs
  subst this
  exact ⟨h', e, h1, h2⟩
theorem case_other {kid n : Int} {p q i xb : Nat} {c : Cl} {m : Md} {h : H} (L : AS) (x_kind x_a x_b x_group x_code : Int) (o_kind : Int) (o_row : Int) (o_hi : Int) (o_most : Int) (o_col : Int) (o_has : Bool) (o_want : Bool) (o_v_text : Bool) (o_v_n : Int) (o_v_x : Nat) (o_v_b : Option BL) (o_l : Option (List KC)) (hc : I64 x_code) (w : Sw kid n p q i xb ⟨0, [17], true, [ii x_kind, ii x_a, ii x_b, ii x_group, ii x_code, ii o_kind, ii o_row, ii o_hi, ii o_most, ii o_col, .bool o_has, .bool o_want, .bool o_v_text, ii o_v_n, .flt o_v_x, bs o_v_b, sl 7 encKC o_l]⟩ c m h) (g : Int) (t : Nat) (j : Nat → AV) :
    Does K swC (frS kid n L p q i xb g t 8 j) h (EndR kid n L p q i) := by
  have hsq := w.seq
  have hlt := w.lt
  have rl := w.rl
  have hs0 := rl.seq0
  have hid : 0 ≤ kid ∧ kid < 4 := by rw [← w.id]; exact rl.idb
  have hr : ∀ h : H, W K 15 [.one (ii g), .one (ii kid), .one (ii m.seq), .agg [ii 0, .nilslc, .str [], .str [], ii 0, ii 0, ii 0, ii 0, ii 0, .str [], .nilslc]] h = some (.ret (.agg (msgC 2 g 1 (100 + kid) 0 0 kid m.seq (some (ansB0 zAns)))) h) := reply_c g kid m.seq hid zAns zAns_is
  have hcid : c.id = kid := by rw [rl.id]; exact w.id
  have hl12 : c.cached.length < 12 := by have := rl.len.1; omega
  have ok := rl.ok (by omega)
  have hfx := w.fx
  have hxl := w.xlt
  have hxn : ¬ xb = h.next := by omega
  obtain ⟨_, sm, fm, _, _⟩ := w.bt.md
  have hqn : ¬ q = h.next := by have := w.bt.md.1; omega
  have g2 : sub (mdC m sm) 2 1 = some [ii m.seq] := rfl
  have gl : (mdC m sm).length = 30 := rfl
  generalize mdC m sm = M at *
  have hw5 := m20_c x_code hc
  have hb5 := m20_bounds x_code
  have ht5 : (m20 x_code).tmod 5 = m20 x_code % 5 := tmod_pos hb5.1
  obtain ⟨k5, hk5⟩ : ∃ k5, m20 x_code % 5 = k5 := ⟨_, rfl⟩
  have hk5b : 0 ≤ k5 ∧ k5 < 5 := by omega
  rw [hk5] at ht5
  have hs := new_set h ⟨0, [10], true, [ii 0, ii 0, ii 0, ii 0, ii 0, ii 0, ii 0, ii 0, .nilslc, .nilslc]⟩ ⟨0, [10], true, msgC 2 g 1 (100 + kid) 0 0 kid m.seq (some (ansB0 zAns))⟩
  have v1 : IntKind.i64.wrap (m.seq + 1) = m.seq + 1 := wrap_i64 (by omega) (by omega)
  have v2 : IntKind.i64.wrap (kid + 1) = kid + 1 := wrap_i64 (by omega) (by omega)
  have v3 : IntKind.i64.wrap (100 + kid + 1) = 100 + kid + 1 := wrap_i64 (by omega) (by omega)
  have fin : ∀ (k : Blk) h3, ClAt h3 p c → Held (h.new k) h3 p → Mid kid n p q i c m h3 .nilslc false := fun k h3 ca he => ⟨(w.bt.new k).cl_step ca he, rl, by omega, w.id, w.n, ⟨h, .nilslc, rfl, rfl, by simp [ownB]⟩, (fun h => by cases h)⟩
  simp [swC, codeOf, Tryz.f8, blkC, -K_seq, -K_region, -K_block, -K_cond]
  rcases (show k5 = 0 ∨ k5 = 1 ∨ k5 = 2 ∨ k5 = 3 ∨ k5 = 4 by omega) with rfl | rfl | rfl | rfl | rfl
  · obtain ⟨h3, d3, ca3, he3⟩ := on_no (w.bt.new ⟨0, [10], true, msgC 7 g 1 (100 + kid) 0 0 kid m.seq (some (ansB0 zAns))⟩).cl ok hl12 7 g (100 + kid) kid m.seq (by omega)
    have hMid := fin _ _ ca3 he3
    generalize ansB0 zAns = ZB at *
    first | (refine hide ?_; intro Q5 hQ5) | have hQ5 := True.intro
    repeat' (first
      | (replace hQ5 := hQ5; simp [frS, hfx, hxn, fm, hqn, g2, gl, hr, hs, hw5, ht5, d3])
      | (refine hQ5 _ _ _ ?_; clear hQ5 Q5; first | simp only [] | simp [frS, hfx, hxn, fm, hqn, g2, gl, hr, hs, hw5, ht5, d3] | skip)
      | (refine hadQ (by assumption) ?_; (try clear hQ5); first | simp only [] | simp [frS, hfx, hxn, fm, hqn, g2, gl, hr, hs, hw5, ht5, d3] | skip)
      | ((fail_if_success replace hQ5 := hQ5); (first | refine hide ?_ | refine hideS ?_ | refine hideB ?_); intro Q5 hQ5)
      | (first | refine dF (id := 37) [0, 1, 2, 3, 4, 5, 6, 7, 8, 9] [] ?_ | refine dF (id := 46) [0, 1, 2, 3, 4, 5, 6, 7, 8, 9, 10] [] ?_ | refine dF (id := 49) [0, 1, 2, 3, 4, 5, 6, 7, 8, 9, 10, 11, 12, 13, 14, 15, 16, 17, 18, 19, 20, 21, 22] [] ?_ | refine dF (id := 52) [0, 1, 2, 3, 4, 5, 6, 7, 8, 9, 10, 11, 12, 13, 14, 15, 16, 17, 18, 19, 20, 21, 22, 23, 24, 25, 26, 27, 28, 29, 30, 31, 32, 33, 34, 35, 36, 37, 38, 39, 40, 41, 42] [(1, 5), (35, 39)] ?_)
      | (first | apply cF | apply wN | apply wS) <;> intro hcnd <;> (try simp only [hcnd]) <;> (try simp [-List.isEmpty_iff, -List.isEmpty_eq_false_iff] at hcnd))
    all_goals exact ⟨rfl, _, _, _, _, hMid, ex_get' (by rfl)⟩
  · obtain ⟨h3, d3, ca3, he3⟩ := on_no (w.bt.new ⟨0, [10], true, msgC 2 g 1 (100 + kid) 0 0 kid (m.seq + 1) (some (ansB0 zAns))⟩).cl ok hl12 2 g (100 + kid) kid (m.seq + 1) (by have := rl.seq; omega)
    have hMid := fin _ _ ca3 he3
    generalize ansB0 zAns = ZB at *
    first | (refine hide ?_; intro Q6 hQ6) | have hQ6 := True.intro
    repeat' (first
      | (replace hQ6 := hQ6; simp [frS, hfx, hxn, fm, hqn, g2, gl, hr, hs, hw5, ht5, v1, d3])
      | (refine hQ6 _ _ _ ?_; clear hQ6 Q6; first | simp only [] | simp [frS, hfx, hxn, fm, hqn, g2, gl, hr, hs, hw5, ht5, v1, d3] | skip)
      | (refine hadQ (by assumption) ?_; (try clear hQ6); first | simp only [] | simp [frS, hfx, hxn, fm, hqn, g2, gl, hr, hs, hw5, ht5, v1, d3] | skip)
      | ((fail_if_success replace hQ6 := hQ6); (first | refine hide ?_ | refine hideS ?_ | refine hideB ?_); intro Q6 hQ6)
      | (first | refine dF (id := 37) [0, 1, 2, 3, 4, 5, 6, 7, 8, 9] [] ?_ | refine dF (id := 46) [0, 1, 2, 3, 4, 5, 6, 7, 8, 9, 10] [] ?_ | refine dF (id := 49) [0, 1, 2, 3, 4, 5, 6, 7, 8, 9, 10, 11, 12, 13, 14, 15, 16, 17, 18, 19, 20, 21, 22] [] ?_ | refine dF (id := 52) [0, 1, 2, 3, 4, 5, 6, 7, 8, 9, 10, 11, 12, 13, 14, 15, 16, 17, 18, 19, 20, 21, 22, 23, 24, 25, 26, 27, 28, 29, 30, 31, 32, 33, 34, 35, 36, 37, 38, 39, 40, 41, 42] [(1, 5), (35, 39)] ?_)
      | (first | apply cF | apply wN | apply wS) <;> intro hcnd <;> (try simp only [hcnd]) <;> (try simp [-List.isEmpty_iff, -List.isEmpty_eq_false_iff] at hcnd))
    all_goals exact ⟨rfl, _, _, _, _, hMid, ex_get' (by rfl)⟩
  · obtain ⟨h3, d3, ca3, he3⟩ := on_no (w.bt.new ⟨0, [10], true, msgC 2 g 1 (100 + kid) 0 0 (kid + 1) m.seq (some (ansB0 zAns))⟩).cl ok hl12 2 g (100 + kid) (kid + 1) m.seq (by omega)
    have hMid := fin _ _ ca3 he3
    generalize ansB0 zAns = ZB at *
    first | (refine hide ?_; intro Q7 hQ7) | have hQ7 := True.intro
    repeat' (first
      | (replace hQ7 := hQ7; simp [frS, hfx, hxn, fm, hqn, g2, gl, hr, hs, hw5, ht5, v2, d3])
      | (refine hQ7 _ _ _ ?_; clear hQ7 Q7; first | simp only [] | simp [frS, hfx, hxn, fm, hqn, g2, gl, hr, hs, hw5, ht5, v2, d3] | skip)
      | (refine hadQ (by assumption) ?_; (try clear hQ7); first | simp only [] | simp [frS, hfx, hxn, fm, hqn, g2, gl, hr, hs, hw5, ht5, v2, d3] | skip)
      | ((fail_if_success replace hQ7 := hQ7); (first | refine hide ?_ | refine hideS ?_ | refine hideB ?_); intro Q7 hQ7)
      | (first | refine dF (id := 37) [0, 1, 2, 3, 4, 5, 6, 7, 8, 9] [] ?_ | refine dF (id := 46) [0, 1, 2, 3, 4, 5, 6, 7, 8, 9, 10] [] ?_ | refine dF (id := 49) [0, 1, 2, 3, 4, 5, 6, 7, 8, 9, 10, 11, 12, 13, 14, 15, 16, 17, 18, 19, 20, 21, 22] [] ?_ | refine dF (id := 52) [0, 1, 2, 3, 4, 5, 6, 7, 8, 9, 10, 11, 12, 13, 14, 15, 16, 17, 18, 19, 20, 21, 22, 23, 24, 25, 26, 27, 28, 29, 30, 31, 32, 33, 34, 35, 36, 37, 38, 39, 40, 41, 42] [(1, 5), (35, 39)] ?_)
      | (first | apply cF | apply wN | apply wS) <;> intro hcnd <;> (try simp only [hcnd]) <;> (try simp [-List.isEmpty_iff, -List.isEmpty_eq_false_iff] at hcnd))
    all_goals exact ⟨rfl, _, _, _, _, hMid, ex_get' (by rfl)⟩
  · obtain ⟨h3, d3, ca3, he3⟩ := on_no (w.bt.new ⟨0, [10], true, msgC 2 g 1 (100 + kid + 1) 0 0 kid m.seq (some (ansB0 zAns))⟩).cl ok hl12 2 g (100 + kid + 1) kid m.seq (by omega)
    have hMid := fin _ _ ca3 he3
    generalize ansB0 zAns = ZB at *
    first | (refine hide ?_; intro Q8 hQ8) | have hQ8 := True.intro
    repeat' (first
      | (replace hQ8 := hQ8; simp [frS, hfx, hxn, fm, hqn, g2, gl, hr, hs, hw5, ht5, v3, d3])
      | (refine hQ8 _ _ _ ?_; clear hQ8 Q8; first | simp only [] | simp [frS, hfx, hxn, fm, hqn, g2, gl, hr, hs, hw5, ht5, v3, d3] | skip)
      | (refine hadQ (by assumption) ?_; (try clear hQ8); first | simp only [] | simp [frS, hfx, hxn, fm, hqn, g2, gl, hr, hs, hw5, ht5, v3, d3] | skip)
      | ((fail_if_success replace hQ8 := hQ8); (first | refine hide ?_ | refine hideS ?_ | refine hideB ?_); intro Q8 hQ8)
      | (first | refine dF (id := 37) [0, 1, 2, 3, 4, 5, 6, 7, 8, 9] [] ?_ | refine dF (id := 46) [0, 1, 2, 3, 4, 5, 6, 7, 8, 9, 10] [] ?_ | refine dF (id := 49) [0, 1, 2, 3, 4, 5, 6, 7, 8, 9, 10, 11, 12, 13, 14, 15, 16, 17, 18, 19, 20, 21, 22] [] ?_ | refine dF (id := 52) [0, 1, 2, 3, 4, 5, 6, 7, 8, 9, 10, 11, 12, 13, 14, 15, 16, 17, 18, 19, 20, 21, 22, 23, 24, 25, 26, 27, 28, 29, 30, 31, 32, 33, 34, 35, 36, 37, 38, 39, 40, 41, 42] [(1, 5), (35, 39)] ?_)
      | (first | apply cF | apply wN | apply wS) <;> intro hcnd <;> (try simp only [hcnd]) <;> (try simp [-List.isEmpty_iff, -List.isEmpty_eq_false_iff] at hcnd))
    all_goals exact ⟨rfl, _, _, _, _, hMid, ex_get' (by rfl)⟩
  · generalize ansB0 zAns = ZB at *
    have bt' : Bt (((h.new ⟨0, [10], true, msgC 2 g 1 (100 + kid) 0 0 kid m.seq (some ZB)⟩).new ⟨0, [1], true, [.int .u8 1]⟩).set h.next ⟨0, [10], true, [ii 2, ii g, ii 1, ii (100 + kid), ii 0, ii 0, ii kid, ii m.seq, .slc (h.next + 1) 0 0 1 1 none, .nilslc]⟩) p q c m := w.bt.keep (by simp; omega) fun b hb => by rw [set_at, if_neg (by omega), new_at, if_neg (by simp; omega), new_at, if_neg (by omega)]
    obtain ⟨r3, d3, hr3⟩ := on_bad bt'.cl ok g (h.next + 1) (by rw [set_at, if_neg (by omega), new_at, if_pos (by simp)]) (by simp)
    obtain ⟨v3, h3, rfl, rfl, ca3, he3⟩ := hr3.ret
    have hMid : Mid kid n p q i c m h3 .nilslc false := ⟨bt'.cl_step ca3 he3, rl, by omega, w.id, w.n, ⟨h, .nilslc, rfl, rfl, by simp [ownB]⟩, (fun h => by cases h)⟩
    rw [hcid, rl.seq] at d3
    have hn1 : ¬ h.next = h.next + 1 := by omega
    first | (refine hide ?_; intro Q9 hQ9) | have hQ9 := True.intro
    repeat' (first
      | (replace hQ9 := hQ9; simp [frS, hfx, hxn, fm, hqn, g2, gl, hr, hs, hw5, ht5, hn1, d3])
      | (refine hQ9 _ _ _ ?_; clear hQ9 Q9; first | simp only [] | simp [frS, hfx, hxn, fm, hqn, g2, gl, hr, hs, hw5, ht5, hn1, d3] | skip)
      | (refine hadQ (by assumption) ?_; (try clear hQ9); first | simp only [] | simp [frS, hfx, hxn, fm, hqn, g2, gl, hr, hs, hw5, ht5, hn1, d3] | skip)
      | ((fail_if_success replace hQ9 := hQ9); (first | refine hide ?_ | refine hideS ?_ | refine hideB ?_); intro Q9 hQ9)
      | (first | refine dF (id := 37) [0, 1, 2, 3, 4, 5, 6, 7, 8, 9] [] ?_ | refine dF (id := 46) [0, 1, 2, 3, 4, 5, 6, 7, 8, 9, 10] [] ?_ | refine dF (id := 49) [0, 1, 2, 3, 4, 5, 6, 7, 8, 9, 10, 11, 12, 13, 14, 15, 16, 17, 18, 19, 20, 21, 22] [] ?_ | refine dF (id := 52) [0, 1, 2, 3, 4, 5, 6, 7, 8, 9, 10, 11, 12, 13, 14, 15, 16, 17, 18, 19, 20, 21, 22, 23, 24, 25, 26, 27, 28, 29, 30, 31, 32, 33, 34, 35, 36, 37, 38, 39, 40, 41, 42] [(1, 5), (35, 39)] ?_)
      | (first | apply cF | apply wN | apply wS) <;> intro hcnd <;> (try simp only [hcnd]) <;> (try simp [-List.isEmpty_iff, -List.isEmpty_eq_false_iff] at hcnd))
    all_goals exact ⟨rfl, _, _, _, _, hMid, ex_get' (by rfl)⟩
end Go.Proofs.YtmhbdpgflomihaaGreat
