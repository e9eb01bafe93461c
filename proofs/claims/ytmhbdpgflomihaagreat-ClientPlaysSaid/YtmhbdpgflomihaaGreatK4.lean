/- A part of a proof over the abstract machine. No conditions. -/
import Derived.Test.YtmhbdpgflomihaaGreatK3
namespace Go.Proofs.YtmhbdpgflomihaaGreat
open Go Go.Ab Wm NumPlain
set_option linter.unusedSimpArgs false
set_option linter.unnecessarySimpa false
set_option linter.unusedVariables false
set_option maxRecDepth 10000
set_option maxHeartbeats 4000000
def ltT (x y : Tablet) : Bool := decide (cmpL x.span.lo y.span.lo < 0)
def located (c : Cl) (a : Answer) : Cl × Bool :=
  if a.code = 0 ∧ hasName a.span c.row = true then ({ c with cached := isort ltT ((c.cached.filter fun t => !meetOk t.span a.span) ++ [⟨a.span, a.group, a.gen⟩]), w := 1, g := 1 }, true) else (c, false)
theorem located_cl {h : H} {p : Nat} {c : Cl} (ca : ClAt h p c) (ok : ClOk c) (a : Answer) (hlen : (c.cached.filter fun t => !meetOk t.span a.span).length < 12) :
    ∃ r, W K 37 [.one (.ptr p 0 0), .agg (ansC a)] h = some r ∧ Rets (fun v h' => ClAt h' p (located c a).1 ∧ Held h h' p ∧ Asks h h' (located c a).1 (located c a).2 v) r := by
  refine Rets.intro fun P hP => ?_
  have hsp := spanHas_c a.span.lo a.span.hi c.row
  have hne : ¬ p = h.next := by have := ca.1; omega
  have hne2 : ¬ h.next = p := by omega
  by_cases hcond : a.code = 0 ∧ hasName a.span c.row = true
  · have e1 : located c a = ({ c with cached := isort ltT ((c.cached.filter fun t => !meetOk t.span a.span) ++ [⟨a.span, a.group, a.gen⟩]), w := 1, g := 1 }, true) := by rw [located, if_pos hcond]
    rw [e1] at hP
    obtain ⟨hcode, hhas⟩ := hcond
    rw [show (⟨a.span.lo, a.span.hi⟩ : Span) = a.span from rfl, hhas] at hsp
    have ok2 := ok
    obtain ⟨hpn, s, hf, hsl, hos⟩ := ca
    have hboxf : (h.new ⟨0, [11], true, ansC a⟩).f h.next = some ⟨0, [11], true, ansC a⟩ := by simp
    have hsl0 : Sl (h.new ⟨0, [11], true, ansC a⟩) 4 encTablet s c.cached := hsl.keep (by simp) fun b hb => by rw [new_at, if_neg (by have := hsl.lt hb; omega)]
    obtain ⟨s1, h1, d1, sl1, n1, k1, o1⟩ := delete_sl (by simp) hboxf hsl0 (fun e => by have := hsl.lt e; omega) ok.cached
    simp only [new_next] at n1 k1
    have f1p : h1.f p = some ⟨0, [21], true, clC c s⟩ := by rw [k1 p (by omega) hos, new_at, if_neg (by omega)]; exact hf
    have f1b : h1.f h.next = some ⟨0, [11], true, ansC a⟩ := by rw [k1 h.next (by omega) (fun e => by have := hsl.lt e; omega)]; simp
    generalize hF : (c.cached.filter fun t => !meetOk t.span a.span) = F at *
    have os1 : ownB s1 ≠ some p := fun e => hos (o1 p e)
    have os1b : ownB s1 ≠ some h.next := fun e => by have := hsl.lt (o1 _ e); omega
    have sl1p : Sl ((h1.set p ⟨0, [21], true, clC c s1⟩).new ⟨0, [4], true, encTablet ⟨a.span, a.group, a.gen⟩⟩) 4 encTablet s1 F := sl1.keep (by simp) fun b hb => by
      have := sl1.lt hb
      rw [new_at, if_neg (by simp; omega), set_at, if_neg (fun (e : b = p) => os1 (by rw [← e]; exact hb))]
    obtain ⟨s2, h2, d2, ⟨b2, v2, z2, rfl, ar2⟩, n2, k2, o2⟩ := arr_append (P := Tryz.prog) (t := 66) Tryz.underlying66 (by simp) (by simp) Tryz.bytes99 (by omega) len_tablet (a := .slc h1.next 0 0 1 4 none) (m := [(⟨a.span, a.group, a.gen⟩ : Tablet)]) sl1p rfl (by simp [elemsOf, cat, encTablet]) (by simp) (by simp only [List.length_cons, List.length_nil, limit]; omega)
    simp only [new_next, set_next] at n2 k2 o2
    have f2p : h2.f p = some ⟨0, [21], true, clC c s1⟩ := by rw [k2 p (by omega) os1, new_at, if_neg (by simp; omega)]; simp
    have hb2p : b2 ≠ p := fun e => by
      rcases o2 b2 rfl with h | h
      · exact os1 (by rw [← e]; exact h)
      · omega
    have ar2p : Arr (h2.set p ⟨0, [21], true, clC c (.slc b2 v2 0 (F ++ [(⟨a.span, a.group, a.gen⟩ : Tablet)]).length 4 none)⟩) encTablet b2 v2 (F ++ [(⟨a.span, a.group, a.gen⟩ : Tablet)]) z2 := ar2.keep (by simp) (by rw [set_at, if_neg hb2p])
    obtain ⟨r3, d3, hr3⟩ := sortTablet_c ar2p 78 [] (fun x y => cmpL x.span.lo y.span.lo) (by simp; omega) (fun x y h' _ _ => loc2_c x y h')
    obtain ⟨q3, h3, rfl, rfl, ar3, n3, k3⟩ := hr3.ret
    have ca3 : ClAt h3 p { c with cached := isort ltT (F ++ [(⟨a.span, a.group, a.gen⟩ : Tablet)]) } := by
      refine ⟨by rw [n3]; simp; omega, .slc b2 v2 0 (F ++ [(⟨a.span, a.group, a.gen⟩ : Tablet)]).length 4 none, ?_, .inr ⟨b2, v2, z2, by simp, ar3⟩, fun e => hb2p (by simpa [ownB] using e)⟩
      rw [k3 p (by simp; omega) (Ne.symm hb2p)]; simp [clC]
    obtain ⟨h4, d4, ca4, he4, n4⟩ := soon_cl ca3
    obtain ⟨s5, h5, d5, as5, ca5, he5⟩ := askN_c ca4 ⟨ok2.id, ok2.n, ok2.seq, ok2.row, ok2.op, ⟨by simp, by simp⟩, ⟨by simp, by simp⟩, by simp; omega⟩
    have n3' : h3.next = h2.next := by rw [n3]; simp
    have held3 : Held h h3 p := ⟨by omega, fun b hb hbp hq => by
      have hq0 : ownB s ≠ some b := by rw [clQ_at hf] at hq; exact hq
      have hq1 : ownB s1 ≠ some b := fun e => hq0 (o1 b e)
      have hb2 : b ≠ b2 := fun e => by
        rcases o2 b2 rfl with h | h
        · exact hq1 (by rw [e]; exact h)
        · omega
      rw [k3 b (by simp; omega) hb2, set_at, if_neg hbp, k2 b (by omega) hq1, new_at, if_neg (by simp; omega), set_at, if_neg hbp, k1 b (by omega) hq0, new_at, if_neg (by omega)], fun b hq => by
      have e3 : clQ h3 p = some b2 := by rw [clQ, k3 p (by simp; omega) (Ne.symm hb2p)]; simp [clC, ownB]
      rw [e3] at hq
      cases hq
      rw [clQ_at hf]
      rcases o2 b2 rfl with h | h
      · exact .inl (o1 _ h)
      · exact .inr (by omega)⟩
    have hq : P (.one s5) h5 := hP _ _ ⟨ca5, held3.trans (he4.trans he5), as5.from (by have := held3.1; have := he4.1; omega)⟩
    obtain ⟨id, n, seq, busy, row, op, w, g, cached, told, ⟨a1, a2, ⟨a3, a4⟩, a5, a6, a7, a8, a9, a10, a11⟩⟩ := c
    obtain ⟨b1, b3, ⟨b4, b5⟩, b6, b7, b8, b9, b10, b11, b12⟩ := a
    simp only [clC, encTablet] at *
    subst hcode
    simp only [List.length_append, List.length_cons, List.length_nil, Nat.zero_add] at d2 d3
    refine W_doesQ hp rfl rfl rfl Tryz.func37 rfl (by simp [Tryz.f37]) ?_
    simp only [Tryz.f37]
    refine hide ?_; intro Q1 hQ1
    repeat' (first
      | (replace hQ1 := hQ1; simp [hf, hne, hne2, hsp, d1, f1p, f1b, d2, f2p, d3, d4, d5])
      | refine hQ1 _ _ _ ?_
      | (first | refine dF (id := 1) [0, 1, 2, 3, 4, 5, 6, 7, 8, 9, 10, 11, 12] [] ?_ | refine dF (id := 4) [0, 1, 2, 3, 4, 5, 6, 7, 8, 9, 10, 11, 12, 13, 14, 15, 16] [] ?_)
      | (first | apply cF | apply wN | apply wS) <;> intro hcnd <;> (try simp only [hcnd]) <;> (try simp [-List.isEmpty_iff, -List.isEmpty_eq_false_iff] at hcnd))
    all_goals first | exact hq | trace_state
  · have e1 : located c a = (c, false) := by rw [located, if_neg hcond]
    rw [e1] at hP
    have hq : P (.one .nilslc) (h.new ⟨0, [11], true, ansC a⟩) := hP _ _ ⟨ca.new _, ⟨by simp, fun b hb _ _ => by rw [new_at, if_neg (by omega)], fun b hb => .inl (by rw [clQ, new_at, if_neg hne] at hb; exact hb)⟩, .nilslc, rfl, rfl, by simp [ownB]⟩
    obtain ⟨hpn, s, hf, hsl, hos⟩ := ca
    obtain ⟨id, n, seq, busy, row, op, w, g, cached, told, ⟨a1, a2, ⟨a3, a4⟩, a5, a6, a7, a8, a9, a10, a11⟩⟩ := c
    obtain ⟨b1, b3, ⟨b4, b5⟩, b6, b7, b8, b9, b10, b11, b12⟩ := a
    simp only [clC] at *
    by_cases hc : b1 = 0
    · have hh : hasName ⟨b4, b5⟩ row = false := by simpa [hc] using hcond
      rw [hh] at hsp
      subst hc
      refine W_doesQ hp rfl rfl rfl Tryz.func37 rfl (by simp [Tryz.f37]) ?_
      simp only [Tryz.f37]
      refine hide ?_; intro Q2 hQ2
      repeat' (first
        | (replace hQ2 := hQ2; simp [hf, hne, hne2, hsp])
        | refine hQ2 _ _ _ ?_
        | (first | refine dF (id := 1) [0, 1, 2, 3, 4, 5, 6, 7, 8, 9, 10, 11, 12] [] ?_ | refine dF (id := 4) [0, 1, 2, 3, 4, 5, 6, 7, 8, 9, 10, 11, 12, 13, 14, 15, 16] [] ?_)
        | (first | apply cF | apply wN | apply wS) <;> intro hcnd <;> (try simp only [hcnd]) <;> (try simp [-List.isEmpty_iff, -List.isEmpty_eq_false_iff] at hcnd))
      all_goals exact hq
    · have hcb : (b1 != 0) = true := by simp [hc]
      refine W_doesQ hp rfl rfl rfl Tryz.func37 rfl (by simp [Tryz.f37]) ?_
      simp only [Tryz.f37]
      refine hide ?_; intro Q3 hQ3
      repeat' (first
        | (replace hQ3 := hQ3; simp [hf, hne, hne2, hc, hcb])
        | refine hQ3 _ _ _ ?_
        | (first | refine dF (id := 1) [0, 1, 2, 3, 4, 5, 6, 7, 8, 9, 10, 11, 12] [] ?_ | refine dF (id := 4) [0, 1, 2, 3, 4, 5, 6, 7, 8, 9, 10, 11, 12, 13, 14, 15, 16] [] ?_)
        | (first | apply cF | apply wN | apply wS) <;> intro hcnd <;> (try simp only [hcnd]) <;> (try simp [-List.isEmpty_iff, -List.isEmpty_eq_false_iff] at hcnd))
      all_goals exact hq
def answered (c : Cl) (i : Nat) (a : Answer) : Cl × Bool :=
  if a.code = 27 ∨ a.code = 12 then (c, false) else if a.code = 26 ∨ a.code = 4 then ({ c with cached := c.cached.eraseIdx i, w := 1, g := 1 }, a.code == 26) else ({ c with busy := false, told := c.seq, ans := a }, false)
theorem answered_cl {h : H} {p : Nat} {c : Cl} (ca : ClAt h p c) (ok : ClOk c) (a : Answer) (hr : a.rows = none) (i : Nat) (hi : i < c.cached.length) :
    ∃ r, W K 38 [.one (.ptr p 0 0), .one (ii i), .agg (ansC a)] h = some r ∧ Rets (fun v h' => ClAt h' p (answered c i a).1 ∧ Held h h' p ∧ Asks h h' (answered c i a).1 (answered c i a).2 v) r := by
  refine Rets.intro fun P hP => ?_
  have hne : ¬ p = h.next := by have := ca.1; omega
  have hne2 : ¬ h.next = p := by omega
  by_cases k1 : a.code = 27 ∨ a.code = 12
  · have e1 : answered c i a = (c, false) := by rw [answered, if_pos k1]
    rw [e1] at hP
    have hq : P (.one .nilslc) (h.new ⟨0, [11], true, ansC a⟩) := hP _ _ ⟨ca.new _, ⟨by simp, fun b hb _ _ => by rw [new_at, if_neg (by omega)], fun b hb => .inl (by rw [clQ, new_at, if_neg hne] at hb; exact hb)⟩, .nilslc, rfl, rfl, by simp [ownB]⟩
    obtain ⟨b1, b3, ⟨b4, b5⟩, b6, b7, b8, b9, b10, b11, b12⟩ := a
    simp only at k1
    rcases k1 with rfl | rfl
    · refine W_doesQ hp rfl rfl rfl Tryz.func38 rfl (by simp [Tryz.f38]) ?_
      simp only [Tryz.f38]
      refine hide ?_; intro Q4 hQ4
      repeat' (first
        | (replace hQ4 := hQ4; simp)
        | refine hQ4 _ _ _ ?_
        | refine dF (id := 2) [0, 1, 2, 3, 4, 5, 6, 7, 8, 9, 10, 11, 12, 13, 14, 15, 16] [(7, 10), (7, 13)] ?_
        | (first | apply cF | apply wN | apply wS) <;> intro hcnd <;> (try simp only [hcnd]) <;> (try simp [-List.isEmpty_iff, -List.isEmpty_eq_false_iff] at hcnd))
      all_goals exact hq
    · refine W_doesQ hp rfl rfl rfl Tryz.func38 rfl (by simp [Tryz.f38]) ?_
      simp only [Tryz.f38]
      refine hide ?_; intro Q5 hQ5
      repeat' (first
        | (replace hQ5 := hQ5; simp)
        | refine hQ5 _ _ _ ?_
        | refine dF (id := 2) [0, 1, 2, 3, 4, 5, 6, 7, 8, 9, 10, 11, 12, 13, 14, 15, 16] [(7, 10), (7, 13)] ?_
        | (first | apply cF | apply wN | apply wS) <;> intro hcnd <;> (try simp only [hcnd]) <;> (try simp [-List.isEmpty_iff, -List.isEmpty_eq_false_iff] at hcnd))
      all_goals exact hq
  · by_cases k2 : a.code = 26 ∨ a.code = 4
    · have e1 : answered c i a = ({ c with cached := c.cached.eraseIdx i, w := 1, g := 1 }, a.code == 26) := by rw [answered, if_neg k1, if_pos k2]
      rw [e1] at hP
      have ok2 := ok
      obtain ⟨hpn, s, hf, hsl, hos⟩ := ca
      rcases hsl with ⟨rfl, e0⟩ | ⟨b, v, z, rfl, ar⟩
      · rw [e0] at hi; simp at hi
      have hbn := ar.1
      have hbp : b ≠ p := fun e => hos (by rw [e]; rfl)
      obtain ⟨r1, d1, hr1⟩ := eraseTablet_c (ar.new ⟨0, [11], true, ansC a⟩) i hi (by have := ok.cached; omega)
      obtain ⟨v1, h1, rfl, rfl, ⟨z', ar1⟩, n1, f1⟩ := hr1.ret
      have hle : (c.cached.eraseIdx i).length = c.cached.length - 1 := by rw [List.length_eraseIdx]; simp [hi]
      have f1p : h1.f p = some ⟨0, [21], true, clC c (.slc b v 0 c.cached.length 4 none)⟩ := by rw [f1 p (Ne.symm hbp), new_at, if_neg hne]; exact hf
      have f1b : h1.f h.next = some ⟨0, [11], true, ansC a⟩ := by rw [f1 h.next (by omega)]; simp
      have ca2 : ClAt (h1.set p ⟨0, [21], true, clC c (.slc b v 0 (c.cached.length - 1) 4 none)⟩) p { c with cached := c.cached.eraseIdx i } :=
        ⟨by simp [n1]; omega, .slc b v 0 (c.cached.length - 1) 4 none, by simp [clC], .inr ⟨b, v, z', by simp [hle], ar1.keep (by simp) (by rw [set_at, if_neg hbp])⟩, fun e => hbp (by simpa [ownB] using e)⟩
      have held2 : Held h (h1.set p ⟨0, [21], true, clC c (.slc b v 0 (c.cached.length - 1) 4 none)⟩) p := by
        refine ⟨by simp [n1], fun x hx hxp hxq => ?_, fun x hx => .inl ?_⟩
        · have hxb : x ≠ b := fun e => hxq (by rw [clQ_at hf, e]; rfl)
          rw [set_at, if_neg hxp, f1 x hxb, new_at, if_neg (by omega)]
        · rw [clQ_at hf]
          have : clQ (h1.set p ⟨0, [21], true, clC c (.slc b v 0 (c.cached.length - 1) 4 none)⟩) p = some b := by simp [clQ, clC, ownB]
          rw [this] at hx; exact hx
      obtain ⟨h4, d4, ca4, he4, n4⟩ := soon_cl ca2
      have hwi : IntKind.i64.wrap ((i : Int) + 1) = (i : Int) + 1 := step_wrap (by have := ok.cached; omega)
      have hfb4 : h4.f h.next = some ⟨0, [11], true, ansC a⟩ := by
        rw [he4.2.1 h.next (by simp [n1]) (by omega) (fun e => by
          have : clQ (h1.set p ⟨0, [21], true, clC c (.slc b v 0 (c.cached.length - 1) 4 none)⟩) p = some b := by simp [clQ, clC, ownB]
          rw [this] at e; simp at e; omega), set_at, if_neg hne2]
        exact f1b
      rcases k2 with h26 | h4c
      · obtain ⟨s5, h5, d5, as5, ca5, he5⟩ := askN_c ca4 ⟨ok2.id, ok2.n, ok2.seq, ok2.row, ok2.op, ⟨by simp, by simp⟩, ⟨by simp, by simp⟩, by simp; have := ok2.cached; omega⟩
        have hq : P (.one s5) h5 := hP _ _ ⟨ca5, held2.trans (he4.trans he5), by rw [h26]; exact as5.from (by have := held2.1; have := he4.1; omega)⟩
        obtain ⟨id, n, seq, busy, row, op, w, g, cached, told, ⟨a1, a2, ⟨a3, a4⟩, a5, a6, a7, a8, a9, a10, a11⟩⟩ := c
        obtain ⟨b1, b3, ⟨b4, b5⟩, b6, b7, b8, b9, b10, b11, b12⟩ := a
        simp only at h26
        subst h26
        simp only [clC] at *
        refine W_doesQ hp rfl rfl rfl Tryz.func38 rfl (by simp [Tryz.f38]) ?_
        simp only [Tryz.f38]
        refine hide ?_; intro Q6 hQ6
        repeat' (first
          | (replace hQ6 := hQ6; simp [hf, hne, hne2, hwi, d1, f1p, f1b, d4, hfb4, d5])
          | refine hQ6 _ _ _ ?_
          | refine dF (id := 2) [0, 1, 2, 3, 4, 5, 6, 7, 8, 9, 10, 11, 12, 13, 14, 15, 16] [(7, 10), (7, 13)] ?_
          | (first | apply cF | apply wN | apply wS) <;> intro hcnd <;> (try simp only [hcnd]) <;> (try simp [-List.isEmpty_iff, -List.isEmpty_eq_false_iff] at hcnd))
        all_goals first | exact hq | trace_state
      · have hq : P (.one .nilslc) h4 := hP _ _ ⟨ca4, held2.trans he4, by rw [h4c]; exact ⟨.nilslc, rfl, rfl, by simp [ownB]⟩⟩
        obtain ⟨id, n, seq, busy, row, op, w, g, cached, told, ⟨a1, a2, ⟨a3, a4⟩, a5, a6, a7, a8, a9, a10, a11⟩⟩ := c
        obtain ⟨b1, b3, ⟨b4, b5⟩, b6, b7, b8, b9, b10, b11, b12⟩ := a
        simp only at h4c
        subst h4c
        simp only [clC] at *
        refine W_doesQ hp rfl rfl rfl Tryz.func38 rfl (by simp [Tryz.f38]) ?_
        simp only [Tryz.f38]
        refine hide ?_; intro Q7 hQ7
        repeat' (first
          | (replace hQ7 := hQ7; simp [hf, hne, hne2, hwi, d1, f1p, f1b, d4, hfb4])
          | refine hQ7 _ _ _ ?_
          | refine dF (id := 2) [0, 1, 2, 3, 4, 5, 6, 7, 8, 9, 10, 11, 12, 13, 14, 15, 16] [(7, 10), (7, 13)] ?_
          | (first | apply cF | apply wN | apply wS) <;> intro hcnd <;> (try simp only [hcnd]) <;> (try simp [-List.isEmpty_iff, -List.isEmpty_eq_false_iff] at hcnd))
        all_goals first | exact hq | trace_state
    · have e1 : answered c i a = ({ c with busy := false, told := c.seq, ans := a }, false) := by rw [answered, if_neg k1, if_neg k2]
      rw [e1] at hP
      obtain ⟨hpn, s, hf, hsl, hos⟩ := ca
      have hq : P (.one .nilslc) ((h.new ⟨0, [11], true, ansC a⟩).set p ⟨0, [21], true, clC { c with busy := false, told := c.seq, ans := a } s⟩) := hP _ _ ⟨by
        refine clAt_set hpn hsl hos ?_ ?_ ?_ ?_
        · rfl
        · simp
        · intro b hb hbp
          rw [set_at, if_neg hbp, new_at, if_neg (by omega)]
        · simp, held_set hf (by simp; rfl) (by simp) (fun b hb hbp => by rw [set_at, if_neg hbp, new_at, if_neg (by omega)]), .nilslc, rfl, rfl, by simp [ownB]⟩
      obtain ⟨id, n, seq, busy, row, op, w, g, cached, told, ⟨a1, a2, ⟨a3, a4⟩, a5, a6, a7, a8, a9, a10, a11⟩⟩ := c
      obtain ⟨b1, b3, ⟨b4, b5⟩, b6, b7, b8, b9, b10, b11, b12⟩ := a
      simp only at hr
      subst hr
      simp only [clC] at hf hq
      simp only [not_or] at k1 k2
      obtain ⟨k3, k4⟩ := k1
      obtain ⟨k5, k6⟩ := k2
      have b3' : (b1 == 27) = false := by simp [k3]
      have b4' : (b1 == 12) = false := by simp [k4]
      have b5' : (b1 == 26) = false := by simp [k5]
      have b6' : (b1 == 4) = false := by simp [k6]
      refine W_doesQ hp rfl rfl rfl Tryz.func38 rfl (by simp [Tryz.f38]) ?_
      simp only [Tryz.f38]
      refine hide ?_; intro Q8 hQ8
      repeat' (first
        | (replace hQ8 := hQ8; simp [hf, hne, hne2, k3, k4, k5, k6, b3', b4', b5', b6'])
        | refine hQ8 _ _ _ ?_
        | refine dF (id := 2) [0, 1, 2, 3, 4, 5, 6, 7, 8, 9, 10, 11, 12, 13, 14, 15, 16] [(7, 10), (7, 13)] ?_
        | (first | apply cF | apply wN | apply wS) <;> intro hcnd <;> (try simp only [hcnd]) <;> (try simp [-List.isEmpty_iff, -List.isEmpty_eq_false_iff] at hcnd))
      all_goals first | exact hq | trace_state
end Go.Proofs.YtmhbdpgflomihaaGreat
