/- A part of a proof over the abstract machine. No conditions. -/
import Derived.Test.YtmhbdpgflomihaaGreatP4
namespace Go.Proofs.YtmhbdpgflomihaaGreat
open Go Go.Ab Wm NumPlain
set_option linter.unusedSimpArgs false
set_option linter.unnecessarySimpa false
set_option linter.unusedVariables false
set_option maxRecDepth 10000
set_option maxHeartbeats 4000000
def onM (m : Md) (g : Int) (a : Answer) : Md × Bool :=
  if mG m = 0 then
    (if g = 0 ∧ a.code = 0 ∧ hasName a.span m.op.row = true then ({ m with cached := (m.cached.filter fun t => !meet7 t.span a.span) ++ [⟨a.span, a.group, a.gen⟩], gap := 1, wait := 1 }, true) else (m, false))
  else if g = mG m then
    (if a.code = 26 ∨ a.code = 4 then ({ m with cached := m.cached.filter fun t => !meet7 t.span (atT m.cached m.op.row).span, gap := 1, wait := 1 }, a.code == 26)
     else if a.code = 27 ∨ a.code = 12 then (m, false) else ({ m with busy := false, last := m.seq, ans := a }, false))
  else (m, false)
abbrev zC : List AS := [ii 0, ii 0, .str [], .str [], .bool false, .bool false, .str [], ii 0, .nilslc, .flt 0, .nilslc, ii 0, .str [], .str [], ii 0, .str [], ii 0, ii 0, .nilslc]
theorem mW_len (m : Md) : (mW m).length = 19 := by unfold mW; split <;> rfl
theorem on_m {h : H} {p : Nat} {m : Md} (ma : MdAt h p m) (hl : m.cached.length < 1000) (g : Int) (a : Answer) : ∃ r, W K 24 [.one (.ptr p 0 0), .one (ii g), .agg (ansC a)] h = some r ∧ Rets (fun v h' => v = .one (.bool (onM m g a).2) ∧ MdAt h' p (onM m g a).1 ∧ HeldM h h' p) r := by
  refine Rets.intro fun P hP => ?_
  have hpn := ma.1
  have hne : ¬ p = h.next := by omega
  have hne2 : ¬ h.next = p := by omega
  obtain ⟨r1, d1, hr1⟩ := ask_m (ma.new ⟨0, [11], true, ansC a⟩) hl
  obtain ⟨v1, h1, rfl, rfl, n1, k1⟩ := hr1.ret
  simp only [new_next] at n1 k1
  have ma1 : MdAt h1 p m := (ma.new _).keep (by simpa using n1) (by simpa using k1)
  have ma2 := ma1.new ⟨0, [19], true, mW m⟩
  have hk2 : ∀ b, b < h.next → (h1.new ⟨0, [19], true, mW m⟩).f b = h.f b := fun b hb => by rw [new_at, if_neg (by omega), k1 b (by omega), new_at, if_neg (by omega)]
  have held2 : HeldM h (h1.new ⟨0, [19], true, mW m⟩) p := heldM_keep hpn (by simp; omega) hk2
  have hs := new_set h1 ⟨0, [19], true, zC⟩ ⟨0, [19], true, mW m⟩
  have hcl := mW_len m
  have f1a : h1.f h.next = some ⟨0, [11], true, ansC a⟩ := by rw [k1 h.next (by omega)]; simp
  have hn3 : ¬ h.next = h1.next := by omega
  have hn4 : ¬ p = h1.next := by omega
  have hn5 : ¬ h1.next = p := by omega
  have hn6 : ¬ h1.next = h.next := by omega
  have hr := refHas_c a.span.lo a.span.hi m.op.row
  rw [show (⟨a.span.lo, a.span.hi⟩ : Span) = a.span from rfl] at hr
  have hq0 : P (.one (.bool false)) (h1.new ⟨0, [19], true, mW m⟩) ∨ onM m g a ≠ (m, false) := by
    by_cases e : onM m g a = (m, false)
    · rw [e] at hP; exact .inl (hP _ _ ⟨rfl, ma2, held2⟩)
    · exact .inr e
  have hmq : ∀ b, mdQ (h1.new ⟨0, [19], true, mW m⟩) p = some b → b < h.next := fun b hb => by
    obtain ⟨_, s, hf, hsl, _⟩ := ma
    rw [mdQ, hk2 p hpn, ← mdQ, mdQ_at hf] at hb
    exact hsl.lt hb
  have f2a : (h1.new ⟨0, [19], true, mW m⟩).f h.next = some ⟨0, [11], true, ansC a⟩ := by rw [new_at, if_neg hn3]; exact f1a
  by_cases hG : mG m = 0
  · by_cases hc : g = 0 ∧ a.code = 0 ∧ hasName a.span m.op.row = true
    · have e1 : onM m g a = ({ m with cached := (m.cached.filter fun t => !meet7 t.span a.span) ++ [⟨a.span, a.group, a.gen⟩], gap := 1, wait := 1 }, true) := by rw [onM, if_pos hG, if_pos hc]
      rw [e1] at hP
      obtain ⟨rfl, hc2, hc3⟩ := hc
      rw [hc3] at hr
      clear hq0
      obtain ⟨r2, d2, hr2⟩ := forget_m ma2 hl a.span.lo a.span.hi
      obtain ⟨v2, h3, rfl, rfl, ma3, he3⟩ := hr2.ret
      rw [show (⟨a.span.lo, a.span.hi⟩ : Span) = a.span from rfl] at ma3
      have f3a : h3.f h.next = some ⟨0, [11], true, ansC a⟩ := by rw [he3.2.1 h.next (by simp; omega) hne2 (fun e => by have := hmq _ e; omega)]; exact f2a
      have hl3 := List.length_filter_le (fun t : Tablet => !meet7 t.span a.span) m.cached
      generalize hF : (m.cached.filter fun t => !meet7 t.span a.span) = F at *
      obtain ⟨hp3, s3, hf3, hsl3, hos3⟩ := ma3
      have hn7 : h.next < h3.next := by have := he3.1; simp at this; omega
      have hn8 : ¬ p = h3.next := by omega
      have hn9 : ¬ h3.next = p := by omega
      obtain ⟨s4, h4, d4, ⟨b4, v4, z4, rfl, ar4⟩, n4, k4, o4⟩ := arr_append (P := Tryz.prog) (t := 66) Tryz.underlying66 (by simp) (by simp) Tryz.bytes99 (by omega) len_tablet (a := .slc h3.next 0 0 1 4 none) (m := [(⟨a.span, a.group, a.gen⟩ : Tablet)]) (hsl3.keep (h' := h3.new ⟨0, [4], true, encTablet ⟨a.span, a.group, a.gen⟩⟩) (by simp) fun b hb => by rw [new_at, if_neg (by have := hsl3.lt hb; omega)]) rfl (by simp [elemsOf, cat, encTablet]) (by simp) (by simp only [List.length_cons, List.length_nil, limit]; omega)
      simp only [new_next] at n4 k4 o4
      have f4p : h4.f p = some ⟨0, [30], true, mdC { m with cached := F } s3⟩ := by rw [k4 p (by omega) hos3, new_at, if_neg hn8]; exact hf3
      have hb4 : b4 ≠ p := fun e => by
        rcases o4 b4 rfl with h | h
        · exact hos3 (by rw [← e]; exact h)
        · omega
      have hq : P (.one (.bool true)) (h4.set p ⟨0, [30], true, mdC { m with cached := F ++ [⟨a.span, a.group, a.gen⟩], gap := 1, wait := 1 } (.slc b4 v4 0 (F ++ [(⟨a.span, a.group, a.gen⟩ : Tablet)]).length 4 none)⟩) := by
        refine hP _ _ ⟨rfl, ⟨by simp; omega, _, by simp, .inr ⟨b4, v4, z4, rfl, ar4.keep (by simp) (by rw [set_at, if_neg hb4])⟩, fun e => hb4 (by simpa [ownB] using e)⟩, (held2.trans he3).trans ⟨by simp; omega, fun b hb hbp hbq => ?_, fun b hb => ?_⟩⟩
        · rw [mdQ_at hf3] at hbq
          rw [set_at, if_neg hbp, k4 b (by omega) hbq, new_at, if_neg (by omega)]
        · rw [mdQ_at (m := { m with cached := F ++ [⟨a.span, a.group, a.gen⟩], gap := 1, wait := 1 }) (s := .slc b4 v4 0 (F ++ [(⟨a.span, a.group, a.gen⟩ : Tablet)]).length 4 none) (by simp)] at hb
          rw [mdQ_at hf3]
          rcases o4 b hb with e | e
          · exact .inl e
          · exact .inr (by omega)
      obtain ⟨_, s, hf, _, _⟩ := ma1
      clear hP held2 he3 ma ma2 hr1 hr2 hsl3 ar4 e1 hk2 hmq n4 k4 o4 k1 hl3 hF
      generalize mW m = CW at *
      generalize mG m = G at *
      subst hG
      obtain ⟨id, n, seq, gap, wait, busy, ⟨m_kind, m_row, m_hi, ⟨m_has, m_want, m_col, ⟨m_vk, m_vb, m_vn⟩⟩, m_l, m_most⟩, cached, last, ⟨a1, a2, ⟨a3, a4⟩, a5, a6, a7, a8, a9, a10, a11⟩⟩ := m
      obtain ⟨b1, b3, ⟨b4', b5⟩, b6, b7, b8, b9, b10, b11, b12⟩ := a
      simp only at hc2
      subst hc2
      simp only [mdC, encTablet] at *
      simp only [List.length_append, List.length_cons, List.length_nil, Nat.zero_add] at hq d4
      refine W_doesQ hp rfl rfl rfl Tryz.func24 rfl (by simp [Tryz.f24]) ?_
      simp only [Tryz.f24]
      refine hide ?_; intro Q1 hQ1
      repeat' (first
        | (replace hQ1 := hQ1; simp [hne, hne2, d1, hs, hcl, f1a, hn3, hn4, hn5, hn6, hr, hf, d2, f3a, hf3, hn8, hn9, d4, f4p])
        | refine hQ1 _ _ _ ?_
        | (first | refine dF (id := 3) [0, 1, 2, 3, 4, 5, 6, 7, 8, 9, 10, 11, 12, 13, 14, 15, 16, 17] [] ?_ | refine dF (id := 6) [0, 1, 2, 3, 4, 5, 6, 7, 8, 9, 10, 11, 12, 13, 14, 15, 16] [] ?_ | refine dF (id := 20) [0, 1, 2, 3, 4, 5, 6, 7, 8, 9, 10, 11, 12, 13, 14, 15, 16] [(7, 10), (7, 13)] ?_)
        | (first | apply cF | apply wN | apply wS) <;> intro hcnd <;> (try simp only [hcnd]) <;> (try simp [-List.isEmpty_iff, -List.isEmpty_eq_false_iff] at hcnd))
      all_goals first | exact hq | trace_state
    · have e1 : onM m g a = (m, false) := by rw [onM, if_pos hG, if_neg hc]
      have hq : P (.one (.bool false)) (h1.new ⟨0, [19], true, mW m⟩) := hq0.resolve_right (fun e => e e1)
      obtain ⟨_, s, hf, _, _⟩ := ma1
      clear hP held2 ma ma2 hr1 hq0 e1 hk2 hmq k1
      generalize mW m = CW at *
      generalize mG m = G at *
      subst hG
      obtain ⟨id, n, seq, gap, wait, busy, ⟨m_kind, m_row, m_hi, ⟨m_has, m_want, m_col, ⟨m_vk, m_vb, m_vn⟩⟩, m_l, m_most⟩, cached, last, ⟨a1, a2, ⟨a3, a4⟩, a5, a6, a7, a8, a9, a10, a11⟩⟩ := m
      obtain ⟨b1, b3, ⟨b4', b5⟩, b6, b7, b8, b9, b10, b11, b12⟩ := a
      simp only [mdC] at *
      by_cases hg : g = 0
      · subst hg
        by_cases hb : b1 = 0
        · subst hb
          have hh : hasName ⟨b4', b5⟩ m_row = false := by simpa using hc
          rw [hh] at hr
          refine W_doesQ hp rfl rfl rfl Tryz.func24 rfl (by simp [Tryz.f24]) ?_
          simp only [Tryz.f24]
          refine hide ?_; intro Q2 hQ2
          repeat' (first
            | (replace hQ2 := hQ2; simp [hne, hne2, d1, hs, hcl, f1a, hn3, hn4, hn5, hn6, hr, hf])
            | refine hQ2 _ _ _ ?_
            | (first | refine dF (id := 3) [0, 1, 2, 3, 4, 5, 6, 7, 8, 9, 10, 11, 12, 13, 14, 15, 16, 17] [] ?_ | refine dF (id := 6) [0, 1, 2, 3, 4, 5, 6, 7, 8, 9, 10, 11, 12, 13, 14, 15, 16] [] ?_ | refine dF (id := 20) [0, 1, 2, 3, 4, 5, 6, 7, 8, 9, 10, 11, 12, 13, 14, 15, 16] [(7, 10), (7, 13)] ?_)
            | (first | apply cF | apply wN | apply wS) <;> intro hcnd <;> (try simp only [hcnd]) <;> (try simp [-List.isEmpty_iff, -List.isEmpty_eq_false_iff] at hcnd))
          all_goals first | exact hq | trace_state
        · have hb2 : (b1 != 0) = true := by simp [hb]
          refine W_doesQ hp rfl rfl rfl Tryz.func24 rfl (by simp [Tryz.f24]) ?_
          simp only [Tryz.f24]
          refine hide ?_; intro Q3 hQ3
          repeat' (first
            | (replace hQ3 := hQ3; simp [hne, hne2, d1, hs, hcl, f1a, hn3, hn4, hn5, hn6, hr, hf, hb, hb2])
            | refine hQ3 _ _ _ ?_
            | (first | refine dF (id := 3) [0, 1, 2, 3, 4, 5, 6, 7, 8, 9, 10, 11, 12, 13, 14, 15, 16, 17] [] ?_ | refine dF (id := 6) [0, 1, 2, 3, 4, 5, 6, 7, 8, 9, 10, 11, 12, 13, 14, 15, 16] [] ?_ | refine dF (id := 20) [0, 1, 2, 3, 4, 5, 6, 7, 8, 9, 10, 11, 12, 13, 14, 15, 16] [(7, 10), (7, 13)] ?_)
            | (first | apply cF | apply wN | apply wS) <;> intro hcnd <;> (try simp only [hcnd]) <;> (try simp [-List.isEmpty_iff, -List.isEmpty_eq_false_iff] at hcnd))
          all_goals first | exact hq | trace_state
      · have hg2 : (g != 0) = true := by simp [hg]
        refine W_doesQ hp rfl rfl rfl Tryz.func24 rfl (by simp [Tryz.f24]) ?_
        simp only [Tryz.f24]
        refine hide ?_; intro Q4 hQ4
        repeat' (first
          | (replace hQ4 := hQ4; simp [hne, hne2, d1, hs, hcl, f1a, hn3, hn4, hn5, hn6, hr, hf, hg, hg2])
          | refine hQ4 _ _ _ ?_
          | (first | refine dF (id := 3) [0, 1, 2, 3, 4, 5, 6, 7, 8, 9, 10, 11, 12, 13, 14, 15, 16, 17] [] ?_ | refine dF (id := 6) [0, 1, 2, 3, 4, 5, 6, 7, 8, 9, 10, 11, 12, 13, 14, 15, 16] [] ?_ | refine dF (id := 20) [0, 1, 2, 3, 4, 5, 6, 7, 8, 9, 10, 11, 12, 13, 14, 15, 16] [(7, 10), (7, 13)] ?_)
          | (first | apply cF | apply wN | apply wS) <;> intro hcnd <;> (try simp only [hcnd]) <;> (try simp [-List.isEmpty_iff, -List.isEmpty_eq_false_iff] at hcnd))
        all_goals first | exact hq | trace_state
  · have hGb : (mG m == 0) = false := by simp [hG]
    by_cases hg : g = mG m
    · subst hg
      by_cases k2c : a.code = 26 ∨ a.code = 4
      · have e1 : onM m (mG m) a = ({ m with cached := m.cached.filter fun t => !meet7 t.span (atT m.cached m.op.row).span, gap := 1, wait := 1 }, a.code == 26) := by rw [onM, if_neg hG, if_pos rfl, if_pos k2c]
        rw [e1] at hP
        clear hq0
        have hat := at_c ma2 hl m.op.row
        generalize atT m.cached m.op.row = T at *
        obtain ⟨⟨tlo, thi⟩, tg, tn⟩ := T
        obtain ⟨r2, d2, hr2⟩ := forget_m ma2 hl tlo thi
        obtain ⟨v2, h3, rfl, rfl, ma3, he3⟩ := hr2.ret
        have f3a : h3.f h.next = some ⟨0, [11], true, ansC a⟩ := by rw [he3.2.1 h.next (by simp; omega) hne2 (fun e => by have := hmq _ e; omega)]; exact f2a
        generalize hF : (m.cached.filter fun t => !meet7 t.span ⟨tlo, thi⟩) = F at *
        obtain ⟨hp3, s3, hf3, hsl3, hos3⟩ := ma3
        have hq : P (.one (.bool (a.code == 26))) (h3.set p ⟨0, [30], true, mdC { m with cached := F, gap := 1, wait := 1 } s3⟩) := by
          have q1 : MdAt (h3.set p ⟨0, [30], true, mdC { m with cached := F, gap := 1, wait := 1 } s3⟩) p { m with cached := F, gap := 1, wait := 1 } := mdAt_set (m := { m with cached := F }) (m' := { m with cached := F, gap := 1, wait := 1 }) hp3 hsl3 hos3 rfl (by simp) (fun b hb hbp => by rw [set_at, if_neg hbp]) (by simp)
          have q2 : HeldM h3 (h3.set p ⟨0, [30], true, mdC { m with cached := F, gap := 1, wait := 1 } s3⟩) p := heldM_set (m' := { m with cached := F, gap := 1, wait := 1 }) hf3 (by simp) (by simp) fun b hb hbp => by rw [set_at, if_neg hbp]
          exact hP _ _ ⟨rfl, q1, (held2.trans he3).trans q2⟩
        obtain ⟨_, s, hf, _, _⟩ := ma1
        clear hP held2 he3 ma ma2 hr1 hr2 hsl3 e1 hk2 hmq k1 hF
        generalize mW m = CW at *
        generalize mG m = G at *
        obtain ⟨id, n, seq, gap, wait, busy, ⟨m_kind, m_row, m_hi, ⟨m_has, m_want, m_col, ⟨m_vk, m_vb, m_vn⟩⟩, m_l, m_most⟩, cached, last, ⟨a1, a2, ⟨a3, a4⟩, a5, a6, a7, a8, a9, a10, a11⟩⟩ := m
        obtain ⟨b1, b3, ⟨b4', b5⟩, b6, b7, b8, b9, b10, b11, b12⟩ := a
        simp only at k2c
        simp only [mdC, encTablet] at *
        rcases k2c with rfl | rfl
        · refine W_doesQ hp rfl rfl rfl Tryz.func24 rfl (by simp [Tryz.f24]) ?_
          simp only [Tryz.f24]
          refine hide ?_; intro Q5 hQ5
          repeat' (first
            | (replace hQ5 := hQ5; simp [hne, hne2, d1, hs, hcl, f1a, hn3, hn4, hn5, hn6, hr, hf, hG, hGb, hat, d2, f3a, hf3])
            | refine hQ5 _ _ _ ?_
            | (first | refine dF (id := 3) [0, 1, 2, 3, 4, 5, 6, 7, 8, 9, 10, 11, 12, 13, 14, 15, 16, 17] [] ?_ | refine dF (id := 6) [0, 1, 2, 3, 4, 5, 6, 7, 8, 9, 10, 11, 12, 13, 14, 15, 16] [] ?_ | refine dF (id := 20) [0, 1, 2, 3, 4, 5, 6, 7, 8, 9, 10, 11, 12, 13, 14, 15, 16] [(7, 10), (7, 13)] ?_)
            | (first | apply cF | apply wN | apply wS) <;> intro hcnd <;> (try simp only [hcnd]) <;> (try simp [-List.isEmpty_iff, -List.isEmpty_eq_false_iff] at hcnd))
          all_goals first | exact hq | trace_state
        · refine W_doesQ hp rfl rfl rfl Tryz.func24 rfl (by simp [Tryz.f24]) ?_
          simp only [Tryz.f24]
          refine hide ?_; intro Q6 hQ6
          repeat' (first
            | (replace hQ6 := hQ6; simp [hne, hne2, d1, hs, hcl, f1a, hn3, hn4, hn5, hn6, hr, hf, hG, hGb, hat, d2, f3a, hf3])
            | refine hQ6 _ _ _ ?_
            | (first | refine dF (id := 3) [0, 1, 2, 3, 4, 5, 6, 7, 8, 9, 10, 11, 12, 13, 14, 15, 16, 17] [] ?_ | refine dF (id := 6) [0, 1, 2, 3, 4, 5, 6, 7, 8, 9, 10, 11, 12, 13, 14, 15, 16] [] ?_ | refine dF (id := 20) [0, 1, 2, 3, 4, 5, 6, 7, 8, 9, 10, 11, 12, 13, 14, 15, 16] [(7, 10), (7, 13)] ?_)
            | (first | apply cF | apply wN | apply wS) <;> intro hcnd <;> (try simp only [hcnd]) <;> (try simp [-List.isEmpty_iff, -List.isEmpty_eq_false_iff] at hcnd))
          all_goals first | exact hq | trace_state
      · by_cases k1c : a.code = 27 ∨ a.code = 12
        · have e1 : onM m (mG m) a = (m, false) := by rw [onM, if_neg hG, if_pos rfl, if_neg k2c, if_pos k1c]
          have hq : P (.one (.bool false)) (h1.new ⟨0, [19], true, mW m⟩) := hq0.resolve_right (fun e => e e1)
          obtain ⟨_, s, hf, _, _⟩ := ma1
          clear hP held2 ma ma2 hr1 hq0 e1 hk2 hmq k1 k2c
          generalize mW m = CW at *
          generalize mG m = G at *
          obtain ⟨id, n, seq, gap, wait, busy, ⟨m_kind, m_row, m_hi, ⟨m_has, m_want, m_col, ⟨m_vk, m_vb, m_vn⟩⟩, m_l, m_most⟩, cached, last, ⟨a1, a2, ⟨a3, a4⟩, a5, a6, a7, a8, a9, a10, a11⟩⟩ := m
          obtain ⟨b1, b3, ⟨b4', b5⟩, b6, b7, b8, b9, b10, b11, b12⟩ := a
          simp only at k1c
          simp only [mdC] at *
          rcases k1c with rfl | rfl
          · refine W_doesQ hp rfl rfl rfl Tryz.func24 rfl (by simp [Tryz.f24]) ?_
            simp only [Tryz.f24]
            refine hide ?_; intro Q7 hQ7
            repeat' (first
              | (replace hQ7 := hQ7; simp [hne, hne2, d1, hs, hcl, f1a, hn3, hn4, hn5, hn6, hr, hf, hG, hGb])
              | refine hQ7 _ _ _ ?_
              | (first | refine dF (id := 3) [0, 1, 2, 3, 4, 5, 6, 7, 8, 9, 10, 11, 12, 13, 14, 15, 16, 17] [] ?_ | refine dF (id := 6) [0, 1, 2, 3, 4, 5, 6, 7, 8, 9, 10, 11, 12, 13, 14, 15, 16] [] ?_ | refine dF (id := 20) [0, 1, 2, 3, 4, 5, 6, 7, 8, 9, 10, 11, 12, 13, 14, 15, 16] [(7, 10), (7, 13)] ?_)
              | (first | apply cF | apply wN | apply wS) <;> intro hcnd <;> (try simp only [hcnd]) <;> (try simp [-List.isEmpty_iff, -List.isEmpty_eq_false_iff] at hcnd))
            all_goals first | exact hq | trace_state
          · refine W_doesQ hp rfl rfl rfl Tryz.func24 rfl (by simp [Tryz.f24]) ?_
            simp only [Tryz.f24]
            refine hide ?_; intro Q8 hQ8
            repeat' (first
              | (replace hQ8 := hQ8; simp [hne, hne2, d1, hs, hcl, f1a, hn3, hn4, hn5, hn6, hr, hf, hG, hGb])
              | refine hQ8 _ _ _ ?_
              | (first | refine dF (id := 3) [0, 1, 2, 3, 4, 5, 6, 7, 8, 9, 10, 11, 12, 13, 14, 15, 16, 17] [] ?_ | refine dF (id := 6) [0, 1, 2, 3, 4, 5, 6, 7, 8, 9, 10, 11, 12, 13, 14, 15, 16] [] ?_ | refine dF (id := 20) [0, 1, 2, 3, 4, 5, 6, 7, 8, 9, 10, 11, 12, 13, 14, 15, 16] [(7, 10), (7, 13)] ?_)
              | (first | apply cF | apply wN | apply wS) <;> intro hcnd <;> (try simp only [hcnd]) <;> (try simp [-List.isEmpty_iff, -List.isEmpty_eq_false_iff] at hcnd))
            all_goals first | exact hq | trace_state
        · have e1 : onM m (mG m) a = ({ m with busy := false, last := m.seq, ans := a }, false) := by rw [onM, if_neg hG, if_pos rfl, if_neg k2c, if_neg k1c]
          rw [e1] at hP
          clear hq0
          obtain ⟨hp1, s, hf, hsl, hos⟩ := ma1
          have hf2 : (h1.new ⟨0, [19], true, mW m⟩).f p = some ⟨0, [30], true, mdC m s⟩ := by rw [new_at, if_neg hn4]; exact hf
          have hq : P (.one (.bool false)) ((h1.new ⟨0, [19], true, mW m⟩).set p ⟨0, [30], true, mdC { m with busy := false, last := m.seq, ans := a } s⟩) := by
            have q1 : MdAt ((h1.new ⟨0, [19], true, mW m⟩).set p ⟨0, [30], true, mdC { m with busy := false, last := m.seq, ans := a } s⟩) p { m with busy := false, last := m.seq, ans := a } := mdAt_set (h := h1) (m := m) (m' := { m with busy := false, last := m.seq, ans := a }) hp1 hsl hos rfl (by simp) (fun b hb hbp => by rw [set_at, if_neg hbp, new_at, if_neg (by omega)]) (by simp)
            have q2 : HeldM (h1.new ⟨0, [19], true, mW m⟩) ((h1.new ⟨0, [19], true, mW m⟩).set p ⟨0, [30], true, mdC { m with busy := false, last := m.seq, ans := a } s⟩) p := heldM_set (m' := { m with busy := false, last := m.seq, ans := a }) hf2 (by simp) (by simp) fun b hb hbp => by rw [set_at, if_neg hbp]
            exact hP _ _ ⟨rfl, q1, held2.trans q2⟩
          clear hP held2 ma ma2 hr1 hsl e1 hk2 hmq k1
          generalize mW m = CW at *
          generalize mG m = G at *
          obtain ⟨id, n, seq, gap, wait, busy, ⟨m_kind, m_row, m_hi, ⟨m_has, m_want, m_col, ⟨m_vk, m_vb, m_vn⟩⟩, m_l, m_most⟩, cached, last, ⟨a1, a2, ⟨a3, a4⟩, a5, a6, a7, a8, a9, a10, a11⟩⟩ := m
          obtain ⟨b1, b3, ⟨b4', b5⟩, b6, b7, b8, b9, b10, b11, b12⟩ := a
          simp only [mdC] at *
          simp only [not_or] at k1c k2c
          obtain ⟨k3, k4⟩ := k1c
          obtain ⟨k5, k6⟩ := k2c
          have b3' : (b1 == 27) = false := by simp [k3]
          have b4'' : (b1 == 12) = false := by simp [k4]
          have b5' : (b1 == 26) = false := by simp [k5]
          have b6' : (b1 == 4) = false := by simp [k6]
          refine W_doesQ hp rfl rfl rfl Tryz.func24 rfl (by simp [Tryz.f24]) ?_
          simp only [Tryz.f24]
          refine hide ?_; intro Q9 hQ9
          repeat' (first
            | (replace hQ9 := hQ9; simp [hne, hne2, d1, hs, hcl, f1a, hn3, hn4, hn5, hn6, hr, hf, hG, hGb, k3, k4, k5, k6, b3', b4'', b5', b6'])
            | refine hQ9 _ _ _ ?_
            | (first | refine dF (id := 3) [0, 1, 2, 3, 4, 5, 6, 7, 8, 9, 10, 11, 12, 13, 14, 15, 16, 17] [] ?_ | refine dF (id := 6) [0, 1, 2, 3, 4, 5, 6, 7, 8, 9, 10, 11, 12, 13, 14, 15, 16] [] ?_ | refine dF (id := 20) [0, 1, 2, 3, 4, 5, 6, 7, 8, 9, 10, 11, 12, 13, 14, 15, 16] [(7, 10), (7, 13)] ?_)
            | (first | apply cF | apply wN | apply wS) <;> intro hcnd <;> (try simp only [hcnd]) <;> (try simp [-List.isEmpty_iff, -List.isEmpty_eq_false_iff] at hcnd))
          all_goals first | exact hq | trace_state
    · have e1 : onM m g a = (m, false) := by rw [onM, if_neg hG, if_neg hg]
      have hq : P (.one (.bool false)) (h1.new ⟨0, [19], true, mW m⟩) := hq0.resolve_right (fun e => e e1)
      have hg2 : (g != mG m) = true := by simp [hg]
      obtain ⟨_, s, hf, _, _⟩ := ma1
      clear hP held2 ma ma2 hr1 hq0 e1 hk2 hmq k1
      generalize mW m = CW at *
      generalize mG m = G at *
      obtain ⟨id, n, seq, gap, wait, busy, ⟨m_kind, m_row, m_hi, ⟨m_has, m_want, m_col, ⟨m_vk, m_vb, m_vn⟩⟩, m_l, m_most⟩, cached, last, ⟨a1, a2, ⟨a3, a4⟩, a5, a6, a7, a8, a9, a10, a11⟩⟩ := m
      obtain ⟨b1, b3, ⟨b4', b5⟩, b6, b7, b8, b9, b10, b11, b12⟩ := a
      simp only [mdC] at *
      refine W_doesQ hp rfl rfl rfl Tryz.func24 rfl (by simp [Tryz.f24]) ?_
      simp only [Tryz.f24]
      refine hide ?_; intro Q10 hQ10
      repeat' (first
        | (replace hQ10 := hQ10; simp [hne, hne2, d1, hs, hcl, f1a, hn3, hn4, hn5, hn6, hr, hf, hG, hGb, hg, hg2])
        | refine hQ10 _ _ _ ?_
        | (first | refine dF (id := 3) [0, 1, 2, 3, 4, 5, 6, 7, 8, 9, 10, 11, 12, 13, 14, 15, 16, 17] [] ?_ | refine dF (id := 6) [0, 1, 2, 3, 4, 5, 6, 7, 8, 9, 10, 11, 12, 13, 14, 15, 16] [] ?_ | refine dF (id := 20) [0, 1, 2, 3, 4, 5, 6, 7, 8, 9, 10, 11, 12, 13, 14, 15, 16] [(7, 10), (7, 13)] ?_)
        | (first | apply cF | apply wN | apply wS) <;> intro hcnd <;> (try simp only [hcnd]) <;> (try simp [-List.isEmpty_iff, -List.isEmpty_eq_false_iff] at hcnd))
      all_goals first | exact hq | trace_state
end Go.Proofs.YtmhbdpgflomihaaGreat
