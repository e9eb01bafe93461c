/- A part of a proof over the abstract machine. No conditions. -/
import Derived.Test.YtmhbdpgflomihaaGreatK1
import Derived.Test.YtmhbdpgflomihaaGreatA1
import Derived.Test.YtmhbdpgflomihaaGreatAb5
namespace Go.Proofs.YtmhbdpgflomihaaGreat
open Go Go.Ab Wm NumPlain
set_option linter.unusedSimpArgs false
set_option linter.unnecessarySimpa false
set_option linter.unusedVariables false
set_option maxRecDepth 10000
set_option maxHeartbeats 4000000
def clQ (h : H) (p : Nat) : Option Nat := match h.f p with | some k => (k.cells[8]?).bind ownB | none => none
theorem clQ_at {h : H} {p : Nat} {c : Cl} {s : AS} (hf : h.f p = some ⟨0, [21], true, clC c s⟩) : clQ h p = ownB s := by simp [clQ, hf, clC]
def Held (h h' : H) (p : Nat) : Prop := h.next ≤ h'.next ∧ (∀ b, b < h.next → b ≠ p → clQ h p ≠ some b → h'.f b = h.f b) ∧ ∀ b, clQ h' p = some b → clQ h p = some b ∨ h.next ≤ b
theorem held_set {h h' : H} {p : Nat} {c c' : Cl} {s : AS} (hf : h.f p = some ⟨0, [21], true, clC c s⟩) (hb : h'.f p = some ⟨0, [21], true, clC c' s⟩) (hn : h.next ≤ h'.next) (hk : ∀ b, b < h.next → b ≠ p → h'.f b = h.f b) : Held h h' p :=
  ⟨hn, fun b h1 h2 _ => hk b h1 h2, fun b hq => by rw [clQ_at hb] at hq; rw [clQ_at hf]; exact .inl hq⟩
theorem clAt_set {h : H} {p : Nat} {c c' : Cl} {s : AS} (hp1 : p < h.next) (hs : Sl h 4 encTablet s c.cached) (ho : ownB s ≠ some p) (hc : c'.cached = c.cached) {h' : H} (hn : h.next ≤ h'.next) (hf : ∀ b, b < h.next → b ≠ p → h'.f b = h.f b) (hb : h'.f p = some ⟨0, [21], true, clC c' s⟩) : ClAt h' p c' :=
  ⟨by omega, s, hb, by rw [hc]; exact hs.keep hn fun b hb' => hf b (hs.lt hb') (fun e => ho (e ▸ hb')), ho⟩
theorem busy_cl {h : H} {p : Nat} {c : Cl} (ca : ClAt h p c) : W K 18 [.one (.ptr p 0 0)] h = some (.ret (.one (.bool c.busy)) h) := by
  obtain ⟨o, _, hv⟩ := view_cl ca
  refine Fun.view hp (r := fun h => .ret (.one (.bool c.busy)) h) ?_ hv
  have hpv := pure_clC (st := false) c o
  have g3 : sub (clC c (sl 4 encTablet o)) 3 1 = some [.bool c.busy] := rfl
  simp only [clV]
  generalize clC c (sl 4 encTablet o) = M at *
  have hown : memL S.own 18 = false := by kernel_rfl
  refine ⟨by simp [pureV, hpv, g3, outV, frzV, frzS, frzS_pure, frzP, pureS, pureL, K_own, hown], fun hh => apart_does rfl rfl (by kernel_rfl) Tryz.func18 rfl (by simp [Tryz.f18]) ?_⟩
  simp only [Tryz.f18]
  refine hide ?_; intro Q1 hQ1
  repeat' (first
    | (replace hQ1 := hQ1; simp [hpv, g3, outV, frzV, frzS, frzS_pure, frzP, pureS, pureL, K_own, hown])
    | refine hQ1 _ _ _ ?_)
theorem new_cl (id n : Int) (h0 : 0 ≤ id ∧ id < 4) (hn : n = 1 ∨ n = 3 ∨ n = 5) (h : H) : W K 6 [.one (ii id), .one (ii n)] h = some (.ret (.one (.ptr h.next 0 0)) (h.new ⟨0, [21], true, clC ⟨id, n, 0, false, [], none, 0, 0, [], 0, ⟨0, none, ⟨[], []⟩, 0, 0, 0, 0, 0, [], none⟩⟩ .nilslc⟩)) := by
  have hd1 : decide (id < 0) = false := by simp; omega
  have hd2 : decide (4 ≤ id) = false := by simp; omega
  have hd3 : ¬ id < 0 := by omega
  have hd4 : ¬ 4 ≤ id := by omega
  rcases hn with rfl | rfl | rfl
  · refine W_does hp rfl rfl rfl Tryz.func6 rfl (by simp [Tryz.f6]) ?_
    simp only [Tryz.f6]
    refine hide ?_; intro Q2 hQ2
    repeat' (first
      | (replace hQ2 := hQ2; simp [hd1, hd2, hd3, hd4])
      | refine hQ2 _ _ _ ?_
      | (first | apply cF | apply wN | apply wS) <;> intro hcnd <;> (try simp only [hcnd]) <;> (try simp [-List.isEmpty_iff, -List.isEmpty_eq_false_iff] at hcnd))
    all_goals rfl
  · refine W_does hp rfl rfl rfl Tryz.func6 rfl (by simp [Tryz.f6]) ?_
    simp only [Tryz.f6]
    refine hide ?_; intro Q3 hQ3
    repeat' (first
      | (replace hQ3 := hQ3; simp [hd1, hd2, hd3, hd4])
      | refine hQ3 _ _ _ ?_
      | (first | apply cF | apply wN | apply wS) <;> intro hcnd <;> (try simp only [hcnd]) <;> (try simp [-List.isEmpty_iff, -List.isEmpty_eq_false_iff] at hcnd))
    all_goals rfl
  · refine W_does hp rfl rfl rfl Tryz.func6 rfl (by simp [Tryz.f6]) ?_
    simp only [Tryz.f6]
    refine hide ?_; intro Q4 hQ4
    repeat' (first
      | (replace hQ4 := hQ4; simp [hd1, hd2, hd3, hd4])
      | refine hQ4 _ _ _ ?_
      | (first | apply cF | apply wN | apply wS) <;> intro hcnd <;> (try simp only [hcnd]) <;> (try simp [-List.isEmpty_iff, -List.isEmpty_eq_false_iff] at hcnd))
    all_goals rfl
theorem submit_cl (o_kind : Int) (o_row : BL) (o_hi : BL) (o_cond_has : Bool) (o_cond_want : Bool) (o_cond_col : BL) (o_cond_v_kind : Int) (o_cond_v_b : Option BL) (o_cond_v_n : Nat) (o_l : Option (List Change)) (o_most : Int) (ho : OpIs ⟨o_kind, o_row, o_hi, ⟨o_cond_has, o_cond_want, o_cond_col, ⟨o_cond_v_kind, o_cond_v_b, o_cond_v_n⟩⟩, o_l, o_most⟩) {h : H} {p : Nat} {c : Cl} (ca : ClAt h p c) (hs : 0 ≤ c.seq ∧ c.seq < 1000) :
    ∃ r, W K 7 [.one (.ptr p 0 0), .agg [ii o_kind, .str o_row, .str o_hi, .bool o_cond_has, .bool o_cond_want, .str o_cond_col, ii o_cond_v_kind, bs o_cond_v_b, .flt o_cond_v_n, sl 6 encChange o_l, ii o_most]] h = some r ∧ Rets (fun v h' => if c.busy then v = .tup [(false, [ii 0]), (false, [ii 4])] ∧ h' = h.new ⟨0, [11], true, [ii o_kind, .str o_row, .str o_hi, .bool o_cond_has, .bool o_cond_want, .str o_cond_col, ii o_cond_v_kind, bs o_cond_v_b, .flt o_cond_v_n, sl 6 encChange o_l, ii o_most]⟩ else v = .tup [(false, [ii (c.seq + 1)]), (false, [ii 0])] ∧ ClAt h' p { c with seq := c.seq + 1, busy := true, row := o_row, op := some (u8 1 :: encOpB ⟨o_kind, o_row, o_hi, ⟨o_cond_has, o_cond_want, o_cond_col, ⟨o_cond_v_kind, o_cond_v_b, o_cond_v_n⟩⟩, o_l, o_most⟩), w := 0, g := 0 } ∧ Held h h' p) r := by
  refine Rets.intro fun P hP => ?_
  have hl0 := encOp_len ho
  obtain ⟨g1, g2, g3, g4, g5, g6, g7⟩ := ho
  have he := fun h => encode_op o_kind o_row o_hi o_cond_has o_cond_want o_cond_col o_cond_v_kind o_cond_v_b o_cond_v_n o_l o_most g1 (by simp at g2; omega) (by simp at g3; omega) (by simp at g4; omega) (by simp at g5; omega) (fun c hc => by have := g6 c hc; omega) (by simp at g7; omega) [] [] [] 0 0 0 none (by simp only [List.length_cons, List.length_nil]; omega) h
  simp only [bs_none] at he
  obtain ⟨hpn, s, hf, hsl, hos⟩ := ca
  have hw : IntKind.i64.wrap (c.seq + 1) = c.seq + 1 := wrap_i64 (by omega) (by omega)
  have hne : ¬ p = h.next := by omega
  have hne2 : ¬ h.next = p := by omega
  have hd : decide (1073741824 ≤ c.seq) = false := by simp; omega
  have hd2 : ¬ 1073741824 ≤ c.seq := by omega
  obtain ⟨id, n, seq, busy, row, op, w, g, cached, told, ⟨a1, a2, ⟨a3, a4⟩, a5, a6, a7, a8, a9, a10, a11⟩⟩ := c
  simp only [clC] at hf
  simp only at hw hd hd2
  cases busy
  · refine W_doesQ hp rfl rfl rfl Tryz.func7 rfl (by simp [Tryz.f7]) ?_
    simp only [Tryz.f7]
    refine hide ?_; intro Q5 hQ5
    repeat' (first
      | (replace hQ5 := hQ5; simp [hf, he, hne, hne2, hw, hd, hd2])
      | refine hQ5 _ _ _ ?_
      | refine dF (id := 9) [0, 1, 2, 3, 4, 5, 6, 7, 8, 9, 10, 11, 12, 13, 14] [(4, 8)] ?_
      | (first | apply cF | apply wN | apply wS) <;> intro hcnd <;> (try simp only [hcnd]) <;> (try simp [-List.isEmpty_iff, -List.isEmpty_eq_false_iff] at hcnd))
    all_goals (
      refine hP _ _ ?_
      refine ⟨rfl, ?_, ?_⟩
      · refine clAt_set hpn hsl hos ?_ ?_ ?_ ?_
        · rfl
        · simp
        · intro b hb hbp
          rw [set_at, if_neg hbp, new_at, if_neg (by omega)]
        · simp [clC]
      · refine ⟨by simp, fun b hb hbp _ => by rw [set_at, if_neg hbp, new_at, if_neg (by omega)], fun b hq => .inl ?_⟩
        simpa [clQ, hf] using hq)
  · refine W_doesQ hp rfl rfl rfl Tryz.func7 rfl (by simp [Tryz.f7]) ?_
    simp only [Tryz.f7]
    refine hide ?_; intro Q6 hQ6
    repeat' (first
      | (replace hQ6 := hQ6; simp [hf, he, hne, hne2])
      | refine hQ6 _ _ _ ?_
      | refine dF (id := 9) [0, 1, 2, 3, 4, 5, 6, 7, 8, 9, 10, 11, 12, 13, 14] [(4, 8)] ?_
      | (first | apply cF | apply wN | apply wS) <;> intro hcnd <;> (try simp only [hcnd]) <;> (try simp [-List.isEmpty_iff, -List.isEmpty_eq_false_iff] at hcnd))
    all_goals exact hP _ _ ⟨rfl, rfl⟩
theorem soon_cl {h : H} {p : Nat} {c : Cl} (ca : ClAt h p c) : ∃ h', W K 80 [.one (.ptr p 0 0)] h = some (.ret (.tup []) h') ∧ ClAt h' p { c with w := 1, g := 1 } ∧ Held h h' p ∧ h'.next = h.next := by
  obtain ⟨hpn, s, hf, hsl, hos⟩ := ca
  refine ⟨h.set p ⟨0, [21], true, clC { c with w := 1, g := 1 } s⟩, ?_, ?_, held_set hf (by simp; rfl) (by simp) (fun b hb hbp => by rw [set_at, if_neg hbp]), by simp⟩
  · obtain ⟨id, n, seq, busy, row, op, w, g, cached, told, ⟨a1, a2, ⟨a3, a4⟩, a5, a6, a7, a8, a9, a10, a11⟩⟩ := c
    simp only [clC] at hf ⊢
    refine W_does hp rfl rfl rfl Tryz.func80 rfl (by simp [Tryz.f80]) ?_
    simp only [Tryz.f80]
    refine hide ?_; intro Q7 hQ7
    repeat' (first
      | (replace hQ7 := hQ7; simp [hf])
      | refine hQ7 _ _ _ ?_)
  · refine clAt_set hpn hsl hos ?_ ?_ ?_ ?_
    · rfl
    · simp
    · intro b hb hbp
      rw [set_at, if_neg hbp]
    · simp
def tickC (c : Cl) : Cl × Bool :=
  if c.busy then (if 1 ≤ c.w - 1 then ({ c with w := c.w - 1 }, false) else (let g := (if (if 1 < 2 * c.g then 2 * c.g else 1) < 4 then if 1 < 2 * c.g then 2 * c.g else 1 else 4); ({ c with w := g, g := g }, true))) else (c, false)
structure ClOk (c : Cl) : Prop where
  id : 0 ≤ c.id ∧ c.id < 4
  n : c.n = 1 ∨ c.n = 3 ∨ c.n = 5
  seq : 0 ≤ c.seq ∧ c.seq < 1000
  row : c.row.length ≤ 16
  op : (ls c.op).length ≤ 1048576
  w : 0 ≤ c.w ∧ c.w ≤ 4
  g : 0 ≤ c.g ∧ c.g ≤ 4
  cached : c.cached.length < 1000
def Asks (h0 h : H) (c : Cl) (sends : Bool) (v : AV) : Prop := ∃ s, v = .one s ∧ (if sends then Grown h 10 (askG (whom c) c.id c.seq (what c)) s (List.range c.n.toNat) else s = .nilslc) ∧ ∀ b, ownB s = some b → h0.next ≤ b
theorem askN_c {h : H} {p : Nat} {c : Cl} (ca : ClAt h p c) (ok : ClOk c) : ∃ s h', W K 33 [.one (.ptr p 0 0)] h = some (.ret (.one s) h') ∧ Asks h h' c true (.one s) ∧ ClAt h' p c ∧ Held h h' p := by
  have h1 := ok.id
  have h2 := ok.n
  obtain ⟨r, e, hr⟩ := ask_c ca ok.cached ok.id ok.row c.n.toNat (by omega) (by omega) ok.op
  obtain ⟨v, h', rfl, s, rfl, gr, hn, hk, ho⟩ := hr.ret
  exact ⟨s, h', e, ⟨s, rfl, gr, ho⟩, ca.keep hn hk, ⟨hn, fun b hb _ _ => hk b hb, fun b hq => .inl (by rw [clQ, hk p ca.1] at hq; exact hq)⟩⟩
theorem Held.trans {h h1 h2 : H} {p : Nat} (a : Held h h1 p) (b : Held h1 h2 p) : Held h h2 p := by
  refine ⟨Nat.le_trans a.1 b.1, fun x hx hp hq => ?_, fun x hx => ?_⟩
  · rw [b.2.1 x (Nat.lt_of_lt_of_le hx a.1) hp (fun e => by rcases a.2.2 x e with e | e; exact hq e; omega), a.2.1 x hx hp hq]
  · rcases b.2.2 x hx with e | e
    · exact a.2.2 x e
    · exact .inr (Nat.le_trans a.1 e)
theorem Held.refl (h : H) (p : Nat) : Held h h p := ⟨Nat.le_refl _, fun _ _ _ _ => rfl, fun _ e => .inl e⟩
theorem Asks.from {h h1 h2 : H} {c : Cl} {sends : Bool} {v : AV} (a : Asks h1 h2 c sends v) (hn : h.next ≤ h1.next) : Asks h h2 c sends v := by
  obtain ⟨s, e, g, o⟩ := a
  exact ⟨s, e, g, fun b hb => Nat.le_trans hn (o b hb)⟩
theorem tick_cl {h : H} {p : Nat} {c : Cl} (ca : ClAt h p c) (ok : ClOk c) : ∃ r, W K 13 [.one (.ptr p 0 0)] h = some r ∧ Rets (fun v h' => ClAt h' p (tickC c).1 ∧ Held h h' p ∧ Asks h h' (tickC c).1 (tickC c).2 v) r := by
  refine Rets.intro fun P hP => ?_
  have okw := ok.w
  have okg := ok.g
  cases hb : c.busy
  · have e1 : tickC c = (c, false) := by simp [tickC, hb]
    rw [e1] at hP
    have hq : P (.one .nilslc) h := hP _ _ ⟨ca, Held.refl _ _, .nilslc, rfl, rfl, by simp [ownB]⟩
    obtain ⟨hpn, s, hf, hsl, hos⟩ := ca
    have g3 : sub (clC c s) 3 1 = some [.bool false] := by simp [clC, hb]
    have gl : (clC c s).length = 21 := rfl
    generalize clC c s = M at *
    refine W_doesQ hp rfl rfl rfl Tryz.func13 rfl (by simp [Tryz.f13]) ?_
    simp only [Tryz.f13]
    refine hide ?_; intro Q8 hQ8
    repeat' (first
      | (replace hQ8 := hQ8; simp [hf, g3])
      | refine hQ8 _ _ _ ?_
      | (first | apply cF | apply wN | apply wS) <;> intro hcnd <;> (try simp only [hcnd]) <;> (try simp [-List.isEmpty_iff, -List.isEmpty_eq_false_iff] at hcnd))
    all_goals exact hq
  · by_cases hw : 1 ≤ c.w - 1
    · have e1 : tickC c = ({ c with w := c.w - 1 }, false) := by simp [tickC, hb, hw]
      rw [e1] at hP
      obtain ⟨hpn, s, hf, hsl, hos⟩ := ca
      have hq : P (.one .nilslc) (h.set p ⟨0, [21], true, clC { c with w := c.w - 1 } s⟩) := hP _ _ ⟨by
        refine clAt_set hpn hsl hos ?_ ?_ ?_ ?_
        · rfl
        · simp
        · intro b hb hbp
          rw [set_at, if_neg hbp]
        · simp, held_set hf (by simp; rfl) (by simp) (fun b hb hbp => by rw [set_at, if_neg hbp]), .nilslc, rfl, rfl, by simp [ownB]⟩
      have w1 : IntKind.i64.wrap (c.w - 1) = c.w - 1 := wrap_i64 (by omega) (by omega)
      have d1 : decide (1 ≤ c.w - 1) = true := by simp; omega
      obtain ⟨id, n, seq, busy, row, op, w, g, cached, told, ⟨a1, a2, ⟨a3, a4⟩, a5, a6, a7, a8, a9, a10, a11⟩⟩ := c
      simp only at hb hw w1 d1
      subst hb
      simp only [clC] at hf hq
      refine W_doesQ hp rfl rfl rfl Tryz.func13 rfl (by simp [Tryz.f13]) ?_
      simp only [Tryz.f13]
      refine hide ?_; intro Q9 hQ9
      repeat' (first
        | (replace hQ9 := hQ9; simp [hf, w1, hw, d1])
        | refine hQ9 _ _ _ ?_
        | (first | apply cF | apply wN | apply wS) <;> intro hcnd <;> (try simp only [hcnd]) <;> (try simp [-List.isEmpty_iff, -List.isEmpty_eq_false_iff] at hcnd))
      all_goals exact hq
    · obtain ⟨g', hg'⟩ : ∃ g', (if (if 1 < 2 * c.g then 2 * c.g else 1) < 4 then if 1 < 2 * c.g then 2 * c.g else 1 else 4) = g' := ⟨_, rfl⟩
      have hgb : 1 ≤ g' ∧ g' ≤ 4 := by subst hg'; split <;> split <;> omega
      have e1 : tickC c = ({ c with w := g', g := g' }, true) := by simp only [tickC, hb, if_true, hw, if_false, hg']
      rw [e1] at hP
      obtain ⟨hpn, s, hf, hsl, hos⟩ := ca
      have ca1 : ClAt (h.set p ⟨0, [21], true, clC { c with w := g', g := g' } s⟩) p { c with w := g', g := g' } := by
        refine clAt_set hpn hsl hos ?_ ?_ ?_ ?_
        · rfl
        · simp
        · intro b hb hbp
          rw [set_at, if_neg hbp]
        · simp
      have hh1 : Held h (h.set p ⟨0, [21], true, clC { c with w := g', g := g' } s⟩) p := held_set hf (by simp; rfl) (by simp) (fun b hb hbp => by rw [set_at, if_neg hbp])
      obtain ⟨s', h', e2, as2, ca2, he2⟩ := askN_c ca1 ⟨ok.id, ok.n, ok.seq, ok.row, ok.op, ⟨by simp; omega, by simp; omega⟩, ⟨by simp; omega, by simp; omega⟩, ok.cached⟩
      have hq : P (.one s') h' := hP _ _ ⟨ca2, hh1.trans he2, as2.from (by simp)⟩
      have w1 : IntKind.i64.wrap (c.w - 1) = c.w - 1 := wrap_i64 (by omega) (by omega)
      have w2 : IntKind.i64.wrap (2 * c.g) = 2 * c.g := wrap_i64 (by omega) (by omega)
      have d1 : decide (1 ≤ c.w - 1) = false := by simp; omega
      obtain ⟨id, n, seq, busy, row, op, w, g, cached, told, ⟨a1, a2, ⟨a3, a4⟩, a5, a6, a7, a8, a9, a10, a11⟩⟩ := c
      simp only at hb hw w1 d1 w2 hg'
      subst hb
      simp only [clC] at hf e2
      refine W_doesQ hp rfl rfl rfl Tryz.func13 rfl (by simp [Tryz.f13]) ?_
      simp only [Tryz.f13]
      refine hide ?_; intro Q10 hQ10
      repeat' (first
        | (replace hQ10 := hQ10; simp [hf, w1, w2, hw, d1, hg', e2])
        | refine hQ10 _ _ _ ?_
        | (first | apply cF | apply wN | apply wS) <;> intro hcnd <;> (try simp only [hcnd]) <;> (try simp [-List.isEmpty_iff, -List.isEmpty_eq_false_iff] at hcnd))
      all_goals exact hq
end Go.Proofs.YtmhbdpgflomihaaGreat
