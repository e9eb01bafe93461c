/- A part of a proof over the abstract machine. No conditions. -/
import Derived.Test.YtmhbdpgflomihaaGreatP1
namespace Go.Proofs.YtmhbdpgflomihaaGreat
open Go Go.Ab Wm NumPlain
set_option linter.unusedSimpArgs false
set_option linter.unnecessarySimpa false
set_option linter.unusedVariables false
set_option maxRecDepth 10000
set_option maxHeartbeats 4000000
structure Md where
  id : Int
  n : Int
  seq : Int
  gap : Int
  wait : Int
  busy : Bool
  op : Wm.Op
  cached : List Tablet
  last : Int
  ans : Answer
def mdC (m : Md) (s : AS) : List AS := [ii m.id, ii m.n, ii m.seq, ii m.gap, ii m.wait, .bool m.busy, ii m.op.kind, .str m.op.row, .str m.op.hi, .bool m.op.cond.has, .bool m.op.cond.want, .str m.op.cond.col, ii m.op.cond.v.kind, bs m.op.cond.v.b, .flt m.op.cond.v.n, sl 6 encChange m.op.l, ii m.op.most, s, ii m.last, ii m.ans.code, .nilslc, .str m.ans.span.lo, .str m.ans.span.hi, ii m.ans.group, ii m.ans.gen, ii m.ans.old, ii m.ans.to, ii m.ans.do_, .str m.ans.at_, bs m.ans.state]
abbrev mdV (m : Md) (o : Option (List Tablet)) : AS := .rp (mdC m (sl 4 encTablet o)) 0
theorem pure_mdC (m : Md) (o : Option (List Tablet)) : pureL false (mdC m (sl 4 encTablet o)) = true := by simp [mdC, pureL, pureS]
def mdQ (h : H) (p : Nat) : Option Nat := match h.f p with | some k => (k.cells[17]?).bind ownB | none => none
theorem mdQ_at {h : H} {p : Nat} {m : Md} {s : AS} (hf : h.f p = some ⟨0, [30], true, mdC m s⟩) : mdQ h p = ownB s := by simp [mdQ, hf, mdC]
def MdAt (h : H) (p : Nat) (m : Md) : Prop := p < h.next ∧ ∃ s, h.f p = some ⟨0, [30], true, mdC m s⟩ ∧ Sl h 4 encTablet s m.cached ∧ ownB s ≠ some p
theorem MdAt.keep {h h' : H} {p : Nat} {m : Md} (a : MdAt h p m) (hn : h.next ≤ h'.next) (hf : ∀ b, b < h.next → h'.f b = h.f b) : MdAt h' p m := by
  obtain ⟨h1, s, h2, h3, h4⟩ := a
  exact ⟨by omega, s, by rw [hf p h1]; exact h2, h3.keep hn fun b hb => hf b (h3.lt hb), h4⟩
theorem MdAt.new {h : H} {p : Nat} {m : Md} (a : MdAt h p m) (k : Blk) : MdAt (h.new k) p m := a.keep (by simp) fun b hb => by rw [new_at, if_neg (by omega)]
def HeldM (h h' : H) (p : Nat) : Prop := h.next ≤ h'.next ∧ (∀ b, b < h.next → b ≠ p → mdQ h p ≠ some b → h'.f b = h.f b) ∧ ∀ b, mdQ h' p = some b → mdQ h p = some b ∨ h.next ≤ b
theorem HeldM.refl (h : H) (p : Nat) : HeldM h h p := ⟨Nat.le_refl _, fun _ _ _ _ => rfl, fun _ e => .inl e⟩
theorem HeldM.trans {h h1 h2 : H} {p : Nat} (a : HeldM h h1 p) (b : HeldM h1 h2 p) : HeldM h h2 p := by
  refine ⟨Nat.le_trans a.1 b.1, fun x hx hp hq => ?_, fun x hx => ?_⟩
  · rw [b.2.1 x (Nat.lt_of_lt_of_le hx a.1) hp (fun e => by rcases a.2.2 x e with e | e; exact hq e; omega), a.2.1 x hx hp hq]
  · rcases b.2.2 x hx with e | e
    · exact a.2.2 x e
    · exact .inr (Nat.le_trans a.1 e)
theorem heldM_keep {h h' : H} {p : Nat} (hp1 : p < h.next) (hn : h.next ≤ h'.next) (hk : ∀ b, b < h.next → h'.f b = h.f b) : HeldM h h' p :=
  ⟨hn, fun b hb _ _ => hk b hb, fun b hq => .inl (by rw [mdQ, hk p hp1] at hq; exact hq)⟩
theorem heldM_set {h h' : H} {p : Nat} {m m' : Md} {s : AS} (hf : h.f p = some ⟨0, [30], true, mdC m s⟩) (hb : h'.f p = some ⟨0, [30], true, mdC m' s⟩) (hn : h.next ≤ h'.next) (hk : ∀ b, b < h.next → b ≠ p → h'.f b = h.f b) : HeldM h h' p :=
  ⟨hn, fun b h1 h2 _ => hk b h1 h2, fun b hq => by rw [mdQ_at hb] at hq; rw [mdQ_at hf]; exact .inl hq⟩
theorem mdAt_set {h : H} {p : Nat} {m m' : Md} {s : AS} (hp1 : p < h.next) (hs : Sl h 4 encTablet s m.cached) (ho : ownB s ≠ some p) (hc : m'.cached = m.cached) {h' : H} (hn : h.next ≤ h'.next) (hf : ∀ b, b < h.next → b ≠ p → h'.f b = h.f b) (hb : h'.f p = some ⟨0, [30], true, mdC m' s⟩) : MdAt h' p m' :=
  ⟨by omega, s, hb, by rw [hc]; exact hs.keep hn fun b hb' => hf b (hs.lt hb') (fun e => ho (e ▸ hb')), ho⟩
theorem sl_plain {α : Type} {enc : α → List AS} {n : Nat} (o : Option (List α)) : (∀ f y c, sl n enc o ≠ .fn f y c) ∧ ∀ t v, sl n enc o ≠ .ifc t v := by cases o <;> simp [sl]
theorem view_md {h : H} {p : Nat} {m : Md} (a : MdAt h p m) : ∃ o, ls o = m.cached ∧ viewS h 64 (.ptr p 0 0) = some (mdV m o) := by
  obtain ⟨hp, s, hf, hs, _⟩ := a
  obtain ⟨o, ho, hv, _⟩ := view_sl len_tablet pure_tablet plain_tablet hs 61
  refine ⟨o, ho, ?_⟩
  have h1 := view_mid (n := 62) (l := [ii m.id, ii m.n, ii m.seq, ii m.gap, ii m.wait, .bool m.busy, ii m.op.kind, .str m.op.row, .str m.op.hi, .bool m.op.cond.has, .bool m.op.cond.want, .str m.op.cond.col, ii m.op.cond.v.kind, bs m.op.cond.v.b, .flt m.op.cond.v.n, sl 6 encChange m.op.l, ii m.op.most]) (r := [ii m.last, ii m.ans.code, .nilslc, .str m.ans.span.lo, .str m.ans.span.hi, ii m.ans.group, ii m.ans.gen, ii m.ans.old, ii m.ans.to, ii m.ans.do_, .str m.ans.at_, bs m.ans.state]) hv (by simp [pureL, pureS]) (by
      intro a ha
      simp only [List.mem_cons, List.not_mem_nil, or_false] at ha
      rcases ha with rfl | rfl | rfl | rfl | rfl | rfl | rfl | rfl | rfl | rfl | rfl | rfl | rfl | rfl | rfl | rfl | rfl <;> first | exact bs_plain _ | exact sl_plain _ | simp) (by simp [pureL, pureS]) (by
      intro a ha
      simp only [List.mem_cons, List.not_mem_nil, or_false] at ha
      rcases ha with rfl | rfl | rfl | rfl | rfl | rfl | rfl | rfl | rfl | rfl | rfl | rfl <;> first | exact bs_plain _ | simp)
  have h2 : (mdC m s).mapM (viewS h 63) = some (mdC m (sl 4 encTablet o)) := h1
  have hl : (mdC m s).length = 30 := rfl
  have ht : (mdC m s).take 30 = mdC m s := List.take_of_length_le (by rw [hl]; omega)
  simp only [viewS, hf, Blk.ext, Option.bind_eq_bind, Option.bind_some, Nat.le_refl, if_true, Nat.sub_zero, List.getElem?_cons_zero, ht, h2, Option.pure_def, mdV]
def atT (l : List Tablet) (row : BL) : Tablet := match l.find? (fun t => hasName t.span row) with | some t => t | none => ⟨⟨[], []⟩, 0, 0⟩
theorem at_g (m : Md) (o : Option (List Tablet)) (row : BL) (ho : (ls o).length < 1000) : Fun K 51 [.one (mdV m o), .one (.str row)] (fun h => .ret (.agg (encTablet (atT (ls o) row))) h) := by
  have hpv := pure_mdC m o
  have g17 : sub (mdC m (sl 4 encTablet o)) 17 1 = some [sl 4 encTablet o] := rfl
  simp only [mdV]
  generalize mdC m (sl 4 encTablet o) = M at *
  obtain ⟨B, hB⟩ : ∃ B : Blk, (⟨0, [4], true, [.str [], .str [], ii 0, ii 0]⟩ : Blk) = B := ⟨_, rfl⟩
  have hown : memL S.own 51 = false := by kernel_rfl
  refine ⟨by simp [pureV, hpv, g17, hB, outV, frzV, frzS, frzS_pure, frzP, pureS, pureL, K_own, hown], fun hh => apart_does rfl rfl (by kernel_rfl) Tryz.func51 rfl (by simp [Tryz.f51]) ?_⟩
  simp only [Tryz.f51]
  refine hide ?_; intro Q1 hQ1
  repeat' (first
    | (replace hQ1 := hQ1; simp [hpv, g17, hB, outV, frzV, frzS, frzS_pure, frzP, pureS, pureL, K_own, hown])
    | refine hQ1 _ _ _ ?_
    | (first | apply cF | apply wN | apply wS) <;> intro hcnd <;> (try simp only [hcnd]) <;> (try simp [-List.isEmpty_iff, -List.isEmpty_eq_false_iff] at hcnd))
  refine does_each hp (ls o) (fun a r fr hh => ∃ j, fr = ((.one (.rp M 0)) :: (.one (.str row)) :: j 2 :: j 3 :: (.one (.ptr 0 0 0)) :: (.one (ii a.length)) :: j 6 :: j 7 :: j 8 :: j 9 :: j 10 :: j 11 :: j 12 :: j 13 :: j 14 :: j 15 :: j 16 :: j 17 :: j 18 :: j 19 :: j 20 :: j 21 :: j 22 :: j 23 :: j 24 :: j 25 :: j 26 :: j 27 :: j 28 :: j 29 :: j 30 :: j 31 :: j 32 :: []) ∧ (hh = H.empty.new B ∧ ∀ y ∈ a, hasName y.span row = false)) ?_ ?_ _ _ (ex_get (by simp) ⟨by simp [← hB], by simp⟩)
  · rintro a x r fr hh hl ⟨j, rfl, rfl, ha⟩
    obtain rfl := ls_cons hl
    subst hB
    have hix := index_sl (P := Tryz.prog) (enc := encTablet) (s := 4) (l := a ++ x :: r) (i := a.length) Tryz.underlying66 (by simp) (by omega) (by simp)
    have hrd := sub_flat (enc := encTablet) (s := 4) len_tablet a x r (o := 0) (n := 4) (by omega)
    have hrd2 := sub_flat (enc := encTablet) (s := 4) len_tablet a x r (o := 0) (n := 2) (by omega)
    have e2 : sub (encTablet x) 0 2 = some [.str x.span.lo, .str x.span.hi] := rfl
    rw [e2] at hrd2
    simp only [Nat.add_zero, sub_all (len_tablet x)] at hrd hrd2
    have hw : IntKind.i64.wrap ((a.length : Int) + 1) = ((a ++ [x]).length : Int) := by rw [step_len]; exact step_wrap (by simp at ho; omega)
    have hx := refHas_c x.span.lo x.span.hi row
    rw [show (⟨x.span.lo, x.span.hi⟩ : Span) = x.span from rfl] at hx
    have hlt9 : (a.length : Int) < (a.length : Int) + ((r.length : Int) + 1) := by omega
    by_cases hh : hasName x.span row = true
    · have e : atT (ls (some (a ++ x :: r))) row = x := by rw [ls_some, atT, find_hit ha hh]
      rw [ls_some] at e
      rw [hh] at hx
      first | (refine hide ?_; intro Q2 hQ2) | have hQ2 := True.intro
      repeat' (first
        | (replace hQ2 := hQ2; simp [hpv, g17, hix, hrd, hrd2, hx, hlt9, e, encTablet, outV, frzV, frzS, frzS_pure, frzP, pureS, pureL, K_own, hown])
        | (refine hQ2 _ _ _ ?_; clear hQ2 Q2; first | simp only [] | simp [hpv, g17, hix, hrd, hrd2, hx, hlt9, e, encTablet, outV, frzV, frzS, frzS_pure, frzP, pureS, pureL, K_own, hown] | skip)
        | (refine hadQ (by assumption) ?_; (try clear hQ2); first | simp only [] | simp [hpv, g17, hix, hrd, hrd2, hx, hlt9, e, encTablet, outV, frzV, frzS, frzS_pure, frzP, pureS, pureL, K_own, hown] | skip)
        | ((fail_if_success replace hQ2 := hQ2); (first | refine hide ?_ | refine hideS ?_ | refine hideB ?_); intro Q2 hQ2)
        | (first | apply cF | apply wN | apply wS) <;> intro hcnd <;> (try simp only [hcnd]) <;> (try simp [-List.isEmpty_iff, -List.isEmpty_eq_false_iff] at hcnd))
      all_goals trace_state
    · have hh' : hasName x.span row = false := by simpa using hh
      rw [hh'] at hx
      first | (refine hide ?_; intro Q3 hQ3) | have hQ3 := True.intro
      repeat' (first
        | (replace hQ3 := hQ3; simp [hpv, g17, hix, hrd, hrd2, hx, hlt9, hw, outV, frzV, frzS, frzS_pure, frzP, pureS, pureL, K_own, hown])
        | (refine hQ3 _ _ _ ?_; clear hQ3 Q3; first | simp only [] | simp [hpv, g17, hix, hrd, hrd2, hx, hlt9, hw, outV, frzV, frzS, frzS_pure, frzP, pureS, pureL, K_own, hown] | skip)
        | (refine hadQ (by assumption) ?_; (try clear hQ3); first | simp only [] | simp [hpv, g17, hix, hrd, hrd2, hx, hlt9, hw, outV, frzV, frzS, frzS_pure, frzP, pureS, pureL, K_own, hown] | skip)
        | ((fail_if_success replace hQ3 := hQ3); (first | refine hide ?_ | refine hideS ?_ | refine hideB ?_); intro Q3 hQ3)
        | (first | apply cF | apply wN | apply wS) <;> intro hcnd <;> (try simp only [hcnd]) <;> (try simp [-List.isEmpty_iff, -List.isEmpty_eq_false_iff] at hcnd))
      all_goals (refine ex_get (by simp) ⟨by trivial, ?_⟩; intro y hy; rcases List.mem_append.1 hy with hy | hy; exact ha y hy; rw [List.mem_singleton.1 hy]; exact hh')
  · rintro fr hh ⟨j, rfl, rfl, ha⟩
    subst hB
    have e : atT (ls o) row = ⟨⟨[], []⟩, 0, 0⟩ := by rw [atT, find_miss ha]
    first | (refine hide ?_; intro Q4 hQ4) | have hQ4 := True.intro
    repeat' (first
      | (replace hQ4 := hQ4; simp [hpv, g17, e, encTablet, outV, frzV, frzS, frzS_pure, frzP, pureS, pureL, K_own, hown])
      | (refine hQ4 _ _ _ ?_; clear hQ4 Q4; first | simp only [] | simp [hpv, g17, e, encTablet, outV, frzV, frzS, frzS_pure, frzP, pureS, pureL, K_own, hown] | skip)
      | (refine hadQ (by assumption) ?_; (try clear hQ4); first | simp only [] | simp [hpv, g17, e, encTablet, outV, frzV, frzS, frzS_pure, frzP, pureS, pureL, K_own, hown] | skip)
      | ((fail_if_success replace hQ4 := hQ4); (first | refine hide ?_ | refine hideS ?_ | refine hideB ?_); intro Q4 hQ4)
      | (first | apply cF | apply wN | apply wS) <;> intro hcnd <;> (try simp only [hcnd]) <;> (try simp [-List.isEmpty_iff, -List.isEmpty_eq_false_iff] at hcnd))
    all_goals trace_state
theorem at_c {h : H} {p : Nat} {m : Md} (ma : MdAt h p m) (hl : m.cached.length < 1000) (row : BL) : W K 51 [.one (.ptr p 0 0), .one (.str row)] h = some (.ret (.agg (encTablet (atT m.cached row))) h) := by
  obtain ⟨o, e, hv⟩ := view_md ma
  rw [← e] at hl ⊢
  refine (at_g m o row hl).view hp ?_
  unfold viewA
  rw [if_neg (by simp [pureV, pureS])]
  simp only [List.mapM_cons, List.mapM_nil, viewV, hv, Option.bind_eq_bind, Option.bind_some, Option.pure_def]
  simp [viewS, pureS]
def mG (m : Md) : Int := if 0 < (atT m.cached m.op.row).gen then (atT m.cached m.op.row).group else 0
def mW (m : Md) : List AS := if 0 < (atT m.cached m.op.row).gen then [ii 1, ii m.op.kind, .str m.op.row, .str m.op.hi, .bool m.op.cond.has, .bool m.op.cond.want, .str m.op.cond.col, ii m.op.cond.v.kind, bs m.op.cond.v.b, .flt m.op.cond.v.n, sl 6 encChange m.op.l, ii m.op.most, .str [], .str [], ii 0, .str [], ii 0, ii 0, .nilslc] else [ii 7, ii 0, .str [], .str [], .bool false, .bool false, .str [], ii 0, .nilslc, .flt 0, .nilslc, ii 0, .str [], .str [], ii 0, .str m.op.row, ii 0, ii 0, .nilslc]
theorem ask_m {h : H} {p : Nat} {m : Md} (ma : MdAt h p m) (hl : m.cached.length < 1000) : ∃ r, W K 20 [.one (.ptr p 0 0)] h = some r ∧ Rets (fun v h' => v = .tup [(false, [ii (mG m)]), (true, mW m)] ∧ h.next ≤ h'.next ∧ ∀ b, b < h.next → h'.f b = h.f b) r := by
  refine Rets.intro fun P hP => ?_
  have hne : ¬ p = h.next := by have := ma.1; omega
  have hne2 : ¬ h.next = p := by omega
  have hne3 : ¬ p = h.next + 1 := by have := ma.1; omega
  have hne4 : ¬ h.next + 1 = p := by omega
  have hat := fun k => at_c (ma.new k) hl m.op.row
  obtain ⟨_, s, hf, _, _⟩ := ma
  have g7 : sub (mdC m s) 7 1 = some [.str m.op.row] := rfl
  have g6 : sub (mdC m s) 6 11 = some [ii m.op.kind, .str m.op.row, .str m.op.hi, .bool m.op.cond.has, .bool m.op.cond.want, .str m.op.cond.col, ii m.op.cond.v.kind, bs m.op.cond.v.b, .flt m.op.cond.v.n, sl 6 encChange m.op.l, ii m.op.most] := rfl
  have gl : (mdC m s).length = 30 := rfl
  unfold mG mW at hP
  generalize mdC m s = M at *
  generalize atT m.cached m.op.row = T at *
  obtain ⟨⟨lo, hi⟩, g, n⟩ := T
  simp only [encTablet] at *
  by_cases hn : 0 < n
  · have hd : decide (0 < n) = true := by simp [hn]
    simp only [if_pos hn] at hP
    refine W_doesQ hp rfl rfl rfl Tryz.func20 rfl (by simp [Tryz.f20]) ?_
    simp only [Tryz.f20]
    refine hide ?_; intro Q5 hQ5
    repeat' (first
      | (replace hQ5 := hQ5; simp [hf, hat, g7, g6, gl, hne, hne2, hne3, hne4, hn, hd])
      | refine hQ5 _ _ _ ?_
      | (first | refine dF (id := 3) [0, 1, 2, 3, 4, 5, 6, 7, 8] [] ?_ | refine dF (id := 4) [0, 1, 2, 3, 4, 5, 6, 7] [] ?_)
      | (first | apply cF | apply wN | apply wS) <;> intro hcnd <;> (try simp only [hcnd]) <;> (try simp [-List.isEmpty_iff, -List.isEmpty_eq_false_iff] at hcnd))
    all_goals exact hP _ _ ⟨rfl, by simp <;> omega, fun b hb => by simp only [set_at, new_at, new_next, set_next, show ¬ b = h.next by omega, show ¬ b = h.next + 1 by omega, show ¬ b = h.next + 1 + 1 by omega, if_false]⟩
  · have hd : decide (0 < n) = false := by simp [hn]
    simp only [if_neg hn] at hP
    refine W_doesQ hp rfl rfl rfl Tryz.func20 rfl (by simp [Tryz.f20]) ?_
    simp only [Tryz.f20]
    refine hide ?_; intro Q6 hQ6
    repeat' (first
      | (replace hQ6 := hQ6; simp [hf, hat, g7, g6, gl, hne, hne2, hne3, hne4, hn, hd])
      | refine hQ6 _ _ _ ?_
      | (first | refine dF (id := 3) [0, 1, 2, 3, 4, 5, 6, 7, 8] [] ?_ | refine dF (id := 4) [0, 1, 2, 3, 4, 5, 6, 7] [] ?_)
      | (first | apply cF | apply wN | apply wS) <;> intro hcnd <;> (try simp only [hcnd]) <;> (try simp [-List.isEmpty_iff, -List.isEmpty_eq_false_iff] at hcnd))
    all_goals exact hP _ _ ⟨rfl, by simp <;> omega, fun b hb => by simp only [set_at, new_at, new_next, set_next, show ¬ b = h.next by omega, show ¬ b = h.next + 1 by omega, show ¬ b = h.next + 1 + 1 by omega, if_false]⟩
end Go.Proofs.YtmhbdpgflomihaaGreat
