/- A part of a proof over the abstract machine. No conditions. -/
import Derived.Test.YtmhbdpgflomihaaGreatK2
namespace Go.Proofs.YtmhbdpgflomihaaGreat
open Go Go.Ab Wm NumPlain
set_option linter.unusedSimpArgs false
set_option linter.unnecessarySimpa false
set_option linter.unusedVariables false
set_option maxRecDepth 10000
set_option maxHeartbeats 4000000
def maxB (a b : BL) : BL := if Op.bytesLess a b then b else a
def meetOk (a b : Span) : Bool := spanOk a && (spanOk b && (hasName a (maxB a.lo b.lo) && hasName b (maxB a.lo b.lo)))
theorem spanMeet_c (l1 h1 l2 h2 : BL) (h : H) : W K 76 [.agg [.str l1, .str h1], .agg [.str l2, .str h2]] h = some (.ret (.one (.bool (meetOk ⟨l1, h1⟩ ⟨l2, h2⟩))) h) := by
  have r1 := spanRight_c l1 h1
  have r2 := spanRight_c l2 h2
  have m1 := spanHas_c l1 h1 (maxB l1 l2)
  have m2 := spanHas_c l2 h2 (maxB l1 l2)
  have mm : minmax true (.str l1) (.str l2) = some (.str (maxB l1 l2)) := rfl
  have hown : memL S.own 76 = false := by kernel_rfl
  refine W_pure hp (by simp [pureV, r1, r2, m1, m2, meetOk, -minmax, mm, outV, frzV, frzS, frzS_pure, frzP, pureS, pureL, K_own, hown]) (apart_does rfl rfl (by kernel_rfl) Tryz.func76 rfl (by simp [Tryz.f76]) ?_)
  simp only [Tryz.f76]
  refine hide ?_; intro Q1 hQ1
  repeat' (first
    | (replace hQ1 := hQ1; simp [r1, r2, m1, m2, meetOk, -minmax, mm, outV, frzV, frzS, frzS_pure, frzP, pureS, pureL, K_own, hown])
    | (refine hQ1 _ _ _ ?_; clear hQ1 Q1; first | simp only [] | simp [r1, r2, m1, m2, meetOk, -minmax, mm, outV, frzV, frzS, frzS_pure, frzP, pureS, pureL, K_own, hown])
    | (first | apply cF | apply wN | apply wS) <;> intro hcnd <;> (try simp only [hcnd]) <;> (try simp [-List.isEmpty_iff, -List.isEmpty_eq_false_iff] at hcnd))
  all_goals first | done | (simp_all [-List.isEmpty_iff, -List.isEmpty_eq_false_iff, ← List.isEmpty_iff]; done) | (simp_all; done) | (simp_all; omega) | (simp; omega) | (intros; omega) | (intros; simp only [decide_eq_true_eq] at *; omega) | (intros; simp at *; omega) | skip
theorem cmpstr_c (a b : BL) (h : H) : W K 79 [.one (.str a), .one (.str b)] h = some (.ret (.one (ii (cmpL a b))) h) := by
  have e1 : ∀ h, W K 147 [.one (.str a), .one (.str b)] h = some (.ret (.one (ii (cmpL a b))) h) := fun h => by rw [W_ext hp rfl rfl]; rfl
  have e2 : ∀ h, W K 115 [.one (.str a), .one (.str b)] h = some (.ret (.one (ii (cmpL a b))) h) := by
    intro h
    refine W_does hp rfl rfl rfl Tryz.func115 rfl (by simp [Tryz.f115]) ?_
    simp only [Tryz.f115]
    refine hide ?_; intro Q2 hQ2
    repeat' (first
      | (replace hQ2 := hQ2; simp [e1])
      | refine hQ2 _ _ _ ?_)
  have hown : memL S.own 79 = false := by kernel_rfl
  refine W_pure hp (by simp [pureV, e2, outV, frzV, frzS, frzS_pure, frzP, pureS, pureL, K_own, hown]) (apart_does rfl rfl (by kernel_rfl) Tryz.func79 rfl (by simp [Tryz.f79]) ?_)
  simp only [Tryz.f79]
  refine hide ?_; intro Q3 hQ3
  repeat' (first
    | (replace hQ3 := hQ3; simp [e2, outV, frzV, frzS, frzS_pure, frzP, pureS, pureL, K_own, hown])
    | refine hQ3 _ _ _ ?_)
theorem loc2_c (x y : Tablet) (h : H) : W K 78 [avTablet x, avTablet y] h = some (.ret (.one (ii (cmpL x.span.lo y.span.lo))) h) := by
  obtain ⟨⟨l1, h1⟩, g1, n1⟩ := x
  obtain ⟨⟨l2, h2⟩, g2, n2⟩ := y
  have e := cmpstr_c l1 l2
  simp only [avTablet, encTablet]
  have hown : memL S.own 78 = false := by kernel_rfl
  refine W_pure hp (by simp [pureV, e, outV, frzV, frzS, frzS_pure, frzP, pureS, pureL, K_own, hown]) (apart_does rfl rfl (by kernel_rfl) Tryz.func78 rfl (by simp [Tryz.f78]) ?_)
  simp only [Tryz.f78]
  refine hide ?_; intro Q4 hQ4
  repeat' (first
    | (replace hQ4 := hQ4; simp [e, outV, frzV, frzS, frzS_pure, frzP, pureS, pureL, K_own, hown])
    | refine hQ4 _ _ _ ?_)
abbrev ansC (a : Answer) : List AS := [ii a.code, .nilslc, .str a.span.lo, .str a.span.hi, ii a.group, ii a.gen, ii a.old, ii a.to, ii a.do_, .str a.at_, bs a.state]
theorem pure_ansC (a : Answer) : pureL false (ansC a) = true := by simp [pureL, pureS]
theorem plain_ansC (a : Answer) : ∀ x ∈ ansC a, (∀ f y c, x ≠ .fn f y c) ∧ ∀ t v, x ≠ .ifc t v := by
  intro x hx
  simp only [List.mem_cons, List.not_mem_nil, or_false] at hx
  rcases hx with rfl | rfl | rfl | rfl | rfl | rfl | rfl | rfl | rfl | rfl | rfl <;> first | exact bs_plain _ | simp
theorem loc1_g (t : Tablet) (a : Answer) : Fun K 75 [.agg (encTablet t), .one (.rp (ansC a) 0)] (fun h => .ret (.one (.bool (meetOk t.span a.span))) h) := by
  obtain ⟨⟨l1, h1⟩, g1, n1⟩ := t
  have e := spanMeet_c l1 h1 a.span.lo a.span.hi
  have hpv := pure_ansC a
  have g2 : sub (ansC a) 2 2 = some [.str a.span.lo, .str a.span.hi] := rfl
  simp only [encTablet]
  generalize ansC a = M at *
  have hown : memL S.own 75 = false := by kernel_rfl
  refine ⟨by simp [pureV, hpv, e, g2, outV, frzV, frzS, frzS_pure, frzP, pureS, pureL, K_own, hown], fun hh => apart_does rfl rfl (by kernel_rfl) Tryz.func75 rfl (by simp [Tryz.f75]) ?_⟩
  simp only [Tryz.f75]
  refine hide ?_; intro Q5 hQ5
  repeat' (first
    | (replace hQ5 := hQ5; simp [hpv, e, g2, outV, frzV, frzS, frzS_pure, frzP, pureS, pureL, K_own, hown])
    | refine hQ5 _ _ _ ?_)
theorem view_box {h : H} {b : Nat} {a : Answer} (hf : h.f b = some ⟨0, [11], true, ansC a⟩) : viewS h 64 (.ptr b 0 0) = some (.rp (ansC a) 0) := by
  have ht : (ansC a).take 11 = ansC a := List.take_of_length_le (by simp)
  simp only [viewS, hf, Blk.ext, Option.bind_eq_bind, Option.bind_some, Nat.le_refl, if_true, Nat.sub_zero, List.getElem?_cons_zero, ht, view_pureL (n := 62) (pure_ansC a) (plain_ansC a)]
theorem loc1_c {h : H} {b : Nat} {a : Answer} (hf : h.f b = some ⟨0, [11], true, ansC a⟩) (t : Tablet) : W K 75 [.agg (encTablet t), .one (.ptr b 0 0)] h = some (.ret (.one (.bool (meetOk t.span a.span))) h) := by
  refine (loc1_g t a).view hp ?_
  unfold viewA
  rw [if_neg (by simp [pureV, pureS])]
  have hv : (encTablet t).mapM (viewS h 64) = some (encTablet t) := view_pureL (n := 63) (pure_tablet t) (plain_tablet t)
  simp only [List.mapM_cons, List.mapM_nil, viewV, view_box hf, hv, Option.bind_eq_bind, Option.bind_some, Option.pure_def]
theorem idx1_c {h : H} {b : Nat} {a : Answer} (hf : h.f b = some ⟨0, [11], true, ansC a⟩) {s : AS} {l : List Tablet} (hs : Sl h 4 encTablet s l) (hl : l.length < 1000) : W K 71 [.one s, .one (.fn 75 [] [.ptr b 0 0])] h = some (.ret (.one (ii (idx (fun t => meetOk t.span a.span) l))) h) := by
  obtain ⟨o, ho, hv, _⟩ := view_sl len_tablet pure_tablet plain_tablet hs 62
  rw [← ho] at hl ⊢
  refine (indexTablet_g o 75 [.rp (ansC a) 0] (fun t => meetOk t.span a.span) (fun x h => (loc1_g x a).pure hp h) (by simp [pureL, pureS]) (by omega)).view hp ?_
  unfold viewA
  rw [if_neg (by simp [pureV, pureS, pureL])]
  have hb := view_box (h := h) hf
  have hb2 : viewS h 64 (.fn 75 [] [.ptr b 0 0]) = some (.fn 75 [] [.rp (ansC a) 0]) := by
    have ht : (ansC a).take 11 = ansC a := List.take_of_length_le (by simp)
    simp only [viewS, hf, Blk.ext, List.mapM_cons, List.mapM_nil, Option.bind_eq_bind, Option.bind_some, Nat.le_refl, if_true, Nat.sub_zero, List.getElem?_cons_zero, ht, view_pureL (n := 61) (pure_ansC a) (plain_ansC a), Option.pure_def]
  simp only [List.mapM_cons, List.mapM_nil, viewV, hv, hb2, Option.bind_eq_bind, Option.bind_some, Option.pure_def]
theorem delete_sl {h : H} {b : Nat} {a : Answer} (hb : b < h.next) (hf : h.f b = some ⟨0, [11], true, ansC a⟩) {s : AS} {l : List Tablet} (hs : Sl h 4 encTablet s l) (hsb : ownB s ≠ some b) (hl : l.length < 1000) :
    ∃ s' h', W K 74 [.one s, .one (.fn 75 [] [.ptr b 0 0])] h = some (.ret (.one s') h') ∧ Sl h' 4 encTablet s' (l.filter fun t => !meetOk t.span a.span) ∧ h.next ≤ h'.next ∧ (∀ y, y < h.next → ownB s ≠ some y → h'.f y = h.f y) ∧ ∀ y, ownB s' = some y → ownB s = some y := by
  have hi := idx1_c hf hs hl
  rcases hs with ⟨rfl, rfl⟩ | ⟨bb, v, z, rfl, ar⟩
  · refine ⟨.nilslc, h, ?_, .inl ⟨rfl, rfl⟩, Nat.le_refl _, fun _ _ _ => rfl, fun _ h => h⟩
    have hi' : idx (fun t => meetOk t.span a.span) ([] : List Tablet) = -1 := rfl
    rw [hi'] at hi
    refine W_does hp rfl rfl rfl Tryz.func74 rfl (by simp [Tryz.f74]) ?_
    simp only [Tryz.f74]
    refine hide ?_; intro Q6 hQ6
    repeat' (first
      | (replace hQ6 := hQ6; simp [hi])
      | refine hQ6 _ _ _ ?_
      | (first | apply cF | apply wN | apply wS) <;> intro hcnd <;> (try simp only [hcnd]) <;> (try simp [-List.isEmpty_iff, -List.isEmpty_eq_false_iff] at hcnd))
  · have hbb : bb ≠ b := fun e => hsb (by rw [e]; rfl)
    obtain ⟨r, e, hr⟩ := deleteTablet_c ar 75 [.ptr b 0 0] (fun t => meetOk t.span a.span) (by omega) hi (fun x h' hn hk => loc1_c (by rw [hk b hb (Ne.symm hbb)]; exact hf) x)
    obtain ⟨q, h', rfl, rfl, ⟨z', a'⟩, hn, hk⟩ := hr.ret
    exact ⟨_, h', e, .inr ⟨bb, v, z', rfl, a'⟩, hn, fun y hy hyb => hk y hy (fun e => hyb (by rw [e]; rfl)), fun y hy => hy⟩
end Go.Proofs.YtmhbdpgflomihaaGreat
