/- A part of a proof over the abstract machine. No conditions. -/
import Derived.Test.YtmhbdpgflomihaaGreatK5
namespace Go.Proofs.YtmhbdpgflomihaaGreat
open Go Go.Ab Wm NumPlain
set_option linter.unusedSimpArgs false
set_option linter.unnecessarySimpa false
set_option linter.unusedVariables false
set_option maxRecDepth 10000
set_option maxHeartbeats 4000000
structure AnsIs (a : Answer) : Prop where
  ok : ansOk0 a = true
  rows : a.rows = none
def norm (a : Answer) : Answer := { a with state := some (ls a.state) }
theorem inTo_iff {n m : Int} : inTo n m = true ↔ 0 ≤ n ∧ n ≤ m := by simp [inTo]
theorem u8_nat {n : Int} (h : 0 ≤ n ∧ n ≤ 255) : ((u8 n).toNat : Int) = n := by
  unfold u8
  rw [UInt8.toNat_ofNat']
  have e : (2 : Nat) ^ 8 = 256 := rfl
  rw [e]; omega
theorem num4_nat {n : Int} (h : 0 ≤ n ∧ n ≤ 1073741824) : num4 n = be 4 n.toNat ∧ ((n.toNat : Nat) : Int) = n := by
  refine ⟨?_, by omega⟩
  unfold num4 u32
  congr 1
  omega
theorem dec_c (a : Answer) (ha : AnsIs a) (h : H) : W K 35 [.one (bs (some (ansB0 a)))] h = some (.ret (.tup [(true, ansC (norm a)), (false, [ii 0])]) h) := by
  obtain ⟨hok, hr⟩ := ha
  obtain ⟨code, rows, ⟨lo, hi⟩, group, gen, old, to, do_, at_, state⟩ := a
  simp only at hr
  subst hr
  have hok0 := hok
  simp only [ansOk0, Bool.and_eq_true, inTo_iff] at hok
  obtain ⟨⟨o1, o2, o3, o4⟩, ⟨o5, o6⟩, o7, o8, o9⟩ := hok
  have e1 := u8_nat o1
  have e2 := u8_nat o2
  have e3 := u8_nat o3
  have e4 := u8_nat o4
  obtain ⟨f1, f2⟩ := num4_nat o5
  obtain ⟨f3, f4⟩ := num4_nat o6
  have hok2 : ansOk0 ⟨(u8 code).toNat, none, ⟨lo, hi⟩, (u8 group).toNat, gen.toNat, old.toNat, (u8 to).toNat, (u8 do_).toNat, at_, some (ls state)⟩ = true := by
    rw [e1, e2, e3, e4, f2, f4]; exact hok0
  have := decAns_ok (u8 code) lo hi (u8 group) (u8 to) (u8 do_) gen.toNat old.toNat at_ (ls state) (by omega) (by omega) hok2 h
  rw [e1, e2, e3, e4, f2, f4, ← f1, ← f3] at this
  exact this
theorem enc_c (a : Answer) (ha : AnsIs a) (h : H) : W K 41 [.agg (ansC a)] h = some (.ret (.tup [(false, [bs (some (ansB0 a))]), (false, [ii 0])]) h) := by
  obtain ⟨hok, hr⟩ := ha
  obtain ⟨code, rows, ⟨lo, hi⟩, group, gen, old, to, do_, at_, state⟩ := a
  simp only at hr
  subst hr
  exact encAns_c code lo hi group gen old to do_ at_ state hok h
theorem norm_is {a : Answer} (ha : AnsIs a) : AnsIs (norm a) := by
  obtain ⟨hok, hr⟩ := ha
  exact ⟨hok, hr⟩
theorem told_cl {h : H} {p : Nat} {c : Cl} (ca : ClAt h p c) (ha : AnsIs c.ans) : ∃ r, W K 17 [.one (.ptr p 0 0)] h = some r ∧ Rets (fun v h' => v = (if c.told = 0 then .tup [(false, [ii 0]), (true, zA), (false, [.bool false])] else .tup [(false, [ii c.told]), (true, ansC (norm c.ans)), (false, [.bool true])]) ∧ ClAt h' p c ∧ Held h h' p) r := by
  refine Rets.intro fun P hP => ?_
  have hpn := ca.1
  have hne : ¬ p = h.next := by omega
  have hne2 : ¬ h.next = p := by omega
  have he := enc_c c.ans ha
  have hd := dec_c c.ans ha
  have hrows := ha.rows
  have k1 : ∀ k : Blk, ClAt (h.new k) p c ∧ Held h (h.new k) p := fun k => ⟨ca.new k, by simp, fun b hb _ _ => by rw [new_at, if_neg (by omega)], fun b hb => .inl (by rw [clQ, new_at, if_neg hne] at hb; exact hb)⟩
  have k2 : ∀ k k' : Blk, ClAt ((h.new k).new k') p c ∧ Held h ((h.new k).new k') p := fun k k' => ⟨(ca.new k).new k', by simp; omega, fun b hb _ _ => by rw [new_at, if_neg (by simp; omega), new_at, if_neg (by omega)], fun b hb => .inl (by rw [clQ, new_at, if_neg (by simp; omega), new_at, if_neg hne] at hb; exact hb)⟩
  by_cases ht : c.told = 0
  · rw [if_pos ht] at hP
    have hq := fun v hv => hP v (h.new ⟨0, [11], true, zA⟩) ⟨hv, (k1 _).1, (k1 _).2⟩
    obtain ⟨_, s, hf, hsl, hos⟩ := ca
    obtain ⟨id, n, sq, busy, row, op, w, g, cached, told, ⟨a1, a2, ⟨a3, a4⟩, a5, a6, a7, a8, a9, a10, a11⟩⟩ := c
    simp only at ht
    subst ht
    simp only [clC, zA] at hf hq
    have hs0 := new_set h ⟨0, [11], true, zA⟩ ⟨0, [11], true, zA⟩
    refine W_doesQ hp rfl rfl rfl Tryz.func17 rfl (by simp [Tryz.f17]) ?_
    simp only [Tryz.f17]
    refine hide ?_; intro Q1 hQ1
    repeat' (first
      | (replace hQ1 := hQ1; simp [hf, hne, hne2])
      | refine hQ1 _ _ _ ?_
      | refine dF (id := 5) [0, 1, 2, 3, 4, 5, 6, 7] [] ?_
      | (first | apply cF | apply wN | apply wS) <;> intro hcnd <;> (try simp only [hcnd]) <;> (try simp [-List.isEmpty_iff, -List.isEmpty_eq_false_iff] at hcnd))
    all_goals exact hq _ rfl
  · rw [if_neg ht] at hP
    have hs := new_set (h.new ⟨0, [11], true, zA⟩) ⟨0, [11], true, zA⟩ ⟨0, [11], true, ansC (norm c.ans)⟩
    have hs2 : ((h.new ⟨0, [11], true, zA⟩).new ⟨0, [11], true, ansC (norm c.ans)⟩).set h.next ⟨0, [11], true, ansC (norm c.ans)⟩ = (h.new ⟨0, [11], true, ansC (norm c.ans)⟩).new ⟨0, [11], true, ansC (norm c.ans)⟩ := by
      simp only [H.set, H.new]; congr 1; funext x; split
      · rename_i e; subst e; rw [if_neg (by omega)]
      · rfl
    simp only [new_next] at hs hs2
    have hq := fun v hv => hP v ((h.new ⟨0, [11], true, ansC (norm c.ans)⟩).new ⟨0, [11], true, ansC (norm c.ans)⟩) ⟨hv, (k2 _ _).1, (k2 _ _).2⟩
    obtain ⟨_, s, hf, hsl, hos⟩ := ca
    obtain ⟨id, n, sq, busy, row, op, w, g, cached, told, ⟨a1, a2, ⟨a3, a4⟩, a5, a6, a7, a8, a9, a10, a11⟩⟩ := c
    simp only at hrows ht
    subst hrows
    have hbt : (told == 0) = false := by simp [ht]
    have hne3 : ¬ p = h.next + 1 := by omega
    have hne4 : ¬ h.next + 1 = p := by omega
    have hsn : sl 2 encNamed none = .nilslc := rfl
    simp only [clC, zA, norm] at *
    refine W_doesQ hp rfl rfl rfl Tryz.func17 rfl (by simp [Tryz.f17]) ?_
    simp only [Tryz.f17]
    refine hide ?_; intro Q2 hQ2
    repeat' (first
      | (replace hQ2 := hQ2; simp [hf, hne, hne2, hne3, hne4, hsn, ht, hbt, he, hd, hs, hs2])
      | refine hQ2 _ _ _ ?_
      | refine dF (id := 5) [0, 1, 2, 3, 4, 5, 6, 7] [] ?_
      | (first | apply cF | apply wN | apply wS) <;> intro hcnd <;> (try simp only [hcnd]) <;> (try simp [-List.isEmpty_iff, -List.isEmpty_eq_false_iff] at hcnd))
    all_goals first | exact hq _ rfl | trace_state
theorem cloneT_c (o : Option (List Tablet)) (ho : (ls o).length < 1000) : ∃ r, W K 40 [.one (sl 4 encTablet o)] H.empty = some r ∧ Rets (fun v h' => ∃ s', v = .one s' ∧ frzS true h' 64 s' = some (sl 4 encTablet o)) r := by
  refine Rets.intro fun P hP => ?_
  cases o with
  | none =>
    have : sl 4 encTablet none = .nilslc := rfl
    rw [this] at hP ⊢
    have hq := hP (.one .nilslc) H.empty ⟨_, rfl, rfl⟩
    refine W_doesQ hp rfl rfl rfl Tryz.func40 rfl (by simp [Tryz.f40]) ?_
    simp only [Tryz.f40]
    refine hide ?_; intro Q3 hQ3
    repeat' (first
      | (replace hQ3 := hQ3; simp [bin, ford, equalA])
      | refine hQ3 _ _ _ ?_
      | (first | apply cF | apply wN | apply wS) <;> intro hcnd <;> (try simp only [hcnd]) <;> (try simp [-List.isEmpty_iff, -List.isEmpty_eq_false_iff] at hcnd))
    all_goals exact hq
  | some l =>
    simp only [ls_some] at ho
    have hl4 := flat_length len_tablet l
    have hpt : ∀ st, pureL st (cat encTablet l) = true := fun st => pureL_flat _ fun x _ => by cases st <;> simp [encTablet, pureL, pureS]
    simp only [sl] at hP ⊢
    by_cases h0 : l = []
    · subst h0
      have hq := hP (.one (.slc 0 0 0 0 4 none)) (H.empty.new ⟨0, [0], true, []⟩) ⟨_, rfl, rfl⟩
      refine W_doesQ hp rfl rfl rfl Tryz.func40 rfl (by simp [Tryz.f40]) ?_
      simp only [Tryz.f40]
      refine hide ?_; intro Q4 hQ4
      repeat' (first
        | (replace hQ4 := hQ4; simp [bin, ford, equalA, appendA, appendL, lenS, elemsOf, sub, limit, cat])
        | refine hQ4 _ _ _ ?_
        | (first | apply cF | apply wN | apply wS) <;> intro hcnd <;> (try simp only [hcnd]) <;> (try simp [-List.isEmpty_iff, -List.isEmpty_eq_false_iff] at hcnd))
      all_goals first | exact hq | trace_state
    · have h1 : l.length ≠ 0 := by simpa using h0
      have h2 : ¬ (17592186044416 < (l.length + 600) * 48 + l.length) := by omega
      have ht : (cat encTablet l).take (l.length * 4) = cat encTablet l := List.take_of_length_le (by omega)
      have hce : ¬ cat encTablet l = [] := fun e => by rw [e] at hl4; simp at hl4; omega
      have h5 : (cat encTablet l).mapM (frzS true ((H.empty.new ⟨0, [0], true, []⟩).new ⟨0, [l.length * 4], false, cat encTablet l⟩) 63) = some (cat encTablet l) := mapM_pure (n := 62) (hpt true)
      have hq := hP (.one (.slc 1 0 0 l.length 4 none)) ((H.empty.new ⟨0, [0], true, []⟩).new ⟨0, [l.length * 4], false, cat encTablet l⟩) ⟨_, rfl, by
        simp only [frzS, readC, new_at, new_next, empty_next, Blk.ext, Option.bind_eq_bind, Option.bind_some]
        simp [sub, hl4, ht, h5]⟩
      refine W_doesQ hp rfl rfl rfl Tryz.func40 rfl (by simp [Tryz.f40]) ?_
      simp only [Tryz.f40]
      refine hide ?_; intro Q5 hQ5
      repeat' (first
        | (replace hQ5 := hQ5; simp [bin, ford, equalA, appendA, appendL, lenS, elemsOf, sub, limit, h0, h2, hce, ht, hl4])
        | refine hQ5 _ _ _ ?_
        | (first | apply cF | apply wN | apply wS) <;> intro hcnd <;> (try simp only [hcnd]) <;> (try simp [-List.isEmpty_iff, -List.isEmpty_eq_false_iff] at hcnd))
      all_goals first | exact hq | trace_state
theorem cached_cl {h : H} {p : Nat} {c : Cl} (ca : ClAt h p c) (hl : c.cached.length < 1000) : ∃ o, ls o = c.cached ∧ W K 16 [.one (.ptr p 0 0)] h = some (.ret (.one (sl 4 encTablet o)) h) := by
  obtain ⟨o, ho, hv⟩ := view_cl ca
  refine ⟨o, ho, Fun.view hp (r := fun h => .ret (.one (sl 4 encTablet o)) h) ?_ hv⟩
  have hpv := pure_clC (st := false) c o
  obtain ⟨r, hc, hr⟩ := cloneT_c o (by rw [ho]; exact hl)
  obtain ⟨v, h', rfl, s', rfl, hz⟩ := hr.ret
  have g8 : sub (clC c (sl 4 encTablet o)) 8 1 = some [sl 4 encTablet o] := rfl
  simp only [clV]
  generalize clC c (sl 4 encTablet o) = M at *
  have hown : memL S.own 16 = false := by kernel_rfl
  refine ⟨by simp [pureV, hpv, hc, g8, outV, frzV, frzS, frzS_pure, frzP, pureS, pureL, K_own, hown], fun hh => apart_does rfl rfl (by kernel_rfl) Tryz.func16 rfl (by simp [Tryz.f16]) ?_⟩
  simp only [Tryz.f16]
  refine hide ?_; intro Q6 hQ6
  repeat' (first
    | (replace hQ6 := hQ6; simp [hpv, hc, g8, outV, frzV, frzS, frzS_pure, frzP, pureS, pureL, K_own, hown])
    | refine hQ6 _ _ _ ?_)
  all_goals first | (simp only [hz]; rfl) | (rw [hz]; rfl) | trace_state
end Go.Proofs.YtmhbdpgflomihaaGreat
