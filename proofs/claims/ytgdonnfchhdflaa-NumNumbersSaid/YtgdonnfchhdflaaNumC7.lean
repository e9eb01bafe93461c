/- A part of a proof over the abstract machine. No conditions. -/
import Derived.Test.YtgdonnfchhdflaaNumC6
/- chapter 1: lists, tells -/
namespace Go.Proofs.Ytgdonnfchhdflaa
open Go Go.Ab NumPlain
set_option linter.unusedSimpArgs false
set_option linter.unnecessarySimpa false
set_option linter.unusedVariables false
set_option maxRecDepth 10000
set_option maxHeartbeats 2000000

def Inv42 (s : AS) (b : Nat) (l : List Nat) (h : H) (k : Nat) (fr : Fr) (h2 : H) : Prop := h2 = h ∧ fr.length = 26 ∧ ∃ (m : Nat) (mi : Int), 1 ≤ m ∧ m ≤ l.length + 1 ∧ k = l.length + 1 - m ∧ mi = (m : Int) ∧
  Fr.get fr 0 = .one s ∧ Fr.get fr 3 = .one (.flt (totalFrom (canB b) (l.take (m - 1)))) ∧ Fr.get fr 4 = .one (.int .i64 mi)
theorem rtotal_c (h : H) (s : AS) (bs : List Nat) (hs : SeesF h s bs) (hbs : ∀ b ∈ bs, b < 2 ^ 64) (hlen : bs.length < 9223372036854775807) : W K 42 [.one s] h = some (.ret (.one (.flt (totalN bs))) h) := by
  have hl := sf_len hs
  cases bs with
  | nil =>
    refine W_does hp rfl rfl rfl Try.func42 rfl (by simp [Try.f42]) ?_
    simp only [Try.f42, List.length_cons, List.length_nil, List.replicate, List.cons_append, List.nil_append, Nat.reduceAdd, Nat.reduceSub]
    repeat' (first
      | (rw [doesO_cons]; simp [hl, totalN])
      | (rw [doesO_nil']; refine hQ' _ _ _ ?_; clear hQ' Q'; simp only [])
      | refine does_seq hp ?_
      | (refine does_gen hp ?_; intro Q' hQ')
      | refine does_block hp ?_
      | (refine does_ret hp ?_; simp [hl, totalN])
      | (refine does_skip hp ?_; simp [hl, totalN])
      | (refine does_exit hp ?_; simp [hl, totalN])
      | (refine does_cond' hp ?_; simp [hl, totalN]; done)
      | (refine does_cond' hp ?_; simp [hl, totalN]; refine fork (fun hcnd => ?_) (fun hcnd => ?_) <;> (try simp at hcnd))
      | (refine does_cond' hp ?_; simp [hl, totalN]))
  | cons b l =>
    have hi := sf_index hs (i := 0) (by simp)
    have hr := sf_read hs (i := 0) (by simp)
    simp only [List.getElem_cons_zero] at hr
    have hne : ((l.length : Int) + 1 == 0) = false := by simp; omega
    have f1 := rfrom_c b (hbs b (by simp))
    refine W_does hp rfl rfl rfl Try.func42 rfl (by simp [Try.f42]) ?_
    simp only [Try.f42, List.length_cons, List.length_nil, List.replicate, List.cons_append, List.nil_append, Nat.reduceAdd, Nat.reduceSub]
    repeat' (first
      | (rw [doesO_cons]; simp [hl, hne, hi, hr, bits_c, f1])
      | (rw [doesO_nil']; refine hQ' _ _ _ ?_; clear hQ' Q'; simp only [])
      | refine does_seq hp ?_
      | (refine does_gen hp ?_; intro Q' hQ')
      | refine does_block hp ?_
      | (refine does_ret hp ?_; simp [hl, hne, hi, hr, bits_c, f1])
      | (refine does_skip hp ?_; simp [hl, hne, hi, hr, bits_c, f1])
      | (refine does_exit hp ?_; simp [hl, hne, hi, hr, bits_c, f1])
      | (refine does_cond' hp ?_; simp [hl, hne, hi, hr, bits_c, f1]; done)
      | (refine does_cond' hp ?_; simp [hl, hne, hi, hr, bits_c, f1]; refine fork (fun hcnd => ?_) (fun hcnd => ?_) <;> (try simp at hcnd))
      | (refine does_cond' hp ?_; simp [hl, hne, hi, hr, bits_c, f1]))
    refine does_loop hp (Inv42 s b l h) ?_ l.length _ _ ⟨rfl, rfl, 1, 1, by omega, by omega, by omega, rfl, rfl, by simp [totalFrom], rfl⟩
    rintro k fr2 h2 ⟨rfl, hfl, m, mi, hm1, hm2, rfl, hmi, g0, g3, g4⟩
    by_cases hlt : m < l.length + 1
    · have p1 := sf_index hs (i := m) (by simp; omega)
      have p2 := sf_read hs (i := m) (by simp; omega)
      have hwi : IntKind.i64.wrap (mi + 1) = mi + 1 := wrap_i (by omega) (by simp at hlen; omega)
      obtain ⟨m', rfl⟩ : ∃ m', m = m' + 1 := ⟨m - 1, by omega⟩
      have hstep : sumB (totalFrom (canB b) (l.take m')) l[m'] = totalFrom (canB b) (l.take (m' + 1)) := by
        unfold totalFrom
        rw [List.take_succ_eq_append_getElem (by omega), List.foldl_append]; rfl
      simp only [List.getElem_cons_succ] at p2
      have hlt' : mi < (l.length : Int) + 1 := by omega
      have hnat : mi.toNat = m' + 1 := by omega
      have hnn : (0 : Int) ≤ mi := by omega
      simp only [Nat.add_sub_cancel] at g3
      repeat' (first
        | (rw [doesO_cons]; simp [hfl, hl, g0, g3, g4, hlt', hnat, hnn, p1, p2, rsum_c, hwi, hstep])
        | (rw [doesO_nil']; refine hQ' _ _ _ ?_; clear hQ' Q'; simp only [])
        | refine does_seq hp ?_
        | (refine does_gen hp ?_; intro Q' hQ')
        | refine does_block hp ?_
        | (refine does_ret hp ?_; simp [hfl, hl, g0, g3, g4, hlt', hnat, hnn, p1, p2, rsum_c, hwi, hstep])
        | (refine does_skip hp ?_; simp [hfl, hl, g0, g3, g4, hlt', hnat, hnn, p1, p2, rsum_c, hwi, hstep])
        | (refine does_exit hp ?_; simp [hfl, hl, g0, g3, g4, hlt', hnat, hnn, p1, p2, rsum_c, hwi, hstep])
        | (refine does_cond' hp ?_; simp [hfl, hl, g0, g3, g4, hlt', hnat, hnn, p1, p2, rsum_c, hwi, hstep]; done)
        | (refine does_cond' hp ?_; simp [hfl, hl, g0, g3, g4, hlt', hnat, hnn, p1, p2, rsum_c, hwi, hstep]; refine fork (fun hcnd => ?_) (fun hcnd => ?_) <;> (try simp at hcnd))
        | (refine does_cond' hp ?_; simp [hfl, hl, g0, g3, g4, hlt', hnat, hnn, p1, p2, rsum_c, hwi, hstep]))
      exact ⟨l.length - (m' + 1), by omega, rfl, by simp [hfl], m' + 1 + 1, mi + 1, by omega, by omega, by omega, by omega, by simp [hfl, g0], by simp [hfl], by simp [hfl]⟩
    · have hm : m = l.length + 1 := by omega
      subst hm
      have hnl : ¬ (mi < (l.length : Int) + 1) := by omega
      simp only [Nat.add_sub_cancel, List.take_length] at g3
      repeat' (first
        | (rw [doesO_cons]; simp [hfl, hl, g0, g3, g4, hnl, totalN])
        | (rw [doesO_nil']; refine hQ' _ _ _ ?_; clear hQ' Q'; simp only [])
        | refine does_seq hp ?_
        | (refine does_gen hp ?_; intro Q' hQ')
        | refine does_block hp ?_
        | (refine does_ret hp ?_; simp [hfl, hl, g0, g3, g4, hnl, totalN])
        | (refine does_skip hp ?_; simp [hfl, hl, g0, g3, g4, hnl, totalN])
        | (refine does_exit hp ?_; simp [hfl, hl, g0, g3, g4, hnl, totalN])
        | (refine does_cond' hp ?_; simp [hfl, hl, g0, g3, g4, hnl, totalN]; done)
        | (refine does_cond' hp ?_; simp [hfl, hl, g0, g3, g4, hnl, totalN]; refine fork (fun hcnd => ?_) (fun hcnd => ?_) <;> (try simp at hcnd))
        | (refine does_cond' hp ?_; simp [hfl, hl, g0, g3, g4, hnl, totalN]))

theorem cmp_three (a b : Nat) : cmpN a b = -1 ∨ cmpN a b = 0 ∨ cmpN a b = 1 := by
  unfold cmpN; split
  · simp
  · split <;> simp
theorem pick_lo (out x : Nat) : (cmpN (keyN (canB x)) (keyN (canB out)) < 0 ∧ pick1 (-1) out x = x) ∨ (¬ cmpN (keyN (canB x)) (keyN (canB out)) < 0 ∧ pick1 (-1) out x = out) := by
  have h3 := cmp_three (keyN (canB x)) (keyN (canB out))
  unfold pick1
  by_cases h : cmpN (keyN (canB x)) (keyN (canB out)) = -1
  · rw [if_pos h]; left; exact ⟨by omega, rfl⟩
  · rw [if_neg h]; right; exact ⟨by omega, rfl⟩
theorem pick_hi (out x : Nat) : (0 < cmpN (keyN (canB x)) (keyN (canB out)) ∧ pick1 1 out x = x) ∨ (¬ 0 < cmpN (keyN (canB x)) (keyN (canB out)) ∧ pick1 1 out x = out) := by
  have h3 := cmp_three (keyN (canB x)) (keyN (canB out))
  unfold pick1
  by_cases h : cmpN (keyN (canB x)) (keyN (canB out)) = 1
  · rw [if_pos h]; left; exact ⟨by omega, rfl⟩
  · rw [if_neg h]; right; exact ⟨by omega, rfl⟩

def Inv27 (s : AS) (b : Nat) (l : List Nat) (lo hi : Nat) (h : H) (k : Nat) (fr : Fr) (h2 : H) : Prop := h2 = h ∧ fr.length = 94 ∧ ∃ (m : Nat) (mi : Int), 1 ≤ m ∧ m ≤ l.length + 1 ∧ k = l.length + 1 - m ∧ mi = (m : Int) ∧
  Fr.get fr 0 = .one s ∧ Fr.get fr 3 = .one (.flt lo) ∧ Fr.get fr 5 = .one (.flt hi) ∧ Fr.get fr 7 = .one (.flt ((l.take (m - 1)).foldl (pick1 (-1)) b)) ∧ Fr.get fr 8 = .one (.flt ((l.take (m - 1)).foldl (pick1 1) b)) ∧ Fr.get fr 9 = .one (.int .i64 mi)
theorem lists_c (h : H) (s : AS) (bs : List Nat) (hs : SeesF h s bs) (hbs : ∀ b ∈ bs, b < 2 ^ 64) (hlen : bs.length < 9223372036854775807) : W K 27 [.one s] h = some (.ret (.one (.bool true)) h) := by
  have hl := sf_len hs
  have hL := least_c h s bs hs hbs hlen
  have hM := most_c h s bs hs hbs hlen
  have ht := total_c h s bs hs hlen
  have hrt := rtotal_c h s bs hs hbs hlen
  have e00 : fcmp .eql (D.order 0 0) = some true := by rw [eq_zero]; decide
  cases bs with
  | nil =>
    simp only [PickR] at hL hM
    refine W_does hp rfl rfl rfl Try.func27 rfl (by simp [Try.f27]) ?_
    simp only [Try.f27, List.length_cons, List.length_nil, List.replicate, List.cons_append, List.nil_append, Nat.reduceAdd, Nat.reduceSub]
    repeat' (first
      | (rw [doesO_cons]; simp [hl, hL, hM, ht, hrt, e00, bits18_c])
      | (rw [doesO_nil']; refine hQ' _ _ _ ?_; clear hQ' Q'; simp only [])
      | (rw [doesD_cons]; simp [hl, hL, hM, ht, hrt, e00, bits18_c])
      | (rw [doesD_nil]; refine hQ' _ _ _ ?_; clear hQ' Q'; simp only [])
      | refine does_seq hp ?_
      | (refine does_gen hp ?_; intro Q' hQ')
      | (refine doesD_gen (id := 7) hp [0, 1, 2, 3, 4, 5, 6, 7] [] (by kernel_rfl) ?_; intro Q' hQ')
      | refine does_block hp ?_
      | (refine does_ret hp ?_; simp [hl, hL, hM, ht, hrt, e00, bits18_c])
      | (refine does_skip hp ?_; simp [hl, hL, hM, ht, hrt, e00, bits18_c])
      | (refine does_exit hp ?_; simp [hl, hL, hM, ht, hrt, e00, bits18_c])
      | (refine does_cond' hp ?_; simp [hl, hL, hM, ht, hrt, e00, bits18_c]; done)
      | (refine does_cond' hp ?_; simp [hl, hL, hM, ht, hrt, e00, bits18_c]; refine fork (fun hcnd => ?_) (fun hcnd => ?_) <;> (try simp at hcnd))
      | (refine does_cond' hp ?_; simp [hl, hL, hM, ht, hrt, e00, bits18_c]))
  | cons b l =>
    have hi := sf_index hs (i := 0) (by simp)
    have hr := sf_read hs (i := 0) (by simp)
    simp only [List.getElem_cons_zero] at hr
    have hne : ((l.length : Int) + 1 == 0) = false := by simp; omega
    have hgt : (0 : Int) < (l.length : Int) + 1 := by omega
    have hbb := hbs b (by simp)
    have hll : ∀ x ∈ l, x < 2 ^ 64 := fun x hx => hbs x (by simp [hx])
    simp only [PickR, reduceCtorEq, if_false, pickN] at hL hM
    generalize totalN (b :: l) = tot at *
    have hfa := rbits_c _ (pickN_fold_lt (-1) l b hbb hll)
    have hfb := rbits_c _ (pickN_fold_lt 1 l b hbb hll)
    refine W_does hp rfl rfl rfl Try.func27 rfl (by simp [Try.f27]) ?_
    simp only [Try.f27, List.length_cons, List.length_nil, List.replicate, List.cons_append, List.nil_append, Nat.reduceAdd, Nat.reduceSub]
    repeat' (first
      | (rw [doesO_cons]; simp [hl, hne, hgt, hi, hr, hL, hM, ht, hrt, bits18_c])
      | (rw [doesO_nil']; refine hQ' _ _ _ ?_; clear hQ' Q'; simp only [])
      | (rw [doesD_cons]; simp [hl, hne, hgt, hi, hr, hL, hM, ht, hrt, bits18_c])
      | (rw [doesD_nil]; refine hQ' _ _ _ ?_; clear hQ' Q'; simp only [])
      | refine does_seq hp ?_
      | (refine does_gen hp ?_; intro Q' hQ')
      | (refine doesD_gen (id := 7) hp [0, 1, 2, 3, 4, 5, 6, 7] [] (by kernel_rfl) ?_; intro Q' hQ')
      | refine does_block hp ?_
      | (refine does_ret hp ?_; simp [hl, hne, hgt, hi, hr, hL, hM, ht, hrt, bits18_c])
      | (refine does_skip hp ?_; simp [hl, hne, hgt, hi, hr, hL, hM, ht, hrt, bits18_c])
      | (refine does_exit hp ?_; simp [hl, hne, hgt, hi, hr, hL, hM, ht, hrt, bits18_c])
      | (refine does_cond' hp ?_; simp [hl, hne, hgt, hi, hr, hL, hM, ht, hrt, bits18_c]; done)
      | (refine does_cond' hp ?_; simp [hl, hne, hgt, hi, hr, hL, hM, ht, hrt, bits18_c]; refine fork (fun hcnd => ?_) (fun hcnd => ?_) <;> (try simp at hcnd))
      | (refine does_cond' hp ?_; simp [hl, hne, hgt, hi, hr, hL, hM, ht, hrt, bits18_c]))
    refine does_loop hp (Inv27 s b l _ _ h) ?_ l.length _ _ ⟨rfl, rfl, 1, 1, by omega, by omega, by omega, rfl, rfl, rfl, rfl, rfl, rfl, rfl⟩
    rintro k fr2 h2 ⟨rfl, hfl, m, mi, hm1, hm2, rfl, hmi, g0, g3, g5, g7, g8, g9⟩
    by_cases hlt : m < l.length + 1
    · have p1 := sf_index hs (i := m) (by simp; omega)
      have p2 := sf_read hs (i := m) (by simp; omega)
      have hwi : IntKind.i64.wrap (mi + 1) = mi + 1 := wrap_i (by omega) (by simp at hlen; omega)
      obtain ⟨m', rfl⟩ : ∃ m', m = m' + 1 := ⟨m - 1, by omega⟩
      simp only [Nat.add_sub_cancel] at g7 g8
      simp only [List.getElem_cons_succ] at p2
      have hout1 := pickN_fold_lt (-1) (l.take m') b hbb fun x hx => hll x (List.mem_of_mem_take hx)
      have hout2 := pickN_fold_lt 1 (l.take m') b hbb fun x hx => hll x (List.mem_of_mem_take hx)
      have ho1 := rorder_c l[m'] _ (hll _ (List.getElem_mem (by omega))) hout1
      have ho2 := rorder_c l[m'] _ (hll _ (List.getElem_mem (by omega))) hout2
      have hs1 : (l.take (m' + 1)).foldl (pick1 (-1)) b = pick1 (-1) ((l.take m').foldl (pick1 (-1)) b) l[m'] := by
        rw [List.take_succ_eq_append_getElem (by omega), List.foldl_append]; rfl
      have hs2 : (l.take (m' + 1)).foldl (pick1 1) b = pick1 1 ((l.take m').foldl (pick1 1) b) l[m'] := by
        rw [List.take_succ_eq_append_getElem (by omega), List.foldl_append]; rfl
      have hlt' : mi < (l.length : Int) + 1 := by omega
      have hnat : mi.toNat = m' + 1 := by omega
      have hnn : (0 : Int) ≤ mi := by omega
      generalize (l.take m').foldl (pick1 (-1)) b = out1 at *
      generalize (l.take m').foldl (pick1 1) b = out2 at *
      have hc1 := pick_lo out1 l[m']
      have hc2 := pick_hi out2 l[m']
      generalize cmpN (keyN (canB l[m'])) (keyN (canB out1)) = o1 at *
      generalize cmpN (keyN (canB l[m'])) (keyN (canB out2)) = o2 at *
      rcases hc1 with ⟨c1, q1⟩ | ⟨c1, q1⟩ <;> rcases hc2 with ⟨c2, q2⟩ | ⟨c2, q2⟩ <;> rw [q1] at hs1 <;> rw [q2] at hs2
      all_goals
        repeat' (first
          | (rw [doesO_cons]; simp [hfl, hl, g0, g7, g8, g9, hlt', hnat, hnn, p1, p2, ho1, ho2, c1, c2, hwi])
          | (rw [doesO_nil']; refine hQ' _ _ _ ?_; clear hQ' Q'; simp only [])
          | (rw [doesD_cons]; simp [hfl, hl, g0, g7, g8, g9, hlt', hnat, hnn, p1, p2, ho1, ho2, c1, c2, hwi])
          | (rw [doesD_nil]; refine hQ' _ _ _ ?_; clear hQ' Q'; simp only [])
          | refine does_seq hp ?_
          | (refine does_gen hp ?_; intro Q' hQ')
          | (refine doesD_gen (id := 7) hp [0, 1, 2, 3, 4, 5, 6, 7] [] (by kernel_rfl) ?_; intro Q' hQ')
          | refine does_block hp ?_
          | (refine does_ret hp ?_; simp [hfl, hl, g0, g7, g8, g9, hlt', hnat, hnn, p1, p2, ho1, ho2, c1, c2, hwi])
          | (refine does_skip hp ?_; simp [hfl, hl, g0, g7, g8, g9, hlt', hnat, hnn, p1, p2, ho1, ho2, c1, c2, hwi])
          | (refine does_exit hp ?_; simp [hfl, hl, g0, g7, g8, g9, hlt', hnat, hnn, p1, p2, ho1, ho2, c1, c2, hwi])
          | (refine does_cond' hp ?_; simp [hfl, hl, g0, g7, g8, g9, hlt', hnat, hnn, p1, p2, ho1, ho2, c1, c2, hwi]; done)
          | (refine does_cond' hp ?_; simp [hfl, hl, g0, g7, g8, g9, hlt', hnat, hnn, p1, p2, ho1, ho2, c1, c2, hwi]; refine fork (fun hcnd => ?_) (fun hcnd => ?_) <;> (try simp at hcnd))
          | (refine does_cond' hp ?_; simp [hfl, hl, g0, g7, g8, g9, hlt', hnat, hnn, p1, p2, ho1, ho2, c1, c2, hwi]))
        exact ⟨l.length - (m' + 1), by omega, rfl, by simp [hfl], m' + 1 + 1, mi + 1, by omega, by omega, by omega, by omega, by simp [hfl, g0], by simp [hfl, g3], by simp [hfl, g5], by simp [hfl, g7, hs1], by simp [hfl, g8, hs2], by simp [hfl]⟩
    · have hm : m = l.length + 1 := by omega
      subst hm
      have hnl : ¬ (mi < (l.length : Int) + 1) := by omega
      simp only [Nat.add_sub_cancel, List.take_length] at g7 g8
      repeat' (first
        | (rw [doesO_cons]; simp [hfl, hl, g0, g3, g5, g7, g8, g9, hnl, bits18_c, hfa, hfb])
        | (rw [doesO_nil']; refine hQ' _ _ _ ?_; clear hQ' Q'; simp only [])
        | (rw [doesD_cons]; simp [hfl, hl, g0, g3, g5, g7, g8, g9, hnl, bits18_c, hfa, hfb])
        | (rw [doesD_nil]; refine hQ' _ _ _ ?_; clear hQ' Q'; simp only [])
        | refine does_seq hp ?_
        | (refine does_gen hp ?_; intro Q' hQ')
        | (refine doesD_gen (id := 7) hp [0, 1, 2, 3, 4, 5, 6, 7] [] (by kernel_rfl) ?_; intro Q' hQ')
        | refine does_block hp ?_
        | (refine does_ret hp ?_; simp [hfl, hl, g0, g3, g5, g7, g8, g9, hnl, bits18_c, hfa, hfb])
        | (refine does_skip hp ?_; simp [hfl, hl, g0, g3, g5, g7, g8, g9, hnl, bits18_c, hfa, hfb])
        | (refine does_exit hp ?_; simp [hfl, hl, g0, g3, g5, g7, g8, g9, hnl, bits18_c, hfa, hfb])
        | (refine does_cond' hp ?_; simp [hfl, hl, g0, g3, g5, g7, g8, g9, hnl, bits18_c, hfa, hfb]; done)
        | (refine does_cond' hp ?_; simp [hfl, hl, g0, g3, g5, g7, g8, g9, hnl, bits18_c, hfa, hfb]; refine fork (fun hcnd => ?_) (fun hcnd => ?_) <;> (try simp at hcnd))
        | (refine does_cond' hp ?_; simp [hfl, hl, g0, g3, g5, g7, g8, g9, hnl, bits18_c, hfa, hfb]))
end Go.Proofs.Ytgdonnfchhdflaa
