/- A part of a proof over the abstract machine. No conditions. -/
import Derived.Test.YtgdonnfchhdflaaNumC5
import Derived.Test.YtgdonnfchhdflaaNumC7
/- chapter 1: floats of each kind, each with each -/
namespace Go.Proofs.Ytgdonnfchhdflaa
open Go Go.Ab NumPlain
set_option linter.unusedSimpArgs false
set_option linter.unnecessarySimpa false
set_option linter.unusedVariables false
set_option maxRecDepth 10000
set_option maxHeartbeats 2000000

def odds : List Nat := [0, 9223372036854775808, 4607182418800017408, 13830554455654793216, 9218868437227405312, 18442240474082181120, 9221120237041090561, 18444492273895866369, 9218868437227405313, 9218868437227405311, 18442240474082181119, 1, 9223372036854775809, 4591870180066957722, 2024022533073106]
theorem odd_c (h : H) : W K 25 [] h = some (.ret (.one (.slc h.next 0 0 15 1 none)) (h.new (blkOf (odds.map AS.flt) true))) := by
  refine W_does hp rfl rfl rfl Try.func25 rfl (by simp [Try.f25]) ?_
  simp only [Try.f25, List.length_cons, List.length_nil, List.replicate, List.cons_append, List.nil_append, Nat.reduceAdd, Nat.reduceSub]
  repeat' (first
    | (rw [doesO_cons]; simp [copysign_c, inf1_c, infm_c, nan_c, frombits_c])
    | (rw [doesO_nil']; refine hQ' _ _ _ ?_; clear hQ' Q'; simp only [])
    | refine does_seq hp ?_
    | (refine does_gen hp ?_; intro Q' hQ')
    | refine does_block hp ?_
    | (refine does_ret hp ?_; simp [copysign_c, inf1_c, infm_c, nan_c, frombits_c])
    | (refine does_skip hp ?_; simp [copysign_c, inf1_c, infm_c, nan_c, frombits_c])
    | (refine does_exit hp ?_; simp [copysign_c, inf1_c, infm_c, nan_c, frombits_c])
    | (refine does_cond' hp ?_; simp [copysign_c, inf1_c, infm_c, nan_c, frombits_c]; done)
    | (refine does_cond' hp ?_; simp [copysign_c, inf1_c, infm_c, nan_c, frombits_c]; refine fork (fun hcnd => ?_) (fun hcnd => ?_) <;> (try simp at hcnd))
    | (refine does_cond' hp ?_; simp [copysign_c, inf1_c, infm_c, nan_c, frombits_c]))
  rw [doesO_cons]
  simp (config := {maxSteps := 2000000}) [odds]
  repeat' (first
    | (rw [doesO_cons]; simp)
    | (rw [doesO_nil']; refine hQ' _ _ _ ?_; clear hQ' Q'; simp only [])
    | refine does_seq hp ?_
    | (refine does_gen hp ?_; intro Q' hQ')
    | refine does_block hp ?_
    | (refine does_ret hp ?_; simp)
    | (refine does_skip hp ?_; simp)
    | (refine does_exit hp ?_; simp)
    | (refine does_cond' hp ?_; simp; done)
    | (refine does_cond' hp ?_; simp; refine fork (fun hcnd => ?_) (fun hcnd => ?_) <;> (try simp at hcnd))
    | (refine does_cond' hp ?_; simp))
  rfl
theorem odds_lt : ∀ u ∈ odds, u < 2 ^ 64 := by decide
def InvA (x : AS) (us : List Nat) (k : Nat) (fr : Fr) (h : H) : Prop := fr.length = 53 ∧ ∃ (m : Nat) (mi : Int), m ≤ us.length ∧ k = us.length - m ∧ mi = (m : Int) ∧ Owns h 1 x (us.map AS.flt) ∧ Fr.get fr 1 = .one x ∧ Fr.get fr 2 = .one (.int .i64 mi)
def InvB (x : AS) (us : List Nat) (mi : Int) (k : Nat) (fr : Fr) (h : H) : Prop := fr.length = 53 ∧ ∃ (j : Nat) (ji : Int), j ≤ us.length ∧ k = us.length - j ∧ ji = (j : Int) ∧ Owns h 1 x (us.map AS.flt) ∧ Fr.get fr 1 = .one x ∧ Fr.get fr 2 = .one (.int .i64 mi) ∧ Fr.get fr 3 = .one (.int .i64 ji)
theorem numbers_c (h : H) : ∃ h', W K 7 [] h = some (.ret (.one (.bool true)) h') := by
  suffices hx : ∃ r, W K 7 [] h = some r ∧ ∃ h', r = .ret (.one (.bool true)) h' by
    obtain ⟨r, hr, h', rfl⟩ := hx; exact ⟨h', hr⟩
  have ho := odd_c h
  have hown := owns_made h 1 15 (odds.map AS.flt) true rfl
  have hus := odds_lt
  have hlen : odds.length = 15 := rfl
  generalize odds = us at *
  generalize AS.slc h.next 0 0 15 1 none = x at *
  generalize h.new (blkOf (us.map AS.flt) true) = h1 at *
  refine W_doesQ hp rfl rfl rfl Try.func7 rfl (by simp [Try.f7]) ?_
  simp only [Try.f7, List.length_cons, List.length_nil, List.replicate, List.cons_append, List.nil_append, Nat.reduceAdd, Nat.reduceSub]
  repeat' (first
    | (rw [doesO_cons]; simp [ho])
    | (rw [doesO_nil']; refine hQ' _ _ _ ?_; clear hQ' Q'; simp only [])
    | (rw [doesD_cons]; simp [ho])
    | (rw [doesD_nil]; refine hQ' _ _ _ ?_; clear hQ' Q'; simp only [])
    | refine does_seq hp ?_
    | (refine does_gen hp ?_; intro Q' hQ')
    | (refine doesD_gen (id := 8) hp [0, 1, 2, 3, 4, 5, 6, 7, 8, 9, 10, 11, 12, 13, 14, 15, 16, 17, 18, 19, 20, 21, 22] [] (by kernel_rfl) ?_; intro Q' hQ')
    | refine does_block hp ?_
    | (refine does_ret hp ?_; simp [ho])
    | (refine does_skip hp ?_; simp [ho])
    | (refine does_exit hp ?_; simp [ho])
    | (refine does_cond' hp ?_; simp [ho]; done)
    | (refine does_cond' hp ?_; simp [ho]; refine fork (fun hcnd => ?_) (fun hcnd => ?_) <;> (try simp at hcnd))
    | (refine does_cond' hp ?_; simp [ho]))
  refine does_loop hp (InvA x us) ?_ us.length _ _ ⟨rfl, 0, 0, by omega, by omega, rfl, hown, rfl, rfl⟩
  clear ho hown h1
  rintro k fr h1 ⟨hfl, m, mi, hm1, rfl, hmi, hown, g1, g2⟩
  have hx : SeesF h1 x us := hown.sees
  have hl := sf_len hx
  by_cases hlt : m < us.length
  · have hlt' : mi < (us.length : Int) := by omega
    repeat' (first
      | (rw [doesO_cons]; simp [hfl, hl, g1, g2, hlt'])
      | (rw [doesO_nil']; refine hQ' _ _ _ ?_; clear hQ' Q'; simp only [])
      | (rw [doesD_cons]; simp [hfl, hl, g1, g2, hlt'])
      | (rw [doesD_nil]; refine hQ' _ _ _ ?_; clear hQ' Q'; simp only [])
      | refine does_seq hp ?_
      | (refine does_gen hp ?_; intro Q' hQ')
      | (refine doesD_gen (id := 8) hp [0, 1, 2, 3, 4, 5, 6, 7, 8, 9, 10, 11, 12, 13, 14, 15, 16, 17, 18, 19, 20, 21, 22] [] (by kernel_rfl) ?_; intro Q' hQ')
      | refine does_block hp ?_
      | (refine does_ret hp ?_; simp [hfl, hl, g1, g2, hlt'])
      | (refine does_skip hp ?_; simp [hfl, hl, g1, g2, hlt'])
      | (refine does_exit hp ?_; simp [hfl, hl, g1, g2, hlt'])
      | (refine does_cond' hp ?_; simp [hfl, hl, g1, g2, hlt']; done)
      | (refine does_cond' hp ?_; simp [hfl, hl, g1, g2, hlt']; refine fork (fun hcnd => ?_) (fun hcnd => ?_) <;> (try simp at hcnd))
      | (refine does_cond' hp ?_; simp [hfl, hl, g1, g2, hlt']))
    refine does_loop hp (InvB x us mi) ?_ us.length _ _ ⟨by simp [hfl], 0, 0, by omega, by omega, rfl, hown, by simp [hfl, g1], by simp [hfl, g2], by simp [hfl]⟩
    clear hown hfl g1 g2 hx hl
    rintro k fr h1 ⟨hfl, j, ji, hj1, rfl, hji, hown, g1, g2, g3⟩
    have hx : SeesF h1 x us := hown.sees
    have hl := sf_len hx
    have hnm : mi.toNat = m := by omega
    have hnj : ji.toNat = j := by omega
    have hn1 : (0 : Int) ≤ mi := by omega
    have hn2 : (0 : Int) ≤ ji := by omega
    by_cases hjt : j < us.length
    · have hjt' : ji < (us.length : Int) := by omega
      have p1 := sf_index hx (i := m) hlt
      have p2 := sf_read hx (i := m) hlt
      have p3 := sf_index hx (i := j) hjt
      have p4 := sf_read hx (i := j) hjt
      have t1 := two_c us[m] us[j] (hus _ (List.getElem_mem hlt)) (hus _ (List.getElem_mem hjt))
      have hw : IntKind.i64.wrap (ji + 1) = ji + 1 := wrap_i (by omega) (by omega)
      have hmade := owns_made h1 1 3 [AS.flt us[m], AS.flt us[j], AS.flt 4607182418800017408] true rfl
      have hsf : SeesF (h1.new (blkOf [AS.flt us[m], AS.flt us[j], AS.flt 4607182418800017408] true)) (.slc h1.next 0 0 3 1 none) [us[m], us[j], 4607182418800017408] := hmade.sees
      have hli := lists_c _ _ _ hsf (by
        intro v hv
        rcases List.mem_cons.1 hv with rfl | hv
        · exact hus _ (List.getElem_mem hlt)
        · rcases List.mem_cons.1 hv with rfl | hv
          · exact hus _ (List.getElem_mem hjt)
          · simp at hv; subst hv; decide) (by simp)
      have hown2 := hown.new (blkOf [AS.flt us[m], AS.flt us[j], AS.flt 4607182418800017408] true)
      generalize us[m] = um at *
      generalize us[j] = uj at *
      repeat' (first
        | (rw [doesO_cons]; simp [hfl, hl, g1, g2, g3, hjt', hnm, hnj, hn1, hn2, p1, p2, p3, p4, t1, hli, hw])
        | (rw [doesO_nil']; refine hQ' _ _ _ ?_; clear hQ' Q'; simp only [])
        | (rw [doesD_cons]; simp [hfl, hl, g1, g2, g3, hjt', hnm, hnj, hn1, hn2, p1, p2, p3, p4, t1, hli, hw])
        | (rw [doesD_nil]; refine hQ' _ _ _ ?_; clear hQ' Q'; simp only [])
        | refine does_seq hp ?_
        | (refine does_gen hp ?_; intro Q' hQ')
        | (refine doesD_gen (id := 8) hp [0, 1, 2, 3, 4, 5, 6, 7, 8, 9, 10, 11, 12, 13, 14, 15, 16, 17, 18, 19, 20, 21, 22] [] (by kernel_rfl) ?_; intro Q' hQ')
        | refine does_block hp ?_
        | (refine does_ret hp ?_; simp [hfl, hl, g1, g2, g3, hjt', hnm, hnj, hn1, hn2, p1, p2, p3, p4, t1, hli, hw])
        | (refine does_skip hp ?_; simp [hfl, hl, g1, g2, g3, hjt', hnm, hnj, hn1, hn2, p1, p2, p3, p4, t1, hli, hw])
        | (refine does_exit hp ?_; simp [hfl, hl, g1, g2, g3, hjt', hnm, hnj, hn1, hn2, p1, p2, p3, p4, t1, hli, hw])
        | (refine does_cond' hp ?_; simp [hfl, hl, g1, g2, g3, hjt', hnm, hnj, hn1, hn2, p1, p2, p3, p4, t1, hli, hw]; done)
        | (refine does_cond' hp ?_; simp [hfl, hl, g1, g2, g3, hjt', hnm, hnj, hn1, hn2, p1, p2, p3, p4, t1, hli, hw]; refine fork (fun hcnd => ?_) (fun hcnd => ?_) <;> (try simp at hcnd))
        | (refine does_cond' hp ?_; simp [hfl, hl, g1, g2, g3, hjt', hnm, hnj, hn1, hn2, p1, p2, p3, p4, t1, hli, hw]))
      exact ⟨us.length - (j + 1), by omega, by simp [hfl], j + 1, ji + 1, by omega, by omega, by omega, hown2, by simp [hfl, g1], by simp [hfl, g2], by simp [hfl]⟩
    · have hjt' : ¬ (ji < (us.length : Int)) := by omega
      have hz := sf_size hx
      have hbm : natOf (.int .i64 mi) = some m := by
        simp [natOf, intOf, hn1, hnm]
      have s1 : sliceA h1 1 x none (some (.one (.int .i64 mi))) none = some (cutS 1 x 0 m) := sees_slice hx (by decide) (n := us.length) (by simp) rfl hbm (by omega) (by omega)
      have s2 : sliceA h1 1 x (some (.one (.int .i64 mi))) none none = some (cutS 1 x m us.length) := sees_slice hx (by decide) (n := us.length) (by simp) hbm rfl (by omega) (by omega)
      have hl1 := lists_c h1 _ _ (sf_cut hx (l := 0) (u := m) (by omega) (by omega)) (fun v hv => hus v (List.mem_of_mem_drop (List.mem_of_mem_take hv))) (by simp; omega)
      have hl2 := lists_c h1 _ _ (sf_cut hx (l := m) (u := us.length) (by omega) (by omega)) (fun v hv => hus v (List.mem_of_mem_drop (List.mem_of_mem_take hv))) (by simp; omega)
      have hw : IntKind.i64.wrap (mi + 1) = mi + 1 := wrap_i (by omega) (by omega)
      generalize cutS 1 x 0 m = x1 at *
      generalize cutS 1 x m us.length = x2 at *
      repeat' (first
        | (rw [doesO_cons]; simp [hfl, hl, g1, g2, g3, hjt', hz, s1, s2, hl1, hl2, hw])
        | (rw [doesO_nil']; refine hQ' _ _ _ ?_; clear hQ' Q'; simp only [])
        | (rw [doesD_cons]; simp [hfl, hl, g1, g2, g3, hjt', hz, s1, s2, hl1, hl2, hw])
        | (rw [doesD_nil]; refine hQ' _ _ _ ?_; clear hQ' Q'; simp only [])
        | refine does_seq hp ?_
        | (refine does_gen hp ?_; intro Q' hQ')
        | (refine doesD_gen (id := 8) hp [0, 1, 2, 3, 4, 5, 6, 7, 8, 9, 10, 11, 12, 13, 14, 15, 16, 17, 18, 19, 20, 21, 22] [] (by kernel_rfl) ?_; intro Q' hQ')
        | refine does_block hp ?_
        | (refine does_ret hp ?_; simp [hfl, hl, g1, g2, g3, hjt', hz, s1, s2, hl1, hl2, hw])
        | (refine does_skip hp ?_; simp [hfl, hl, g1, g2, g3, hjt', hz, s1, s2, hl1, hl2, hw])
        | (refine does_exit hp ?_; simp [hfl, hl, g1, g2, g3, hjt', hz, s1, s2, hl1, hl2, hw])
        | (refine does_cond' hp ?_; simp [hfl, hl, g1, g2, g3, hjt', hz, s1, s2, hl1, hl2, hw]; done)
        | (refine does_cond' hp ?_; simp [hfl, hl, g1, g2, g3, hjt', hz, s1, s2, hl1, hl2, hw]; refine fork (fun hcnd => ?_) (fun hcnd => ?_) <;> (try simp at hcnd))
        | (refine does_cond' hp ?_; simp [hfl, hl, g1, g2, g3, hjt', hz, s1, s2, hl1, hl2, hw]))
      exact ⟨us.length - (m + 1), by omega, by simp [hfl], m + 1, mi + 1, by omega, by omega, by omega, hown, by simp [hfl, g1], by simp [hfl]⟩
  · have hlt' : ¬ (mi < (us.length : Int)) := by omega
    repeat' (first
      | (rw [doesO_cons]; simp [hfl, hl, g1, g2, hlt', known_c])
      | (rw [doesO_nil']; refine hQ' _ _ _ ?_; clear hQ' Q'; simp only [])
      | (rw [doesD_cons]; simp [hfl, hl, g1, g2, hlt', known_c])
      | (rw [doesD_nil]; refine hQ' _ _ _ ?_; clear hQ' Q'; simp only [])
      | refine does_seq hp ?_
      | (refine does_gen hp ?_; intro Q' hQ')
      | (refine doesD_gen (id := 8) hp [0, 1, 2, 3, 4, 5, 6, 7, 8, 9, 10, 11, 12, 13, 14, 15, 16, 17, 18, 19, 20, 21, 22] [] (by kernel_rfl) ?_; intro Q' hQ')
      | refine does_block hp ?_
      | (refine does_ret hp ?_; simp [hfl, hl, g1, g2, hlt', known_c])
      | (refine does_skip hp ?_; simp [hfl, hl, g1, g2, hlt', known_c])
      | (refine does_exit hp ?_; simp [hfl, hl, g1, g2, hlt', known_c])
      | (refine does_cond' hp ?_; simp [hfl, hl, g1, g2, hlt', known_c]; done)
      | (refine does_cond' hp ?_; simp [hfl, hl, g1, g2, hlt', known_c]; refine fork (fun hcnd => ?_) (fun hcnd => ?_) <;> (try simp at hcnd))
      | (refine does_cond' hp ?_; simp [hfl, hl, g1, g2, hlt', known_c]))
end Go.Proofs.Ytgdonnfchhdflaa
