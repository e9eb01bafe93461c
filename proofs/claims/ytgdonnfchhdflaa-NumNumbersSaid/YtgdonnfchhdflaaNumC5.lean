/- A part of a proof over the abstract machine. No conditions. -/
import Derived.Test.YtgdonnfchhdflaaNumC3
import Derived.Test.YtgdonnfchhdflaaNumC4
/- chapter 1: totals -/
namespace Go.Proofs.Ytgdonnfchhdflaa
open Go Go.Ab NumPlain
set_option linter.unusedSimpArgs false
set_option linter.unnecessarySimpa false
set_option linter.unusedVariables false
set_option maxRecDepth 10000
set_option maxHeartbeats 2000000

@[simp] theorem zero23 : zeroT Try.prog 23 = some [.flt 0] := by kernel_rfl
theorem wrap_range (x : Int) : -9223372036854775808 ≤ IntKind.i64.wrap x ∧ IntKind.i64.wrap x < 9223372036854775808 := by
  simp only [IntKind.wrap, IntKind.bits, IntKind.signed, Bool.true_and]
  simp
  split <;> omega
/-- numbers that are read, whatever else is there -/
def AnyU (s : AS) (us : List Nat) : Prop := (s = .nilslc ∧ us = []) ∨ s = .vs us.length 1 (us.map fun n : Nat => AS.int .u64 (n : Int))
theorem anyU_sees {s : AS} {us : List Nat} (hs : AnyU s us) (h : H) : Sees h 1 s (us.map fun n : Nat => AS.int .u64 (n : Int)) := by
  rcases hs with ⟨rfl, rfl⟩ | rfl
  · rfl
  · exact ⟨rfl, rfl, by simp⟩
theorem au_len {s : AS} {us : List Nat} (hs : AnyU s us) (hh : H) : lenA s (some (.slice 22)) hh = some (.val (.one (.int .i64 us.length)) hh) := lenA_sees hh 22 (anyU_sees hs hh) (by decide) (by simp)
theorem au_index {s : AS} {us : List Nat} (hs : AnyU s us) {i : Nat} (hi : i < us.length) : indexA Try.prog 38 s i = some (atS 1 s i) := sees_index (u := 22) Try.underlying38 Try.size22 (anyU_sees hs H.empty) (by decide) (by simp) hi
theorem au_read {s : AS} {us : List Nat} (hs : AnyU s us) {i : Nat} (hi : i < us.length) (h : H) : readC h (atS 1 s i) 1 = some [.int .u64 us[i]] := by
  have := sees_read (anyU_sees hs h) (by decide) (n := us.length) (by simp) hi
  rw [this, Nat.mul_one]
  have h2 : ((us.map fun n : Nat => AS.int .u64 (n : Int)).drop i).take 1 = [.int .u64 us[i]] := by
    rw [← List.map_drop, List.drop_eq_getElem_cons hi]; rfl
  rw [h2]

/-! ### the least is not above the most -/
theorem pick_min : ∀ (l : List Nat) (b : Nat), keyN (canB (l.foldl (pick1 (-1)) b)) ≤ keyN (canB b)
  | [], b => Nat.le_refl _
  | x :: l, b => by
    refine Nat.le_trans (pick_min l _) ?_
    unfold pick1
    split
    · rename_i h; unfold cmpN at h; split at h
      · omega
      · split at h <;> simp at h
    · exact Nat.le_refl _
theorem pick_max : ∀ (l : List Nat) (b : Nat), keyN (canB b) ≤ keyN (canB (l.foldl (pick1 1) b))
  | [], b => Nat.le_refl _
  | x :: l, b => by
    refine Nat.le_trans ?_ (pick_max l _)
    unfold pick1
    split
    · rename_i h; unfold cmpN at h; split at h
      · simp at h
      · split at h
        · omega
        · simp at h
    · exact Nat.le_refl _
theorem canB_can (b : Nat) : canB (canB b) = canB b := by
  rcases rung_can b with h | h
  · exact canB_id h
  · rw [h]; decide
theorem le_c (ws : List Nat) (hne : ws ≠ []) : cmpN (keyN (canB (canB (pickN (-1) ws)))) (keyN (canB (canB (pickN 1 ws)))) ≤ 0 := by
  rw [canB_can, canB_can]
  cases ws with
  | nil => exact absurd rfl hne
  | cons b l =>
    have h1 := pick_min l b
    have h2 := pick_max l b
    simp only [pickN]
    unfold cmpN
    split
    · omega
    · split <;> omega

def Inv1 (s0 : AS) (us : List Nat) (n : Int) (k : Nat) (fr : Fr) (h' : H) : Prop := fr.length = 100 ∧ ∃ (i : Nat) (ws : List Nat) (x : AS), i ≤ us.length ∧ i ≤ 10 ∧ k = 10 - i ∧ ws.length = i ∧ (∀ w ∈ ws, w < 2 ^ 64) ∧ Owns h' 1 x (ws.map AS.flt) ∧
  Fr.get fr 0 = .one s0 ∧ Fr.get fr 1 = .one (.int .i64 n) ∧ Fr.get fr 5 = .one x ∧ Fr.get fr 6 = .one (.int .i64 (i : Nat))
def Inv2 (x : AS) (w0 : Nat) (rest : List Nat) (lo hi : Nat) (h' : H) (k : Nat) (fr : Fr) (h2 : H) : Prop := h2 = h' ∧ fr.length = 100 ∧ ∃ (m : Nat) (mi : Int), 1 ≤ m ∧ m ≤ rest.length + 1 ∧ k = rest.length + 1 - m ∧ mi = (m : Int) ∧
  Fr.get fr 5 = .one x ∧ Fr.get fr 7 = .one (.flt lo) ∧ Fr.get fr 8 = .one (.bool true) ∧ Fr.get fr 9 = .one (.flt hi) ∧ Fr.get fr 10 = .one (.bool true) ∧ Fr.get fr 11 = .one (.flt (totalFrom (canB w0) (rest.take (m - 1)))) ∧ Fr.get fr 12 = .one (.int .i64 mi)
theorem totals_c (s0 : AS) (us : List Nat) (n : Int) (hs : AnyU s0 us) (hus : ∀ u ∈ us, u < 2 ^ 64) (hlen : us.length < 9223372036854775808) (hn1 : -9223372036854775808 ≤ n) (hn2 : n < 9223372036854775808) (h : H) :
    ∃ h', W K 6 [.one s0, .one (.int .i64 n)] h = some (.ret (.one (.bool true)) h') := by
  have hl0 := au_len hs
  suffices hx : ∃ r, W K 6 [.one s0, .one (.int .i64 n)] h = some r ∧ ∃ h', r = .ret (.one (.bool true)) h' by
    obtain ⟨r, hr, h', rfl⟩ := hx; exact ⟨h', hr⟩
  refine W_doesQ hp rfl rfl rfl Try.func6 rfl (by simp [Try.f6]) ?_
  simp only [Try.f6, List.length_cons, List.length_nil, List.replicate, List.cons_append, List.nil_append, Nat.reduceAdd, Nat.reduceSub]
  repeat' (first
    | (rw [doesO_cons]; simp [hl0])
    | (rw [doesO_nil']; refine hQ' _ _ _ ?_; clear hQ' Q'; simp only [])
    | (rw [doesD_cons]; simp [hl0])
    | (rw [doesD_nil]; refine hQ' _ _ _ ?_; clear hQ' Q'; simp only [])
    | refine does_seq hp ?_
    | (refine does_gen hp ?_; intro Q' hQ')
    | (refine doesD_gen (id := 15) hp [0, 1, 2, 3, 4, 5, 6, 7, 8, 9, 10, 11, 12, 13, 14, 15, 16, 17, 18, 19, 20, 21, 22, 23, 24, 25, 26, 27, 28, 29, 30, 31, 32] [(13, 17), (14, 17)] (by kernel_rfl) ?_; intro Q' hQ')
    | refine does_block hp ?_
    | (refine does_ret hp ?_; simp [hl0])
    | (refine does_skip hp ?_; simp [hl0])
    | (refine does_exit hp ?_; simp [hl0])
    | (refine does_cond' hp ?_; simp [hl0]; done)
    | (refine does_cond' hp ?_; simp [hl0]; refine fork (fun hcnd => ?_) (fun hcnd => ?_) <;> (try simp at hcnd))
    | (refine does_cond' hp ?_; simp [hl0]))
  refine does_loop hp (Inv1 s0 us n) ?_ 10 _ _ ⟨rfl, 0, [], .nilslc, by omega, by omega, rfl, rfl, by simp, rfl, rfl, rfl, rfl, rfl⟩
  rintro k fr h' ⟨hfl, i, ws, x, hi1, hi2, rfl, hwl, hws, hox, g0, g1, g5, g6⟩
  by_cases hgo : i < us.length ∧ i < 10
  · obtain ⟨hlt, hlt2⟩ := hgo
    have hlt3 : (i : Int) < 10 := by omega
    have q1 := au_index hs hlt
    have q2 := au_read hs hlt h'
    have hwi : IntKind.i64.wrap ((i : Int) + 1) = ((i + 1 : Nat) : Int) := by rw [wrap_i (by omega) (by omega)]; rfl
    obtain ⟨r1, r2⟩ := wrap_range (n + i)
    obtain ⟨w, hw1, hw2⟩ := float_c (IntKind.i64.wrap (n + i)) r1 r2 us[i] (hus _ (List.getElem_mem hlt))
    have fb := frombits_n us[i]
    have hox2 := hox.new (blkOf [AS.flt w] true)
    obtain ⟨x2, h2, a1, a2, a3, a4, a5, a6⟩ := append_own (size := 1) (bytes := 8) (m := 1) (new := [AS.flt w]) (n := i) hox2 (by decide) (by simp [hwl]) (by decide) rfl (by unfold limit; omega)
    have hap : appendA Try.prog 39 39 (h'.new (blkOf [AS.flt w] true)) x (.slc h'.next 0 0 1 1 none) = some (x2, h2) := by
      rw [append_slice Try.elem39 Try.size23 Try.bytes23 Try.underlying39 (m := 1) (new := [AS.flt w]) rfl]
      · exact a1
      · exact sees_elems (n := 1) (owns_made h' 1 1 [AS.flt w] true rfl).sees (by decide) rfl
    repeat' (first
      | (rw [doesO_cons]; simp [hfl, hl0, g0, g1, g5, g6, hlt, hlt3, q1, q2, fb, hw2, hap, hwi])
      | (rw [doesO_nil']; refine hQ' _ _ _ ?_; clear hQ' Q'; simp only [])
      | (rw [doesD_cons]; simp [hfl, hl0, g0, g1, g5, g6, hlt, hlt3, q1, q2, fb, hw2, hap, hwi])
      | (rw [doesD_nil]; refine hQ' _ _ _ ?_; clear hQ' Q'; simp only [])
      | refine does_seq hp ?_
      | (refine does_gen hp ?_; intro Q' hQ')
      | (refine doesD_gen (id := 15) hp [0, 1, 2, 3, 4, 5, 6, 7, 8, 9, 10, 11, 12, 13, 14, 15, 16, 17, 18, 19, 20, 21, 22, 23, 24, 25, 26, 27, 28, 29, 30, 31, 32] [(13, 17), (14, 17)] (by kernel_rfl) ?_; intro Q' hQ')
      | refine does_block hp ?_
      | (refine does_ret hp ?_; simp [hfl, hl0, g0, g1, g5, g6, hlt, hlt3, q1, q2, fb, hw2, hap, hwi])
      | (refine does_skip hp ?_; simp [hfl, hl0, g0, g1, g5, g6, hlt, hlt3, q1, q2, fb, hw2, hap, hwi])
      | (refine does_exit hp ?_; simp [hfl, hl0, g0, g1, g5, g6, hlt, hlt3, q1, q2, fb, hw2, hap, hwi])
      | (refine does_cond' hp ?_; simp [hfl, hl0, g0, g1, g5, g6, hlt, hlt3, q1, q2, fb, hw2, hap, hwi]; done)
      | (refine does_cond' hp ?_; simp [hfl, hl0, g0, g1, g5, g6, hlt, hlt3, q1, q2, fb, hw2, hap, hwi]; refine fork (fun hcnd => ?_) (fun hcnd => ?_) <;> (try simp at hcnd))
      | (refine does_cond' hp ?_; simp [hfl, hl0, g0, g1, g5, g6, hlt, hlt3, q1, q2, fb, hw2, hap, hwi]))
    refine ⟨10 - (i + 1), by omega, by simp [hfl], i + 1, ws ++ [w], x2, by omega, by omega, rfl, by simp [hwl], ?_, by simpa using a2, by simp [hfl, g0], by simp [hfl, g1], by simp [hfl], by simp [hfl]⟩
    intro w' hw'
    rcases List.mem_append.1 hw' with h3 | h3
    · exact hws w' h3
    · simp at h3; subst h3; exact hw1
  · have hstop : (decide (i < us.length) = false ∧ True) ∨ (decide (i < us.length) = true ∧ decide ((i : Int) < 10) = false) := by
      by_cases h1 : i < us.length
      · right; simp [h1]; omega
      · left; simp [h1]
    have hx : SeesF h' x ws := hox.sees
    have hlx := sf_len hx
    have hwl' : ws.length < 9223372036854775807 := by omega
    clear hgo hwl hox hi1 hi2
    cases ws with
    | nil =>
      have ht := total_c h' .nilslc [] rfl (by simp)
      have e00 : fcmp .eql (D.order 0 0) = some true := by rw [eq_zero]; decide
      rcases hstop with ⟨k1, k2⟩ | ⟨k1, k2⟩
      all_goals
        repeat' (first
          | (rw [doesO_cons]; simp [hfl, hl0, g0, g1, g5, g6, k1, k2, hlx, ht, totalN, e00, known_c])
          | (rw [doesO_nil']; refine hQ' _ _ _ ?_; clear hQ' Q'; simp only [])
          | (rw [doesD_cons]; simp [hfl, hl0, g0, g1, g5, g6, k1, k2, hlx, ht, totalN, e00, known_c])
          | (rw [doesD_nil]; refine hQ' _ _ _ ?_; clear hQ' Q'; simp only [])
          | refine does_seq hp ?_
          | (refine does_gen hp ?_; intro Q' hQ')
          | (refine doesD_gen (id := 15) hp [0, 1, 2, 3, 4, 5, 6, 7, 8, 9, 10, 11, 12, 13, 14, 15, 16, 17, 18, 19, 20, 21, 22, 23, 24, 25, 26, 27, 28, 29, 30, 31, 32] [(13, 17), (14, 17)] (by kernel_rfl) ?_; intro Q' hQ')
          | refine does_block hp ?_
          | (refine does_ret hp ?_; simp [hfl, hl0, g0, g1, g5, g6, k1, k2, hlx, ht, totalN, e00, known_c])
          | (refine does_skip hp ?_; simp [hfl, hl0, g0, g1, g5, g6, k1, k2, hlx, ht, totalN, e00, known_c])
          | (refine does_exit hp ?_; simp [hfl, hl0, g0, g1, g5, g6, k1, k2, hlx, ht, totalN, e00, known_c])
          | (refine does_cond' hp ?_; simp [hfl, hl0, g0, g1, g5, g6, k1, k2, hlx, ht, totalN, e00, known_c]; done)
          | (refine does_cond' hp ?_; simp [hfl, hl0, g0, g1, g5, g6, k1, k2, hlx, ht, totalN, e00, known_c]; refine fork (fun hcnd => ?_) (fun hcnd => ?_) <;> (try simp at hcnd))
          | (refine does_cond' hp ?_; simp [hfl, hl0, g0, g1, g5, g6, k1, k2, hlx, ht, totalN, e00, known_c]))
    | cons w0 rest =>
      have hne : ((rest.length : Int) + 1 == 0) = false := by simp; omega
      have hL := least_c h' x (w0 :: rest) hx hws hwl'
      have hM := most_c h' x (w0 :: rest) hx hws hwl'
      have hle := le_c (w0 :: rest) (by simp)
      have hwlo : canB (pickN (-1) (w0 :: rest)) < 2 ^ 64 := canB_lt _ (pickN_fold_lt _ _ _ (hws w0 (by simp)) fun y hy => hws y (by simp [hy]))
      have hwhi : canB (pickN 1 (w0 :: rest)) < 2 ^ 64 := canB_lt _ (pickN_fold_lt _ _ _ (hws w0 (by simp)) fun y hy => hws y (by simp [hy]))
      have hord := order_c _ _ hwlo hwhi h'
      simp only [PickR, reduceCtorEq, if_false] at hL hM
      generalize canB (pickN (-1) (w0 :: rest)) = lo at *
      generalize canB (pickN 1 (w0 :: rest)) = hi at *
      generalize cmpN (keyN (canB lo)) (keyN (canB hi)) = ord at *
      have hz := sf_size hx
      have hsl : sliceA h' 1 x none (some (.one (.int .i64 1))) none = some (cutS 1 x 0 1) := sees_slice hx (by decide) (n := (w0 :: rest).length) (by simp) rfl rfl (by omega) (by simp)
      have hcut := sf_cut hx (l := 0) (u := 1) (by omega) (by simp)
      have hone : ((w0 :: rest).drop 0).take (1 - 0) = [w0] := by simp
      rw [hone] at hcut
      have ht1 := total_c h' _ [w0] hcut (by simp)
      have ht1' : totalN [w0] = canB w0 := rfl
      rw [ht1'] at ht1
      have htx := total_c h' x (w0 :: rest) hx hwl'
      have htx' : totalN (w0 :: rest) = totalFrom (canB w0) rest := rfl
      rw [htx'] at htx
      have q01 := sf_index hx (i := 0) (by simp)
      have q02 := sf_read hx (i := 0) (by simp)
      simp only [List.getElem_cons_zero] at q02
      have hcc := canB_can w0
      generalize cutS 1 x 0 1 = x1 at *
      rcases hstop with ⟨k1, k2⟩ | ⟨k1, k2⟩
      all_goals
        repeat' (first
          | (rw [doesO_cons]; simp [hfl, hl0, g0, g1, g5, g6, k1, k2, hlx, hne, hL, hM, hz, hsl, ht1])
          | (rw [doesO_nil']; refine hQ' _ _ _ ?_; clear hQ' Q'; simp only [])
          | (rw [doesD_cons]; simp [hfl, hl0, g0, g1, g5, g6, k1, k2, hlx, hne, hL, hM, hz, hsl, ht1])
          | (rw [doesD_nil]; refine hQ' _ _ _ ?_; clear hQ' Q'; simp only [])
          | refine does_seq hp ?_
          | (refine does_gen hp ?_; intro Q' hQ')
          | (refine doesD_gen (id := 15) hp [0, 1, 2, 3, 4, 5, 6, 7, 8, 9, 10, 11, 12, 13, 14, 15, 16, 17, 18, 19, 20, 21, 22, 23, 24, 25, 26, 27, 28, 29, 30, 31, 32] [(13, 17), (14, 17)] (by kernel_rfl) ?_; intro Q' hQ')
          | refine does_block hp ?_
          | (refine does_ret hp ?_; simp [hfl, hl0, g0, g1, g5, g6, k1, k2, hlx, hne, hL, hM, hz, hsl, ht1])
          | (refine does_skip hp ?_; simp [hfl, hl0, g0, g1, g5, g6, k1, k2, hlx, hne, hL, hM, hz, hsl, ht1])
          | (refine does_exit hp ?_; simp [hfl, hl0, g0, g1, g5, g6, k1, k2, hlx, hne, hL, hM, hz, hsl, ht1])
          | (refine does_cond' hp ?_; simp [hfl, hl0, g0, g1, g5, g6, k1, k2, hlx, hne, hL, hM, hz, hsl, ht1]; done)
          | (refine does_cond' hp ?_; simp [hfl, hl0, g0, g1, g5, g6, k1, k2, hlx, hne, hL, hM, hz, hsl, ht1]; refine fork (fun hcnd => ?_) (fun hcnd => ?_) <;> (try simp at hcnd))
          | (refine does_cond' hp ?_; simp [hfl, hl0, g0, g1, g5, g6, k1, k2, hlx, hne, hL, hM, hz, hsl, ht1]))
        refine does_loop hp (Inv2 x w0 rest lo hi h') ?_ rest.length _ _ ⟨rfl, by simp [hfl], 1, 1, by omega, by omega, by omega, rfl, by simp [hfl, g5], by simp [hfl], by simp [hfl], by simp [hfl], by simp [hfl], by simp [hfl, totalFrom], by simp [hfl]⟩
        clear g0 g1 g5 g6 hfl
        rintro k fr2 h2 ⟨rfl, hfl, m, mi, hm1, hm2, rfl, hmi, g5, g7, g8, g9, g10, g11, g12⟩
        by_cases hlt : m < rest.length + 1
        · have p1 := sf_index hx (i := m) (by simp; omega)
          have p2 := sf_read hx (i := m) (by simp; omega)
          have hwi : IntKind.i64.wrap (mi + 1) = mi + 1 := wrap_i (by omega) (by simp at hwl'; omega)
          obtain ⟨m', rfl⟩ : ∃ m', m = m' + 1 := ⟨m - 1, by omega⟩
          have hstep : sumB (totalFrom (canB w0) (rest.take m')) rest[m'] = totalFrom (canB w0) (rest.take (m' + 1)) := by
            unfold totalFrom
            rw [List.take_succ_eq_append_getElem (by omega), List.foldl_append]; rfl
          simp only [List.getElem_cons_succ] at p2
          have hlt' : mi < (rest.length : Int) + 1 := by omega
          have hnat : mi.toNat = m' + 1 := by omega
          have hnn : (0 : Int) ≤ mi := by omega
          simp only [Nat.add_sub_cancel] at g11
          repeat' (first
            | (rw [doesO_cons]; simp [hfl, hlx, g5, g11, g12, hlt', hnat, hnn, p1, p2, sum_c, hwi, hstep])
            | (rw [doesO_nil']; refine hQ' _ _ _ ?_; clear hQ' Q'; simp only [])
            | (rw [doesD_cons]; simp [hfl, hlx, g5, g11, g12, hlt', hnat, hnn, p1, p2, sum_c, hwi, hstep])
            | (rw [doesD_nil]; refine hQ' _ _ _ ?_; clear hQ' Q'; simp only [])
            | refine does_seq hp ?_
            | (refine does_gen hp ?_; intro Q' hQ')
            | (refine doesD_gen (id := 15) hp [0, 1, 2, 3, 4, 5, 6, 7, 8, 9, 10, 11, 12, 13, 14, 15, 16, 17, 18, 19, 20, 21, 22, 23, 24, 25, 26, 27, 28, 29, 30, 31, 32] [(13, 17), (14, 17)] (by kernel_rfl) ?_; intro Q' hQ')
            | refine does_block hp ?_
            | (refine does_ret hp ?_; simp [hfl, hlx, g5, g11, g12, hlt', hnat, hnn, p1, p2, sum_c, hwi, hstep])
            | (refine does_skip hp ?_; simp [hfl, hlx, g5, g11, g12, hlt', hnat, hnn, p1, p2, sum_c, hwi, hstep])
            | (refine does_exit hp ?_; simp [hfl, hlx, g5, g11, g12, hlt', hnat, hnn, p1, p2, sum_c, hwi, hstep])
            | (refine does_cond' hp ?_; simp [hfl, hlx, g5, g11, g12, hlt', hnat, hnn, p1, p2, sum_c, hwi, hstep]; done)
            | (refine does_cond' hp ?_; simp [hfl, hlx, g5, g11, g12, hlt', hnat, hnn, p1, p2, sum_c, hwi, hstep]; refine fork (fun hcnd => ?_) (fun hcnd => ?_) <;> (try simp at hcnd))
            | (refine does_cond' hp ?_; simp [hfl, hlx, g5, g11, g12, hlt', hnat, hnn, p1, p2, sum_c, hwi, hstep]))
          exact ⟨rest.length - (m' + 1), by omega, rfl, by simp [hfl], m' + 1 + 1, mi + 1, by omega, by omega, by omega, by omega, by simp [hfl, g5], by simp [hfl, g7], by simp [hfl, g8], by simp [hfl, g9], by simp [hfl, g10], by simp [hfl], by simp [hfl]⟩
        · have hm : m = rest.length + 1 := by omega
          subst hm
          have hnl : ¬ (mi < (rest.length : Int) + 1) := by omega
          simp only [Nat.add_sub_cancel, List.take_length] at g11
          repeat' (first
            | (rw [doesO_cons]; simp [hfl, hlx, g5, g7, g8, g9, g10, g11, g12, hnl, hord, hle, hz, hsl, ht1, bits15_c, hcc, q01, q02, htx, bits18_c, known_c])
            | (rw [doesO_nil']; refine hQ' _ _ _ ?_; clear hQ' Q'; simp only [])
            | (rw [doesD_cons]; simp [hfl, hlx, g5, g7, g8, g9, g10, g11, g12, hnl, hord, hle, hz, hsl, ht1, bits15_c, hcc, q01, q02, htx, bits18_c, known_c])
            | (rw [doesD_nil]; refine hQ' _ _ _ ?_; clear hQ' Q'; simp only [])
            | refine does_seq hp ?_
            | (refine does_gen hp ?_; intro Q' hQ')
            | (refine doesD_gen (id := 15) hp [0, 1, 2, 3, 4, 5, 6, 7, 8, 9, 10, 11, 12, 13, 14, 15, 16, 17, 18, 19, 20, 21, 22, 23, 24, 25, 26, 27, 28, 29, 30, 31, 32] [(13, 17), (14, 17)] (by kernel_rfl) ?_; intro Q' hQ')
            | refine does_block hp ?_
            | (refine does_ret hp ?_; simp [hfl, hlx, g5, g7, g8, g9, g10, g11, g12, hnl, hord, hle, hz, hsl, ht1, bits15_c, hcc, q01, q02, htx, bits18_c, known_c])
            | (refine does_skip hp ?_; simp [hfl, hlx, g5, g7, g8, g9, g10, g11, g12, hnl, hord, hle, hz, hsl, ht1, bits15_c, hcc, q01, q02, htx, bits18_c, known_c])
            | (refine does_exit hp ?_; simp [hfl, hlx, g5, g7, g8, g9, g10, g11, g12, hnl, hord, hle, hz, hsl, ht1, bits15_c, hcc, q01, q02, htx, bits18_c, known_c])
            | (refine does_cond' hp ?_; simp [hfl, hlx, g5, g7, g8, g9, g10, g11, g12, hnl, hord, hle, hz, hsl, ht1, bits15_c, hcc, q01, q02, htx, bits18_c, known_c]; done)
            | (refine does_cond' hp ?_; simp [hfl, hlx, g5, g7, g8, g9, g10, g11, g12, hnl, hord, hle, hz, hsl, ht1, bits15_c, hcc, q01, q02, htx, bits18_c, known_c]; refine fork (fun hcnd => ?_) (fun hcnd => ?_) <;> (try simp at hcnd))
            | (refine does_cond' hp ?_; simp [hfl, hlx, g5, g7, g8, g9, g10, g11, g12, hnl, hord, hle, hz, hsl, ht1, bits15_c, hcc, q01, q02, htx, bits18_c, known_c]))
end Go.Proofs.Ytgdonnfchhdflaa
