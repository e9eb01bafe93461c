/- A part of a proof over the abstract machine. No conditions. -/
import Derived.Test.YtmhbdpgflomihaaGreatC8
import Derived.Test.YtmhbdpgflomihaaGreatAb5
namespace Go.Proofs.YtmhbdpgflomihaaGreat
open Go Go.Ab Wm NumPlain
set_option linter.unusedSimpArgs false
set_option linter.unnecessarySimpa false
set_option linter.unusedVariables false
set_option maxRecDepth 10000
set_option maxHeartbeats 4000000
abbrev avTablet (x : Tablet) : AV := .agg (encTablet x)
theorem deleteTablet_c {h : H} {b v : Nat} {l : List Tablet} {z : List AS} (ar : Arr h encTablet b v l z) (g : Nat) (caps : List AS) (p : Tablet → Bool) (hl : l.length < 4611686018427387904) (hi : W K 71 [.one (.slc b v 0 l.length 4 none), .one (.fn g [] caps)] h = some (.ret (.one (ii (idx p l))) h))
    (hg : ∀ x h', h.next ≤ h'.next → (∀ y, y < h.next → y ≠ b → h'.f y = h.f y) → W K g (.agg (encTablet x) :: caps.map AV.one) h' = some (.ret (.one (.bool (p x))) h')) :
    ∃ r, W K 74 [.one (.slc b v 0 l.length 4 none), .one (.fn g [] caps)] h = some r ∧ Rets (fun q h' => q = .one (.slc b v 0 (l.filter fun x => !p x).length 4 none) ∧ (∃ z', Arr h' encTablet b v (l.filter fun x => !p x) z') ∧ h.next ≤ h'.next ∧ ∀ y, y < h.next → y ≠ b → h'.f y = h.f y) r := by
  refine Rets.intro fun P hP => ?_
  rcases idx_cases p l with ⟨hn, hm⟩ | ⟨a0, x0, r0, hl0, ha0, hx0⟩
  · rw [hm] at hi
    have hfl : l.filter (fun x => !p x) = l := List.filter_eq_self.2 fun x hx => by simp [hn x hx]
    rw [hfl] at hP
    refine W_doesQ hp rfl rfl rfl Tryz.func74 rfl (by simp [Tryz.f74]) ?_
    simp only [Tryz.f74]
    refine hide ?_; intro Q1 hQ1
    repeat' (first
      | (replace hQ1 := hQ1; simp [hi])
      | refine hQ1 _ _ _ ?_
      | (first | apply cF | apply wN | apply wS) <;> intro hcnd <;> (try simp only [hcnd]) <;> (try simp [-List.isEmpty_iff, -List.isEmpty_eq_false_iff] at hcnd))
    exact hP _ _ ⟨rfl, ⟨z, ar⟩, Nat.le_refl _, fun _ _ _ => rfl⟩
  · have hk := idx_hit (r := r0) ha0 hx0
    rw [← hl0] at hk
    rw [hk] at hi
    have hfa : a0.filter (fun x => !p x) = a0 := List.filter_eq_self.2 fun x hx => by simp [ha0 x hx]
    have hll : l.length = a0.length + 1 + r0.length := by rw [hl0]; simp; omega
    have hw0 : IntKind.i64.wrap ((a0.length : Int) + 1) = ((a0.length + 1 : Nat) : Int) := by rw [wrap_i64 (by omega) (by omega)]; simp
    have hne : ¬ ((a0.length : Int) = -1) := by omega
    refine W_doesQ hp rfl rfl rfl Tryz.func74 rfl (by simp [Tryz.f74]) ?_
    simp only [Tryz.f74]
    refine hide ?_; intro Q2 hQ2
    repeat' (first
      | (replace hQ2 := hQ2; simp [hi, hw0, hne])
      | refine hQ2 _ _ _ ?_
      | (first | apply cF | apply wN | apply wS) <;> intro hcnd <;> (try simp only [hcnd]) <;> (try simp [-List.isEmpty_iff, -List.isEmpty_eq_false_iff] at hcnd))
    obtain ⟨I, hI⟩ : ∃ I : List Tablet → List Tablet → Fr → H → Prop, I = fun u w fr hh => ∃ mid : List Tablet, mid.length + (u.filter fun x => !p x).length = 1 + u.length ∧ Arr hh encTablet b v (a0 ++ (u.filter fun x => !p x) ++ mid ++ w) z ∧ h.next ≤ hh.next ∧ (∀ y, y < h.next → y ≠ b → hh.f y = h.f y) ∧
      ∃ j : Nat → AV, fr = ((.one (.slc b v 0 l.length 4 none)) :: (.one (.fn g [] caps)) :: j 2 :: j 3 :: j 4 :: (.one (ii (a0.length + (u.filter fun x => !p x).length : Nat))) :: (.one (ii (a0.length + 1 + u.length : Nat))) :: j 7 :: j 8 :: j 9 :: j 10 :: j 11 :: j 12 :: j 13 :: j 14 :: j 15 :: j 16 :: j 17 :: j 18 :: j 19 :: j 20 :: j 21 :: j 22 :: j 23 :: j 24 :: j 25 :: j 26 :: j 27 :: j 28 :: j 29 :: j 30 :: j 31 :: j 32 :: j 33 :: j 34 :: j 35 :: j 36 :: j 37 :: j 38 :: j 39 :: j 40 :: j 41 :: []) := ⟨_, rfl⟩
    refine does_each hp r0 I ?_ ?_ _ _ (by rw [hI]; exact ⟨[x0], by simp, by simpa [hl0] using ar, by simp, fun _ _ _ => rfl, ex_get' (by simp)⟩)
    · intro u y w fr hh hr0 hx
      rw [hI] at hx
      obtain ⟨mid, hmid, har, hnx, hfm, j, rfl⟩ := hx
      have hlr : r0.length = u.length + 1 + w.length := by rw [hr0]; simp; omega
      have hfu : (u.filter fun x => !p x).length ≤ u.length := List.length_filter_le _ _
      have hbn := har.1
      have hlt : decide ((a0.length + 1 + u.length : Nat) < (l.length : Int)) = true := by simp; omega
      obtain ⟨fx, ex, M, hf, hM, _, hrd, hwr⟩ := har.cells len_tablet
      have hpos : a0.length + 1 + u.length < (a0 ++ (u.filter fun x => !p x) ++ mid ++ y :: w).length := by simp; omega
      obtain ⟨h1, h2⟩ := hrd (a0.length + 1 + u.length) hpos
      have hget : (a0 ++ (u.filter fun x => !p x) ++ mid ++ y :: w)[a0.length + 1 + u.length] = y := by
        rw [List.getElem_append_right (by simp; omega)]
        have : a0.length + 1 + u.length - (a0 ++ (u.filter fun x => !p x) ++ mid).length = 0 := by simp; omega
        simp only [this, List.getElem_cons_zero]
      rw [hget] at h2
      have hx1 := arr_index (P := Tryz.prog) (size := 4) (b := b) (v := v) (n := l.length) (i := a0.length + 1 + u.length) Tryz.underlying66 (by simp) (by omega) (by omega)
      have hx2 := arr_index (P := Tryz.prog) (size := 4) (b := b) (v := v) (n := l.length) (i := a0.length + (u.filter fun x => !p x).length) Tryz.underlying66 (by simp) (by omega) (by omega)
      have hwj : IntKind.i64.wrap (((a0.length + 1 + u.length : Nat) : Int) + 1) = ((a0.length + 1 + (u ++ [y]).length : Nat) : Int) := by rw [wrap_i64 (by omega) (by omega)]; simp; omega
      have hwi : IntKind.i64.wrap (((a0.length + (u.filter fun x => !p x).length : Nat) : Int) + 1) = ((a0.length + (u.filter fun x => !p x).length + 1 : Nat) : Int) := by rw [wrap_i64 (by omega) (by omega)]; simp
      have hgy := fun h' q1 q2 => hg y h' q1 q2
      have hne1 : ¬ b = hh.next := by omega
      have hne2 : ¬ hh.next = b := by omega
      have hly := len_tablet y
      have hgy1 := hg y (hh.new ⟨0, [4], true, encTablet y⟩) (by simp; omega) (fun q hq hqb => by rw [new_at, if_neg (by omega)]; exact hfm q hq hqb)
      obtain ⟨kk, hkk⟩ : ∃ kk : Nat, a0.length + 1 + u.length = kk := ⟨_, rfl⟩
      obtain ⟨ki, hki⟩ : ∃ ki : Nat, a0.length + (u.filter fun x => !p x).length = ki := ⟨_, rfl⟩
      have hki2 : ki < (a0 ++ (u.filter fun x => !p x) ++ mid ++ y :: w).length := by simp; omega
      have h3 := (hrd ki hki2).1
      rw [hkk] at h1 h2 hx1 hwj hlt
      rw [hki] at hx2 hwi
      simp only [hkk, hki]
      have hlt2 : kk < l.length := by omega
      have hgrow : ∀ k : Blk, Arr (hh.new k) encTablet b v (a0 ++ (u.filter fun x => !p x) ++ mid ++ y :: w) z := fun k => har.new k
      cases hpy : p y
      · rw [hpy] at hgy1
        have hfy : ((u ++ [y]).filter fun x => !p x) = (u.filter fun x => !p x) ++ [y] := by simp [hpy]
        first | (refine hide ?_; intro Q3 hQ3) | have hQ3 := True.intro
        repeat' (first
          | (replace hQ3 := hQ3; simp [-lay, lay_full, -List.length_append, hlt, hlt2, hf, h1, h2, h3, hx1, hx2, hwj, hwi, hne1, hne2, hly, hgy1, sub_all hly])
          | (refine hQ3 _ _ _ ?_; clear hQ3 Q3; first | simp only [] | simp [-lay, lay_full, -List.length_append, hlt, hlt2, hf, h1, h2, h3, hx1, hx2, hwj, hwi, hne1, hne2, hly, hgy1, sub_all hly] | skip)
          | (refine hadQ (by assumption) ?_; (try clear hQ3); first | simp only [] | simp [-lay, lay_full, -List.length_append, hlt, hlt2, hf, h1, h2, h3, hx1, hx2, hwj, hwi, hne1, hne2, hly, hgy1, sub_all hly] | skip)
          | ((fail_if_success replace hQ3 := hQ3); (first | refine hide ?_ | refine hideS ?_ | refine hideB ?_); intro Q3 hQ3)
          | (first | apply cF | apply wN | apply wS) <;> intro hcnd <;> (try simp only [hcnd]) <;> (try simp [-List.isEmpty_iff, -List.isEmpty_eq_false_iff] at hcnd))
        all_goals (
          obtain ⟨m0, mid', rfl⟩ : ∃ m0 mid', mid = m0 :: mid' := by
            cases mid with
            | nil => simp at hmid; omega
            | cons m0 mid' => exact ⟨m0, mid', rfl⟩
          rw [hI]
          refine ⟨mid' ++ [y], ?_, ?_, ?_, ?_, ?_⟩
          · rw [hfy]; simp at hmid ⊢; omega
          · have hset : (a0 ++ (u.filter fun x => !p x) ++ (m0 :: mid') ++ y :: w).set ki y = a0 ++ ((u ++ [y]).filter fun x => !p x) ++ (mid' ++ [y]) ++ w := by
              rw [hfy, List.append_assoc, List.append_assoc a0, List.set_append_right _ _ (by omega), List.set_append_right _ _ (by omega)]
              have : ki - a0.length - (u.filter fun x => !p x).length = 0 := by omega
              simp [this]
            have := hwr ((hh.new ⟨0, [4], true, encTablet y⟩).set b ⟨v, [M.length], fx, lay M (ki * 4) (encTablet y)⟩) ki y hki2 (by simp; omega) (by simp)
            rw [hset] at this
            simpa [lay, hly] using this
          · simp; omega
          · intro q hq hqb
            rw [set_at, if_neg hqb, new_at, if_neg (by omega)]; exact hfm q hq hqb
          · have e1 : a0.length + ((u ++ [y]).filter fun x => !p x).length = ki + 1 := by rw [hfy]; simp; omega
            rw [e1]
            exact ex_get' (by simp))
      · rw [hpy] at hgy1
        have hfy : ((u ++ [y]).filter fun x => !p x) = (u.filter fun x => !p x) := by simp [hpy]
        first | (refine hide ?_; intro Q4 hQ4) | have hQ4 := True.intro
        repeat' (first
          | (replace hQ4 := hQ4; simp [-lay, lay_full, -List.length_append, hlt, hlt2, hf, h1, h2, h3, hx1, hx2, hwj, hwi, hne1, hne2, hly, hgy1, sub_all hly])
          | (refine hQ4 _ _ _ ?_; clear hQ4 Q4; first | simp only [] | simp [-lay, lay_full, -List.length_append, hlt, hlt2, hf, h1, h2, h3, hx1, hx2, hwj, hwi, hne1, hne2, hly, hgy1, sub_all hly] | skip)
          | (refine hadQ (by assumption) ?_; (try clear hQ4); first | simp only [] | simp [-lay, lay_full, -List.length_append, hlt, hlt2, hf, h1, h2, h3, hx1, hx2, hwj, hwi, hne1, hne2, hly, hgy1, sub_all hly] | skip)
          | ((fail_if_success replace hQ4 := hQ4); (first | refine hide ?_ | refine hideS ?_ | refine hideB ?_); intro Q4 hQ4)
          | (first | apply cF | apply wN | apply wS) <;> intro hcnd <;> (try simp only [hcnd]) <;> (try simp [-List.isEmpty_iff, -List.isEmpty_eq_false_iff] at hcnd))
        all_goals (
          rw [hI]
          refine ⟨mid ++ [y], ?_, ?_, ?_, ?_, ?_⟩
          · rw [hfy]; simp; omega
          · rw [hfy]
            have := hgrow ⟨0, [4], true, encTablet y⟩
            simpa using this
          · simp; omega
          · intro q hq hqb
            rw [new_at, if_neg (by omega)]; exact hfm q hq hqb
          · rw [hfy, hki]
            exact ex_get' (by simp))
    · intro fr hh hx
      rw [hI] at hx
      obtain ⟨mid, hmid, har, hnx, hfm, j, rfl⟩ := hx
      have hfu : (r0.filter fun x => !p x).length ≤ r0.length := List.length_filter_le _ _
      rw [List.append_nil] at har
      have har2 := arr_cut har
      have hlf : l.filter (fun x => !p x) = a0 ++ r0.filter fun x => !p x := by rw [hl0, List.filter_append, hfa, List.filter_cons]; simp [hx0]
      obtain ⟨ki, hki⟩ : ∃ ki : Nat, a0.length + (r0.filter fun x => !p x).length = ki := ⟨_, rfl⟩
      have hfl : (a0 ++ r0.filter fun x => !p x).length = ki := by simp; omega
      have hml : mid.length = l.length - ki := by omega
      have hkl : ki < l.length := by omega
      have hlz : (cat encTablet mid).length = mid.length * 4 := flat_length len_tablet mid
      simp only [hki, ← hll]
      obtain ⟨kb, hw, ha3⟩ := arr_tail len_tablet har2 (c := repL [.str [], .str [], ii 0, ii 0] (l.length - ki)) (by rw [List.length_append, hlz, hml, repL_length]; simp <;> omega)
      rw [hfl] at hw
      rw [hlf, hfl] at hP
      have hn0 : ¬ l.length - ki = 0 := by omega
      have hle : ki ≤ l.length := by omega
      have hnl : ¬ l.length < ki := by omega
      first | (refine hide ?_; intro Q5 hQ5) | have hQ5 := True.intro
      repeat' (first
        | (replace hQ5 := hQ5; simp [-lay, -write_ptr, -repL, hw, hn0, hle, hnl, hkl, sliceA, bound, sliceSize, clearA])
        | (refine hQ5 _ _ _ ?_; clear hQ5 Q5; first | simp only [] | simp [-lay, -write_ptr, -repL, hw, hn0, hle, hnl, hkl, sliceA, bound, sliceSize, clearA] | skip)
        | (refine hadQ (by assumption) ?_; (try clear hQ5); first | simp only [] | simp [-lay, -write_ptr, -repL, hw, hn0, hle, hnl, hkl, sliceA, bound, sliceSize, clearA] | skip)
        | ((fail_if_success replace hQ5 := hQ5); (first | refine hide ?_ | refine hideS ?_ | refine hideB ?_); intro Q5 hQ5)
        | (first | apply cF | apply wN | apply wS) <;> intro hcnd <;> (try simp only [hcnd]) <;> (try simp [-List.isEmpty_iff, -List.isEmpty_eq_false_iff] at hcnd))
      all_goals exact hP _ _ ⟨rfl, ⟨_, ha3⟩, by simpa using hnx, fun q hq hqb => by rw [set_at, if_neg hqb]; exact hfm q hq hqb⟩
theorem sortTabletins_c {h : H} {b v : Nat} {l : List Tablet} {z : List AS} (ar : Arr h encTablet b v l z) (g : Nat) (caps : List AS) (c : Tablet → Tablet → Int) (hl : l.length < 4611686018427387904)
    (hg : ∀ x y h', h'.next = h.next → (∀ q, q < h.next → q ≠ b → h'.f q = h.f q) → W K g (avTablet x :: avTablet y :: caps.map AV.one) h' = some (.ret (.one (ii (c x y))) h')) :
    ∃ r, W K 137 [.one (.slc b v 0 l.length 4 none), .one (ii 0), .one (ii l.length), .one (.fn g [] caps)] h = some r ∧ Rets (fun q h' => q = .tup [] ∧ Arr h' encTablet b v (isort (fun x y => decide (c x y < 0)) l) z ∧ h'.next = h.next ∧ ∀ y, y < h.next → y ≠ b → h'.f y = h.f y) r := by
  have hbn := ar.1
  obtain ⟨lt, hlt0⟩ : ∃ lt : Tablet → Tablet → Bool, (fun x y => decide (c x y < 0)) = lt := ⟨_, rfl⟩
  have hltc : ∀ x y, decide (c x y < 0) = lt x y := fun x y => by rw [← hlt0]
  rw [hlt0]
  have hw1 : IntKind.i64.wrap 1 = 1 := rfl
  refine Rets.intro fun P hP => ?_
  refine W_doesQ hp rfl rfl rfl Tryz.func137 rfl (by simp [Tryz.f137]) ?_
  simp only [Tryz.f137]
  refine hide ?_; intro Q6 hQ6
  repeat' (first
    | (replace hQ6 := hQ6; simp [hw1])
    | refine hQ6 _ _ _ ?_
    | (first | refine dF (id := 4) [0, 1, 2, 3, 4, 5, 6, 7, 8, 9, 10, 11, 12, 13, 14, 15, 16] [] ?_ | refine dF (id := 6) [0, 1, 2, 3, 4, 5, 6, 7, 8, 9, 10, 11, 12, 13, 14, 15, 16, 17] [] ?_)
    | (first | apply cF | apply wN | apply wS) <;> intro hcnd <;> (try simp only [hcnd]) <;> (try simp [-List.isEmpty_iff, -List.isEmpty_eq_false_iff] at hcnd))
  obtain ⟨I, hI⟩ : ∃ I : Nat → Fr → H → Prop, I = fun i fr hh => Arr hh encTablet b v (isort lt (l.take (i + 1)) ++ l.drop (i + 1)) z ∧ hh.next = h.next ∧ (∀ y, y < h.next → y ≠ b → hh.f y = h.f y) ∧ ∃ j : Nat → AV, fr = ((.one (.slc b v 0 l.length 4 none)) :: (.one (ii 0)) :: (.one (ii l.length)) :: (.one (.fn g [] caps)) :: j 4 :: j 5 :: j 6 :: j 7 :: (.one (ii (i + 1 : Nat))) :: j 9 :: j 10 :: j 11 :: j 12 :: j 13 :: j 14 :: j 15 :: j 16 :: j 17 :: j 18 :: j 19 :: j 20 :: j 21 :: j 22 :: j 23 :: j 24 :: j 25 :: j 26 :: j 27 :: j 28 :: j 29 :: j 30 :: j 31 :: j 32 :: j 33 :: j 34 :: j 35 :: j 36 :: j 37 :: j 38 :: j 39 :: j 40 :: j 41 :: j 42 :: j 43 :: j 44 :: j 45 :: j 46 :: j 47 :: j 48 :: j 49 :: j 50 :: j 51 :: j 52 :: []) := ⟨_, rfl⟩
  refine does_count hp (l.length - 1) I ?_ ?_ _ _ ?_
  · intro i fr hh hi hx
    rw [hI] at hx
    obtain ⟨har, hnx, hfm, j, rfl⟩ := hx
    have hlt1 : decide ((i + 1 : Nat) < (l.length : Int)) = true := by simp; omega
    have hwi : IntKind.i64.wrap ((i : Int) + 1 + 1) = (i : Int) + 1 + 1 := wrap_i64 (by omega) (by omega)
    have hil : i + 1 < l.length := by omega
    have hlt2 : (i : Int) + 1 < l.length := by omega
    obtain ⟨x, hx⟩ : ∃ x, l[i + 1] = x := ⟨_, rfl⟩
    have hd : l.drop (i + 1) = x :: l.drop (i + 2) := by rw [← hx]; exact (List.getElem_cons_drop hil).symm
    have ht : l.take (i + 2) = l.take (i + 1) ++ [x] := by rw [← hx]; exact (List.take_append_getElem hil).symm
    obtain ⟨s, hs⟩ : ∃ s, isort lt (l.take (i + 1)) = s := ⟨_, rfl⟩
    have hsl : s.length = i + 1 := by rw [← hs, isort_length, List.length_take]; omega
    have hgoal : isort lt (l.take (i + 2)) = ins lt x s := by rw [ht, isort_snoc, hs]
    rw [hs, hd] at har
    have hrl : (l.drop (i + 2)).length + (i + 2) = l.length := by simp; omega
    obtain ⟨w, hw⟩ : ∃ w, l.drop (i + 2) = w := ⟨_, rfl⟩
    rw [hw] at har hrl
    first | (refine hide ?_; intro Q7 hQ7) | have hQ7 := True.intro
    repeat' (first
      | (replace hQ7 := hQ7; simp [hlt1, hlt2])
      | (refine hQ7 _ _ _ ?_; clear hQ7 Q7; first | simp only [] | simp [hlt1, hlt2] | skip)
      | (refine hadQ (by assumption) ?_; (try clear hQ7); first | simp only [] | simp [hlt1, hlt2] | skip)
      | ((fail_if_success replace hQ7 := hQ7); (first | refine hide ?_ | refine hideS ?_ | refine hideB ?_); intro Q7 hQ7)
      | (first | refine dF (id := 4) [0, 1, 2, 3, 4, 5, 6, 7, 8, 9, 10, 11, 12, 13, 14, 15, 16] [] ?_ | refine dF (id := 6) [0, 1, 2, 3, 4, 5, 6, 7, 8, 9, 10, 11, 12, 13, 14, 15, 16, 17] [] ?_)
      | (first | apply cF | apply wN | apply wS) <;> intro hcnd <;> (try simp only [hcnd]) <;> (try simp [-List.isEmpty_iff, -List.isEmpty_eq_false_iff] at hcnd))
    obtain ⟨J, hJ⟩ : ∃ J : Nat → Fr → H → Prop, J = fun k fr hh => ∃ pre suf, k = pre.length ∧ s = pre ++ suf ∧ (∀ y ∈ suf, lt x y = true) ∧ Arr hh encTablet b v (pre ++ x :: suf ++ w) z ∧ hh.next = h.next ∧ (∀ y, y < h.next → y ≠ b → hh.f y = h.f y) ∧ ∃ j : Nat → AV, fr = ((.one (.slc b v 0 l.length 4 none)) :: (.one (ii 0)) :: (.one (ii l.length)) :: (.one (.fn g [] caps)) :: j 4 :: j 5 :: j 6 :: j 7 :: (.one (ii (i + 1 : Nat))) :: (.one (ii (pre.length : Nat))) :: j 10 :: j 11 :: j 12 :: j 13 :: j 14 :: j 15 :: j 16 :: j 17 :: j 18 :: j 19 :: j 20 :: j 21 :: j 22 :: j 23 :: j 24 :: j 25 :: j 26 :: j 27 :: j 28 :: j 29 :: j 30 :: j 31 :: j 32 :: j 33 :: j 34 :: j 35 :: j 36 :: j 37 :: j 38 :: j 39 :: j 40 :: j 41 :: j 42 :: j 43 :: j 44 :: j 45 :: j 46 :: j 47 :: j 48 :: j 49 :: j 50 :: j 51 :: j 52 :: []) := ⟨_, rfl⟩
    refine does_loop hp J ?_ (i + 1) _ _ (by rw [hJ]; exact ⟨s, [], hsl.symm, by simp, by simp, by simpa using har, hnx, hfm, by rw [hsl]; exact ex_get' (by simp)⟩)
    intro k fr hh hx
    rw [hJ] at hx
    obtain ⟨pre, suf, hk, hps, hsuf, har, hnx, hfm, j, rfl⟩ := hx
    have hpl : pre.length + suf.length = i + 1 := by rw [← hsl, hps]; simp
    by_cases hp0 : pre = []
    · subst hp0
      simp only [List.length_nil]
      first | (refine hide ?_; intro Q8 hQ8) | have hQ8 := True.intro
      repeat' (first
        | (replace hQ8 := hQ8; simp [hwi])
        | (refine hQ8 _ _ _ ?_; clear hQ8 Q8; first | simp only [] | simp [hwi] | skip)
        | (refine hadQ (by assumption) ?_; (try clear hQ8); first | simp only [] | simp [hwi] | skip)
        | ((fail_if_success replace hQ8 := hQ8); (first | refine hide ?_ | refine hideS ?_ | refine hideB ?_); intro Q8 hQ8)
        | (first | refine dF (id := 4) [0, 1, 2, 3, 4, 5, 6, 7, 8, 9, 10, 11, 12, 13, 14, 15, 16] [] ?_ | refine dF (id := 6) [0, 1, 2, 3, 4, 5, 6, 7, 8, 9, 10, 11, 12, 13, 14, 15, 16, 17] [] ?_)
        | (first | apply cF | apply wN | apply wS) <;> intro hcnd <;> (try simp only [hcnd]) <;> (try simp [-List.isEmpty_iff, -List.isEmpty_eq_false_iff] at hcnd))
      all_goals (
        rw [hI]
        refine ⟨?_, hnx, hfm, ex_get' (by simp)⟩
        have e1 : ins lt x ([] ++ suf) = x :: suf := by rw [ins_app lt x [] suf hsuf]; rfl
        rw [hgoal, hps, e1, hw]
        simpa using har)
    · obtain ⟨pre', y, rfl⟩ : ∃ p' y, pre = p' ++ [y] := ⟨pre.dropLast, pre.getLast hp0, (List.dropLast_concat_getLast hp0).symm⟩
      simp only [List.length_append, List.length_cons, List.length_nil, Nat.zero_add] at hk hpl ⊢
      have hgt : decide ((0 : Int) < (pre'.length + 1 : Nat)) = true := by simp <;> omega
      have hge : (0 : Int) ≤ (pre'.length : Int) + 1 := by omega
      have hwj : IntKind.i64.wrap (pre'.length : Int) = (pre'.length : Int) := wrap_i64 (by omega) (by omega)
      have hwk : IntKind.i64.wrap ((pre'.length : Int) + 1) = (pre'.length : Int) + 1 := wrap_i64 (by omega) (by omega)
      obtain ⟨fx, ex, M, hf, hM, _, hrd, hwr⟩ := har.cells len_tablet
      have ha1 := arr_index (P := Tryz.prog) (size := 4) (b := b) (v := v) (n := l.length) (i := pre'.length + 1) Tryz.underlying66 (by simp) (by omega) (by omega)
      have ha2 := arr_index (P := Tryz.prog) (size := 4) (b := b) (v := v) (n := l.length) (i := pre'.length) Tryz.underlying66 (by simp) (by omega) (by omega)
      obtain ⟨r1, r2⟩ := hrd (pre'.length + 1) (by simp <;> omega)
      obtain ⟨r3, r4⟩ := hrd pre'.length (by simp <;> omega)
      have g1 : (pre' ++ [y] ++ x :: suf ++ w)[pre'.length + 1]'(by simp <;> omega) = x := by simp [List.getElem_append]
      have g2 : (pre' ++ [y] ++ x :: suf ++ w)[pre'.length]'(by simp <;> omega) = y := by simp [List.getElem_append]
      rw [g1] at r2
      rw [g2] at r4
      have hcmp := hg x y hh hnx hfm
      have hlen1 : (lay M ((pre'.length + 1) * 4) (encTablet y)).length = M.length := by simp [lay, len_tablet]; omega
      have hlx := len_tablet x
      have hly := len_tablet y
      cases hc : lt x y
      · have hc2 := hltc x y
        rw [hc] at hc2
        have hc3 : ¬ c x y < 0 := by simpa using hc2
        first | (refine hide ?_; intro Q9 hQ9) | have hQ9 := True.intro
        repeat' (first
          | (replace hQ9 := hQ9; simp [-lay, hwi, hgt, hge, hwj, hwk, ha1, ha2, hf, r1, r2, r3, r4, hcmp, hc2, hc3])
          | (refine hQ9 _ _ _ ?_; clear hQ9 Q9; first | simp only [] | simp [-lay, hwi, hgt, hge, hwj, hwk, ha1, ha2, hf, r1, r2, r3, r4, hcmp, hc2, hc3] | skip)
          | (refine hadQ (by assumption) ?_; (try clear hQ9); first | simp only [] | simp [-lay, hwi, hgt, hge, hwj, hwk, ha1, ha2, hf, r1, r2, r3, r4, hcmp, hc2, hc3] | skip)
          | ((fail_if_success replace hQ9 := hQ9); (first | refine hide ?_ | refine hideS ?_ | refine hideB ?_); intro Q9 hQ9)
          | (first | refine dF (id := 4) [0, 1, 2, 3, 4, 5, 6, 7, 8, 9, 10, 11, 12, 13, 14, 15, 16] [] ?_ | refine dF (id := 6) [0, 1, 2, 3, 4, 5, 6, 7, 8, 9, 10, 11, 12, 13, 14, 15, 16, 17] [] ?_)
          | (first | apply cF | apply wN | apply wS) <;> intro hcnd <;> (try simp only [hcnd]) <;> (try simp [-List.isEmpty_iff, -List.isEmpty_eq_false_iff] at hcnd))
        all_goals (
          rw [hI]
          refine ⟨?_, hnx, hfm, ex_get' (by simp)⟩
          have e1 : ins lt x (pre' ++ [y] ++ suf) = pre' ++ [y, x] ++ suf := by rw [ins_app lt x _ suf hsuf, ins_snoc, hc]; rfl
          rw [hgoal, hps, e1, hw]
          simpa using har)
      · have hc2 := hltc x y
        rw [hc] at hc2
        have hc3 : c x y < 0 := by simpa using hc2
        first | (refine hide ?_; intro Q10 hQ10) | have hQ10 := True.intro
        repeat' (first
          | (replace hQ10 := hQ10; simp [-lay, hwi, hgt, hge, hwj, hwk, ha1, ha2, hf, r1, r2, r3, r4, hcmp, hc2, hc3, hlen1, hlx, hly])
          | (refine hQ10 _ _ _ ?_; clear hQ10 Q10; first | simp only [] | simp [-lay, hwi, hgt, hge, hwj, hwk, ha1, ha2, hf, r1, r2, r3, r4, hcmp, hc2, hc3, hlen1, hlx, hly] | skip)
          | (refine hadQ (by assumption) ?_; (try clear hQ10); first | simp only [] | simp [-lay, hwi, hgt, hge, hwj, hwk, ha1, ha2, hf, r1, r2, r3, r4, hcmp, hc2, hc3, hlen1, hlx, hly] | skip)
          | ((fail_if_success replace hQ10 := hQ10); (first | refine hide ?_ | refine hideS ?_ | refine hideB ?_); intro Q10 hQ10)
          | (first | refine dF (id := 4) [0, 1, 2, 3, 4, 5, 6, 7, 8, 9, 10, 11, 12, 13, 14, 15, 16] [] ?_ | refine dF (id := 6) [0, 1, 2, 3, 4, 5, 6, 7, 8, 9, 10, 11, 12, 13, 14, 15, 16, 17] [] ?_)
          | (first | apply cF | apply wN | apply wS) <;> intro hcnd <;> (try simp only [hcnd]) <;> (try simp [-List.isEmpty_iff, -List.isEmpty_eq_false_iff] at hcnd))
        all_goals (
          refine ⟨pre'.length, by omega, ?_⟩
          rw [hJ]
          have a1 := hwr (hh.set b ⟨v, [M.length], fx, lay M ((pre'.length + 1) * 4) (encTablet y)⟩) (pre'.length + 1) y (by simp) (by simp; omega) (by simp)
          obtain ⟨fx1, ex1, M1, hf1, _, _, _, hwr1⟩ := a1.cells len_tablet
          simp only [set_at, if_true, Option.some.injEq, Blk.mk.injEq, true_and] at hf1
          obtain ⟨_, rfl, rfl⟩ := hf1
          refine ⟨pre', y :: suf, rfl, by rw [hps]; simp, ?_, ?_, by simpa using hnx, ?_, ex_get' (by simp)⟩
          · intro q hq
            rcases List.mem_cons.1 hq with rfl | hq
            · exact hc
            · exact hsuf q hq
          · have e2 : (((pre' ++ [y] ++ x :: suf ++ w).set (pre'.length + 1) y).set pre'.length x) = pre' ++ x :: (y :: suf) ++ w := by simp [List.set_append]
            rw [← e2]
            refine hwr1 _ pre'.length x (by simp) ?_ ?_
            · simp; omega
            · simp [lay, hlx, hly]; omega
          · intro q hq hqb
            rw [set_at, if_neg hqb]; exact hfm q hq hqb)
  · intro fr hh hx
    rw [hI] at hx
    obtain ⟨har, hnx, hfm, j, rfl⟩ := hx
    by_cases hl0 : l = []
    · subst hl0
      first | (refine hide ?_; intro Q11 hQ11) | have hQ11 := True.intro
      repeat' (first
        | (replace hQ11 := hQ11; simp)
        | (refine hQ11 _ _ _ ?_; clear hQ11 Q11; first | simp only [] | simp | skip)
        | (refine hadQ (by assumption) ?_; (try clear hQ11); first | simp only [] | simp | skip)
        | ((fail_if_success replace hQ11 := hQ11); (first | refine hide ?_ | refine hideS ?_ | refine hideB ?_); intro Q11 hQ11)
        | (first | refine dF (id := 4) [0, 1, 2, 3, 4, 5, 6, 7, 8, 9, 10, 11, 12, 13, 14, 15, 16] [] ?_ | refine dF (id := 6) [0, 1, 2, 3, 4, 5, 6, 7, 8, 9, 10, 11, 12, 13, 14, 15, 16, 17] [] ?_)
        | (first | apply cF | apply wN | apply wS) <;> intro hcnd <;> (try simp only [hcnd]) <;> (try simp [-List.isEmpty_iff, -List.isEmpty_eq_false_iff] at hcnd))
      all_goals exact hP _ _ ⟨rfl, by simpa using har, hnx, hfm⟩
    · have : 0 < l.length := List.length_pos_iff.2 hl0
      have hlt1 : decide ((l.length - 1 + 1 : Nat) < (l.length : Int)) = false := by simp; omega
      have hdl : l.length - 1 + 1 = l.length := by omega
      rw [hdl, List.take_of_length_le (by omega), List.drop_of_length_le (by omega), List.append_nil] at har
      simp only [hdl]
      first | (refine hide ?_; intro Q12 hQ12) | have hQ12 := True.intro
      repeat' (first
        | (replace hQ12 := hQ12; simp)
        | (refine hQ12 _ _ _ ?_; clear hQ12 Q12; first | simp only [] | simp | skip)
        | (refine hadQ (by assumption) ?_; (try clear hQ12); first | simp only [] | simp | skip)
        | ((fail_if_success replace hQ12 := hQ12); (first | refine hide ?_ | refine hideS ?_ | refine hideB ?_); intro Q12 hQ12)
        | (first | refine dF (id := 4) [0, 1, 2, 3, 4, 5, 6, 7, 8, 9, 10, 11, 12, 13, 14, 15, 16] [] ?_ | refine dF (id := 6) [0, 1, 2, 3, 4, 5, 6, 7, 8, 9, 10, 11, 12, 13, 14, 15, 16, 17] [] ?_)
        | (first | apply cF | apply wN | apply wS) <;> intro hcnd <;> (try simp only [hcnd]) <;> (try simp [-List.isEmpty_iff, -List.isEmpty_eq_false_iff] at hcnd))
      all_goals exact hP _ _ ⟨rfl, har, hnx, hfm⟩
  · rw [hI]
    refine ⟨?_, rfl, fun _ _ _ => rfl, ex_get' (by simp)⟩
    cases l with
    | nil => simpa using ar
    | cons a l => simpa [isort] using ar
theorem eraseTablet_c {h : H} {b v : Nat} {l : List Tablet} {z : List AS} (ar : Arr h encTablet b v l z) (i : Nat) (hi : i < l.length) (hl : l.length ≤ 1000000) :
    ∃ r, W K 81 [.one (.slc b v 0 l.length 4 none), .one (ii i), .one (ii (i + 1))] h = some r ∧ Rets (fun q h' => q = .one (.slc b v 0 (l.length - 1) 4 none) ∧ (∃ z', Arr h' encTablet b v (l.eraseIdx i) z') ∧ h'.next = h.next ∧ ∀ y, y ≠ b → h'.f y = h.f y) r := by
  refine Rets.intro fun P hP => ?_
  obtain ⟨h1, z1, e1, a1, hz1, n1, f1⟩ := arr_erase (P := Tryz.prog) (t := 66) Tryz.underlying66 (by simp) (by simp) Tryz.bytes99 (by omega) len_tablet ar hi (by simp only [limit]; omega)
  have hll : (l.eraseIdx i).length = l.length - 1 := by rw [List.length_eraseIdx]; simp [hi]
  obtain ⟨kb, hw, a2⟩ := arr_tail len_tablet a1 (c := [.str [], .str [], ii 0, ii 0]) (by rw [hz1]; simp)
  obtain ⟨_, fx, ex, hf⟩ := a1
  rw [hll] at hw
  have hE : l.length * 4 ≤ (cat encTablet (l.eraseIdx i) ++ z1).length := by rw [List.length_append, flat_length len_tablet, hll, hz1]; omega
  generalize cat encTablet (l.eraseIdx i) ++ z1 = M at hf hE
  have q1 : (i : Int) ≤ (i : Int) + 1 := by omega
  have q2 : ((i : Int) + 1).toNat = i + 1 := by omega
  have q3 : i ≤ i + 1 := by omega
  have q4 : i + 1 ≤ l.length := by omega
  have q5 : i ≤ l.length := by omega
  have q6 : l.length - 1 ≤ l.length := by omega
  have q7 : ¬ l.length ≤ l.length - 1 := by omega
  have q8 : l.length - (l.length - 1) = 1 := by omega
  have q9 : (0 : Int) ≤ (i : Int) + 1 := by omega
  have q10 : ¬ (i : Int) = (i : Int) + 1 := by omega
  have q11 : decide ((i : Int) = (i : Int) + 1) = false := by simp; omega
  have q12 : ((i : Int) == (i : Int) + 1) = false := by simp; omega
  have q13 : ¬ i + 1 < i := by omega
  have q14 : ¬ l.length < i + 1 := by omega
  have q15 : ¬ l.length < l.length - 1 := by omega
  have q16 : ¬ l.length < i := by omega
  refine W_doesQ hp rfl rfl rfl Tryz.func81 rfl (by simp [Tryz.f81]) ?_
  simp only [Tryz.f81]
  refine hide ?_; intro Q13 hQ13
  repeat' (first
    | (replace hQ13 := hQ13; simp [-lay, -write_ptr, -read_ptr, e1, hf, hE, q1, q2, q3, q4, q5, q6, q7, q8, q9, q10, q11, q12, q13, q14, q15, q16, hw, sliceA, bound, sliceSize, clearA])
    | refine hQ13 _ _ _ ?_
    | refine dF (id := 5) [0, 1, 2, 3, 4, 5, 6, 7] [] ?_
    | (first | apply cF | apply wN | apply wS) <;> intro hcnd <;> (try simp only [hcnd]) <;> (try simp [-List.isEmpty_iff, -List.isEmpty_eq_false_iff] at hcnd))
  all_goals exact hP _ _ ⟨rfl, ⟨_, a2⟩, by simpa using n1, fun y hy => by rw [set_at, if_neg hy]; exact f1 y hy⟩
theorem bitsLen64_c (n : Nat) (hn : n ≤ 12) : ∃ k : Int, ∀ h, W K 146 [.one (.int .u64 n)] h = some (.ret (.one (ii k)) h) := by
  obtain rfl | rfl | rfl | rfl | rfl | rfl | rfl | rfl | rfl | rfl | rfl | rfl | rfl : n = 0 ∨ n = 1 ∨ n = 2 ∨ n = 3 ∨ n = 4 ∨ n = 5 ∨ n = 6 ∨ n = 7 ∨ n = 8 ∨ n = 9 ∨ n = 10 ∨ n = 11 ∨ n = 12 := by omega
  · refine ⟨0, fun h => ?_⟩
    have w1 : IntKind.u8.wrap 0 = 0 := rfl
    have w2 : IntKind.i64.wrap 0 = 0 := rfl
    refine W_does hp rfl rfl rfl Tryz.func146 rfl (by simp [Tryz.f146]) ?_
    simp only [Tryz.f146]
    refine hide ?_; intro Q14 hQ14
    repeat' (first
      | (replace hQ14 := hQ14; simp [convA, shiftI, w1, w2, byteS])
      | refine hQ14 _ _ _ ?_
      | (first | apply cF | apply wN | apply wS) <;> intro hcnd <;> (try simp only [hcnd]) <;> (try simp [-List.isEmpty_iff, -List.isEmpty_eq_false_iff] at hcnd))
    all_goals first | rfl | trace_state
  · refine ⟨1, fun h => ?_⟩
    have w1 : IntKind.u8.wrap 1 = 1 := rfl
    have w2 : IntKind.i64.wrap 1 = 1 := rfl
    refine W_does hp rfl rfl rfl Tryz.func146 rfl (by simp [Tryz.f146]) ?_
    simp only [Tryz.f146]
    refine hide ?_; intro Q15 hQ15
    repeat' (first
      | (replace hQ15 := hQ15; simp [convA, shiftI, w1, w2, byteS])
      | refine hQ15 _ _ _ ?_
      | (first | apply cF | apply wN | apply wS) <;> intro hcnd <;> (try simp only [hcnd]) <;> (try simp [-List.isEmpty_iff, -List.isEmpty_eq_false_iff] at hcnd))
    all_goals first | rfl | trace_state
  · refine ⟨2, fun h => ?_⟩
    have w1 : IntKind.u8.wrap 2 = 2 := rfl
    have w2 : IntKind.i64.wrap 2 = 2 := rfl
    refine W_does hp rfl rfl rfl Tryz.func146 rfl (by simp [Tryz.f146]) ?_
    simp only [Tryz.f146]
    refine hide ?_; intro Q16 hQ16
    repeat' (first
      | (replace hQ16 := hQ16; simp [convA, shiftI, w1, w2, byteS])
      | refine hQ16 _ _ _ ?_
      | (first | apply cF | apply wN | apply wS) <;> intro hcnd <;> (try simp only [hcnd]) <;> (try simp [-List.isEmpty_iff, -List.isEmpty_eq_false_iff] at hcnd))
    all_goals first | rfl | trace_state
  · refine ⟨2, fun h => ?_⟩
    have w1 : IntKind.u8.wrap 3 = 3 := rfl
    have w2 : IntKind.i64.wrap 2 = 2 := rfl
    refine W_does hp rfl rfl rfl Tryz.func146 rfl (by simp [Tryz.f146]) ?_
    simp only [Tryz.f146]
    refine hide ?_; intro Q17 hQ17
    repeat' (first
      | (replace hQ17 := hQ17; simp [convA, shiftI, w1, w2, byteS])
      | refine hQ17 _ _ _ ?_
      | (first | apply cF | apply wN | apply wS) <;> intro hcnd <;> (try simp only [hcnd]) <;> (try simp [-List.isEmpty_iff, -List.isEmpty_eq_false_iff] at hcnd))
    all_goals first | rfl | trace_state
  · refine ⟨3, fun h => ?_⟩
    have w1 : IntKind.u8.wrap 4 = 4 := rfl
    have w2 : IntKind.i64.wrap 3 = 3 := rfl
    refine W_does hp rfl rfl rfl Tryz.func146 rfl (by simp [Tryz.f146]) ?_
    simp only [Tryz.f146]
    refine hide ?_; intro Q18 hQ18
    repeat' (first
      | (replace hQ18 := hQ18; simp [convA, shiftI, w1, w2, byteS])
      | refine hQ18 _ _ _ ?_
      | (first | apply cF | apply wN | apply wS) <;> intro hcnd <;> (try simp only [hcnd]) <;> (try simp [-List.isEmpty_iff, -List.isEmpty_eq_false_iff] at hcnd))
    all_goals first | rfl | trace_state
  · refine ⟨3, fun h => ?_⟩
    have w1 : IntKind.u8.wrap 5 = 5 := rfl
    have w2 : IntKind.i64.wrap 3 = 3 := rfl
    refine W_does hp rfl rfl rfl Tryz.func146 rfl (by simp [Tryz.f146]) ?_
    simp only [Tryz.f146]
    refine hide ?_; intro Q19 hQ19
    repeat' (first
      | (replace hQ19 := hQ19; simp [convA, shiftI, w1, w2, byteS])
      | refine hQ19 _ _ _ ?_
      | (first | apply cF | apply wN | apply wS) <;> intro hcnd <;> (try simp only [hcnd]) <;> (try simp [-List.isEmpty_iff, -List.isEmpty_eq_false_iff] at hcnd))
    all_goals first | rfl | trace_state
  · refine ⟨3, fun h => ?_⟩
    have w1 : IntKind.u8.wrap 6 = 6 := rfl
    have w2 : IntKind.i64.wrap 3 = 3 := rfl
    refine W_does hp rfl rfl rfl Tryz.func146 rfl (by simp [Tryz.f146]) ?_
    simp only [Tryz.f146]
    refine hide ?_; intro Q20 hQ20
    repeat' (first
      | (replace hQ20 := hQ20; simp [convA, shiftI, w1, w2, byteS])
      | refine hQ20 _ _ _ ?_
      | (first | apply cF | apply wN | apply wS) <;> intro hcnd <;> (try simp only [hcnd]) <;> (try simp [-List.isEmpty_iff, -List.isEmpty_eq_false_iff] at hcnd))
    all_goals first | rfl | trace_state
  · refine ⟨3, fun h => ?_⟩
    have w1 : IntKind.u8.wrap 7 = 7 := rfl
    have w2 : IntKind.i64.wrap 3 = 3 := rfl
    refine W_does hp rfl rfl rfl Tryz.func146 rfl (by simp [Tryz.f146]) ?_
    simp only [Tryz.f146]
    refine hide ?_; intro Q21 hQ21
    repeat' (first
      | (replace hQ21 := hQ21; simp [convA, shiftI, w1, w2, byteS])
      | refine hQ21 _ _ _ ?_
      | (first | apply cF | apply wN | apply wS) <;> intro hcnd <;> (try simp only [hcnd]) <;> (try simp [-List.isEmpty_iff, -List.isEmpty_eq_false_iff] at hcnd))
    all_goals first | rfl | trace_state
  · refine ⟨4, fun h => ?_⟩
    have w1 : IntKind.u8.wrap 8 = 8 := rfl
    have w2 : IntKind.i64.wrap 4 = 4 := rfl
    refine W_does hp rfl rfl rfl Tryz.func146 rfl (by simp [Tryz.f146]) ?_
    simp only [Tryz.f146]
    refine hide ?_; intro Q22 hQ22
    repeat' (first
      | (replace hQ22 := hQ22; simp [convA, shiftI, w1, w2, byteS])
      | refine hQ22 _ _ _ ?_
      | (first | apply cF | apply wN | apply wS) <;> intro hcnd <;> (try simp only [hcnd]) <;> (try simp [-List.isEmpty_iff, -List.isEmpty_eq_false_iff] at hcnd))
    all_goals first | rfl | trace_state
  · refine ⟨4, fun h => ?_⟩
    have w1 : IntKind.u8.wrap 9 = 9 := rfl
    have w2 : IntKind.i64.wrap 4 = 4 := rfl
    refine W_does hp rfl rfl rfl Tryz.func146 rfl (by simp [Tryz.f146]) ?_
    simp only [Tryz.f146]
    refine hide ?_; intro Q23 hQ23
    repeat' (first
      | (replace hQ23 := hQ23; simp [convA, shiftI, w1, w2, byteS])
      | refine hQ23 _ _ _ ?_
      | (first | apply cF | apply wN | apply wS) <;> intro hcnd <;> (try simp only [hcnd]) <;> (try simp [-List.isEmpty_iff, -List.isEmpty_eq_false_iff] at hcnd))
    all_goals first | rfl | trace_state
  · refine ⟨4, fun h => ?_⟩
    have w1 : IntKind.u8.wrap 10 = 10 := rfl
    have w2 : IntKind.i64.wrap 4 = 4 := rfl
    refine W_does hp rfl rfl rfl Tryz.func146 rfl (by simp [Tryz.f146]) ?_
    simp only [Tryz.f146]
    refine hide ?_; intro Q24 hQ24
    repeat' (first
      | (replace hQ24 := hQ24; simp [convA, shiftI, w1, w2, byteS])
      | refine hQ24 _ _ _ ?_
      | (first | apply cF | apply wN | apply wS) <;> intro hcnd <;> (try simp only [hcnd]) <;> (try simp [-List.isEmpty_iff, -List.isEmpty_eq_false_iff] at hcnd))
    all_goals first | rfl | trace_state
  · refine ⟨4, fun h => ?_⟩
    have w1 : IntKind.u8.wrap 11 = 11 := rfl
    have w2 : IntKind.i64.wrap 4 = 4 := rfl
    refine W_does hp rfl rfl rfl Tryz.func146 rfl (by simp [Tryz.f146]) ?_
    simp only [Tryz.f146]
    refine hide ?_; intro Q25 hQ25
    repeat' (first
      | (replace hQ25 := hQ25; simp [convA, shiftI, w1, w2, byteS])
      | refine hQ25 _ _ _ ?_
      | (first | apply cF | apply wN | apply wS) <;> intro hcnd <;> (try simp only [hcnd]) <;> (try simp [-List.isEmpty_iff, -List.isEmpty_eq_false_iff] at hcnd))
    all_goals first | rfl | trace_state
  · refine ⟨4, fun h => ?_⟩
    have w1 : IntKind.u8.wrap 12 = 12 := rfl
    have w2 : IntKind.i64.wrap 4 = 4 := rfl
    refine W_does hp rfl rfl rfl Tryz.func146 rfl (by simp [Tryz.f146]) ?_
    simp only [Tryz.f146]
    refine hide ?_; intro Q26 hQ26
    repeat' (first
      | (replace hQ26 := hQ26; simp [convA, shiftI, w1, w2, byteS])
      | refine hQ26 _ _ _ ?_
      | (first | apply cF | apply wN | apply wS) <;> intro hcnd <;> (try simp only [hcnd]) <;> (try simp [-List.isEmpty_iff, -List.isEmpty_eq_false_iff] at hcnd))
    all_goals first | rfl | trace_state
theorem bitsLen_c (n : Nat) (hn : n ≤ 12) : ∃ k : Int, ∀ h, W K 114 [.one (.int .u64 n)] h = some (.ret (.one (ii k)) h) := by
  obtain ⟨k, hk⟩ := bitsLen64_c n hn
  refine ⟨k, fun h => ?_⟩
  refine W_does hp rfl rfl rfl Tryz.func114 rfl (by simp [Tryz.f114]) ?_
  simp only [Tryz.f114]
  refine hide ?_; intro Q27 hQ27
  repeat' (first
    | (replace hQ27 := hQ27; simp [convA, hk])
    | refine hQ27 _ _ _ ?_
    | (first | apply cF | apply wN | apply wS) <;> intro hcnd <;> (try simp only [hcnd]) <;> (try simp [-List.isEmpty_iff, -List.isEmpty_eq_false_iff] at hcnd))
theorem sortTablet_c {h : H} {b v : Nat} {l : List Tablet} {z : List AS} (ar : Arr h encTablet b v l z) (g : Nat) (caps : List AS) (c : Tablet → Tablet → Int) (hl : l.length ≤ 12)
    (hg : ∀ x y h', h'.next = h.next → (∀ q, q < h.next → q ≠ b → h'.f q = h.f q) → W K g (avTablet x :: avTablet y :: caps.map AV.one) h' = some (.ret (.one (ii (c x y))) h')) :
    ∃ r, W K 77 [.one (.slc b v 0 l.length 4 none), .one (.fn g [] caps)] h = some r ∧ Rets (fun q h' => q = .tup [] ∧ Arr h' encTablet b v (isort (fun x y => decide (c x y < 0)) l) z ∧ h'.next = h.next ∧ ∀ y, y < h.next → y ≠ b → h'.f y = h.f y) r := by
  obtain ⟨r1, e1, hr1⟩ := sortTabletins_c ar g caps c (by omega) hg
  obtain ⟨q, h1, rfl, rfl, a1, n1, f1⟩ := hr1.ret
  obtain ⟨k, hk⟩ := bitsLen_c l.length hl
  have key : ∃ r, W K 113 [.one (.slc b v 0 l.length 4 none), .one (ii 0), .one (ii l.length), .one (ii k), .one (.fn g [] caps)] h = some r ∧ r = .ret (.tup []) h1 := by
    have w1 : IntKind.i64.wrap (l.length : Int) = l.length := wrap_i64 (by omega) (by omega)
    have d1 : decide ((l.length : Int) ≤ 12) = true := by simp; omega
    have d2 : (l.length : Int) ≤ 12 := by omega
    have d3 : l.length ≤ 12 := hl
    refine W_doesQ hp rfl rfl rfl Tryz.func113 rfl (by simp [Tryz.f113]) ?_
    simp only [Tryz.f113]
    refine hide ?_; intro Q28 hQ28
    repeat' (first
      | (replace hQ28 := hQ28; simp [w1])
      | refine hQ28 _ _ _ ?_
      | refine dF (id := 17) [0, 1, 2, 3, 4, 5, 6, 7, 8, 9, 10, 11, 12, 13, 14, 15, 16] [] ?_
      | (first | apply cF | apply wN | apply wS) <;> intro hcnd <;> (try simp only [hcnd]) <;> (try simp [-List.isEmpty_iff, -List.isEmpty_eq_false_iff] at hcnd))
    refine does_count hp 0 (fun i fr hh => hh = h ∧ ∃ j : Nat → AV, fr = ((.one (.slc b v 0 l.length 4 none)) :: (.one (ii 0)) :: (.one (ii l.length)) :: (.one (ii k)) :: (.one (.fn g [] caps)) :: j 5 :: j 6 :: j 7 :: j 8 :: j 9 :: j 10 :: j 11 :: j 12 :: j 13 :: j 14 :: j 15 :: j 16 :: j 17 :: j 18 :: j 19 :: j 20 :: j 21 :: j 22 :: j 23 :: j 24 :: j 25 :: j 26 :: j 27 :: j 28 :: j 29 :: j 30 :: j 31 :: j 32 :: j 33 :: j 34 :: j 35 :: j 36 :: j 37 :: j 38 :: j 39 :: j 40 :: j 41 :: j 42 :: j 43 :: j 44 :: j 45 :: j 46 :: j 47 :: j 48 :: j 49 :: j 50 :: j 51 :: j 52 :: j 53 :: j 54 :: j 55 :: j 56 :: j 57 :: j 58 :: j 59 :: j 60 :: j 61 :: j 62 :: j 63 :: j 64 :: j 65 :: j 66 :: j 67 :: j 68 :: j 69 :: j 70 :: j 71 :: j 72 :: j 73 :: j 74 :: j 75 :: j 76 :: j 77 :: j 78 :: j 79 :: j 80 :: j 81 :: j 82 :: j 83 :: j 84 :: j 85 :: j 86 :: j 87 :: j 88 :: j 89 :: j 90 :: j 91 :: j 92 :: j 93 :: j 94 :: j 95 :: j 96 :: j 97 :: j 98 :: j 99 :: j 100 :: j 101 :: j 102 :: j 103 :: j 104 :: j 105 :: j 106 :: j 107 :: j 108 :: j 109 :: j 110 :: j 111 :: j 112 :: j 113 :: j 114 :: j 115 :: j 116 :: j 117 :: j 118 :: j 119 :: j 120 :: j 121 :: j 122 :: j 123 :: j 124 :: j 125 :: j 126 :: j 127 :: j 128 :: j 129 :: j 130 :: j 131 :: j 132 :: j 133 :: j 134 :: j 135 :: j 136 :: j 137 :: j 138 :: j 139 :: j 140 :: j 141 :: j 142 :: j 143 :: j 144 :: j 145 :: j 146 :: j 147 :: [])) ?_ ?_ _ _ ⟨rfl, ex_get' (by simp)⟩
    · intro i fr hh hi; omega
    · rintro fr hh ⟨rfl, j, rfl⟩
      first | (refine hide ?_; intro Q29 hQ29) | have hQ29 := True.intro
      repeat' (first
        | (replace hQ29 := hQ29; simp [e1, w1, d1, d2, d3])
        | (refine hQ29 _ _ _ ?_; clear hQ29 Q29; first | simp only [] | simp [e1, w1, d1, d2, d3] | skip)
        | (refine hadQ (by assumption) ?_; (try clear hQ29); first | simp only [] | simp [e1, w1, d1, d2, d3] | skip)
        | ((fail_if_success replace hQ29 := hQ29); (first | refine hide ?_ | refine hideS ?_ | refine hideB ?_); intro Q29 hQ29)
        | refine dF (id := 17) [0, 1, 2, 3, 4, 5, 6, 7, 8, 9, 10, 11, 12, 13, 14, 15, 16] [] ?_
        | (first | apply cF | apply wN | apply wS) <;> intro hcnd <;> (try simp only [hcnd]) <;> (try simp [-List.isEmpty_iff, -List.isEmpty_eq_false_iff] at hcnd))
  obtain ⟨r2, e2, rfl⟩ := key
  refine Rets.intro fun P hP => ?_
  have w1 : IntKind.u64.wrap (l.length : Int) = l.length := wrap_u64 (by omega) (by omega)
  refine W_doesQ hp rfl rfl rfl Tryz.func77 rfl (by simp [Tryz.f77]) ?_
  simp only [Tryz.f77]
  refine hide ?_; intro Q30 hQ30
  repeat' (first
    | (replace hQ30 := hQ30; simp [w1, convA, hk, e2])
    | refine hQ30 _ _ _ ?_)
  all_goals exact hP _ _ ⟨rfl, a1, n1, f1⟩
end Go.Proofs.YtmhbdpgflomihaaGreat
