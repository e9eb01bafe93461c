/- A part of a proof over the abstract machine. No conditions. -/
import Derived.Test.YthdfhffpnoocbaaGreatF3
import Derived.Test.YthdfhffpnoocbaaGreatFairPlain
namespace Go.Proofs.YthdfhffpnoocbaaGreat
open Go Go.Ab Wm
set_option linter.unusedSimpArgs false
set_option linter.unnecessarySimpa false
set_option linter.unusedVariables false
set_option maxRecDepth 10000
set_option maxHeartbeats 4000000
theorem sub_all {n : Nat} {l : List AS} (hl : l.length = n) : sub l 0 n = some l := by
  unfold sub; rw [if_pos (by omega), List.drop_zero, ← hl, List.take_length]
def pl (x : It) : FairPlain.It := ⟨x.kind, x.group, x.n, x.client⟩
theorem pl_asked (x : It) : pl (askedI x) = FairPlain.asked (pl x) := by
  unfold askedI FairPlain.asked pl
  simp only
  by_cases h1 : x.kind = 1
  · by_cases h2 : x.n = 100
    · simp [h1, h2]
    · by_cases h3 : x.n = 101 <;> simp [h1, h2, h3]
  · simp [h1]
def Itms (h : H) (s : AS) (L : List It) : Prop := Sl h 5 encIt s L ∨ ∃ o : Option (List It), s = sl 5 encIt o ∧ ls o = L
theorem itms_len {h : H} {s : AS} {L : List It} (a : Itms h s L) (u : Nat) (hh : H) : lenA s (some (.slice u)) hh = some (.val (.one (ii L.length)) hh) := by
  rcases a with (⟨rfl, rfl⟩ | ⟨b, v, z, rfl, _⟩) | ⟨o, rfl, rfl⟩
  · rfl
  · rfl
  · cases o <;> rfl
theorem fits_step {R L : List It} {i m : Nat} (hi : i < L.length) (hmR : m < R.length) (hm : i % R.length = m) : FairPlain.fits (R.map pl) i ((L.map pl).drop i) = if pl (askedI L[i]) = pl R[m] then FairPlain.fits (R.map pl) (i + 1) ((L.map pl).drop (i + 1)) else false := by
  rw [List.drop_eq_getElem_cons (by simpa using hi), FairPlain.fits]
  simp only [List.length_map, hm, List.getElem_map]
  rw [List.getElem?_eq_getElem (by simpa using hmR)]
  simp only [List.getElem_map, pl_asked]
theorem fair_c (g n k : Nat) (hg : g = 1 ∨ g = 2 ∨ g = 3) (hn : n = 1 ∨ n = 3) (hk : k = 1 ∨ k = 2 ∨ k = 3 ∨ k = 4) {h : H} {s : AS} {L : List It} (hs : Itms h s L) (hL : L.length < 1000000) :
    ∃ r, W K 8 [.agg [ii g, ii n, ii k], .one s] h = some r ∧ Rets (fun v h' => v = .one (.bool (FairPlain.fair ((roundL g n k).map pl) (L.map pl))) ∧ h.next ≤ h'.next ∧ ∀ b, b < h.next → h'.f b = h.f b) r := by
  refine Rets.intro fun P hP => ?_
  obtain ⟨sr, h1, e1, slr, n1, k1, o1⟩ := round_c g n k hg hn hk (h.new ⟨0, [3], true, [ii g, ii n, ii k]⟩)
  simp only [new_next] at n1 k1 o1
  have hlen := itms_len hs 29
  have hlr := fun hh => itms_len (.inl slr : Itms h1 sr _) 29 hh
  have hkp : ∀ b, b < h.next → h1.f b = h.f b := fun b hb => by rw [k1 b (by omega), new_at, if_neg (by omega)]
  have hR5 : 0 < (roundL g n k).length := by simp [roundL]; omega
  generalize hRe : roundL g n k = R at *
  have hR1 : R.length < 1000 := by rw [← hRe]; rcases hg with rfl | rfl | rfl <;> rcases hn with rfl | rfl <;> rcases hk with rfl | rfl | rfl | rfl <;> decide
  have hfa : FairPlain.fair (R.map pl) (L.map pl) = if R.length = 0 ∨ L.length = 0 ∨ L.length % R.length ≠ 0 then false else FairPlain.fits (R.map pl) 0 (L.map pl) := by unfold FairPlain.fair; simp only [List.length_map]
  rw [hfa] at hP
  have d0 : (R.length == 0) = false := by rw [beq_eq_false_iff_ne]; omega
  have hmod : ((L.length : Int)).tmod (R.length : Int) = ((L.length % R.length : Nat) : Int) := by rw [tmod_pos (by omega)]; omega
  have hR0 : ¬ R.length = 0 := by omega
  have hRL : ¬ R = [] := fun e => by rw [e] at hR5; simp at hR5
  by_cases hb0 : L.length = 0
  · rw [if_pos (.inr (.inl hb0))] at hP
    have hL0 : L = [] := List.eq_nil_of_length_eq_zero hb0
    have hb0' : (L.length : Int) = 0 := by omega
    refine W_doesQ hp rfl rfl rfl Tryz.func8 rfl (by simp [Tryz.f8]) ?_
    simp only [Tryz.f8]
    refine hide ?_; intro Q1 hQ1
    repeat' (first
      | (replace hQ1 := hQ1; simp [e1, hlen, hlr, hR0, hRL, d0, hb0, hb0'])
      | refine hQ1 _ _ _ ?_
      | refine dF (id := 8) [0, 1, 2, 3, 4, 5, 6, 7, 8, 9, 10, 11] [(1, 7), (7, 10)] ?_
      | (first | apply cF | apply wN | apply wS) <;> intro hcnd <;> (try simp only [hcnd]) <;> (try simp [-List.isEmpty_iff, -List.isEmpty_eq_false_iff] at hcnd))
    all_goals exact hP _ _ ⟨rfl, by omega, hkp⟩
  · have hL0 : ¬ L = [] := fun e => by rw [e] at hb0; simp at hb0
    have hbb : (L.length == 0) = false := by rw [beq_eq_false_iff_ne]; omega
    by_cases hb1 : L.length % R.length = 0
    · have hmz : ((L.length : Int)).tmod (R.length : Int) = 0 := by rw [hmod, hb1]; rfl
      rw [if_neg (by rintro (e | e | e); exact hR0 e; exact hb0 e; exact e hb1)] at hP
      refine W_doesQ hp rfl rfl rfl Tryz.func8 rfl (by simp [Tryz.f8]) ?_
      simp only [Tryz.f8]
      refine hide ?_; intro Q2 hQ2
      repeat' (first
        | (replace hQ2 := hQ2; simp [e1, hlen, hlr, hR0, hRL, hL0, hb0, d0, hbb, hmz])
        | refine hQ2 _ _ _ ?_
        | refine dF (id := 8) [0, 1, 2, 3, 4, 5, 6, 7, 8, 9, 10, 11] [(1, 7), (7, 10)] ?_
        | (first | apply cF | apply wN | apply wS) <;> intro hcnd <;> (try simp only [hcnd]) <;> (try simp [-List.isEmpty_iff, -List.isEmpty_eq_false_iff] at hcnd))
      all_goals try exact absurd ‹L = []› hL0
      all_goals try exact absurd ‹R = []› hRL
      obtain ⟨I, hI⟩ : ∃ I : Nat → Fr → H → Prop, I = fun (i : Nat) fr hh => FairPlain.fits (R.map pl) i ((L.map pl).drop i) = FairPlain.fits (R.map pl) 0 (L.map pl) ∧ h1.next ≤ hh.next ∧ (∀ b, b < h1.next → hh.f b = h1.f b) ∧ ∃ j : Nat → AV, fr = (j 0 :: j 1 :: j 2 :: j 3 :: (.one (.bool false)) :: (.one sr) :: (.one (ii R.length)) :: j 7 :: j 8 :: j 9 :: j 10 :: j 11 :: j 12 :: j 13 :: j 14 :: j 15 :: j 16 :: j 17 :: j 18 :: j 19 :: j 20 :: j 21 :: j 22 :: j 23 :: j 24 :: j 25 :: j 26 :: j 27 :: j 28 :: (.one s) :: (.one (ii L.length)) :: (.one (ii i)) :: j 32 :: j 33 :: j 34 :: j 35 :: j 36 :: j 37 :: j 38 :: j 39 :: j 40 :: j 41 :: j 42 :: j 43 :: j 44 :: j 45 :: j 46 :: j 47 :: j 48 :: j 49 :: j 50 :: j 51 :: j 52 :: j 53 :: j 54 :: j 55 :: j 56 :: j 57 :: j 58 :: j 59 :: j 60 :: j 61 :: j 62 :: j 63 :: j 64 :: j 65 :: j 66 :: j 67 :: j 68 :: j 69 :: j 70 :: []) := ⟨_, rfl⟩
      refine does_count hp L.length I ?_ ?_ _ _ (by rw [hI]; exact ⟨rfl, Nat.le_refl _, fun _ _ => rfl, ex_get' (by rfl)⟩)
      · intro i fr hh hi hx
        rw [hI] at hx
        obtain ⟨hfit, hn2, hk2, j, rfl⟩ := hx
        have hwi : IntKind.i64.wrap ((i : Int) + 1) = (i : Int) + 1 := step_wrap (by omega)
        have hlt : decide ((i : Int) < L.length) = true := by simp; omega
        have hlt2 : (i : Int) < L.length := by omega
        obtain ⟨m, hm⟩ : ∃ m, i % R.length = m := ⟨_, rfl⟩
        have hmR : m < R.length := by rw [← hm]; exact Nat.mod_lt _ hR5
        have hmi : ((i : Int)).tmod (R.length : Int) = (m : Int) := by rw [tmod_pos (by omega)]; omega
        have hst := fits_step hi hmR hm
        rw [hst] at hfit
        rcases slr with ⟨rfl, er⟩ | ⟨br, vr, zr, rfl, arr⟩
        · exact absurd er hRL
        have hbr := arr.1
        obtain ⟨fxr, exr, ZR, hfr, _, _, hrr, _⟩ := (arr.keep hn2 (hk2 br hbr)).cells len_it
        obtain ⟨q1, q2⟩ := hrr m hmR
        have hir := arr_index (P := Tryz.prog) (size := 5) (b := br) (v := vr) (n := R.length) (i := m) Tryz.underlying24 (by simp) (by omega) hmR
        obtain ⟨r2, d2, hr2⟩ := asked_c L[i] (hh.new ⟨0, [5], true, encIt L[i]⟩)
        obtain ⟨v2, h2, rfl, rfl, n2, k2⟩ := hr2.ret
        simp only [new_next] at n2 k2
        have hfr2 : h2.f br = some ⟨vr, ZR.length :: exr, fxr, ZR⟩ := by rw [k2 br (by omega), new_at, if_neg (by omega)]; exact hfr
        have nb1 : ¬ br = hh.next := by omega
        have nb2 : ¬ br = h2.next := by omega
        have nb3 : ¬ br = h2.next + 1 := by omega
        have nb4 : ¬ h2.next = h2.next + 1 := by omega
        have nb5 : ¬ h2.next + 1 = h2.next := by omega
        have hs8 := new_set hh ⟨0, [5], true, [ii 0, ii 0, ii 0, ii 0, .nilslc]⟩ ⟨0, [5], true, encIt L[i]⟩
        have h5 := len_it L[i]
        have h5b := sub_all (len_it L[i])
        have fin : ∀ h' : H, h2.next ≤ h'.next → (∀ b, b < h2.next → h'.f b = h2.f b) → ∀ b, b < h1.next → h'.f b = h1.f b := fun h' _ hf b hb => by rw [hf b (by omega), k2 b (by omega), new_at, if_neg (by omega)]; exact hk2 b hb
        generalize askedI L[i] = y at *
        generalize R[m] = z at *
        obtain ⟨x, hx⟩ : ∃ x, L[i] = x := ⟨_, rfl⟩
        rw [hx] at d2 hs8 h5 h5b
        have hbad : ∀ H' : H, h2.next ≤ H'.next → (∀ b, b < h2.next → H'.f b = h2.f b) → ¬ (pl y = pl z) → P (.one (.bool false)) H' := fun H' a b c => hP _ _ ⟨by rw [← hfit, if_neg c], by omega, fun x hx => by rw [fin H' a b x (by omega)]; exact hkp x hx⟩
        have hgood : pl y = pl z → FairPlain.fits (R.map pl) (i + 1) ((L.map pl).drop (i + 1)) = FairPlain.fits (R.map pl) 0 (L.map pl) := fun c => by rw [if_pos c] at hfit; exact hfit
        clear hfit hst
        rcases hs with (⟨rfl, el⟩ | ⟨b, v, zz, rfl, ar⟩) | ⟨o, rfl, rfl⟩
        · exact absurd el hL0
        · have hbn := ar.1
          obtain ⟨fx, ex, Z, hfb, _, _, hrd, _⟩ := (ar.keep (h' := hh) (by omega) (by rw [hk2 b (by omega)]; exact hkp b hbn)).cells len_it
          obtain ⟨q3, q4⟩ := hrd i hi
          rw [hx] at q4
          have hix := arr_index (P := Tryz.prog) (size := 5) (b := b) (v := v) (n := L.length) (i := i) Tryz.underlying24 (by simp) (by omega) hi
          clear hP hfa hmod hlr hlen e1 hr2 hrr hrd arr ar
          obtain ⟨yk, yg, yn, yc, yz⟩ := y
          obtain ⟨zk, zg, zn, zc, zz2⟩ := z
          obtain ⟨xk, xg, xn, xc, xz⟩ := x
          simp only [encIt] at *
          first | (refine hide ?_; intro Q3 hQ3) | have hQ3 := True.intro
          repeat' (first
            | (replace hQ3 := hQ3; simp [hRL, hlt, hlt2, hmi, hwi, hix, hfb, q3, q4, hs8, d2, hir, hfr, hfr2, q1, q2, nb1, nb2, nb3, nb4, nb5])
            | (refine hQ3 _ _ _ ?_; clear hQ3 Q3; first | simp only [] | simp [hRL, hlt, hlt2, hmi, hwi, hix, hfb, q3, q4, hs8, d2, hir, hfr, hfr2, q1, q2, nb1, nb2, nb3, nb4, nb5] | skip)
            | (refine hadQ (by assumption) ?_; (try clear hQ3); first | simp only [] | simp [hRL, hlt, hlt2, hmi, hwi, hix, hfb, q3, q4, hs8, d2, hir, hfr, hfr2, q1, q2, nb1, nb2, nb3, nb4, nb5] | skip)
            | ((fail_if_success replace hQ3 := hQ3); (first | refine hide ?_ | refine hideS ?_ | refine hideB ?_); intro Q3 hQ3)
            | refine dF (id := 8) [0, 1, 2, 3, 4, 5, 6, 7, 8, 9, 10, 11] [(1, 7), (7, 10)] ?_
            | (first | apply cF | apply wN | apply wS) <;> intro hcnd <;> (try simp only [hcnd]) <;> (try simp [-List.isEmpty_iff, -List.isEmpty_eq_false_iff] at hcnd))
          all_goals first
            | (refine hbad _ (by simp <;> omega) (fun b hb => by simp only [set_at, new_at, new_next, set_next, show ¬ b = h2.next by omega, show ¬ b = h2.next + 1 by omega, if_false]) ?_; intro e; simp only [pl, FairPlain.It.mk.injEq] at e; omega)
            | (rw [hI]; exact ⟨hgood (by simp only [pl, FairPlain.It.mk.injEq]; omega), by simp <;> omega, fin _ (by simp <;> omega) (fun b hb => by simp only [set_at, new_at, new_next, set_next, show ¬ b = h2.next by omega, show ¬ b = h2.next + 1 by omega, if_false]), ex_get' (by rfl)⟩)
            | trace_state
        · obtain ⟨a, x2, r, hl, ha⟩ : ∃ a x r, ls o = a ++ x :: r ∧ a.length = i := ⟨(ls o).take i, (ls o)[i], (ls o).drop (i + 1), split_at hi, by simp; omega⟩
          have hx2 : x2 = x := by rw [← hx]; simp [hl, ← ha]
          obtain rfl := ls_cons hl
          have hix := index_sl (P := Tryz.prog) (enc := encIt) (s := 5) (l := a ++ x2 :: r) (i := a.length) Tryz.underlying24 (by simp) (by omega) (by simp)
          have q4 := sub_flat (enc := encIt) (s := 5) len_it a x2 r (o := 0) (n := 5) (by omega)
          simp only [Nat.add_zero, sub_all (len_it x2)] at q4
          rw [ha] at q4 hix
          subst hx2
          have hlt5 : (i : Int) < (a.length : Int) + ((r.length : Int) + 1) := by omega
          clear hP hfa hmod hlr hlen e1 hr2 hrr arr hx
          obtain ⟨yk, yg, yn, yc, yz⟩ := y
          obtain ⟨zk, zg, zn, zc, zz2⟩ := z
          generalize hX : encIt x2 = X at d2 hs8 h5 h5b q4
          rw [show encIt ⟨yk, yg, yn, yc, yz⟩ = [ii yk, ii yg, ii yn, ii yc, yz] from rfl] at d2
          rw [show encIt ⟨zk, zg, zn, zc, zz2⟩ = [ii zk, ii zg, ii zn, ii zc, zz2] from rfl] at q2
          first | (refine hide ?_; intro Q4 hQ4) | have hQ4 := True.intro
          repeat' (first
            | (replace hQ4 := hQ4; simp [hRL, hlt, hlt2, hmi, hwi, hix, q4, hlt5, h5, h5b, hs8, d2, hir, hfr, hfr2, q1, q2, nb1, nb2, nb3, nb4, nb5])
            | (refine hQ4 _ _ _ ?_; clear hQ4 Q4; first | simp only [] | simp [hRL, hlt, hlt2, hmi, hwi, hix, q4, hlt5, h5, h5b, hs8, d2, hir, hfr, hfr2, q1, q2, nb1, nb2, nb3, nb4, nb5] | skip)
            | (refine hadQ (by assumption) ?_; (try clear hQ4); first | simp only [] | simp [hRL, hlt, hlt2, hmi, hwi, hix, q4, hlt5, h5, h5b, hs8, d2, hir, hfr, hfr2, q1, q2, nb1, nb2, nb3, nb4, nb5] | skip)
            | ((fail_if_success replace hQ4 := hQ4); (first | refine hide ?_ | refine hideS ?_ | refine hideB ?_); intro Q4 hQ4)
            | refine dF (id := 8) [0, 1, 2, 3, 4, 5, 6, 7, 8, 9, 10, 11] [(1, 7), (7, 10)] ?_
            | (first | apply cF | apply wN | apply wS) <;> intro hcnd <;> (try simp only [hcnd]) <;> (try simp [-List.isEmpty_iff, -List.isEmpty_eq_false_iff] at hcnd))
          all_goals first
            | (refine hbad _ (by simp <;> omega) (fun b hb => by simp only [set_at, new_at, new_next, set_next, show ¬ b = h2.next by omega, show ¬ b = h2.next + 1 by omega, if_false]) ?_; intro e; simp only [pl, FairPlain.It.mk.injEq] at e; omega)
            | (rw [hI]; exact ⟨hgood (by simp only [pl, FairPlain.It.mk.injEq]; omega), by simp <;> omega, fin _ (by simp <;> omega) (fun b hb => by simp only [set_at, new_at, new_next, set_next, show ¬ b = h2.next by omega, show ¬ b = h2.next + 1 by omega, if_false]), ex_get' (by simp)⟩)
            | trace_state
      · intro fr hh hx
        rw [hI] at hx
        obtain ⟨hfit, hn2, hk2, j, rfl⟩ := hx
        rw [List.drop_of_length_le (by simp)] at hfit
        have hq : P (.one (.bool true)) hh := hP _ _ ⟨by rw [← hfit]; rfl, by omega, fun b hb => by rw [hk2 b (by omega)]; exact hkp b hb⟩
        first | (refine hide ?_; intro Q5 hQ5) | have hQ5 := True.intro
        repeat' (first
          | (replace hQ5 := hQ5; simp)
          | (refine hQ5 _ _ _ ?_; clear hQ5 Q5; first | simp only [] | simp | skip)
          | (refine hadQ (by assumption) ?_; (try clear hQ5); first | simp only [] | simp | skip)
          | ((fail_if_success replace hQ5 := hQ5); (first | refine hide ?_ | refine hideS ?_ | refine hideB ?_); intro Q5 hQ5)
          | refine dF (id := 8) [0, 1, 2, 3, 4, 5, 6, 7, 8, 9, 10, 11] [(1, 7), (7, 10)] ?_
          | (first | apply cF | apply wN | apply wS) <;> intro hcnd <;> (try simp only [hcnd]) <;> (try simp [-List.isEmpty_iff, -List.isEmpty_eq_false_iff] at hcnd))
        all_goals exact hq
    · have hmz : ¬ ((L.length : Int)).tmod (R.length : Int) = 0 := by rw [hmod]; omega
      have hmb : (((L.length : Int)).tmod (R.length : Int) != 0) = true := by simp [hmz]
      rw [if_pos (.inr (.inr hb1))] at hP
      refine W_doesQ hp rfl rfl rfl Tryz.func8 rfl (by simp [Tryz.f8]) ?_
      simp only [Tryz.f8]
      refine hide ?_; intro Q6 hQ6
      repeat' (first
        | (replace hQ6 := hQ6; simp [e1, hlen, hlr, hR0, hRL, hL0, hb0, d0, hbb, hmz, hmb])
        | refine hQ6 _ _ _ ?_
        | refine dF (id := 8) [0, 1, 2, 3, 4, 5, 6, 7, 8, 9, 10, 11] [(1, 7), (7, 10)] ?_
        | (first | apply cF | apply wN | apply wS) <;> intro hcnd <;> (try simp only [hcnd]) <;> (try simp [-List.isEmpty_iff, -List.isEmpty_eq_false_iff] at hcnd))
      all_goals first | exact hP _ _ ⟨rfl, by omega, hkp⟩ | exact absurd ‹((L.length : Int)).tmod (R.length : Int) = 0› hmz | exact absurd ‹L = []› hL0 | exact absurd ‹R = []› hRL | trace_state
end Go.Proofs.YthdfhffpnoocbaaGreat
