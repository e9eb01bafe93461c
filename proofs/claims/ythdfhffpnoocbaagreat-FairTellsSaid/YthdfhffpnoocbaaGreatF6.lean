/- A part of a proof over the abstract machine. No conditions. -/
import Derived.Test.YthdfhffpnoocbaaGreatF5
namespace Go.Proofs.YthdfhffpnoocbaaGreat
open Go Go.Ab Wm
set_option linter.unusedSimpArgs false
set_option linter.unnecessarySimpa false
set_option linter.unusedVariables false
set_option maxRecDepth 10000
set_option maxHeartbeats 8000000
theorem fairTells_c (g n k t a : Int) (hg : I64 g) (hn : I64 n) (hk : I64 k) (ht : I64 t) (ha : I64 a) (o : Option (List It)) (h : H) :
    ∃ r, W K 4 [.one (ii g), .one (ii n), .one (ii k), .one (ii t), .one (sl 5 encIt o), .one (ii a)] h = some r ∧ Rets (fun v h' => v = .one (.bool true)) r := by
  refine Rets.intro fun P hP => ?_
  obtain ⟨g', n', k', hg', hn', hk', r1, d1, hr1⟩ := config_c g n k hg hn hk h
  obtain ⟨v1, h1, rfl, rfl, n1, kp1⟩ := hr1.ret
  have c3 := within_c t 1 3 (by omega) (by omega) (by omega) ht
  have b3 := @withinI_bounds t 1 3 (by omega)
  obtain ⟨t', ht'⟩ : ∃ t' : Nat, withinI t 1 3 = t' := ⟨(withinI t 1 3).toNat, by omega⟩
  rw [ht'] at c3 b3
  have hrc := round_c g' n' k' hg' hn' hk'
  have hlc := lawAsked_c g' n' k' hg' hn' hk'
  have hfc := fun {h : H} {s : AS} {L : List It} => @fair_c g' n' k' hg' hn' hk' h s L
  have hRpl := roundL_pl g' n' k'
  have hgd := @FairPlain.good g' n' k' (by omega)
  have hR5 : 5 ≤ (roundL g' n' k').length := by rcases hg' with rfl | rfl | rfl <;> rcases hn' with rfl | rfl <;> rcases hk' with rfl | rfl | rfl | rfl <;> decide
  have hR1 : (roundL g' n' k').length < 1000 := by rcases hg' with rfl | rfl | rfl <;> rcases hn' with rfl | rfl <;> rcases hk' with rfl | rfl | rfl | rfl <;> decide
  generalize roundL g' n' k' = R at *
  obtain ⟨hA, hAe⟩ : ∃ hA, hA = h1.new ⟨0, [3], true, [ii g', ii n', ii k']⟩ := ⟨_, rfl⟩
  have hAf : hA.f h1.next = some ⟨0, [3], true, [ii g', ii n', ii k']⟩ := by rw [hAe]; simp [new_at]
  have hAn : hA.next = h1.next + 1 := by rw [hAe]; simp
  have hs1 := new_set h1 ⟨0, [3], true, [ii 0, ii 0, ii 0]⟩ ⟨0, [3], true, [ii g', ii n', ii k']⟩
  refine W_doesQ hp rfl rfl rfl Tryz.func4 rfl (by simp [Tryz.f4]) ?_
  simp only [Tryz.f4]
  refine hide ?_; intro Q1 hQ1
  repeat' (first
    | (replace hQ1 := hQ1; simp [d1, c3, hs1])
    | refine hQ1 _ _ _ ?_
    | refine dF (id := 16) [0, 1, 2, 3, 4, 5, 6, 7, 8, 9, 10, 11, 12, 13] [] ?_
    | (first | apply cF | apply wN | apply wS) <;> intro hcnd <;> (try simp only [hcnd]) <;> (try simp [-List.isEmpty_iff, -List.isEmpty_eq_false_iff] at hcnd))
  rw [← hAe]
  obtain ⟨I, hI⟩ : ∃ I : Nat → Fr → H → Prop, I = fun (i : Nat) fr hh => hA.next ≤ hh.next ∧ (∀ b, b < hA.next → hh.f b = hA.f b) ∧ ∃ s, Sl hh 5 encIt s (repI R i) ∧ (∀ b, ownB s = some b → hA.next ≤ b) ∧ ∃ j : Nat → AV, fr = (j 0 :: j 1 :: j 2 :: j 3 :: (.one (sl 5 encIt o)) :: (.one (ii a)) :: j 6 :: j 7 :: j 8 :: j 9 :: j 10 :: j 11 :: (.one (.bool false)) :: (.one (.ptr h1.next 0 0)) :: (.one s) :: (.one (ii ((t' : Int) - (i : Int)))) :: j 16 :: j 17 :: j 18 :: j 19 :: j 20 :: j 21 :: j 22 :: j 23 :: j 24 :: j 25 :: j 26 :: j 27 :: j 28 :: j 29 :: j 30 :: j 31 :: j 32 :: j 33 :: j 34 :: j 35 :: j 36 :: j 37 :: j 38 :: j 39 :: j 40 :: j 41 :: j 42 :: j 43 :: j 44 :: j 45 :: j 46 :: j 47 :: j 48 :: j 49 :: j 50 :: j 51 :: j 52 :: j 53 :: j 54 :: j 55 :: j 56 :: j 57 :: j 58 :: j 59 :: j 60 :: j 61 :: j 62 :: j 63 :: j 64 :: j 65 :: j 66 :: j 67 :: j 68 :: j 69 :: j 70 :: j 71 :: j 72 :: j 73 :: j 74 :: j 75 :: j 76 :: j 77 :: j 78 :: j 79 :: j 80 :: j 81 :: j 82 :: j 83 :: j 84 :: j 85 :: j 86 :: j 87 :: j 88 :: j 89 :: j 90 :: j 91 :: j 92 :: j 93 :: j 94 :: j 95 :: j 96 :: j 97 :: j 98 :: j 99 :: j 100 :: []) := ⟨_, rfl⟩
  refine does_count hp t' I ?_ ?_ _ _ (by rw [hI]; exact ⟨Nat.le_refl _, fun _ _ => rfl, .nilslc, .inl ⟨rfl, rfl⟩, fun b hb => (by cases hb), ex_get' (by simp)⟩)
  · intro i fr hh hi hx
    rw [hI] at hx
    obtain ⟨hn2, hk2, s, sls, os, j, rfl⟩ := hx
    have hfA : hh.f h1.next = some ⟨0, [3], true, [ii g', ii n', ii k']⟩ := by rw [hk2 _ (by omega)]; exact hAf
    have hgt : decide ((0 : Int) < (t' : Int) - (i : Int)) = true := by simp; omega
    have hgt2 : (0 : Int) < (t' : Int) - (i : Int) := by omega
    have hw1 : IntKind.i64.wrap ((t' : Int) - (i : Int) - 1) = (t' : Int) - (i : Int) - 1 := wrap_i64 (by omega) (by omega)
    obtain ⟨sr, hr, er, slr, nr, kr, orr⟩ := hrc hh
    have hlim : ((repI R i).length + R.length + 600) * 56 + ((repI R i).length + R.length) ≤ limit := by
      have : i * R.length ≤ 3 * R.length := Nat.mul_le_mul_right _ (by omega)
      rw [repI_len]; simp only [limit]; omega
    obtain ⟨s2, h2, d2, ⟨b2, v2, z2, rfl, ar2⟩, n2, k2, o2⟩ := arr_append (P := Tryz.prog) (t := 24) Tryz.underlying24 (by simp) (by simp) Tryz.bytes29 (by omega) len_it (a := sr) (sls.keep nr (fun b hb => kr b (sls.lt hb))) slr.len (sees_elems (slr.sees len_it) (by omega) (flat_length len_it R)) (fun e => by rw [e] at hR5; simp at hR5) hlim
    first | (refine hide ?_; intro Q2 hQ2) | have hQ2 := True.intro
    repeat' (first
      | (replace hQ2 := hQ2; simp [hfA, hgt, hgt2, hi, hw1, er, d2])
      | (refine hQ2 _ _ _ ?_; clear hQ2 Q2; first | simp only [] | simp [hfA, hgt, hgt2, hi, hw1, er, d2] | skip)
      | (refine hadQ (by assumption) ?_; (try clear hQ2); first | simp only [] | simp [hfA, hgt, hgt2, hi, hw1, er, d2] | skip)
      | ((fail_if_success replace hQ2 := hQ2); (first | refine hide ?_ | refine hideS ?_ | refine hideB ?_); intro Q2 hQ2)
      | refine dF (id := 16) [0, 1, 2, 3, 4, 5, 6, 7, 8, 9, 10, 11, 12, 13] [] ?_
      | (first | apply cF | apply wN | apply wS) <;> intro hcnd <;> (try simp only [hcnd]) <;> (try simp [-List.isEmpty_iff, -List.isEmpty_eq_false_iff] at hcnd))
    all_goals (rw [hI]; exact ⟨by omega, fun b hb => by rw [k2 b (by omega) (fun e => by have := os b e; omega), kr b (by omega), hk2 b hb], .slc b2 v2 0 (repI R (i + 1)).length 5 none, .inr ⟨b2, v2, z2, rfl, ar2⟩, fun b hb => by
      rcases o2 b (by simpa [ownB] using hb) with e | e
      · exact os b e
      · omega, ex_get' (by simp [repI] <;> omega)⟩)
  · intro fr hh hx
    rw [hI] at hx
    obtain ⟨hn2, hk2, s, sls, os, j, rfl⟩ := hx
    clear hI I
    have hfA : hh.f h1.next = some ⟨0, [3], true, [ii g', ii n', ii k']⟩ := by rw [hk2 _ (by omega)]; exact hAf
    obtain ⟨sa, hB, eB, slB, nB, kB, oB⟩ := hlc hh
    have hmul : R.length ≤ t' * R.length := by have := Nat.mul_le_mul_right R.length (show 1 ≤ t' by omega); omega
    have hmul3 : t' * R.length ≤ 3 * R.length := Nat.mul_le_mul_right _ (by omega)
    have hML := repI_len R t'
    have hlen := itms_len (.inl sls : Itms hh s _) 29
    have hlenB := fun x => itms_len (.inl slB : Itms hB sa _) 29 x
    rcases sls with ⟨rfl, e⟩ | ⟨b, v, z, rfl, ar⟩
    · rw [e] at hML; simp at hML; omega
    have hob := os b rfl
    have hMpl := repI_pl R t'
    generalize repI R t' = M at *
    have hlt : ¬ M.length < R.length := by omega
    have hltb : decide (M.length < R.length) = false := by simp; omega
    first | (refine hide ?_; intro Q3 hQ3) | have hQ3 := True.intro
    repeat' (first
      | (replace hQ3 := hQ3; simp [hfA, hlen, hlenB, eB, hlt, hltb])
      | (refine hQ3 _ _ _ ?_; clear hQ3 Q3; first | simp only [] | simp [hfA, hlen, hlenB, eB, hlt, hltb] | skip)
      | (refine hadQ (by assumption) ?_; (try clear hQ3); first | simp only [] | simp [hfA, hlen, hlenB, eB, hlt, hltb] | skip)
      | ((fail_if_success replace hQ3 := hQ3); (first | refine hide ?_ | refine hideS ?_ | refine hideB ?_); intro Q3 hQ3)
      | refine dF (id := 16) [0, 1, 2, 3, 4, 5, 6, 7, 8, 9, 10, 11, 12, 13] [] ?_
      | (first | apply cF | apply wN | apply wS) <;> intro hcnd <;> (try simp only [hcnd]) <;> (try simp [-List.isEmpty_iff, -List.isEmpty_eq_false_iff] at hcnd))
    obtain ⟨I, hI⟩ : ∃ I : Nat → Fr → H → Prop, I = fun (i : Nat) fr hh2 => hB.next ≤ hh2.next ∧ (∀ x, x < hA.next → hh2.f x = hA.f x) ∧ ∃ Z z', Z.map pl = M.map pl ∧ Arr hh2 encIt b v Z z' ∧ ∃ j : Nat → AV, fr = (j 0 :: j 1 :: j 2 :: j 3 :: (.one (sl 5 encIt o)) :: (.one (ii a)) :: j 6 :: j 7 :: j 8 :: j 9 :: j 10 :: j 11 :: (.one (.bool false)) :: (.one (.ptr h1.next 0 0)) :: (.one (.slc b v 0 M.length 5 none)) :: j 15 :: (.one (ii i)) :: j 17 :: j 18 :: j 19 :: j 20 :: j 21 :: j 22 :: j 23 :: j 24 :: j 25 :: j 26 :: j 27 :: j 28 :: j 29 :: j 30 :: j 31 :: j 32 :: j 33 :: j 34 :: j 35 :: j 36 :: j 37 :: j 38 :: j 39 :: j 40 :: j 41 :: j 42 :: j 43 :: j 44 :: j 45 :: j 46 :: j 47 :: j 48 :: j 49 :: j 50 :: j 51 :: j 52 :: j 53 :: j 54 :: j 55 :: j 56 :: j 57 :: j 58 :: j 59 :: j 60 :: j 61 :: j 62 :: j 63 :: j 64 :: j 65 :: j 66 :: j 67 :: j 68 :: j 69 :: j 70 :: j 71 :: j 72 :: j 73 :: j 74 :: j 75 :: j 76 :: j 77 :: j 78 :: j 79 :: j 80 :: j 81 :: j 82 :: j 83 :: j 84 :: j 85 :: j 86 :: j 87 :: j 88 :: j 89 :: j 90 :: j 91 :: j 92 :: j 93 :: j 94 :: j 95 :: j 96 :: j 97 :: j 98 :: j 99 :: j 100 :: []) := ⟨_, rfl⟩
    refine does_count hp M.length I ?_ ?_ _ _ (by rw [hI]; exact ⟨Nat.le_refl _, fun x hx => by rw [kB x (by omega), hk2 x hx], M, z, rfl, ar.keep nB (kB b ar.1), ex_get' (by simp)⟩)
    · intro i fr hh2 hi hx
      rw [hI] at hx
      obtain ⟨hn3, hk3, Z, z', hZ, arZ, j, rfl⟩ := hx
      have hZl : Z.length = M.length := by have := congrArg List.length hZ; simpa using this
      have hwi : IntKind.i64.wrap ((i : Int) + 1) = (i : Int) + 1 := step_wrap (by omega)
      have hltb2 : decide ((i : Int) < M.length) = true := by simp; omega
      have hlt2 : (i : Int) < M.length := by omega
      have hix := arr_index (P := Tryz.prog) (size := 5) (b := b) (v := v) (n := M.length) (i := i) Tryz.underlying24 (by simp) (by omega) hi
      obtain ⟨fx, ex, C, hfb, _, _, hrd, hwr⟩ := arZ.cells len_it
      obtain ⟨q1, q2⟩ := hrd i (by omega)
      have hlz := lay_z (by omega) q1 q2 (.slc hh2.next 0 0 1 1 none)
      rw [lay] at hlz
      simp only [List.length_cons, List.length_nil, List.cons_append, List.nil_append, Nat.zero_add] at hlz
      have nb : ¬ b = hh2.next := by have := arZ.1; omega
      have q5 : i * 5 + 4 + 1 ≤ C.length := by omega
      first | (refine hide ?_; intro Q4 hQ4) | have hQ4 := True.intro
      repeat' (first
        | (replace hQ4 := hQ4; simp [hltb2, hlt2, hwi, hix, hfb, nb, hlz, q5])
        | (refine hQ4 _ _ _ ?_; clear hQ4 Q4; first | simp only [] | simp [hltb2, hlt2, hwi, hix, hfb, nb, hlz, q5] | skip)
        | (refine hadQ (by assumption) ?_; (try clear hQ4); first | simp only [] | simp [hltb2, hlt2, hwi, hix, hfb, nb, hlz, q5] | skip)
        | ((fail_if_success replace hQ4 := hQ4); (first | refine hide ?_ | refine hideS ?_ | refine hideB ?_); intro Q4 hQ4)
        | refine dF (id := 16) [0, 1, 2, 3, 4, 5, 6, 7, 8, 9, 10, 11, 12, 13] [] ?_
        | (first | apply cF | apply wN | apply wS) <;> intro hcnd <;> (try simp only [hcnd]) <;> (try simp [-List.isEmpty_iff, -List.isEmpty_eq_false_iff] at hcnd))
      all_goals (rw [hI]; exact ⟨by simp <;> omega, fun x hx => by rw [set_at, if_neg (by omega), new_at, if_neg (by omega)]; exact hk3 x hx, Z.set i { Z[i] with z := .slc hh2.next 0 0 1 1 none }, z', by
        rw [← hZ, List.map_set]
        have : pl { Z[i] with z := AS.slc hh2.next 0 0 1 1 none } = (Z.map pl)[i]'(by simp; omega) := by rw [List.getElem_map]; rfl
        rw [this, List.set_getElem_self], hwr _ i _ (by omega) (by simp; have := arZ.1; omega) (by rw [set_at, if_pos rfl]; rfl), ex_get' (by simp)⟩)
    · intro fr hh2 hx
      rw [hI] at hx
      obtain ⟨hn3, hk3, Z, z', hZ, arZ, j, rfl⟩ := hx
      clear hI I
      have hZl : Z.length = M.length := by have := congrArg List.length hZ; simpa using this
      have hfA2 : hh2.f h1.next = some ⟨0, [3], true, [ii g', ii n', ii k']⟩ := by rw [hk3 _ (by omega)]; exact hAf
      obtain ⟨r3, d3, hr3⟩ := hfc (h := hh2) (s := .slc b v 0 M.length 5 none) (L := Z) (.inl (.inr ⟨b, v, z', by rw [hZl], arZ⟩)) (by omega)
      obtain ⟨v3, h3, rfl, rfl, n3, k3⟩ := hr3.ret
      have hF1 : FairPlain.fair (R.map pl) (Z.map pl) = true := by
        rw [hZ, hMpl]
        exact FairPlain.fair_reps (by simp; omega) (by rw [hRpl]; exact hgd) (by omega)
      rw [hF1] at d3
      have hfA3 : h3.f h1.next = some ⟨0, [3], true, [ii g', ii n', ii k']⟩ := by rw [k3 _ (by omega)]; exact hfA2
      obtain ⟨kh, hkn⟩ : ∃ kh : H → H, ∀ h, W K 10 [] h = some (.ret (.one (.bool true)) (kh h)) := ⟨fun h => (known_c h).choose, fun h => (known_c h).choose_spec⟩
      have hwl : IntKind.i64.wrap ((M.length : Int) - 1) = (M.length : Int) - 1 := wrap_i64 (by omega) (by omega)
      have c5 := within_c a 0 ((M.length : Int) - 1) (by omega) (by omega) (by omega) ha
      have b5 := @withinI_bounds a 0 ((M.length : Int) - 1) (by omega)
      obtain ⟨m, hm⟩ : ∃ m : Nat, withinI a 0 ((M.length : Int) - 1) = m := ⟨(withinI a 0 ((M.length : Int) - 1)).toNat, by omega⟩
      rw [hm] at c5 b5
      have hmM : m < M.length := by omega
      have hix := arr_index (P := Tryz.prog) (size := 5) (b := b) (v := v) (n := M.length) (i := m) Tryz.underlying24 (by simp) (by omega) hmM
      obtain ⟨fx, ex, C, hfb, _, _, hrd, hwr⟩ := arZ.cells len_it
      obtain ⟨q1, q2⟩ := hrd m (by omega)
      have hbn := arZ.1
      have hlo := fun hh => itms_len (.inr ⟨o, rfl, rfl⟩ : Itms hh (sl 5 encIt o) (ls o)) 29 hh
      by_cases hl0 : (ls o).length = 0
      · have hl0' : ((ls o).length : Int) = 0 := by omega
        have hl0n : ls o = [] := List.eq_nil_of_length_eq_zero hl0
        have hfb3 : h3.f b = some ⟨v, C.length :: ex, fx, C⟩ := by rw [k3 b hbn]; exact hfb
        first | (refine hide ?_; intro Q5 hQ5) | have hQ5 := True.intro
        repeat' (first
          | (replace hQ5 := hQ5; simp [hfA2, hfA3, d3, hlo, hl0, hl0n, hwl, c5, hkn])
          | (refine hQ5 _ _ _ ?_; clear hQ5 Q5; first | simp only [] | simp [hfA2, hfA3, d3, hlo, hl0, hl0n, hwl, c5, hkn] | skip)
          | (refine hadQ (by assumption) ?_; (try clear hQ5); first | simp only [] | simp [hfA2, hfA3, d3, hlo, hl0, hl0n, hwl, c5, hkn] | skip)
          | ((fail_if_success replace hQ5 := hQ5); (first | refine hide ?_ | refine hideS ?_ | refine hideB ?_); intro Q5 hQ5)
          | refine dF (id := 16) [0, 1, 2, 3, 4, 5, 6, 7, 8, 9, 10, 11, 12, 13] [] ?_
          | (first | apply cF | apply wN | apply wS) <;> intro hcnd <;> (try simp only [hcnd]) <;> (try simp [-List.isEmpty_iff, -List.isEmpty_eq_false_iff] at hcnd))
        all_goals exact hP _ _ rfl
      · obtain ⟨x0, rr, hl⟩ : ∃ x r, ls o = [] ++ x :: r := by
          cases h : ls o with
          | nil => rw [h] at hl0; simp at hl0
          | cons x r => exact ⟨x, r, rfl⟩
        obtain rfl := ls_cons hl
        have hixl := index_sl (P := Tryz.prog) (enc := encIt) (s := 5) (l := [] ++ x0 :: rr) (i := ([] : List It).length) Tryz.underlying24 (by simp) (by omega) (by simp)
        have q4 := sub_flat (enc := encIt) (s := 5) len_it [] x0 rr (o := 0) (n := 5) (by omega)
        simp only [List.nil_append, List.length_nil, Nat.zero_mul, Nat.add_zero, sub_all (len_it x0)] at q4 hixl hlo hl0
        have hlx : (ls (some (x0 :: rr))).length = rr.length + 1 := rfl
        have hl1 : ¬ rr.length + 1 = 0 := by omega
        by_cases hl5 : rr.length + 1 < 5
        · have hl5b : decide (rr.length + 1 < 5) = true := by simpa using hl5
          have hl5i : (rr.length : Int) + 1 < 5 := by omega
          have hl5j : decide ((rr.length : Int) + 1 < 5) = true := by simpa using hl5i
          obtain ⟨r4, d4, hr4⟩ := hfc (h := h3) (s := sl 5 encIt (some (x0 :: rr))) (L := x0 :: rr) (.inr ⟨_, rfl, rfl⟩) (by simp; omega)
          obtain ⟨v4, h4, rfl, rfl, n4, k4⟩ := hr4.ret
          have hF2 : FairPlain.fair (R.map pl) ((x0 :: rr).map pl) = false := FairPlain.unfair_short (by simp; omega)
          rw [hF2] at d4
          have hfA4 : h4.f h1.next = some ⟨0, [3], true, [ii g', ii n', ii k']⟩ := by rw [k4 _ (by omega)]; exact hfA3
          have hfb4 : h4.f b = some ⟨v, C.length :: ex, fx, C⟩ := by rw [k4 b (by omega), k3 b hbn]; exact hfb
          have hsm := same_c Z[m] x0 h4
          have nb1 : ¬ b = h4.next := by omega
          have nb2 : ¬ b = h4.next + 1 := by omega
          have nb3 : ¬ h1.next = h4.next := by omega
          have nb4 : ¬ h1.next = h4.next + 1 := by omega
          have nb5 : ¬ h1.next = b := by omega
          have h5 := len_it x0
          have h5z := len_it Z[m]
          have q4z := sub_all (len_it Z[m])
          cases hS : sameI Z[m] x0
          · rw [hS] at hsm
            obtain ⟨H5, hH5⟩ : ∃ H5, H5 = ((h4.new ⟨0, [5], true, encIt Z[m]⟩).new ⟨0, [5], true, encIt x0⟩).set b ⟨v, [C.length], fx, List.take (m * 5) C ++ (encIt x0 ++ List.drop (m * 5 + 5) C)⟩ := ⟨_, rfl⟩
            have ar5 : Arr H5 encIt b v (Z.set m x0) z' := hwr H5 m x0 (by omega) (by rw [hH5]; simp; omega) (by rw [hH5, set_at, if_pos rfl]; rfl)
            have hF5 : FairPlain.fair (R.map pl) ((Z.set m x0).map pl) = false := by
              rw [List.map_set, hZ, hMpl]
              refine FairPlain.unfair_set (by simp; omega) (by rw [hRpl]; exact hgd) (by simp; omega) (x := pl Z[m]) ?_ (by rw [← sameI_pl]; exact hS)
              rw [← hMpl, ← hZ, List.getElem?_map, List.getElem?_eq_getElem (by omega)]; rfl
            obtain ⟨r5, d5, hr5⟩ := hfc (h := H5) (s := .slc b v 0 M.length 5 none) (L := Z.set m x0) (.inl (.inr ⟨b, v, z', by simp [hZl], ar5⟩)) (by simp; omega)
            obtain ⟨v5, h6, rfl, rfl, n5, k5⟩ := hr5.ret
            rw [hF5, hH5] at d5
            clear hF5 ar5 hH5
            generalize encIt x0 = X at *
            generalize encIt Z[m] = Y at *
            first | (refine hide ?_; intro Q6 hQ6) | have hQ6 := True.intro
            repeat' (first
              | (replace hQ6 := hQ6; simp [d4, hl5, hl5b, hl5i, hl5j, hl1, hfA2, hfA3, d3, hlo, hl0, hwl, c5, hkn, hfA4, hfb4, hix, hixl, q1, q2, q4, hsm, nb1, nb2, nb3, nb4, nb5, h5, h5z, q4z, d5])
              | (refine hQ6 _ _ _ ?_; clear hQ6 Q6; first | simp only [] | simp [d4, hl5, hl5b, hl5i, hl5j, hl1, hfA2, hfA3, d3, hlo, hl0, hwl, c5, hkn, hfA4, hfb4, hix, hixl, q1, q2, q4, hsm, nb1, nb2, nb3, nb4, nb5, h5, h5z, q4z, d5] | skip)
              | (refine hadQ (by assumption) ?_; (try clear hQ6); first | simp only [] | simp [d4, hl5, hl5b, hl5i, hl5j, hl1, hfA2, hfA3, d3, hlo, hl0, hwl, c5, hkn, hfA4, hfb4, hix, hixl, q1, q2, q4, hsm, nb1, nb2, nb3, nb4, nb5, h5, h5z, q4z, d5] | skip)
              | ((fail_if_success replace hQ6 := hQ6); (first | refine hide ?_ | refine hideS ?_ | refine hideB ?_); intro Q6 hQ6)
              | refine dF (id := 16) [0, 1, 2, 3, 4, 5, 6, 7, 8, 9, 10, 11, 12, 13] [] ?_
              | (first | apply cF | apply wN | apply wS) <;> intro hcnd <;> (try simp only [hcnd]) <;> (try simp [-List.isEmpty_iff, -List.isEmpty_eq_false_iff] at hcnd))
            all_goals exact hP _ _ rfl
          · rw [hS] at hsm
            generalize encIt x0 = X at *
            generalize encIt Z[m] = Y at *
            first | (refine hide ?_; intro Q7 hQ7) | have hQ7 := True.intro
            repeat' (first
              | (replace hQ7 := hQ7; simp [d4, hl5, hl5b, hl5i, hl5j, hl1, hfA2, hfA3, d3, hlo, hl0, hwl, c5, hkn, hfA4, hfb4, hix, hixl, q1, q2, q4, hsm, nb1, nb2, nb3, nb4, nb5, h5, h5z, q4z])
              | (refine hQ7 _ _ _ ?_; clear hQ7 Q7; first | simp only [] | simp [d4, hl5, hl5b, hl5i, hl5j, hl1, hfA2, hfA3, d3, hlo, hl0, hwl, c5, hkn, hfA4, hfb4, hix, hixl, q1, q2, q4, hsm, nb1, nb2, nb3, nb4, nb5, h5, h5z, q4z] | skip)
              | (refine hadQ (by assumption) ?_; (try clear hQ7); first | simp only [] | simp [d4, hl5, hl5b, hl5i, hl5j, hl1, hfA2, hfA3, d3, hlo, hl0, hwl, c5, hkn, hfA4, hfb4, hix, hixl, q1, q2, q4, hsm, nb1, nb2, nb3, nb4, nb5, h5, h5z, q4z] | skip)
              | ((fail_if_success replace hQ7 := hQ7); (first | refine hide ?_ | refine hideS ?_ | refine hideB ?_); intro Q7 hQ7)
              | refine dF (id := 16) [0, 1, 2, 3, 4, 5, 6, 7, 8, 9, 10, 11, 12, 13] [] ?_
              | (first | apply cF | apply wN | apply wS) <;> intro hcnd <;> (try simp only [hcnd]) <;> (try simp [-List.isEmpty_iff, -List.isEmpty_eq_false_iff] at hcnd))
            all_goals exact hP _ _ rfl
        · have hl5b : decide (rr.length + 1 < 5) = false := by simpa using hl5
          have hl5i : ¬ (rr.length : Int) + 1 < 5 := by omega
          have hl5j : decide ((rr.length : Int) + 1 < 5) = false := by simpa using hl5i
          have n4 : h3.next ≤ h3.next := Nat.le_refl _
          have k4 : ∀ x, x < h3.next → h3.f x = h3.f x := fun _ _ => rfl
          have hfA4 : h3.f h1.next = some ⟨0, [3], true, [ii g', ii n', ii k']⟩ := by rw [k4 _ (by omega)]; exact hfA3
          have hfb4 : h3.f b = some ⟨v, C.length :: ex, fx, C⟩ := by rw [k4 b (by omega), k3 b hbn]; exact hfb
          have hsm := same_c Z[m] x0 h3
          have nb1 : ¬ b = h3.next := by omega
          have nb2 : ¬ b = h3.next + 1 := by omega
          have nb3 : ¬ h1.next = h3.next := by omega
          have nb4 : ¬ h1.next = h3.next + 1 := by omega
          have nb5 : ¬ h1.next = b := by omega
          have h5 := len_it x0
          have h5z := len_it Z[m]
          have q4z := sub_all (len_it Z[m])
          cases hS : sameI Z[m] x0
          · rw [hS] at hsm
            obtain ⟨H5, hH5⟩ : ∃ H5, H5 = ((h3.new ⟨0, [5], true, encIt Z[m]⟩).new ⟨0, [5], true, encIt x0⟩).set b ⟨v, [C.length], fx, List.take (m * 5) C ++ (encIt x0 ++ List.drop (m * 5 + 5) C)⟩ := ⟨_, rfl⟩
            have ar5 : Arr H5 encIt b v (Z.set m x0) z' := hwr H5 m x0 (by omega) (by rw [hH5]; simp; omega) (by rw [hH5, set_at, if_pos rfl]; rfl)
            have hF5 : FairPlain.fair (R.map pl) ((Z.set m x0).map pl) = false := by
              rw [List.map_set, hZ, hMpl]
              refine FairPlain.unfair_set (by simp; omega) (by rw [hRpl]; exact hgd) (by simp; omega) (x := pl Z[m]) ?_ (by rw [← sameI_pl]; exact hS)
              rw [← hMpl, ← hZ, List.getElem?_map, List.getElem?_eq_getElem (by omega)]; rfl
            obtain ⟨r5, d5, hr5⟩ := hfc (h := H5) (s := .slc b v 0 M.length 5 none) (L := Z.set m x0) (.inl (.inr ⟨b, v, z', by simp [hZl], ar5⟩)) (by simp; omega)
            obtain ⟨v5, h6, rfl, rfl, n5, k5⟩ := hr5.ret
            rw [hF5, hH5] at d5
            clear hF5 ar5 hH5
            generalize encIt x0 = X at *
            generalize encIt Z[m] = Y at *
            first | (refine hide ?_; intro Q8 hQ8) | have hQ8 := True.intro
            repeat' (first
              | (replace hQ8 := hQ8; simp [hl5, hl5b, hl5i, hl5j, hl1, hfA2, hfA3, d3, hlo, hl0, hwl, c5, hkn, hfA4, hfb4, hix, hixl, q1, q2, q4, hsm, nb1, nb2, nb3, nb4, nb5, h5, h5z, q4z, d5])
              | (refine hQ8 _ _ _ ?_; clear hQ8 Q8; first | simp only [] | simp [hl5, hl5b, hl5i, hl5j, hl1, hfA2, hfA3, d3, hlo, hl0, hwl, c5, hkn, hfA4, hfb4, hix, hixl, q1, q2, q4, hsm, nb1, nb2, nb3, nb4, nb5, h5, h5z, q4z, d5] | skip)
              | (refine hadQ (by assumption) ?_; (try clear hQ8); first | simp only [] | simp [hl5, hl5b, hl5i, hl5j, hl1, hfA2, hfA3, d3, hlo, hl0, hwl, c5, hkn, hfA4, hfb4, hix, hixl, q1, q2, q4, hsm, nb1, nb2, nb3, nb4, nb5, h5, h5z, q4z, d5] | skip)
              | ((fail_if_success replace hQ8 := hQ8); (first | refine hide ?_ | refine hideS ?_ | refine hideB ?_); intro Q8 hQ8)
              | refine dF (id := 16) [0, 1, 2, 3, 4, 5, 6, 7, 8, 9, 10, 11, 12, 13] [] ?_
              | (first | apply cF | apply wN | apply wS) <;> intro hcnd <;> (try simp only [hcnd]) <;> (try simp [-List.isEmpty_iff, -List.isEmpty_eq_false_iff] at hcnd))
            all_goals exact hP _ _ rfl
          · rw [hS] at hsm
            generalize encIt x0 = X at *
            generalize encIt Z[m] = Y at *
            first | (refine hide ?_; intro Q9 hQ9) | have hQ9 := True.intro
            repeat' (first
              | (replace hQ9 := hQ9; simp [hl5, hl5b, hl5i, hl5j, hl1, hfA2, hfA3, d3, hlo, hl0, hwl, c5, hkn, hfA4, hfb4, hix, hixl, q1, q2, q4, hsm, nb1, nb2, nb3, nb4, nb5, h5, h5z, q4z])
              | (refine hQ9 _ _ _ ?_; clear hQ9 Q9; first | simp only [] | simp [hl5, hl5b, hl5i, hl5j, hl1, hfA2, hfA3, d3, hlo, hl0, hwl, c5, hkn, hfA4, hfb4, hix, hixl, q1, q2, q4, hsm, nb1, nb2, nb3, nb4, nb5, h5, h5z, q4z] | skip)
              | (refine hadQ (by assumption) ?_; (try clear hQ9); first | simp only [] | simp [hl5, hl5b, hl5i, hl5j, hl1, hfA2, hfA3, d3, hlo, hl0, hwl, c5, hkn, hfA4, hfb4, hix, hixl, q1, q2, q4, hsm, nb1, nb2, nb3, nb4, nb5, h5, h5z, q4z] | skip)
              | ((fail_if_success replace hQ9 := hQ9); (first | refine hide ?_ | refine hideS ?_ | refine hideB ?_); intro Q9 hQ9)
              | refine dF (id := 16) [0, 1, 2, 3, 4, 5, 6, 7, 8, 9, 10, 11, 12, 13] [] ?_
              | (first | apply cF | apply wN | apply wS) <;> intro hcnd <;> (try simp only [hcnd]) <;> (try simp [-List.isEmpty_iff, -List.isEmpty_eq_false_iff] at hcnd))
            all_goals exact hP _ _ rfl
end Go.Proofs.YthdfhffpnoocbaaGreat
