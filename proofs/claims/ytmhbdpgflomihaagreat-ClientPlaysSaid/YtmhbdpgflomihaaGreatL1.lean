/- A part of a proof over the abstract machine. No conditions. -/
import Derived.Test.YtmhbdpgflomihaaGreatR2b
import Derived.Test.YtmhbdpgflomihaaGreatR2c
import Derived.Test.YtmhbdpgflomihaaGreatA1
import Derived.Test.YtmhbdpgflomihaaGreatAb3
namespace Go.Proofs.YtmhbdpgflomihaaGreat
open Go Go.Ab Wm NumPlain
set_option linter.unusedSimpArgs false
set_option linter.unnecessarySimpa false
set_option linter.unusedVariables false
set_option maxRecDepth 10000
set_option maxHeartbeats 4000000
theorem numI_a (n : Int) : Adds K 64 [.one (.int .u32 (IntKind.u32.wrap n))] (num4 n) := by
  have h1 := Int.emod_nonneg n (show (4294967296 : Int) ≠ 0 by decide)
  have h2 := Int.emod_lt_of_pos n (show (0 : Int) < 4294967296 by decide)
  have := num_a (u32 n) (by unfold u32; omega)
  rw [wrap_u32m]
  unfold num4
  have e : ((u32 n : Nat) : Int) = n % 4294967296 := by unfold u32; omega
  rw [← e]; exact this
theorem refLoc_c (row : BL) (hr : row.length ≤ 1048576) (h : H) : W K 31 [.agg [ii 7, ii 0, .str [], .str [], .bool false, .bool false, .str [], ii 0, .nilslc, .flt 0, .nilslc, ii 0, .str [], .str [], ii 0, .str row, ii 0, ii 0, .nilslc]] h = some (.ret (.one (bs (some (u8 7 :: textB row)))) h) := by
  have hw := texts_a row hr
  have os0 := (OS.made (H.empty.new ⟨0, [19], true, [ii 7, ii 0, .str [], .str [], .bool false, .bool false, .str [], ii 0, .nilslc, .flt 0, .nilslc, ii 0, .str [], .str [], ii 0, .str row, ii 0, ii 0, .nilslc]⟩) [u8 7] true [(0, ⟨0, [19], true, [ii 7, ii 0, .str [], .str [], .bool false, .bool false, .str [], ii 0, .nilslc, .flt 0, .nilslc, ii 0, .str [], .str [], ii 0, .str row, ii 0, ii 0, .nilslc]⟩)] ⟨by simp, trivial⟩ (by simp))
  have e7 : byteS (u8 7) = AS.int .u8 7 := rfl
  simp only [blkOf, List.map_cons, List.map_nil, List.length_cons, List.length_nil, e7, new_next, empty_next, Nat.zero_add] at os0
  have q7 : IntKind.u8.wrap 7 = 7 := rfl
  have hk := True.intro
  have hown : memL S.own 31 = false := by kernel_rfl
  refine W_pure hp (by simp [pureV, pureS, pureL]) (apart_does rfl rfl (by kernel_rfl) Tryz.func31 rfl (by simp [Tryz.f31]) ?_)
  simp only [Tryz.f31, List.length_cons, List.length_nil, List.replicate, List.cons_append, List.nil_append, Nat.reduceAdd, Nat.reduceSub]
  first | (refine hide ?_; intro Q1 hQ1) | have hQ1 := True.intro
  repeat' (first
    | (replace hQ1 := hQ1; simp [convA, q7, outV, frzV, K_own, hown, hk])
    | (refine hQ1 _ _ _ ?_; clear hQ1 Q1; first | simp only [] | simp [convA, q7, outV, frzV, K_own, hown, hk] | skip)
    | (refine hadQ (by assumption) ?_; (try clear hQ1); first | simp only [] | simp [convA, q7, outV, frzV, K_own, hown, hk] | skip)
    | ((fail_if_success replace hQ1 := hQ1); (first | refine hide ?_ | refine hideS ?_ | refine hideB ?_); intro Q1 hQ1)
    | ((with_reducible refine call_id ?_); first
      | ((first | refine aP (hw) ?_ | refine aO (hw) ?_ | refine aN (hw) ?_); intro s' h' hn' os hk'; (try simp only [keptP, and_true] at hk'); have hk := And.intro hk' hk; clear hk'; (try simp [convA, q7, outV, frzV, K_own, hown, hk])))
    | (first | refine dF (id := 5) [0, 1, 2, 3, 4, 5, 6, 7] [(3, 5)] ?_ | refine dF (id := 8) [0, 1, 2, 3, 4, 5, 6, 7, 8] [(3, 5)] ?_ | refine dF (id := 14) [0, 1, 2, 3, 4, 5, 6, 7] [(3, 5)] ?_ | refine dF (id := 17) [0, 1, 2, 3, 4, 5, 6, 7, 8] [(3, 5)] ?_ | refine dF (id := 19) [0, 1, 2, 3, 4, 5, 6, 7, 8, 9, 10, 11] [(3, 5), (3, 9), (7, 9)] ?_ | refine dF (id := 22) [0, 1, 2, 3, 4, 5, 6, 7, 8, 9, 10, 11] [(3, 5), (3, 9), (7, 9)] ?_ | refine dF (id := 28) [0, 1, 2, 3, 4, 5, 6, 7] [(3, 5)] ?_ | refine dF (id := 30) [0, 1, 2, 3, 4, 5, 6, 7, 8, 9] [(4, 6)] ?_)
    | (first | apply cF | apply wN | apply wS) <;> intro hcnd <;> (try simp only [hcnd]) <;> (try simp [-List.isEmpty_iff, -List.isEmpty_eq_false_iff] at hcnd))
  all_goals (rw [byt_frz (n := 62) os.byt]; simp)
theorem refEncAns_c (code : Int) (lo hi : BL) (group gen old to do_ : Int) (at_ : BL) (state : Option BL) (h1 : lo.length ≤ 1048576) (h2 : hi.length ≤ 1048576) (h3 : at_.length ≤ 1048576) (h4 : (ls state).length ≤ 1048576) (h : H) :
    W K 39 [.agg [ii code, .nilslc, .str lo, .str hi, ii group, ii gen, ii old, ii to, ii do_, .str at_, bs state]] h = some (.ret (.one (bs (some (ansB0 ⟨code, none, ⟨lo, hi⟩, group, gen, old, to, do_, at_, state⟩)))) h) := by
  have hw1 := spans_a lo hi h1 h2
  have hw2 := numI_a gen
  have hw3 := numI_a old
  have hw4 := texts_a at_ h3
  have hw5 := text_a state h4
  have os := (OS.made (H.empty.new ⟨0, [11], true, [ii code, .nilslc, .str lo, .str hi, ii group, ii gen, ii old, ii to, ii do_, .str at_, bs state]⟩) [u8 code, 0] true [(0, ⟨0, [11], true, [ii code, .nilslc, .str lo, .str hi, ii group, ii gen, ii old, ii to, ii do_, .str at_, bs state]⟩)] ⟨by simp, trivial⟩ (by simp))
  have e7 : byteS 0 = AS.int .u8 0 := rfl
  simp only [blkOf, List.map_cons, List.map_nil, List.length_cons, List.length_nil, e7, new_next, empty_next, Nat.zero_add] at os
  have q7 : IntKind.u8.wrap 0 = 0 := rfl
  have hk := True.intro
  have hown : memL S.own 39 = false := by kernel_rfl
  refine W_pure hp (by simp [pureV, pureS, pureL]) (apart_does rfl rfl (by kernel_rfl) Tryz.func39 rfl (by simp [Tryz.f39]) ?_)
  simp only [Tryz.f39, List.length_cons, List.length_nil, List.replicate, List.cons_append, List.nil_append, Nat.reduceAdd, Nat.reduceSub]
  obtain ⟨BX, hBX⟩ : ∃ BX : Blk, (⟨0, [11], true, [ii code, .nilslc, .str lo, .str hi, ii group, ii gen, ii old, ii to, ii do_, .str at_, bs state]⟩ : Blk) = BX := ⟨_, rfl⟩
  first | (refine hide ?_; intro Q2 hQ2) | have hQ2 := True.intro
  repeat' (first
    | (replace hQ2 := hQ2; simp [convA, q7, wrapB, outV, frzV, K_own, hown, hk])
    | (refine hQ2 _ _ _ ?_; clear hQ2 Q2; first | simp only [] | simp [convA, q7, wrapB, outV, frzV, K_own, hown, hk] | skip)
    | (refine hadQ (by assumption) ?_; (try clear hQ2); first | simp only [] | simp [convA, q7, wrapB, outV, frzV, K_own, hown, hk] | skip)
    | ((fail_if_success replace hQ2 := hQ2); (first | refine hide ?_ | refine hideS ?_ | refine hideB ?_); intro Q2 hQ2)
    | ((with_reducible refine call_id ?_); first
      | ((first | refine aP (hw1) ?_ | refine aO (hw1) ?_ | refine aN (hw1) ?_); intro s' h' hn' os hk'; (try simp only [keptP, and_true] at hk'); have hk := And.intro hk' hk; clear hk'; (try simp [convA, q7, wrapB, outV, frzV, K_own, hown, hk])))
    | (first | refine dF (id := 5) [0, 1, 2, 3, 4, 5, 6, 7, 8, 9, 10, 11, 12, 13, 14, 15] [(7, 9), (7, 13)] ?_ | refine dF (id := 6) [0, 1, 2, 3, 4, 5, 6, 7, 8, 9, 10, 11, 12, 13, 14, 15] [(3, 5), (3, 8), (3, 11)] ?_ | refine dF (id := 7) [0, 1, 2, 3, 4, 5, 6, 7, 8, 9] [(4, 6)] ?_ | refine dF (id := 8) [0, 1, 2, 3, 4, 5, 6, 7] [(3, 5)] ?_)
    | (first | apply cF | apply wN | apply wS) <;> intro hcnd <;> (try simp only [hcnd]) <;> (try simp [-List.isEmpty_iff, -List.isEmpty_eq_false_iff] at hcnd))
  obtain ⟨I, hI⟩ : ∃ I : Nat → Fr → H → Prop, I = fun i fr hh => ∃ s, OS hh s [u8 code, 0] [(0, BX)] ∧ ∃ j : Nat → AV, fr = (j 0 :: (.one (.ptr 0 0 0)) :: j 2 :: (.one s) :: (.one (ii 0)) :: j 5 :: j 6 :: j 7 :: j 8 :: j 9 :: j 10 :: j 11 :: j 12 :: j 13 :: j 14 :: j 15 :: j 16 :: j 17 :: j 18 :: j 19 :: j 20 :: j 21 :: j 22 :: j 23 :: j 24 :: j 25 :: j 26 :: j 27 :: j 28 :: j 29 :: j 30 :: j 31 :: j 32 :: j 33 :: j 34 :: j 35 :: j 36 :: j 37 :: j 38 :: j 39 :: j 40 :: j 41 :: j 42 :: j 43 :: j 44 :: j 45 :: j 46 :: j 47 :: j 48 :: j 49 :: j 50 :: j 51 :: j 52 :: j 53 :: j 54 :: j 55 :: j 56 :: j 57 :: j 58 :: j 59 :: j 60 :: j 61 :: j 62 :: j 63 :: j 64 :: j 65 :: []) := ⟨_, rfl⟩
  refine does_count hp 0 I ?_ ?_ _ _ (by rw [hI]; rw [hBX] at os; exact ⟨_, by simpa [hBX] using os, ex_get' (by simp)⟩)
  · intro i fr hh hi; omega
  · intro fr hh hx2
    rw [hI] at hx2
    clear os
    obtain ⟨s, os, j, rfl⟩ := hx2
    have hk := os.kp
    subst hBX
    simp only [keptP, and_true] at hk
    have l4 : ∀ n, (num4 n).length = 4 := fun n => be_length 4 _
    first | (refine hide ?_; intro Q3 hQ3) | have hQ3 := True.intro
    repeat' (first
      | (replace hQ3 := hQ3; simp [convA, wrapB, outV, frzV, K_own, hown, hk])
      | (refine hQ3 _ _ _ ?_; clear hQ3 Q3; first | simp only [] | simp [convA, wrapB, outV, frzV, K_own, hown, hk] | skip)
      | (refine hadQ (by assumption) ?_; (try clear hQ3); first | simp only [] | simp [convA, wrapB, outV, frzV, K_own, hown, hk] | skip)
      | ((fail_if_success replace hQ3 := hQ3); (first | refine hide ?_ | refine hideS ?_ | refine hideB ?_); intro Q3 hQ3)
      | ((with_reducible refine call_id ?_); first
        | ((first | refine aP (hw1) ?_ | refine aO (hw1) ?_ | refine aN (hw1) ?_); intro s' h' hn' os hk'; (try simp only [keptP, and_true] at hk'); have hk := And.intro hk' hk; clear hk'; (try simp [convA, wrapB, outV, frzV, K_own, hown, hk]))
        | ((first | refine aP (hw2) ?_ | refine aO (hw2) ?_ | refine aN (hw2) ?_); intro s' h' hn' os hk'; (try simp only [keptP, and_true] at hk'); have hk := And.intro hk' hk; clear hk'; (try simp [convA, wrapB, outV, frzV, K_own, hown, hk]))
        | ((first | refine aP (hw3) ?_ | refine aO (hw3) ?_ | refine aN (hw3) ?_); intro s' h' hn' os hk'; (try simp only [keptP, and_true] at hk'); have hk := And.intro hk' hk; clear hk'; (try simp [convA, wrapB, outV, frzV, K_own, hown, hk]))
        | ((first | refine aP (hw4) ?_ | refine aO (hw4) ?_ | refine aN (hw4) ?_); intro s' h' hn' os hk'; (try simp only [keptP, and_true] at hk'); have hk := And.intro hk' hk; clear hk'; (try simp [convA, wrapB, outV, frzV, K_own, hown, hk]))
        | ((first | refine aP (hw5) ?_ | refine aO (hw5) ?_ | refine aN (hw5) ?_); intro s' h' hn' os hk'; (try simp only [keptP, and_true] at hk'); have hk := And.intro hk' hk; clear hk'; (try simp [convA, wrapB, outV, frzV, K_own, hown, hk])))
      | (refine call_app Tryz.underlying29 (by simp) (by simp) Tryz.bytes5 (x := [u8 group, u8 to, u8 do_]) (OS.new (by assumption) _) rfl (elems_slc (n := 3) (fx := true) (by simp) (by simp)) (by first | assumption | (simp only [List.length_append, List.length_cons, List.length_nil, be_length, textB, encSpn, num4, num8]; omega) | (simp only [List.length_append, List.length_cons, List.length_nil, be_length, textB] at *; omega) | (simp at *; omega)) (fun s' h' hn' os hk' => ?_); (try simp only [keptP, and_true] at hk'); have hk := And.intro hk' hk; clear hk'; (try simp [convA, wrapB, outV, frzV, K_own, hown, hk]))
      | (first | refine dF (id := 5) [0, 1, 2, 3, 4, 5, 6, 7, 8, 9, 10, 11, 12, 13, 14, 15] [(7, 9), (7, 13)] ?_ | refine dF (id := 6) [0, 1, 2, 3, 4, 5, 6, 7, 8, 9, 10, 11, 12, 13, 14, 15] [(3, 5), (3, 8), (3, 11)] ?_ | refine dF (id := 7) [0, 1, 2, 3, 4, 5, 6, 7, 8, 9] [(4, 6)] ?_ | refine dF (id := 8) [0, 1, 2, 3, 4, 5, 6, 7] [(3, 5)] ?_)
      | (first | apply cF | apply wN | apply wS) <;> intro hcnd <;> (try simp only [hcnd]) <;> (try simp [-List.isEmpty_iff, -List.isEmpty_eq_false_iff] at hcnd))
    all_goals (rw [byt_frz (n := 62) os.byt]; simp [ansB0])
end Go.Proofs.YtmhbdpgflomihaaGreat
