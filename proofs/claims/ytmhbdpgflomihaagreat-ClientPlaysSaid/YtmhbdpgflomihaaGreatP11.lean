/- A part of a proof over the abstract machine. No conditions. -/
import Derived.Test.YtmhbdpgflomihaaGreatP10
namespace Go.Proofs.YtmhbdpgflomihaaGreat
open Go Go.Ab Wm NumPlain
set_option linter.unusedSimpArgs false
set_option linter.unnecessarySimpa false
set_option linter.unusedVariables false
set_option maxRecDepth 10000
set_option maxHeartbeats 8000000
structure Sw (kid n : Int) (p q i xb : Nat) (X : Blk) (c : Cl) (m : Md) (h : H) : Prop where
  bt : Bt h p q c m
  rl : Rl c m
  seq : m.seq ≤ i
  lt : i < 60
  id : m.id = kid
  n : m.n = n
  fx : h.f xb = some X
  xlt : xb < h.next
  xp : xb ≠ p
  xq : xb ≠ q
  xc : clQ h p ≠ some xb
  xm : mdQ h q ≠ some xb
theorem Sw.fcl {kid n : Int} {p q i xb : Nat} {X : Blk} {c : Cl} {m : Md} {h h' : H} (w : Sw kid n p q i xb X c m h) (e : Held h h' p) : h'.f xb = some X := by rw [e.2.1 xb w.xlt w.xp w.xc]; exact w.fx
theorem Sw.asks {kid n : Int} {p q i xb : Nat} {X : Blk} {c c' : Cl} {m : Md} {h h3 h4 : H} {sends : Bool} {v : AV} (w : Sw kid n p q i xb X c m h) (e : Held h h3 p) (e4 : HeldM h3 h4 q) (a : Asks h h3 c' sends v) : Asks h h4 c' sends v := by
  have hm3 := w.bt.mdq e
  exact a.keepM e4 w.bt.md.1 (fun b hb => w.bt.md.qlt (by rw [mdQ, hm3] at hb; exact hb))
theorem case_tick {kid n : Int} {p q i xb : Nat} {X : Blk} {c : Cl} {m : Md} {h : H} (L : AS) (w : Sw kid n p q i xb X c m h) (g : Int) (t : Nat) (k9 : Int) (hk : k9 = 1 ∨ k9 = 2 ∨ k9 = 3) (j : Nat → AV) : Does K swC (frS kid n L p q i xb g t k9 j) h (EndR kid n L p q i) := by
  have hsq := w.seq
  have hlt := w.lt
  have rl := w.rl
  obtain ⟨r3, d3, hr3⟩ := tick_cl w.bt.cl (rl.ok (by omega))
  obtain ⟨v3, h3, rfl, ca3, he3, as3⟩ := hr3.ret
  have bt3 := w.bt.cl_step ca3 he3
  obtain ⟨r4, d4, hr4⟩ := tick_m bt3.md rl.wb rl.gb
  obtain ⟨v4, h4, rfl, rfl, ma4, he4⟩ := hr4.ret
  have bt4 := bt3.md_step ma4 he4
  have as4 := w.asks he3 he4 as3
  obtain ⟨t1, t2, t3, t4, t5, t6⟩ := tick_rel rl
  rw [t2] at as4
  obtain ⟨s3, rfl, _⟩ := id as3
  have hMid : Mid kid n p q i (tickC c).1 (tickM m).1 h4 s3 (tickM m).2 := ⟨bt4, t1, by rw [t4]; omega, by rw [t5, w.id], by rw [t6, w.n], ⟨_, as4⟩, t3⟩
  generalize (tickM m).2 = snd at *
  simp [swC, codeOf, Tryz.f8, blkC, -K_seq, -K_region, -K_block, -K_cond]
  rcases hk with rfl | rfl | rfl
  · first | (refine hide ?_; intro Q1 hQ1) | have hQ1 := True.intro
    repeat' (first
      | (replace hQ1 := hQ1; simp [frS, d3, d4])
      | (refine hQ1 _ _ _ ?_; clear hQ1 Q1; first | simp only [] | simp [frS, d3, d4] | skip)
      | (refine hadQ (by assumption) ?_; (try clear hQ1); first | simp only [] | simp [frS, d3, d4] | skip)
      | ((fail_if_success replace hQ1 := hQ1); (first | refine hide ?_ | refine hideS ?_ | refine hideB ?_); intro Q1 hQ1)
      | (first | refine dF (id := 37) [0, 1, 2, 3, 4, 5, 6, 7, 8, 9] [] ?_ | refine dF (id := 46) [0, 1, 2, 3, 4, 5, 6, 7, 8, 9, 10] [] ?_ | refine dF (id := 49) [0, 1, 2, 3, 4, 5, 6, 7, 8, 9, 10, 11, 12, 13, 14, 15, 16, 17, 18, 19, 20, 21, 22] [] ?_ | refine dF (id := 52) [0, 1, 2, 3, 4, 5, 6, 7, 8, 9, 10, 11, 12, 13, 14, 15, 16, 17, 18, 19, 20, 21, 22, 23, 24, 25, 26, 27, 28, 29, 30, 31, 32, 33, 34, 35, 36, 37, 38, 39, 40, 41, 42] [(1, 5), (35, 39)] ?_)
      | (first | apply cF | apply wN | apply wS) <;> intro hcnd <;> (try simp only [hcnd]) <;> (try simp [-List.isEmpty_iff, -List.isEmpty_eq_false_iff] at hcnd))
    all_goals exact ⟨rfl, _, _, _, _, hMid, ex_get' (by rfl)⟩
  · first | (refine hide ?_; intro Q2 hQ2) | have hQ2 := True.intro
    repeat' (first
      | (replace hQ2 := hQ2; simp [frS, d3, d4])
      | (refine hQ2 _ _ _ ?_; clear hQ2 Q2; first | simp only [] | simp [frS, d3, d4] | skip)
      | (refine hadQ (by assumption) ?_; (try clear hQ2); first | simp only [] | simp [frS, d3, d4] | skip)
      | ((fail_if_success replace hQ2 := hQ2); (first | refine hide ?_ | refine hideS ?_ | refine hideB ?_); intro Q2 hQ2)
      | (first | refine dF (id := 37) [0, 1, 2, 3, 4, 5, 6, 7, 8, 9] [] ?_ | refine dF (id := 46) [0, 1, 2, 3, 4, 5, 6, 7, 8, 9, 10] [] ?_ | refine dF (id := 49) [0, 1, 2, 3, 4, 5, 6, 7, 8, 9, 10, 11, 12, 13, 14, 15, 16, 17, 18, 19, 20, 21, 22] [] ?_ | refine dF (id := 52) [0, 1, 2, 3, 4, 5, 6, 7, 8, 9, 10, 11, 12, 13, 14, 15, 16, 17, 18, 19, 20, 21, 22, 23, 24, 25, 26, 27, 28, 29, 30, 31, 32, 33, 34, 35, 36, 37, 38, 39, 40, 41, 42] [(1, 5), (35, 39)] ?_)
      | (first | apply cF | apply wN | apply wS) <;> intro hcnd <;> (try simp only [hcnd]) <;> (try simp [-List.isEmpty_iff, -List.isEmpty_eq_false_iff] at hcnd))
    all_goals exact ⟨rfl, _, _, _, _, hMid, ex_get' (by rfl)⟩
  · first | (refine hide ?_; intro Q3 hQ3) | have hQ3 := True.intro
    repeat' (first
      | (replace hQ3 := hQ3; simp [frS, d3, d4])
      | (refine hQ3 _ _ _ ?_; clear hQ3 Q3; first | simp only [] | simp [frS, d3, d4] | skip)
      | (refine hadQ (by assumption) ?_; (try clear hQ3); first | simp only [] | simp [frS, d3, d4] | skip)
      | ((fail_if_success replace hQ3 := hQ3); (first | refine hide ?_ | refine hideS ?_ | refine hideB ?_); intro Q3 hQ3)
      | (first | refine dF (id := 37) [0, 1, 2, 3, 4, 5, 6, 7, 8, 9] [] ?_ | refine dF (id := 46) [0, 1, 2, 3, 4, 5, 6, 7, 8, 9, 10] [] ?_ | refine dF (id := 49) [0, 1, 2, 3, 4, 5, 6, 7, 8, 9, 10, 11, 12, 13, 14, 15, 16, 17, 18, 19, 20, 21, 22] [] ?_ | refine dF (id := 52) [0, 1, 2, 3, 4, 5, 6, 7, 8, 9, 10, 11, 12, 13, 14, 15, 16, 17, 18, 19, 20, 21, 22, 23, 24, 25, 26, 27, 28, 29, 30, 31, 32, 33, 34, 35, 36, 37, 38, 39, 40, 41, 42] [(1, 5), (35, 39)] ?_)
      | (first | apply cF | apply wN | apply wS) <;> intro hcnd <;> (try simp only [hcnd]) <;> (try simp [-List.isEmpty_iff, -List.isEmpty_eq_false_iff] at hcnd))
    all_goals exact ⟨rfl, _, _, _, _, hMid, ex_get' (by rfl)⟩
end Go.Proofs.YtmhbdpgflomihaaGreat
