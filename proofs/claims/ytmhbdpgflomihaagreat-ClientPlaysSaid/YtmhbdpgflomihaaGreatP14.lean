/- A part of a proof over the abstract machine. No conditions. -/
import Derived.Test.YtmhbdpgflomihaaGreatP11
namespace Go.Proofs.YtmhbdpgflomihaaGreat
open Go Go.Ab Wm NumPlain
set_option linter.unusedSimpArgs false
set_option linter.unnecessarySimpa false
set_option linter.unusedVariables false
set_option maxRecDepth 10000
set_option maxHeartbeats 8000000
theorem onM_same (m : Md) (g : Int) (a : Answer) : (onM m g a).1.seq = m.seq ∧ (onM m g a).1.id = m.id ∧ (onM m g a).1.n = m.n := by
  unfold onM
  split
  · split <;> exact ⟨rfl, rfl, rfl⟩
  · split
    · split
      · exact ⟨rfl, rfl, rfl⟩
      · split <;> exact ⟨rfl, rfl, rfl⟩
    · exact ⟨rfl, rfl, rfl⟩
theorem on_both {kid n : Int} {p q i xb : Nat} {X : Blk} {c : Cl} {m : Md} {h h1 : H} (w : Sw kid n p q i xb X c m h) (bt1 : Bt h1 p q c m) (g : Int) (a : Answer) (ha : AnsIs a) (hf : CanCache m g a) :
    ∃ s h3, W K 14 [.one (.ptr p 0 0), .agg (msgC 2 g 1 (100 + kid) 0 0 kid m.seq (some (ansB0 a)))] h1 = some (.ret (.one s) h3) ∧ Held h1 h3 p ∧ (∃ M, h3.f q = some ⟨0, [30], true, M⟩ ∧ M.length = 30 ∧ sub M 5 1 = some [.bool m.busy]) ∧
    (m.busy = true → ∃ h4, W K 24 [.one (.ptr q 0 0), .one (ii g), .agg (ansC a)] h3 = some (.ret (.one (.bool (onM m g a).2)) h4) ∧ ∃ c' m', Mid kid n p q i c' m' h4 s (onM m g a).2) ∧
    (m.busy = false → ∃ c' m', Mid kid n p q i c' m' h3 s false) := by
  have hsq := w.seq
  have hlt := w.lt
  have rl := w.rl
  have hcid : c.id = kid := by rw [rl.id]; exact w.id
  have hml := rl.len.2
  obtain ⟨r, e, hr⟩ := on_cl bt1.cl (rl.ok (by omega)) 2 g 1 (100 + c.id) 0 0 c.id c.seq (some (ansB0 a)) (some (norm a)) (fun x hx => by cases hx; exact ha.rows) (fun h => dec_c a ha h) (fun x _ => Nat.lt_of_le_of_lt (List.length_filter_le _ _) (by have := rl.len.1; omega))
  obtain ⟨v, h3, rfl, ca3, he3, as3⟩ := hr.ret
  obtain ⟨s, rfl, _⟩ := id as3
  obtain ⟨t1, t2, t3⟩ := on_rel rl g a ha hf
  have bt3 := bt1.cl_step ca3 he3
  rw [hcid, rl.seq] at e
  rw [t2] at as3
  have mz := bt3.md
  obtain ⟨_, sm, fm, _, _⟩ := mz
  refine ⟨s, h3, e, he3, ⟨_, fm, rfl, rfl⟩, fun hb => ?_, fun hb => ?_⟩
  · obtain ⟨r4, d4, hr4⟩ := on_m bt3.md (by omega) g a
    obtain ⟨v4, h4, rfl, rfl, ma4, he4⟩ := hr4.ret
    have bt4 := bt3.md_step ma4 he4
    obtain ⟨o1, o2, o3⟩ := onM_same m g a
    have hm3 := bt1.mdq he3
    have as4 := as3.keepM he4 bt1.md.1 (fun b hb => bt1.md.qlt (by rw [mdQ, hm3] at hb; exact hb))
    rw [if_pos hb] at t1 t3
    rw [show (m.busy && (onM m g a).2) = (onM m g a).2 by rw [hb]; rfl] at as4 t3
    exact ⟨h4, d4, _, _, bt4, t1, by rw [o1]; omega, by rw [o2]; exact w.id, by rw [o3]; exact w.n, ⟨_, as4⟩, t3⟩
  · rw [if_neg (by rw [hb]; simp)] at t1
    rw [hb, Bool.false_and] at as3
    exact ⟨_, _, bt3, t1, by omega, w.id, w.n, ⟨_, as3⟩, (fun h => by cases h)⟩
theorem case_master {kid n : Int} {p q i xb : Nat} {c : Cl} {m : Md} {h : H} (L : AS) (x_kind x_a x_b x_group x_code : Int) (o_kind : Int) (o_row : Int) (o_hi : Int) (o_most : Int) (o_col : Int) (o_has : Bool) (o_want : Bool) (o_v_text : Bool) (o_v_n : Int) (o_v_x : Nat) (o_v_b : Option BL) (o_l : Option (List KC)) (ha : I64 x_a) (hb : I64 x_b) (hg : I64 x_group) (hc : I64 x_code) (w : Sw kid n p q i xb ⟨0, [17], true, [ii x_kind, ii x_a, ii x_b, ii x_group, ii x_code, ii o_kind, ii o_row, ii o_hi, ii o_most, ii o_col, .bool o_has, .bool o_want, .bool o_v_text, ii o_v_n, .flt o_v_x, bs o_v_b, sl 7 encKC o_l]⟩ c m h) (g : Int) (t : Nat) (j : Nat → AV) :
    Does K swC (frS kid n L p q i xb g t 4 j) h (EndR kid n L p q i) := by
  have rl := w.rl
  have hid : 0 ≤ kid ∧ kid < 4 := by rw [← w.id]; exact rl.idb
  have hrow := rows9_len rl.rowm
  have an := answer_c w.bt.md (by omega) x_kind x_a x_b x_group x_code ha hb hg hc o_kind o_row o_hi o_most o_col o_has o_want o_v_text o_v_n o_v_x o_v_b o_l
  have ais := ansOf_is rl.rowm x_a x_b x_group x_code
  have afi := ansOf_fits rl.rowm x_a x_b x_group x_code
  generalize ansOf m.op.row x_a x_b x_group x_code = A at *
  have hr := reply_c 0 kid m.seq hid A ais
  have bt1 := w.bt.new ⟨0, [11], true, ansC A⟩
  obtain ⟨s, h3, d3, he3, ⟨M3, fm3, gl3, g53⟩, k1, k2⟩ := on_both w bt1 0 A ais afi
  have hs := new_set h ⟨0, [11], true, zA⟩ ⟨0, [11], true, ansC A⟩
  have hfx := w.fx
  have hxl := w.xlt
  have hxn : ¬ xb = h.next := by omega
  obtain ⟨_, sm, fm, _, _⟩ := w.bt.md
  have hpn : ¬ h.next = p := by have := w.bt.cl.1; omega
  have hqn : ¬ q = h.next := by have := w.bt.md.1; omega
  have g2 : sub (mdC m sm) 2 1 = some [ii m.seq] := rfl
  have gl : (mdC m sm).length = 30 := rfl
  have f3 : h3.f h.next = some ⟨0, [11], true, ansC A⟩ := by
    rw [he3.2.1 h.next (by simp) hpn (fun e => by
      have h2 : clQ (h.new ⟨0, [11], true, ansC A⟩) p = clQ h p := by have := w.bt.cl.1; simp only [clQ]; rw [new_at, if_neg (by omega)]
      rw [h2] at e; have := w.bt.cl.qlt e; omega)]
    simp
  generalize mdC m sm = M at *
  obtain ⟨b1, b3, ⟨b4', b5⟩, b6, b7, b8, b9, b10, b11, b12⟩ := A
  generalize ansB0 ⟨b1, b3, ⟨b4', b5⟩, b6, b7, b8, b9, b10, b11, b12⟩ = AB at *
  simp [swC, codeOf, Tryz.f8, blkC, -K_seq, -K_region, -K_block, -K_cond]
  cases hbz : m.busy
  · obtain ⟨c', m', hMid⟩ := k2 hbz
    rw [hbz] at g53
    first | (refine hide ?_; intro Q1 hQ1) | have hQ1 := True.intro
    repeat' (first
      | (replace hQ1 := hQ1; simp [frS, hfx, hxn, an, hs, fm, hqn, g2, gl, hr, d3, fm3, gl3, g53, f3])
      | (refine hQ1 _ _ _ ?_; clear hQ1 Q1; first | simp only [] | simp [frS, hfx, hxn, an, hs, fm, hqn, g2, gl, hr, d3, fm3, gl3, g53, f3] | skip)
      | (refine hadQ (by assumption) ?_; (try clear hQ1); first | simp only [] | simp [frS, hfx, hxn, an, hs, fm, hqn, g2, gl, hr, d3, fm3, gl3, g53, f3] | skip)
      | ((fail_if_success replace hQ1 := hQ1); (first | refine hide ?_ | refine hideS ?_ | refine hideB ?_); intro Q1 hQ1)
      | (first | refine dF (id := 37) [0, 1, 2, 3, 4, 5, 6, 7, 8, 9] [] ?_ | refine dF (id := 46) [0, 1, 2, 3, 4, 5, 6, 7, 8, 9, 10] [] ?_ | refine dF (id := 49) [0, 1, 2, 3, 4, 5, 6, 7, 8, 9, 10, 11, 12, 13, 14, 15, 16, 17, 18, 19, 20, 21, 22] [] ?_ | refine dF (id := 52) [0, 1, 2, 3, 4, 5, 6, 7, 8, 9, 10, 11, 12, 13, 14, 15, 16, 17, 18, 19, 20, 21, 22, 23, 24, 25, 26, 27, 28, 29, 30, 31, 32, 33, 34, 35, 36, 37, 38, 39, 40, 41, 42] [(1, 5), (35, 39)] ?_)
      | (first | apply cF | apply wN | apply wS) <;> intro hcnd <;> (try simp only [hcnd]) <;> (try simp [-List.isEmpty_iff, -List.isEmpty_eq_false_iff] at hcnd))
    all_goals exact ⟨rfl, _, _, _, _, hMid, ex_get' (by rfl)⟩
  · obtain ⟨h4, d4, c', m', hMid⟩ := k1 hbz
    rw [hbz] at g53
    generalize (onM m 0 ⟨b1, b3, ⟨b4', b5⟩, b6, b7, b8, b9, b10, b11, b12⟩).2 = sd at *
    first | (refine hide ?_; intro Q2 hQ2) | have hQ2 := True.intro
    repeat' (first
      | (replace hQ2 := hQ2; simp [frS, hfx, hxn, an, hs, fm, hqn, g2, gl, hr, d3, fm3, gl3, g53, f3, d4])
      | (refine hQ2 _ _ _ ?_; clear hQ2 Q2; first | simp only [] | simp [frS, hfx, hxn, an, hs, fm, hqn, g2, gl, hr, d3, fm3, gl3, g53, f3, d4] | skip)
      | (refine hadQ (by assumption) ?_; (try clear hQ2); first | simp only [] | simp [frS, hfx, hxn, an, hs, fm, hqn, g2, gl, hr, d3, fm3, gl3, g53, f3, d4] | skip)
      | ((fail_if_success replace hQ2 := hQ2); (first | refine hide ?_ | refine hideS ?_ | refine hideB ?_); intro Q2 hQ2)
      | (first | refine dF (id := 37) [0, 1, 2, 3, 4, 5, 6, 7, 8, 9] [] ?_ | refine dF (id := 46) [0, 1, 2, 3, 4, 5, 6, 7, 8, 9, 10] [] ?_ | refine dF (id := 49) [0, 1, 2, 3, 4, 5, 6, 7, 8, 9, 10, 11, 12, 13, 14, 15, 16, 17, 18, 19, 20, 21, 22] [] ?_ | refine dF (id := 52) [0, 1, 2, 3, 4, 5, 6, 7, 8, 9, 10, 11, 12, 13, 14, 15, 16, 17, 18, 19, 20, 21, 22, 23, 24, 25, 26, 27, 28, 29, 30, 31, 32, 33, 34, 35, 36, 37, 38, 39, 40, 41, 42] [(1, 5), (35, 39)] ?_)
      | (first | apply cF | apply wN | apply wS) <;> intro hcnd <;> (try simp only [hcnd]) <;> (try simp [-List.isEmpty_iff, -List.isEmpty_eq_false_iff] at hcnd))
    all_goals exact ⟨rfl, _, _, _, _, hMid, ex_get' (by rfl)⟩
end Go.Proofs.YtmhbdpgflomihaaGreat
