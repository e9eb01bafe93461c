/- A part of a proof over the abstract machine. No conditions. -/
import Derived.Test.YtmhbdpgflomihaaGreatP11
namespace Go.Proofs.YtmhbdpgflomihaaGreat
open Go Go.Ab Wm NumPlain
set_option linter.unusedSimpArgs false
set_option linter.unnecessarySimpa false
set_option linter.unusedVariables false
set_option maxRecDepth 10000
set_option maxHeartbeats 8000000
theorem case_submit {kid n : Int} {p q i xb : Nat} {c : Cl} {m : Md} {h : H} (L : AS) (x_kind x_a x_b x_group x_code : Int) (o_kind : Int) (o_row : Int) (o_hi : Int) (o_most : Int) (o_col : Int) (o_has : Bool) (o_want : Bool) (o_v_text : Bool) (o_v_n : Int) (o_v_x : Nat) (o_v_b : Option BL) (o_l : Option (List KC)) (hok : KOok ⟨o_kind, o_row, o_hi, o_most, o_col, o_has, o_want, ⟨o_v_text, o_v_n, o_v_x, o_v_b⟩, o_l⟩) (hnum : OpNum (kOp ⟨o_kind, o_row, o_hi, o_most, o_col, o_has, o_want, ⟨o_v_text, o_v_n, o_v_x, o_v_b⟩, o_l⟩)) (w : Sw kid n p q i xb ⟨0, [17], true, [ii x_kind, ii x_a, ii x_b, ii x_group, ii x_code, ii o_kind, ii o_row, ii o_hi, ii o_most, ii o_col, .bool o_has, .bool o_want, .bool o_v_text, ii o_v_n, .flt o_v_x, bs o_v_b, sl 7 encKC o_l]⟩ c m h) (g : Int) (t : Nat) (j : Nat → AV) :
    Does K swC (frS kid n L p q i xb g t 0 j) h (EndR kid n L p q i) := by
  have hsq := w.seq
  have hlt := w.lt
  have rl := w.rl
  have hop := kop_c o_kind o_row o_hi o_most o_col o_has o_want o_v_text o_v_n o_v_x o_v_b o_l hok
  have his := kOp_is ⟨o_kind, o_row, o_hi, o_most, o_col, o_has, o_want, ⟨o_v_text, o_v_n, o_v_x, o_v_b⟩, o_l⟩
  have hrow := kOp_row ⟨o_kind, o_row, o_hi, o_most, o_col, o_has, o_want, ⟨o_v_text, o_v_n, o_v_x, o_v_b⟩, o_l⟩
  generalize kOp ⟨o_kind, o_row, o_hi, o_most, o_col, o_has, o_want, ⟨o_v_text, o_v_n, o_v_x, o_v_b⟩, o_l⟩ = oo at *
  have hfx := w.fx
  have hs0 := rl.seq0
  have hcs : 0 ≤ c.seq ∧ c.seq < 1000 := by rw [rl.seq]; omega
  by_cases hb : m.busy = true
  · have hcb : c.busy = true := by rw [rl.busy]; exact hb
    obtain ⟨p_kind, p_row, p_hi, ⟨p_cond_has, p_cond_want, p_cond_col, ⟨p_cond_v_kind, p_cond_v_b, p_cond_v_n⟩⟩, p_l, p_most⟩ := oo
    simp only [encOp] at hop
    obtain ⟨r3, d3, hr3⟩ := submit_cl p_kind p_row p_hi p_cond_has p_cond_want p_cond_col p_cond_v_kind p_cond_v_b p_cond_v_n p_l p_most his w.bt.cl hcs
    obtain ⟨v3, h3, rfl, hx3⟩ := hr3.ret
    rw [if_pos hcb] at hx3
    obtain ⟨rfl, rfl⟩ := hx3
    have bt3 := w.bt.new ⟨0, [11], true, [ii p_kind, .str p_row, .str p_hi, .bool p_cond_has, .bool p_cond_want, .str p_cond_col, ii p_cond_v_kind, bs p_cond_v_b, .flt p_cond_v_n, sl 6 encChange p_l, ii p_most]⟩
    obtain ⟨r4, d4, hr4⟩ := submit_m p_kind p_row p_hi p_cond_has p_cond_want p_cond_col p_cond_v_kind p_cond_v_b p_cond_v_n p_l p_most his bt3.md (by omega)
    obtain ⟨v4, h4, rfl, hx4⟩ := hr4.ret
    rw [if_pos hb] at hx4
    obtain ⟨rfl, rfl⟩ := hx4
    have bt4 := bt3.new ⟨0, [11], true, [ii p_kind, .str p_row, .str p_hi, .bool p_cond_has, .bool p_cond_want, .str p_cond_col, ii p_cond_v_kind, bs p_cond_v_b, .flt p_cond_v_n, sl 6 encChange p_l, ii p_most]⟩
    have hxl := w.xlt
    have fx3 : (h.new ⟨0, [11], true, [ii p_kind, .str p_row, .str p_hi, .bool p_cond_has, .bool p_cond_want, .str p_cond_col, ii p_cond_v_kind, bs p_cond_v_b, .flt p_cond_v_n, sl 6 encChange p_l, ii p_most]⟩).f xb = some ⟨0, [17], true, [ii x_kind, ii x_a, ii x_b, ii x_group, ii x_code, ii o_kind, ii o_row, ii o_hi, ii o_most, ii o_col, .bool o_has, .bool o_want, .bool o_v_text, ii o_v_n, .flt o_v_x, bs o_v_b, sl 7 encKC o_l]⟩ := by rw [new_at, if_neg (by omega)]; exact hfx
    have hMid : Mid kid n p q i c m ((h.new ⟨0, [11], true, [ii p_kind, .str p_row, .str p_hi, .bool p_cond_has, .bool p_cond_want, .str p_cond_col, ii p_cond_v_kind, bs p_cond_v_b, .flt p_cond_v_n, sl 6 encChange p_l, ii p_most]⟩).new ⟨0, [11], true, [ii p_kind, .str p_row, .str p_hi, .bool p_cond_has, .bool p_cond_want, .str p_cond_col, ii p_cond_v_kind, bs p_cond_v_b, .flt p_cond_v_n, sl 6 encChange p_l, ii p_most]⟩) .nilslc false := ⟨bt4, rl, by omega, w.id, w.n, ⟨h, .nilslc, rfl, rfl, by simp [ownB]⟩, (fun h => by cases h)⟩
    have hxn : ¬ xb = h.next := by omega
    simp [swC, codeOf, Tryz.f8, blkC, -K_seq, -K_region, -K_block, -K_cond]
    first | (refine hide ?_; intro Q1 hQ1) | have hQ1 := True.intro
    repeat' (first
      | (replace hQ1 := hQ1; simp [frS, hfx, hop, d3, fx3, hxn, d4])
      | (refine hQ1 _ _ _ ?_; clear hQ1 Q1; first | simp only [] | simp [frS, hfx, hop, d3, fx3, hxn, d4] | skip)
      | (refine hadQ (by assumption) ?_; (try clear hQ1); first | simp only [] | simp [frS, hfx, hop, d3, fx3, hxn, d4] | skip)
      | ((fail_if_success replace hQ1 := hQ1); (first | refine hide ?_ | refine hideS ?_ | refine hideB ?_); intro Q1 hQ1)
      | (first | refine dF (id := 37) [0, 1, 2, 3, 4, 5, 6, 7, 8, 9] [] ?_ | refine dF (id := 46) [0, 1, 2, 3, 4, 5, 6, 7, 8, 9, 10] [] ?_ | refine dF (id := 49) [0, 1, 2, 3, 4, 5, 6, 7, 8, 9, 10, 11, 12, 13, 14, 15, 16, 17, 18, 19, 20, 21, 22] [] ?_ | refine dF (id := 52) [0, 1, 2, 3, 4, 5, 6, 7, 8, 9, 10, 11, 12, 13, 14, 15, 16, 17, 18, 19, 20, 21, 22, 23, 24, 25, 26, 27, 28, 29, 30, 31, 32, 33, 34, 35, 36, 37, 38, 39, 40, 41, 42] [(1, 5), (35, 39)] ?_)
      | (first | apply cF | apply wN | apply wS) <;> intro hcnd <;> (try simp only [hcnd]) <;> (try simp [-List.isEmpty_iff, -List.isEmpty_eq_false_iff] at hcnd))
    all_goals exact ⟨rfl, _, _, _, _, hMid, ex_get' (by rfl)⟩
  · have hcb : ¬ c.busy = true := by rw [rl.busy]; exact hb
    have rl2 := submit_rel rl oo his hnum hrow
    obtain ⟨p_kind, p_row, p_hi, ⟨p_cond_has, p_cond_want, p_cond_col, ⟨p_cond_v_kind, p_cond_v_b, p_cond_v_n⟩⟩, p_l, p_most⟩ := oo
    simp only [encOp] at hop
    obtain ⟨r3, d3, hr3⟩ := submit_cl p_kind p_row p_hi p_cond_has p_cond_want p_cond_col p_cond_v_kind p_cond_v_b p_cond_v_n p_l p_most his w.bt.cl hcs
    obtain ⟨v3, h3, rfl, hx3⟩ := hr3.ret
    rw [if_neg hcb] at hx3
    obtain ⟨rfl, ca3, he3⟩ := hx3
    have bt3 := w.bt.cl_step ca3 he3
    obtain ⟨r4, d4, hr4⟩ := submit_m p_kind p_row p_hi p_cond_has p_cond_want p_cond_col p_cond_v_kind p_cond_v_b p_cond_v_n p_l p_most his bt3.md (by omega)
    obtain ⟨v4, h4, rfl, hx4⟩ := hr4.ret
    rw [if_neg hb] at hx4
    obtain ⟨rfl, ma4, he4⟩ := hx4
    have bt4 := bt3.md_step ma4 he4
    have fx3 := w.fcl he3
    have hMid : Mid kid n p q i _ _ h4 .nilslc false := ⟨bt4, rl2, by simp only; omega, w.id, w.n, ⟨h, .nilslc, rfl, rfl, by simp [ownB]⟩, (fun h => by cases h)⟩
    rw [rl.seq] at d3
    simp [swC, codeOf, Tryz.f8, blkC, -K_seq, -K_region, -K_block, -K_cond]
    first | (refine hide ?_; intro Q2 hQ2) | have hQ2 := True.intro
    repeat' (first
      | (replace hQ2 := hQ2; simp [frS, hfx, hop, d3, fx3, d4])
      | (refine hQ2 _ _ _ ?_; clear hQ2 Q2; first | simp only [] | simp [frS, hfx, hop, d3, fx3, d4] | skip)
      | (refine hadQ (by assumption) ?_; (try clear hQ2); first | simp only [] | simp [frS, hfx, hop, d3, fx3, d4] | skip)
      | ((fail_if_success replace hQ2 := hQ2); (first | refine hide ?_ | refine hideS ?_ | refine hideB ?_); intro Q2 hQ2)
      | (first | refine dF (id := 37) [0, 1, 2, 3, 4, 5, 6, 7, 8, 9] [] ?_ | refine dF (id := 46) [0, 1, 2, 3, 4, 5, 6, 7, 8, 9, 10] [] ?_ | refine dF (id := 49) [0, 1, 2, 3, 4, 5, 6, 7, 8, 9, 10, 11, 12, 13, 14, 15, 16, 17, 18, 19, 20, 21, 22] [] ?_ | refine dF (id := 52) [0, 1, 2, 3, 4, 5, 6, 7, 8, 9, 10, 11, 12, 13, 14, 15, 16, 17, 18, 19, 20, 21, 22, 23, 24, 25, 26, 27, 28, 29, 30, 31, 32, 33, 34, 35, 36, 37, 38, 39, 40, 41, 42] [(1, 5), (35, 39)] ?_)
      | (first | apply cF | apply wN | apply wS) <;> intro hcnd <;> (try simp only [hcnd]) <;> (try simp [-List.isEmpty_iff, -List.isEmpty_eq_false_iff] at hcnd))
    all_goals exact ⟨rfl, _, _, _, _, hMid, ex_get' (by rfl)⟩
end Go.Proofs.YtmhbdpgflomihaaGreat
