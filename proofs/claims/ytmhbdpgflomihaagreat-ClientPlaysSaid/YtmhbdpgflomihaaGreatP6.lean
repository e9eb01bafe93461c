/- A part of a proof over the abstract machine. No conditions. -/
import Derived.Test.YtmhbdpgflomihaaGreatP5
namespace Go.Proofs.YtmhbdpgflomihaaGreat
open Go Go.Ab Wm NumPlain
set_option linter.unusedSimpArgs false
set_option linter.unnecessarySimpa false
set_option linter.unusedVariables false
set_option maxRecDepth 10000
set_option maxHeartbeats 4000000
def ansOf (row : BL) (xa xb xg xc : Int) : Answer :=
  if xc.tmod 5 = 4 then ⟨22, none, ⟨[], []⟩, 0, 0, 0, 0, 0, [], none⟩
  else if xc.tmod 5 = 3 then ⟨0, none, ⟨row ++ [126], []⟩, 1 + m20 xg % 3, 1 + m20 xa, 0, 0, 0, [], none⟩
  else ⟨0, none, ⟨if Op.bytesLess row (keepRow xa) then [] else keepRow xa, if Op.bytesLess row (keepRow xb) then keepRow xb else []⟩, 1 + m20 xg % 3, 1 + m20 xa, 0, 0, 0, [], none⟩
theorem answer_g (m : Md) (o : Option (List Tablet)) (xk xa xb xg xc : Int) (ha : I64 xa) (hb : I64 xb) (hg : I64 xg) (hc : I64 xc) (q_kind : Int) (q_row : Int) (q_hi : Int) (q_most : Int) (q_col : Int) (q_has : Bool) (q_want : Bool) (q_v_text : Bool) (q_v_n : Int) (q_v_x : Nat) (q_v_b : Option BL) (q_l : Option (List KC)) (hr : m.op.row.length ≤ 15) : Fun K 23 [.one (mdV m o), .agg [ii xk, ii xa, ii xb, ii xg, ii xc, ii q_kind, ii q_row, ii q_hi, ii q_most, ii q_col, .bool q_has, .bool q_want, .bool q_v_text, ii q_v_n, .flt q_v_x, bs q_v_b, sl 7 encKC q_l]] (fun h => .ret (.agg (ansC (ansOf m.op.row xa xb xg xc))) h) := by
  have hpv := pure_mdC m o
  have g7 : sub (mdC m (sl 4 encTablet o)) 7 1 = some [.str m.op.row] := rfl
  have w1 := m20_c xg hg
  have w2 := m20_c xa ha
  have bg := m20_bounds xg
  have ba := m20_bounds xa
  have r1 := row_c xa ha
  have r2 := row_c xb hb
  have t3 : (m20 xg).tmod 3 = m20 xg % 3 := tmod_pos bg.1
  have v1 : IntKind.i64.wrap (1 + m20 xg % 3) = 1 + m20 xg % 3 := wrap_i64 (by omega) (by omega)
  have v2 : IntKind.i64.wrap (1 + m20 xa) = 1 + m20 xa := wrap_i64 (by omega) (by omega)
  simp only [mdV]
  generalize mdC m (sl 4 encTablet o) = M at *
  generalize m.op.row = row at *
  unfold ansOf
  have hr2 : row.length ≤ 9223372036854775806 := by omega
  generalize keepRow xa = A at *
  generalize keepRow xb = B at *
  generalize m20 xa = na at *
  generalize m20 xg = ng at *
  have e34 : ∀ n : Int, n = 3 → ¬ n = 4 := fun n h => by omega
  by_cases h4 : xc.tmod 5 = 4
  · have hown : memL S.own 23 = false := by kernel_rfl
    refine ⟨by simp [pureV, hpv, g7, w1, w2, r1, r2, t3, v1, v2, strOp, hr2, bs_none, h4, outV, frzV, frzS, frzS_pure, frzP, pureS, pureL, K_own, hown], fun hh => apart_does rfl rfl (by kernel_rfl) Tryz.func23 rfl (by simp [Tryz.f23]) ?_⟩
    simp only [Tryz.f23]
    refine hide ?_; intro Q1 hQ1
    repeat' (first
      | (replace hQ1 := hQ1; simp [hpv, g7, w1, w2, r1, r2, t3, v1, v2, strOp, hr2, bs_none, h4, outV, frzV, frzS, frzS_pure, frzP, pureS, pureL, K_own, hown])
      | refine hQ1 _ _ _ ?_
      | refine dF (id := 1) [0, 1, 2, 3, 4, 5, 6, 7, 8, 9, 10, 11] [(2, 6)] ?_
      | (first | apply cF | apply wN | apply wS) <;> intro hcnd <;> (try simp only [hcnd]) <;> (try simp [-List.isEmpty_iff, -List.isEmpty_eq_false_iff] at hcnd))
    all_goals simp_all [bs_none]
  · by_cases h3 : xc.tmod 5 = 3
    · have hown : memL S.own 23 = false := by kernel_rfl
      refine ⟨by simp [pureV, hpv, g7, w1, w2, r1, r2, t3, v1, v2, strOp, hr2, bs_none, h4, h3, outV, frzV, frzS, frzS_pure, frzP, pureS, pureL, K_own, hown], fun hh => apart_does rfl rfl (by kernel_rfl) Tryz.func23 rfl (by simp [Tryz.f23]) ?_⟩
      simp only [Tryz.f23]
      refine hide ?_; intro Q2 hQ2
      repeat' (first
        | (replace hQ2 := hQ2; simp [hpv, g7, w1, w2, r1, r2, t3, v1, v2, strOp, hr2, bs_none, h4, h3, outV, frzV, frzS, frzS_pure, frzP, pureS, pureL, K_own, hown])
        | refine hQ2 _ _ _ ?_
        | refine dF (id := 1) [0, 1, 2, 3, 4, 5, 6, 7, 8, 9, 10, 11] [(2, 6)] ?_
        | (first | apply cF | apply wN | apply wS) <;> intro hcnd <;> (try simp only [hcnd]) <;> (try simp [-List.isEmpty_iff, -List.isEmpty_eq_false_iff] at hcnd))
      all_goals simp_all [bs_none]
    · have hown : memL S.own 23 = false := by kernel_rfl
      refine ⟨by simp [pureV, hpv, g7, w1, w2, r1, r2, t3, v1, v2, strOp, hr2, bs_none, h4, h3, outV, frzV, frzS, frzS_pure, frzP, pureS, pureL, K_own, hown], fun hh => apart_does rfl rfl (by kernel_rfl) Tryz.func23 rfl (by simp [Tryz.f23]) ?_⟩
      simp only [Tryz.f23]
      refine hide ?_; intro Q3 hQ3
      repeat' (first
        | (replace hQ3 := hQ3; simp [hpv, g7, w1, w2, r1, r2, t3, v1, v2, strOp, hr2, bs_none, h4, h3, outV, frzV, frzS, frzS_pure, frzP, pureS, pureL, K_own, hown])
        | refine hQ3 _ _ _ ?_
        | refine dF (id := 1) [0, 1, 2, 3, 4, 5, 6, 7, 8, 9, 10, 11] [(2, 6)] ?_
        | (first | apply cF | apply wN | apply wS) <;> intro hcnd <;> (try simp only [hcnd]) <;> (try simp [-List.isEmpty_iff, -List.isEmpty_eq_false_iff] at hcnd))
      all_goals simp_all [bs_none]
theorem answer_c {h : H} {p : Nat} {m : Md} (ma : MdAt h p m) (hr : m.op.row.length ≤ 15) (xk xa xb xg xc : Int) (ha : I64 xa) (hb : I64 xb) (hg : I64 xg) (hc : I64 xc) (q_kind : Int) (q_row : Int) (q_hi : Int) (q_most : Int) (q_col : Int) (q_has : Bool) (q_want : Bool) (q_v_text : Bool) (q_v_n : Int) (q_v_x : Nat) (q_v_b : Option BL) (q_l : Option (List KC)) : W K 23 [.one (.ptr p 0 0), .agg [ii xk, ii xa, ii xb, ii xg, ii xc, ii q_kind, ii q_row, ii q_hi, ii q_most, ii q_col, .bool q_has, .bool q_want, .bool q_v_text, ii q_v_n, .flt q_v_x, bs q_v_b, sl 7 encKC q_l]] h = some (.ret (.agg (ansC (ansOf m.op.row xa xb xg xc))) h) := by
  obtain ⟨o, e, hv⟩ := view_md ma
  refine (answer_g m o xk xa xb xg xc ha hb hg hc q_kind q_row q_hi q_most q_col q_has q_want q_v_text q_v_n q_v_x q_v_b q_l hr).view hp ?_
  unfold viewA
  rw [if_neg (by simp [pureV, pureS])]
  have hcv : [ii xk, ii xa, ii xb, ii xg, ii xc, ii q_kind, ii q_row, ii q_hi, ii q_most, ii q_col, .bool q_has, .bool q_want, .bool q_v_text, ii q_v_n, .flt q_v_x, bs q_v_b, sl 7 encKC q_l].mapM (viewS h 64) = some [ii xk, ii xa, ii xb, ii xg, ii xc, ii q_kind, ii q_row, ii q_hi, ii q_most, ii q_col, .bool q_has, .bool q_want, .bool q_v_text, ii q_v_n, .flt q_v_x, bs q_v_b, sl 7 encKC q_l] := view_pureL (n := 63) (by simp [pureL, pureS]) (by
    intro a ha
    simp only [List.mem_cons, List.not_mem_nil, or_false] at ha
    rcases ha with rfl | rfl | rfl | rfl | rfl | rfl | rfl | rfl | rfl | rfl | rfl | rfl | rfl | rfl | rfl | rfl | rfl <;> first | exact bs_plain _ | exact sl_plain _ | simp)
  simp only [List.mapM_cons, List.mapM_nil, viewV, hv, Option.bind_eq_bind, Option.bind_some, Option.pure_def] at hcv ⊢
  simp only [hcv, Option.bind_some]
end Go.Proofs.YtmhbdpgflomihaaGreat
