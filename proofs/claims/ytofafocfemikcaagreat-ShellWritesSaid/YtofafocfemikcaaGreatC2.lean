/- A part of a proof over the abstract machine. No conditions. -/
import Derived.Test.YtofafocfemikcaaGreatC1
set_option linter.unusedSimpArgs false
set_option linter.unnecessarySimpa false
set_option linter.unusedVariables false
namespace Go.Proofs.YtofafocfemikcaaGreat
open Go Go.Ab Wm
set_option maxRecDepth 10000
set_option maxHeartbeats 2000000
theorem sub_all {n : Nat} {l : List AS} (hl : l.length = n) : sub l 0 n = some l := by
 unfold sub; rw [if_pos (by omega), List.drop_zero, ← hl, List.take_length]
theorem indexChange_c (o : Option (List Wm.Change)) (g : Nat) (caps : List AS) (p : Wm.Change → Bool) (hg : ∀ x h, W K g (.agg (encChange x) :: caps.map AV.one) h = some (.ret (.one (.bool (p x))) h)) (hc : pureL false caps = true) (ho : (ls o).length < 9223372036854775807) (h : H) :
  W K 329 [.one (sl 6 encChange o), .one (.fn g [] caps)] h = some (.ret (.one (ii (idx p (ls o)))) h) := by
 have hown : memL S.own 329 = false := by kernel_rfl
 refine W_pure hp (by simp [pureV, hc, outV, frzV, frzS, frzS_pure, frzP, pureS, pureL, K_own, hown]) (apart_does rfl rfl (by kernel_rfl) Tryz.func329 rfl (by simp [Tryz.f329]) ?_)
 simp only [Tryz.f329]
 refine hide ?_; intro Q1 hQ1
 repeat' (first
  | (replace hQ1 := hQ1; simp [hc, outV, frzV, frzS, frzS_pure, frzP, pureS, pureL, K_own, hown])
  | refine hQ1 _ _ _ ?_
  | (first | apply cF | apply wN | apply wS) <;> intro hcnd <;> (try simp only [hcnd]) <;> (try simp [-List.isEmpty_iff, -List.isEmpty_eq_false_iff] at hcnd))
 refine does_each hp (ls o) (fun a r fr hh => ∃ j, fr = ((.one (sl 6 encChange o)) :: (.one (.fn g [] caps)) :: j 2 :: j 3 :: (.one (ii 0)) :: j 5 :: j 6 :: (.one (ii (ls o).length)) :: (.one (ii a.length)) :: j 9 :: j 10 :: j 11 :: j 12 :: j 13 :: j 14 :: j 15 :: j 16 :: j 17 :: j 18 :: []) ∧ ∀ y ∈ a, p y = false) ?_ ?_ _ _ (ex_get rfl (by simp))
 ·rintro a x r fr hh hl ⟨j, rfl, ha⟩
  obtain rfl := ls_cons hl
  have hi := index_sl (P := Tryz.prog) (enc := encChange) (s := 6) (l := a ++ x :: r) (i := a.length) Tryz.underlying68 (by simp) (by omega) (by simp)
  have hr := sub_flat (enc := encChange) (s := 6) len_change a x r (o := 0) (n := 6) (by omega)
  have hw : IntKind.i64.wrap ((a.length : Int) + 1) = ((a ++ [x]).length : Int) := by rw [step_len]; exact step_wrap (by simp at ho; omega)
  have hx := hg x
  simp only [Nat.add_zero] at hr
  first | (refine hide ?_; intro Q2 hQ2) | have hQ2 := True.intro
  repeat' (first
   | (replace hQ2 := hQ2; simp [hi, hr, hx, hw, hc, sub_all (len_change x), outV, frzV, frzS, frzS_pure, frzP, pureS, pureL, K_own, hown])
   | (refine hQ2 _ _ _ ?_; clear hQ2 Q2; first | simp only [] | simp [hi, hr, hx, hw, hc, sub_all (len_change x), outV, frzV, frzS, frzS_pure, frzP, pureS, pureL, K_own, hown] | skip)
   | (refine hadQ (by assumption) ?_; (try clear hQ2); first | simp only [] | simp [hi, hr, hx, hw, hc, sub_all (len_change x), outV, frzV, frzS, frzS_pure, frzP, pureS, pureL, K_own, hown] | skip)
   | ((fail_if_success replace hQ2 := hQ2); (first | refine hide ?_ | refine hideS ?_ | refine hideB ?_); intro Q2 hQ2)
   | (first | apply cF | apply wN | apply wS) <;> intro hcnd <;> (try simp only [hcnd]) <;> (try simp [-List.isEmpty_iff, -List.isEmpty_eq_false_iff] at hcnd))
  all_goals first | omega | exact (idx_hit ha ‹_›).symm | (refine ex_get (by simp) ?_; intro y hy; rcases List.mem_append.mp hy with hy | hy; exact ha y hy; rw [List.mem_singleton.mp hy]; assumption) | skip
 ·rintro fr hh ⟨j, rfl, ha⟩
  first | (refine hide ?_; intro Q3 hQ3) | have hQ3 := True.intro
  repeat' (first
   | (replace hQ3 := hQ3; simp [idx_miss ha, outV, frzV, frzS, frzS_pure, frzP, pureS, pureL, K_own, hown])
   | (refine hQ3 _ _ _ ?_; clear hQ3 Q3; first | simp only [] | simp [idx_miss ha, outV, frzV, frzS, frzS_pure, frzP, pureS, pureL, K_own, hown] | skip)
   | (refine hadQ (by assumption) ?_; (try clear hQ3); first | simp only [] | simp [idx_miss ha, outV, frzV, frzS, frzS_pure, frzP, pureS, pureL, K_own, hown] | skip)
   | ((fail_if_success replace hQ3 := hQ3); (first | refine hide ?_ | refine hideS ?_ | refine hideB ?_); intro Q3 hQ3)
   | (first | apply cF | apply wN | apply wS) <;> intro hcnd <;> (try simp only [hcnd]) <;> (try simp [-List.isEmpty_iff, -List.isEmpty_eq_false_iff] at hcnd))
  all_goals first | done | (simp_all [-List.isEmpty_iff, -List.isEmpty_eq_false_iff, ← List.isEmpty_iff]; done) | (simp_all; done) | (simp_all; omega) | (simp; omega) | (intros; omega) | (intros; simp only [decide_eq_true_eq] at *; omega) | (intros; simp at *; omega) | skip
theorem containsChange_c (o : Option (List Wm.Change)) (g : Nat) (caps : List AS) (p : Wm.Change → Bool) (hg : ∀ x h, W K g (.agg (encChange x) :: caps.map AV.one) h = some (.ret (.one (.bool (p x))) h)) (hc : pureL false caps = true) (ho : (ls o).length < 9223372036854775807) (h : H) :
  W K 281 [.one (sl 6 encChange o), .one (.fn g [] caps)] h = some (.ret (.one (.bool ((ls o).any p))) h) := by
 have hi := indexChange_c o g caps p hg hc ho
 rw [← idx_any]
 have hown : memL S.own 281 = false := by kernel_rfl
 refine W_pure hp (by simp [pureV, hc, hi, outV, frzV, frzS, frzS_pure, frzP, pureS, pureL, K_own, hown]) (apart_does rfl rfl (by kernel_rfl) Tryz.func281 rfl (by simp [Tryz.f281]) ?_)
 simp only [Tryz.f281]
 refine hide ?_; intro Q4 hQ4
 repeat' (first
  | (replace hQ4 := hQ4; simp [hc, hi, outV, frzV, frzS, frzS_pure, frzP, pureS, pureL, K_own, hown])
  | refine hQ4 _ _ _ ?_)
theorem rightOp1_c (x : Change) (h : H) : W K 282 (.agg (encChange x) :: ([] : List AS).map AV.one) h = some (.ret (.one (.bool (changeWhy x != 0))) h) := by
 obtain ⟨c_kind, c_col, c_time, c_v_kind, c_v_b, c_v_n⟩ := x
 simp only [encChange, List.map_nil]
 have hown : memL S.own 282 = false := by kernel_rfl
 refine W_pure hp (by simp [pureV, changeRight_c, outV, frzV, frzS, frzS_pure, frzP, pureS, pureL, K_own, hown]) (apart_does rfl rfl (by kernel_rfl) Tryz.func282 rfl (by simp [Tryz.f282]) ?_)
 simp only [Tryz.f282]
 refine hide ?_; intro Q5 hQ5
 repeat' (first
  | (replace hQ5 := hQ5; simp [changeRight_c, outV, frzV, frzS, frzS_pure, frzP, pureS, pureL, K_own, hown])
  | refine hQ5 _ _ _ ?_)
theorem any_not {l : List Change} : (!l.any fun c => changeWhy c != 0) = l.all fun c => changeWhy c == 0 := by
 induction l with
 | nil => rfl
 | cons a l ih => rw [List.any_cons, List.all_cons, Bool.not_or, ih]; simp [bne]
theorem rightOp_c (o_kind : Int) (o_row : BL) (o_hi : BL) (o_cond_has : Bool) (o_cond_want : Bool) (o_cond_col : BL) (o_cond_v_kind : Int) (o_cond_v_b : Option BL) (o_cond_v_n : Nat) (o_l : Option (List Change)) (o_most : Int) (ho : (ls o_l).length < 9223372036854775807) (h : H) : W K 220 [.agg [ii o_kind, .str o_row, .str o_hi, .bool o_cond_has, .bool o_cond_want, .str o_cond_col, ii o_cond_v_kind, bs o_cond_v_b, .flt o_cond_v_n, sl 6 encChange o_l, ii o_most]] h = some (.ret (.one (.bool (opOk ⟨o_kind, o_row, o_hi, ⟨o_cond_has, o_cond_want, o_cond_col, ⟨o_cond_v_kind, o_cond_v_b, o_cond_v_n⟩⟩, o_l, o_most⟩))) h) := by
 have hcf := containsChange_c o_l 282 [] _ rightOp1_c rfl ho
 have hown : memL S.own 220 = false := by kernel_rfl
 refine W_pure hp (by simp [pureV, opOk, ← any_not, hcf, name_c, cond_c, spanRight_c, outV, frzV, frzS, frzS_pure, frzP, pureS, pureL, K_own, hown]) (apart_does rfl rfl (by kernel_rfl) Tryz.func220 rfl (by simp [Tryz.f220]) ?_)
 simp only [Tryz.f220]
 refine hide ?_; intro Q6 hQ6
 repeat' (first
  | (replace hQ6 := hQ6; simp [opOk, ← any_not, hcf, name_c, cond_c, spanRight_c, outV, frzV, frzS, frzS_pure, frzP, pureS, pureL, K_own, hown])
  | (refine hQ6 _ _ _ ?_; clear hQ6 Q6; first | simp only [] | simp [opOk, ← any_not, hcf, name_c, cond_c, spanRight_c, outV, frzV, frzS, frzS_pure, frzP, pureS, pureL, K_own, hown])
  | (first | apply cF | apply wN | apply wS) <;> intro hcnd <;> (try simp only [hcnd]) <;> (try simp [-List.isEmpty_iff, -List.isEmpty_eq_false_iff] at hcnd))
 all_goals first | done | (simp_all [-List.isEmpty_iff, -List.isEmpty_eq_false_iff, ← List.isEmpty_iff]; done) | (simp_all; done) | (simp_all; omega) | (simp; omega) | (intros; omega) | (intros; simp only [decide_eq_true_eq] at *; omega) | (intros; simp at *; omega) | skip
theorem right_c (c_kind : Int) (c_op_kind : Int) (c_op_row : BL) (c_op_hi : BL) (c_op_cond_has : Bool) (c_op_cond_want : Bool) (c_op_cond_col : BL) (c_op_cond_v_kind : Int) (c_op_cond_v_b : Option BL) (c_op_cond_v_n : Nat) (c_op_l : Option (List Change)) (c_op_most : Int) (c_span_lo : BL) (c_span_hi : BL) (c_gen : Int) (c_at : BL) (c_to : Int) (c_do : Int) (c_state : Option BL) (ho : (ls c_op_l).length < 9223372036854775807) (h : H) : W K 158 [.agg [ii c_kind, ii c_op_kind, .str c_op_row, .str c_op_hi, .bool c_op_cond_has, .bool c_op_cond_want, .str c_op_cond_col, ii c_op_cond_v_kind, bs c_op_cond_v_b, .flt c_op_cond_v_n, sl 6 encChange c_op_l, ii c_op_most, .str c_span_lo, .str c_span_hi, ii c_gen, .str c_at, ii c_to, ii c_do, bs c_state]] h = some (.ret (.one (.bool (cmdOk ⟨c_kind, ⟨c_op_kind, c_op_row, c_op_hi, ⟨c_op_cond_has, c_op_cond_want, c_op_cond_col, ⟨c_op_cond_v_kind, c_op_cond_v_b, c_op_cond_v_n⟩⟩, c_op_l, c_op_most⟩, ⟨c_span_lo, c_span_hi⟩, c_gen, c_at, c_to, c_do, c_state⟩))) h) := by
 have hop := rightOp_c c_op_kind c_op_row c_op_hi c_op_cond_has c_op_cond_want c_op_cond_col c_op_cond_v_kind c_op_cond_v_b c_op_cond_v_n c_op_l c_op_most ho
 have hown : memL S.own 158 = false := by kernel_rfl
 refine W_pure hp (by simp [pureV, cmdOk, hop, spanRight_c, gen_c, spanSplit_c, in_c, outV, frzV, frzS, frzS_pure, frzP, pureS, pureL, K_own, hown]) (apart_does rfl rfl (by kernel_rfl) Tryz.func158 rfl (by simp [Tryz.f158]) ?_)
 simp only [Tryz.f158]
 refine hide ?_; intro Q7 hQ7
 repeat' (first
  | (replace hQ7 := hQ7; simp [cmdOk, hop, spanRight_c, gen_c, spanSplit_c, in_c, outV, frzV, frzS, frzS_pure, frzP, pureS, pureL, K_own, hown])
  | (refine hQ7 _ _ _ ?_; clear hQ7 Q7; first | simp only [] | simp [cmdOk, hop, spanRight_c, gen_c, spanSplit_c, in_c, outV, frzV, frzS, frzS_pure, frzP, pureS, pureL, K_own, hown])
  | (first | apply cF | apply wN | apply wS) <;> intro hcnd <;> (try simp only [hcnd]) <;> (try simp [-List.isEmpty_iff, -List.isEmpty_eq_false_iff] at hcnd))
 all_goals first | done | (simp_all [-List.isEmpty_iff, -List.isEmpty_eq_false_iff, ← List.isEmpty_iff]; done) | (simp_all; done) | (simp_all; omega) | (simp; omega) | (intros; omega) | (intros; simp only [decide_eq_true_eq] at *; omega) | (intros; simp at *; omega) | skip
end Go.Proofs.YtofafocfemikcaaGreat
