/- A part of a proof over the abstract machine. No conditions. -/
import Derived.Test.YtmhbdpgflomihaaC1
/- Commands: what may be. No conditions. -/
namespace Go.Proofs.Ytmhbdpgflomihaa
open Go Go.Ab Wm
set_option linter.unusedSimpArgs false
set_option linter.unnecessarySimpa false
set_option linter.unusedVariables false
set_option maxRecDepth 10000
set_option maxHeartbeats 2000000
theorem sub_all {n : Nat} {l : List AS} (hl : l.length = n) : sub l 0 n = some l := by
  unfold sub; rw [if_pos (by omega), List.drop_zero, ← hl, List.take_length]
theorem indexChange_c (o : Option (List Change)) (g : Nat) (caps : List AS) (p : Change → Bool) (hg : ∀ x h, W K g (.agg (encChange x) :: caps.map AV.one) h = some (.ret (.one (.bool (p x))) h)) (hc : pureL false caps = true) (ho : (ls o).length < 9223372036854775807) (h : H) :
    W K 70 [.one (sl 6 encChange o), .one (.fn g [] caps)] h = some (.ret (.one (ii (idx p (ls o)))) h) := by
  refine W_pure hp (by simp [pureV, hc, outV, frzV, frzS, frzP, pureS, pureL, K_own]) (apart_does rfl rfl (by kernel_rfl) Try.func70 rfl (by simp [Try.f70]) ?_)
  simp only [Try.f70, List.length_cons, List.length_nil, List.replicate, List.cons_append, List.nil_append, Nat.reduceAdd, Nat.reduceSub]
  repeat' (first
    | (rw [doesO_cons]; simp [hc, outV, frzV, frzS, frzP, pureS, pureL, K_own])
    | (rw [doesO_nil']; refine hQ' _ _ _ ?_; clear hQ' Q'; first | simp only [] | simp [hc, outV, frzV, frzS, frzP, pureS, pureL, K_own])
    | refine does_seq hp ?_
    | (refine does_gen hp ?_; intro Q' hQ')
    | refine does_block hp ?_
    | (refine does_ret hp ?_; simp [hc, outV, frzV, frzS, frzP, pureS, pureL, K_own])
    | (refine does_skip hp ?_; simp [hc, outV, frzV, frzS, frzP, pureS, pureL, K_own])
    | (refine does_exit hp ?_; simp [hc, outV, frzV, frzS, frzP, pureS, pureL, K_own])
    | (refine does_cond' hp ?_; simp [hc, outV, frzV, frzS, frzP, pureS, pureL, K_own]; done)
    | (refine onW_split (fun hcnd => ?_) (fun hcnd => ?_) <;> simp only [hcnd] <;> (try simp [-List.isEmpty_iff, -List.isEmpty_eq_false_iff] at hcnd) <;> simp [hc, outV, frzV, frzS, frzP, pureS, pureL, K_own])
    | (refine does_cond' hp ?_; simp [hc, outV, frzV, frzS, frzP, pureS, pureL, K_own]; refine fork (fun hcnd => ?_) (fun hcnd => ?_) <;> (try simp only [hcnd]) <;> (try simp [-List.isEmpty_iff, -List.isEmpty_eq_false_iff] at hcnd))
    | (refine does_cond' hp ?_; simp [hc, outV, frzV, frzS, frzP, pureS, pureL, K_own]))
  refine does_each hp (ls o) (fun a r fr hh => ∃ j, fr = [.one (sl 6 encChange o), .one (.fn g [] caps), j 2, j 3, .one (ii 0), j 5, j 6, .one (ii (ls o).length), .one (ii a.length), j 9, j 10, j 11, j 12, j 13, j 14, j 15, j 16, j 17, j 18] ∧ ∀ y ∈ a, p y = false) ?_ ?_ _ _ (ex_get rfl (by simp))
  · rintro a x r fr hh hl ⟨j, rfl, ha⟩
    obtain rfl := ls_cons hl
    have hi := index_sl (P := Try.prog) (enc := encChange) (s := 6) (l := a ++ x :: r) (i := a.length) Try.underlying39 (by simp) (by omega) (by simp)
    have hr := sub_flat (enc := encChange) (s := 6) len_change a x r (o := 0) (n := 6) (by omega)
    have hw : IntKind.i64.wrap ((a.length : Int) + 1) = ((a ++ [x]).length : Int) := by rw [step_len]; exact step_wrap (by simp at ho; omega)
    have hx := hg x
    simp only [Nat.add_zero] at hr
    repeat' (first
      | (rw [doesO_cons]; simp [hi, hr, hx, hw, hc, sub_all (len_change x), outV, frzV, frzS, frzP, pureS, pureL, K_own])
      | (rw [doesO_nil']; refine hQ' _ _ _ ?_; clear hQ' Q'; first | simp only [] | simp [hi, hr, hx, hw, hc, sub_all (len_change x), outV, frzV, frzS, frzP, pureS, pureL, K_own])
      | refine does_seq hp ?_
      | (refine does_gen hp ?_; intro Q' hQ')
      | refine does_block hp ?_
      | (refine does_ret hp ?_; simp [hi, hr, hx, hw, hc, sub_all (len_change x), outV, frzV, frzS, frzP, pureS, pureL, K_own])
      | (refine does_skip hp ?_; simp [hi, hr, hx, hw, hc, sub_all (len_change x), outV, frzV, frzS, frzP, pureS, pureL, K_own])
      | (refine does_exit hp ?_; simp [hi, hr, hx, hw, hc, sub_all (len_change x), outV, frzV, frzS, frzP, pureS, pureL, K_own])
      | (refine does_cond' hp ?_; simp [hi, hr, hx, hw, hc, sub_all (len_change x), outV, frzV, frzS, frzP, pureS, pureL, K_own]; done)
      | (refine onW_split (fun hcnd => ?_) (fun hcnd => ?_) <;> simp only [hcnd] <;> (try simp [-List.isEmpty_iff, -List.isEmpty_eq_false_iff] at hcnd) <;> simp [hi, hr, hx, hw, hc, sub_all (len_change x), outV, frzV, frzS, frzP, pureS, pureL, K_own])
      | (refine does_cond' hp ?_; simp [hi, hr, hx, hw, hc, sub_all (len_change x), outV, frzV, frzS, frzP, pureS, pureL, K_own]; refine fork (fun hcnd => ?_) (fun hcnd => ?_) <;> (try simp only [hcnd]) <;> (try simp [-List.isEmpty_iff, -List.isEmpty_eq_false_iff] at hcnd))
      | (refine does_cond' hp ?_; simp [hi, hr, hx, hw, hc, sub_all (len_change x), outV, frzV, frzS, frzP, pureS, pureL, K_own]))
    all_goals first | omega | exact (idx_hit ha ‹_›).symm | (refine ⟨ex_get' rfl, ?_⟩; rintro y (hy | rfl); exact ha y hy; assumption) | skip
  · rintro fr hh ⟨j, rfl, ha⟩
    repeat' (first
      | (rw [doesO_cons]; simp [idx_miss ha, outV, frzV, frzS, frzP, pureS, pureL, K_own])
      | (rw [doesO_nil']; refine hQ' _ _ _ ?_; clear hQ' Q'; first | simp only [] | simp [idx_miss ha, outV, frzV, frzS, frzP, pureS, pureL, K_own])
      | refine does_seq hp ?_
      | (refine does_gen hp ?_; intro Q' hQ')
      | refine does_block hp ?_
      | (refine does_ret hp ?_; simp [idx_miss ha, outV, frzV, frzS, frzP, pureS, pureL, K_own])
      | (refine does_skip hp ?_; simp [idx_miss ha, outV, frzV, frzS, frzP, pureS, pureL, K_own])
      | (refine does_exit hp ?_; simp [idx_miss ha, outV, frzV, frzS, frzP, pureS, pureL, K_own])
      | (refine does_cond' hp ?_; simp [idx_miss ha, outV, frzV, frzS, frzP, pureS, pureL, K_own]; done)
      | (refine onW_split (fun hcnd => ?_) (fun hcnd => ?_) <;> simp only [hcnd] <;> (try simp [-List.isEmpty_iff, -List.isEmpty_eq_false_iff] at hcnd) <;> simp [idx_miss ha, outV, frzV, frzS, frzP, pureS, pureL, K_own])
      | (refine does_cond' hp ?_; simp [idx_miss ha, outV, frzV, frzS, frzP, pureS, pureL, K_own]; refine fork (fun hcnd => ?_) (fun hcnd => ?_) <;> (try simp only [hcnd]) <;> (try simp [-List.isEmpty_iff, -List.isEmpty_eq_false_iff] at hcnd))
      | (refine does_cond' hp ?_; simp [idx_miss ha, outV, frzV, frzS, frzP, pureS, pureL, K_own]))
    all_goals first | done | (simp_all [-List.isEmpty_iff, -List.isEmpty_eq_false_iff, ← List.isEmpty_iff]; done) | (simp_all; done) | (simp_all; omega) | (simp; omega) | (intros; omega) | (intros; simp only [decide_eq_true_eq] at *; omega) | (intros; simp at *; omega) | skip
theorem containsChange_c (o : Option (List Change)) (g : Nat) (caps : List AS) (p : Change → Bool) (hg : ∀ x h, W K g (.agg (encChange x) :: caps.map AV.one) h = some (.ret (.one (.bool (p x))) h)) (hc : pureL false caps = true) (ho : (ls o).length < 9223372036854775807) (h : H) :
    W K 60 [.one (sl 6 encChange o), .one (.fn g [] caps)] h = some (.ret (.one (.bool ((ls o).any p))) h) := by
  have hi := indexChange_c o g caps p hg hc ho
  rw [← idx_any]
  refine W_pure hp (by simp [pureV, hc, hi, outV, frzV, frzS, frzP, pureS, pureL, K_own]) (apart_does rfl rfl (by kernel_rfl) Try.func60 rfl (by simp [Try.f60]) ?_)
  simp only [Try.f60, List.length_cons, List.length_nil, List.replicate, List.cons_append, List.nil_append, Nat.reduceAdd, Nat.reduceSub]
  repeat' (first
    | (rw [doesO_cons]; simp [hc, hi, outV, frzV, frzS, frzP, pureS, pureL, K_own])
    | (rw [doesO_nil']; refine hQ' _ _ _ ?_; clear hQ' Q'; first | simp only [] | simp [hc, hi, outV, frzV, frzS, frzP, pureS, pureL, K_own])
    | refine does_seq hp ?_
    | (refine does_gen hp ?_; intro Q' hQ')
    | refine does_block hp ?_
    | (refine does_ret hp ?_; simp [hc, hi, outV, frzV, frzS, frzP, pureS, pureL, K_own])
    | (refine does_skip hp ?_; simp [hc, hi, outV, frzV, frzS, frzP, pureS, pureL, K_own])
    | (refine does_exit hp ?_; simp [hc, hi, outV, frzV, frzS, frzP, pureS, pureL, K_own])
    | (refine does_cond' hp ?_; simp [hc, hi, outV, frzV, frzS, frzP, pureS, pureL, K_own]; done)
    | (refine onW_split (fun hcnd => ?_) (fun hcnd => ?_) <;> simp only [hcnd] <;> (try simp [-List.isEmpty_iff, -List.isEmpty_eq_false_iff] at hcnd) <;> simp [hc, hi, outV, frzV, frzS, frzP, pureS, pureL, K_own])
    | (refine does_cond' hp ?_; simp [hc, hi, outV, frzV, frzS, frzP, pureS, pureL, K_own]; refine fork (fun hcnd => ?_) (fun hcnd => ?_) <;> (try simp only [hcnd]) <;> (try simp [-List.isEmpty_iff, -List.isEmpty_eq_false_iff] at hcnd))
    | (refine does_cond' hp ?_; simp [hc, hi, outV, frzV, frzS, frzP, pureS, pureL, K_own]))
theorem rightOp1_c (x : Change) (h : H) : W K 61 (.agg (encChange x) :: ([] : List AS).map AV.one) h = some (.ret (.one (.bool (changeWhy x != 0))) h) := by
  obtain ⟨c_kind, c_col, c_time, c_v_kind, c_v_b, c_v_n⟩ := x
  simp only [encChange, List.map_nil]
  refine W_pure hp (by simp [pureV, changeRight_c, outV, frzV, frzS, frzP, pureS, pureL, K_own]) (apart_does rfl rfl (by kernel_rfl) Try.func61 rfl (by simp [Try.f61]) ?_)
  simp only [Try.f61, List.length_cons, List.length_nil, List.replicate, List.cons_append, List.nil_append, Nat.reduceAdd, Nat.reduceSub]
  repeat' (first
    | (rw [doesO_cons]; simp [changeRight_c, outV, frzV, frzS, frzP, pureS, pureL, K_own])
    | (rw [doesO_nil']; refine hQ' _ _ _ ?_; clear hQ' Q'; first | simp only [] | simp [changeRight_c, outV, frzV, frzS, frzP, pureS, pureL, K_own])
    | refine does_seq hp ?_
    | (refine does_gen hp ?_; intro Q' hQ')
    | refine does_block hp ?_
    | (refine does_ret hp ?_; simp [changeRight_c, outV, frzV, frzS, frzP, pureS, pureL, K_own])
    | (refine does_skip hp ?_; simp [changeRight_c, outV, frzV, frzS, frzP, pureS, pureL, K_own])
    | (refine does_exit hp ?_; simp [changeRight_c, outV, frzV, frzS, frzP, pureS, pureL, K_own])
    | (refine does_cond' hp ?_; simp [changeRight_c, outV, frzV, frzS, frzP, pureS, pureL, K_own]; done)
    | (refine onW_split (fun hcnd => ?_) (fun hcnd => ?_) <;> simp only [hcnd] <;> (try simp [-List.isEmpty_iff, -List.isEmpty_eq_false_iff] at hcnd) <;> simp [changeRight_c, outV, frzV, frzS, frzP, pureS, pureL, K_own])
    | (refine does_cond' hp ?_; simp [changeRight_c, outV, frzV, frzS, frzP, pureS, pureL, K_own]; refine fork (fun hcnd => ?_) (fun hcnd => ?_) <;> (try simp only [hcnd]) <;> (try simp [-List.isEmpty_iff, -List.isEmpty_eq_false_iff] at hcnd))
    | (refine does_cond' hp ?_; simp [changeRight_c, outV, frzV, frzS, frzP, pureS, pureL, K_own]))
theorem any_not {l : List Change} : (!l.any fun c => changeWhy c != 0) = l.all fun c => changeWhy c == 0 := by
  induction l with
  | nil => rfl
  | cons a l ih => rw [List.any_cons, List.all_cons, Bool.not_or, ih]; simp [bne]
theorem rightOp_c (o_kind : Int) (o_row : BL) (o_hi : BL) (o_cond_has : Bool) (o_cond_want : Bool) (o_cond_col : BL) (o_cond_v_kind : Int) (o_cond_v_b : Option BL) (o_cond_v_n : Nat) (o_l : Option (List Change)) (o_most : Int) (ho : (ls o_l).length < 9223372036854775807) (h : H) : W K 36 [.agg [ii o_kind, .str o_row, .str o_hi, .bool o_cond_has, .bool o_cond_want, .str o_cond_col, ii o_cond_v_kind, bs o_cond_v_b, .flt o_cond_v_n, sl 6 encChange o_l, ii o_most]] h = some (.ret (.one (.bool (opOk ⟨o_kind, o_row, o_hi, ⟨o_cond_has, o_cond_want, o_cond_col, ⟨o_cond_v_kind, o_cond_v_b, o_cond_v_n⟩⟩, o_l, o_most⟩))) h) := by
  have hcf := containsChange_c o_l 61 [] _ rightOp1_c rfl ho
  refine W_pure hp (by simp [pureV, opOk, ← any_not, hcf, name_c, cond_c, spanRight_c, outV, frzV, frzS, frzP, pureS, pureL, K_own]) (apart_does rfl rfl (by kernel_rfl) Try.func36 rfl (by simp [Try.f36]) ?_)
  simp only [Try.f36, List.length_cons, List.length_nil, List.replicate, List.cons_append, List.nil_append, Nat.reduceAdd, Nat.reduceSub]
  repeat' (first
    | (rw [doesO_cons]; simp [opOk, ← any_not, hcf, name_c, cond_c, spanRight_c, outV, frzV, frzS, frzP, pureS, pureL, K_own])
    | (rw [doesO_nil']; refine hQ' _ _ _ ?_; clear hQ' Q'; first | simp only [] | simp [opOk, ← any_not, hcf, name_c, cond_c, spanRight_c, outV, frzV, frzS, frzP, pureS, pureL, K_own])
    | refine does_seq hp ?_
    | (refine does_gen hp ?_; intro Q' hQ')
    | refine does_block hp ?_
    | (refine does_ret hp ?_; simp [opOk, ← any_not, hcf, name_c, cond_c, spanRight_c, outV, frzV, frzS, frzP, pureS, pureL, K_own])
    | (refine does_skip hp ?_; simp [opOk, ← any_not, hcf, name_c, cond_c, spanRight_c, outV, frzV, frzS, frzP, pureS, pureL, K_own])
    | (refine does_exit hp ?_; simp [opOk, ← any_not, hcf, name_c, cond_c, spanRight_c, outV, frzV, frzS, frzP, pureS, pureL, K_own])
    | (refine does_cond' hp ?_; simp [opOk, ← any_not, hcf, name_c, cond_c, spanRight_c, outV, frzV, frzS, frzP, pureS, pureL, K_own]; done)
    | (refine onW_split (fun hcnd => ?_) (fun hcnd => ?_) <;> simp only [hcnd] <;> (try simp [-List.isEmpty_iff, -List.isEmpty_eq_false_iff] at hcnd) <;> simp [opOk, ← any_not, hcf, name_c, cond_c, spanRight_c, outV, frzV, frzS, frzP, pureS, pureL, K_own])
    | (refine does_cond' hp ?_; simp [opOk, ← any_not, hcf, name_c, cond_c, spanRight_c, outV, frzV, frzS, frzP, pureS, pureL, K_own]; refine fork (fun hcnd => ?_) (fun hcnd => ?_) <;> (try simp only [hcnd]) <;> (try simp [-List.isEmpty_iff, -List.isEmpty_eq_false_iff] at hcnd))
    | (refine does_cond' hp ?_; simp [opOk, ← any_not, hcf, name_c, cond_c, spanRight_c, outV, frzV, frzS, frzP, pureS, pureL, K_own]))
  all_goals first | done | (simp_all [-List.isEmpty_iff, -List.isEmpty_eq_false_iff, ← List.isEmpty_iff]; done) | (simp_all; done) | (simp_all; omega) | (simp; omega) | (intros; omega) | (intros; simp only [decide_eq_true_eq] at *; omega) | (intros; simp at *; omega) | skip
theorem right_c (c_kind : Int) (c_op_kind : Int) (c_op_row : BL) (c_op_hi : BL) (c_op_cond_has : Bool) (c_op_cond_want : Bool) (c_op_cond_col : BL) (c_op_cond_v_kind : Int) (c_op_cond_v_b : Option BL) (c_op_cond_v_n : Nat) (c_op_l : Option (List Change)) (c_op_most : Int) (c_span_lo : BL) (c_span_hi : BL) (c_gen : Int) (c_at : BL) (c_to : Int) (c_do : Int) (c_state : Option BL) (ho : (ls c_op_l).length < 9223372036854775807) (h : H) : W K 19 [.agg [ii c_kind, ii c_op_kind, .str c_op_row, .str c_op_hi, .bool c_op_cond_has, .bool c_op_cond_want, .str c_op_cond_col, ii c_op_cond_v_kind, bs c_op_cond_v_b, .flt c_op_cond_v_n, sl 6 encChange c_op_l, ii c_op_most, .str c_span_lo, .str c_span_hi, ii c_gen, .str c_at, ii c_to, ii c_do, bs c_state]] h = some (.ret (.one (.bool (cmdOk ⟨c_kind, ⟨c_op_kind, c_op_row, c_op_hi, ⟨c_op_cond_has, c_op_cond_want, c_op_cond_col, ⟨c_op_cond_v_kind, c_op_cond_v_b, c_op_cond_v_n⟩⟩, c_op_l, c_op_most⟩, ⟨c_span_lo, c_span_hi⟩, c_gen, c_at, c_to, c_do, c_state⟩))) h) := by
  have hop := rightOp_c c_op_kind c_op_row c_op_hi c_op_cond_has c_op_cond_want c_op_cond_col c_op_cond_v_kind c_op_cond_v_b c_op_cond_v_n c_op_l c_op_most ho
  refine W_pure hp (by simp [pureV, cmdOk, hop, spanRight_c, gen_c, spanSplit_c, in_c, outV, frzV, frzS, frzP, pureS, pureL, K_own]) (apart_does rfl rfl (by kernel_rfl) Try.func19 rfl (by simp [Try.f19]) ?_)
  simp only [Try.f19, List.length_cons, List.length_nil, List.replicate, List.cons_append, List.nil_append, Nat.reduceAdd, Nat.reduceSub]
  repeat' (first
    | (rw [doesO_cons]; simp [cmdOk, hop, spanRight_c, gen_c, spanSplit_c, in_c, outV, frzV, frzS, frzP, pureS, pureL, K_own])
    | (rw [doesO_nil']; refine hQ' _ _ _ ?_; clear hQ' Q'; first | simp only [] | simp [cmdOk, hop, spanRight_c, gen_c, spanSplit_c, in_c, outV, frzV, frzS, frzP, pureS, pureL, K_own])
    | refine does_seq hp ?_
    | (refine does_gen hp ?_; intro Q' hQ')
    | refine does_block hp ?_
    | (refine does_ret hp ?_; simp [cmdOk, hop, spanRight_c, gen_c, spanSplit_c, in_c, outV, frzV, frzS, frzP, pureS, pureL, K_own])
    | (refine does_skip hp ?_; simp [cmdOk, hop, spanRight_c, gen_c, spanSplit_c, in_c, outV, frzV, frzS, frzP, pureS, pureL, K_own])
    | (refine does_exit hp ?_; simp [cmdOk, hop, spanRight_c, gen_c, spanSplit_c, in_c, outV, frzV, frzS, frzP, pureS, pureL, K_own])
    | (refine does_cond' hp ?_; simp [cmdOk, hop, spanRight_c, gen_c, spanSplit_c, in_c, outV, frzV, frzS, frzP, pureS, pureL, K_own]; done)
    | (refine onW_split (fun hcnd => ?_) (fun hcnd => ?_) <;> simp only [hcnd] <;> (try simp [-List.isEmpty_iff, -List.isEmpty_eq_false_iff] at hcnd) <;> simp [cmdOk, hop, spanRight_c, gen_c, spanSplit_c, in_c, outV, frzV, frzS, frzP, pureS, pureL, K_own])
    | (refine does_cond' hp ?_; simp [cmdOk, hop, spanRight_c, gen_c, spanSplit_c, in_c, outV, frzV, frzS, frzP, pureS, pureL, K_own]; refine fork (fun hcnd => ?_) (fun hcnd => ?_) <;> (try simp only [hcnd]) <;> (try simp [-List.isEmpty_iff, -List.isEmpty_eq_false_iff] at hcnd))
    | (refine does_cond' hp ?_; simp [cmdOk, hop, spanRight_c, gen_c, spanSplit_c, in_c, outV, frzV, frzS, frzP, pureS, pureL, K_own]))
  all_goals first | done | (simp_all [-List.isEmpty_iff, -List.isEmpty_eq_false_iff, ← List.isEmpty_iff]; done) | (simp_all; done) | (simp_all; omega) | (simp; omega) | (intros; omega) | (intros; simp only [decide_eq_true_eq] at *; omega) | (intros; simp at *; omega) | skip
end Go.Proofs.Ytmhbdpgflomihaa
