/- A part of a proof over the abstract machine. No conditions. -/
import Derived.Test.YtmhbdpgflomihaaC9
/- A client: told what to do, asking, waiting. No conditions. -/
namespace Go.Proofs.Ytmhbdpgflomihaa
open Go Go.Ab Wm NumPlain
set_option linter.unusedSimpArgs false
set_option linter.unnecessarySimpa false
set_option linter.unusedVariables false
set_option maxRecDepth 10000
set_option maxHeartbeats 4000000
theorem submit_c (o_kind : Int) (o_row : BL) (o_hi : BL) (o_cond_has : Bool) (o_cond_want : Bool) (o_cond_col : BL) (o_cond_v_kind : Int) (o_cond_v_b : Option BL) (o_cond_v_n : Nat) (o_l : Option (List Change)) (o_most : Int) (hok : opOk ⟨o_kind, o_row, o_hi, ⟨o_cond_has, o_cond_want, o_cond_col, ⟨o_cond_v_kind, o_cond_v_b, o_cond_v_n⟩⟩, o_l, o_most⟩ = true) (h1 : o_row.length ≤ 1048576) (h2 : o_hi.length ≤ 1048576) (h3 : o_cond_col.length ≤ 1048576) (h4 : (ls o_cond_v_b).length ≤ 1048576) (h5 : ∀ c ∈ ls o_l, c.col.length ≤ 1048576 ∧ (ls c.v.b).length ≤ 1048576) (h6 : (ls o_l).length < 9223372036854775807)
    (hl : (u8 1 :: encOpB ⟨o_kind, o_row, o_hi, ⟨o_cond_has, o_cond_want, o_cond_col, ⟨o_cond_v_kind, o_cond_v_b, o_cond_v_n⟩⟩, o_l, o_most⟩).length ≤ 1099511627776) {h : H} {p : Nat} (hp1 : p < h.next) {id n seq : Int} {row : BL} {op : Option BL} {w g : Int} (hs : 0 ≤ seq ∧ seq < 1000) (hf : h.f p = some (cliB id n seq false row op w g)) :
    W K 6 [.one (.ptr p 0 0), .agg [ii o_kind, .str o_row, .str o_hi, .bool o_cond_has, .bool o_cond_want, .str o_cond_col, ii o_cond_v_kind, bs o_cond_v_b, .flt o_cond_v_n, sl 6 encChange o_l, ii o_most]] h = some (.ret (.tup [(false, [ii (seq + 1)]), (false, [ii 0])]) ((h.new ⟨0, [11], true, [ii o_kind, .str o_row, .str o_hi, .bool o_cond_has, .bool o_cond_want, .str o_cond_col, ii o_cond_v_kind, bs o_cond_v_b, .flt o_cond_v_n, sl 6 encChange o_l, ii o_most]⟩).set p (cliB id n (seq + 1) true o_row (some (u8 1 :: encOpB ⟨o_kind, o_row, o_hi, ⟨o_cond_has, o_cond_want, o_cond_col, ⟨o_cond_v_kind, o_cond_v_b, o_cond_v_n⟩⟩, o_l, o_most⟩)) 0 0))) := by
  have he := fun h => encode_op o_kind o_row o_hi o_cond_has o_cond_want o_cond_col o_cond_v_kind o_cond_v_b o_cond_v_n o_l o_most hok h1 h2 h3 h4 h5 h6 [] [] [] 0 0 0 none (by simpa using hl) h
  simp only [bs_none] at he
  have hw : IntKind.i64.wrap (seq + 1) = seq + 1 := wrap_i64 (by omega) (by omega)
  have hne : ¬ p = h.next := by omega
  have hne2 : ¬ h.next = p := by omega
  have hd : decide (1073741824 ≤ seq) = false := by simp; omega
  have hd2 : ¬ 1073741824 ≤ seq := by omega
  refine W_does hp rfl rfl rfl Try.func6 rfl (by simp [Try.f6]) ?_
  simp only [Try.f6, List.length_cons, List.length_nil, List.replicate, List.cons_append, List.nil_append, Nat.reduceAdd, Nat.reduceSub]
  repeat' (first
    | (rw [doesO_cons]; simp [hf, he, hw, hne, hne2, hd, hd2])
    | (rw [doesO_nil']; refine hQ' _ _ _ ?_; clear hQ' Q'; first | simp only [] | simp [hf, he, hw, hne, hne2, hd, hd2])
    | (simp only [List.append_eq]; simp only [List.cons_append, List.nil_append])
    | (rw [doesD_cons]; simp [hf, he, hw, hne, hne2, hd, hd2])
    | (rw [doesD_nil]; refine hQ' _ _ _ ?_; clear hQ' Q'; first | simp only [] | simp [hf, he, hw, hne, hne2, hd, hd2])
    | refine does_seq hp ?_
    | (refine does_gen hp ?_; intro Q' hQ')
    | (refine doesD_gen (id := 9) hp [0, 1, 2, 3, 4, 5, 6, 7, 8, 9, 10, 11, 12, 13, 14] [(4, 8)] (by kernel_rfl) ?_; intro Q' hQ')
    | refine does_block hp ?_
    | (refine does_ret hp ?_; simp [hf, he, hw, hne, hne2, hd, hd2])
    | (refine does_skip hp ?_; simp [hf, he, hw, hne, hne2, hd, hd2])
    | (refine does_exit hp ?_; simp [hf, he, hw, hne, hne2, hd, hd2])
    | (refine does_cond' hp ?_; simp [hf, he, hw, hne, hne2, hd, hd2]; done)
    | (refine onW_split (fun hcnd => ?_) (fun hcnd => ?_) <;> simp only [hcnd] <;> (try simp [-List.isEmpty_iff, -List.isEmpty_eq_false_iff] at hcnd) <;> simp [hf, he, hw, hne, hne2, hd, hd2])
    | (refine does_cond' hp ?_; simp [hf, he, hw, hne, hne2, hd, hd2]; refine fork (fun hcnd => ?_) (fun hcnd => ?_) <;> (try simp only [hcnd]) <;> (try simp [-List.isEmpty_iff, -List.isEmpty_eq_false_iff] at hcnd))
    | (refine does_cond' hp ?_; simp [hf, he, hw, hne, hne2, hd, hd2]))
  all_goals rfl
theorem submit_busy (o_kind : Int) (o_row : BL) (o_hi : BL) (o_cond_has : Bool) (o_cond_want : Bool) (o_cond_col : BL) (o_cond_v_kind : Int) (o_cond_v_b : Option BL) (o_cond_v_n : Nat) (o_l : Option (List Change)) (o_most : Int) (hok : opOk ⟨o_kind, o_row, o_hi, ⟨o_cond_has, o_cond_want, o_cond_col, ⟨o_cond_v_kind, o_cond_v_b, o_cond_v_n⟩⟩, o_l, o_most⟩ = true) (h1 : o_row.length ≤ 1048576) (h2 : o_hi.length ≤ 1048576) (h3 : o_cond_col.length ≤ 1048576) (h4 : (ls o_cond_v_b).length ≤ 1048576) (h5 : ∀ c ∈ ls o_l, c.col.length ≤ 1048576 ∧ (ls c.v.b).length ≤ 1048576) (h6 : (ls o_l).length < 9223372036854775807)
    (hl : (u8 1 :: encOpB ⟨o_kind, o_row, o_hi, ⟨o_cond_has, o_cond_want, o_cond_col, ⟨o_cond_v_kind, o_cond_v_b, o_cond_v_n⟩⟩, o_l, o_most⟩).length ≤ 1099511627776) {h : H} {p : Nat} (hp1 : p < h.next) {id n seq : Int} {row : BL} {op : Option BL} {w g : Int} (hf : h.f p = some (cliB id n seq true row op w g)) :
    W K 6 [.one (.ptr p 0 0), .agg [ii o_kind, .str o_row, .str o_hi, .bool o_cond_has, .bool o_cond_want, .str o_cond_col, ii o_cond_v_kind, bs o_cond_v_b, .flt o_cond_v_n, sl 6 encChange o_l, ii o_most]] h = some (.ret (.tup [(false, [ii 0]), (false, [ii 4])]) (h.new ⟨0, [11], true, [ii o_kind, .str o_row, .str o_hi, .bool o_cond_has, .bool o_cond_want, .str o_cond_col, ii o_cond_v_kind, bs o_cond_v_b, .flt o_cond_v_n, sl 6 encChange o_l, ii o_most]⟩)) := by
  have he := fun h => encode_op o_kind o_row o_hi o_cond_has o_cond_want o_cond_col o_cond_v_kind o_cond_v_b o_cond_v_n o_l o_most hok h1 h2 h3 h4 h5 h6 [] [] [] 0 0 0 none (by simpa using hl) h
  simp only [bs_none] at he
  have hne : ¬ p = h.next := by omega
  have hne2 : ¬ h.next = p := by omega
  refine W_does hp rfl rfl rfl Try.func6 rfl (by simp [Try.f6]) ?_
  simp only [Try.f6, List.length_cons, List.length_nil, List.replicate, List.cons_append, List.nil_append, Nat.reduceAdd, Nat.reduceSub]
  repeat' (first
    | (rw [doesO_cons]; simp [hf, he, hne, hne2])
    | (rw [doesO_nil']; refine hQ' _ _ _ ?_; clear hQ' Q'; first | simp only [] | simp [hf, he, hne, hne2])
    | (simp only [List.append_eq]; simp only [List.cons_append, List.nil_append])
    | (rw [doesD_cons]; simp [hf, he, hne, hne2])
    | (rw [doesD_nil]; refine hQ' _ _ _ ?_; clear hQ' Q'; first | simp only [] | simp [hf, he, hne, hne2])
    | refine does_seq hp ?_
    | (refine does_gen hp ?_; intro Q' hQ')
    | (refine doesD_gen (id := 9) hp [0, 1, 2, 3, 4, 5, 6, 7, 8, 9, 10, 11, 12, 13, 14] [(4, 8)] (by kernel_rfl) ?_; intro Q' hQ')
    | refine does_block hp ?_
    | (refine does_ret hp ?_; simp [hf, he, hne, hne2])
    | (refine does_skip hp ?_; simp [hf, he, hne, hne2])
    | (refine does_exit hp ?_; simp [hf, he, hne, hne2])
    | (refine does_cond' hp ?_; simp [hf, he, hne, hne2]; done)
    | (refine onW_split (fun hcnd => ?_) (fun hcnd => ?_) <;> simp only [hcnd] <;> (try simp [-List.isEmpty_iff, -List.isEmpty_eq_false_iff] at hcnd) <;> simp [hf, he, hne, hne2])
    | (refine does_cond' hp ?_; simp [hf, he, hne, hne2]; refine fork (fun hcnd => ?_) (fun hcnd => ?_) <;> (try simp only [hcnd]) <;> (try simp [-List.isEmpty_iff, -List.isEmpty_eq_false_iff] at hcnd))
    | (refine does_cond' hp ?_; simp [hf, he, hne, hne2]))
  all_goals rfl
abbrev askM (id seq : Int) (b : BL) (t : Nat) : List AS := [ii 1, ii 0, ii (100 + id), ii t, ii 0, ii 0, ii id, ii seq, bs (some b), .nilslc]
theorem len_askM (id seq : Int) (b : BL) (t : Nat) : (askM id seq b t).length = 10 := rfl
theorem ask_c {h : H} {p : Nat} (hp1 : p < h.next) {id seq : Int} {row : BL} {op : Option BL} {w g : Int} (hi : 0 ≤ id ∧ id < 4) (hr : row.length ≤ 16) (hf : h.f p = some (cliB id 3 seq true row op w g)) :
    ∃ r, W K 17 [.one (.ptr p 0 0)] h = some r ∧ ∃ s h', r = .ret (.one s) h' ∧ Grown h' 10 (askM id seq (u8 7 :: textB row)) s (List.range 3) ∧ h.next ≤ h'.next ∧ (∀ b, b < h.next → h'.f b = h.f b) ∧ ∀ b, ownB s = some b → h.next ≤ b := by
  have hc := client_c id (by omega)
  have hne : ¬ p = h.next := by omega
  have hne2 : ¬ h.next = p := by omega
  have hfi : ∀ k, W K 33 [.one (.ptr p 0 0)] (h.new k) = some (.ret (.one (ii (-1))) (h.new k)) := fun k => find_c (by rw [new_at, if_neg hne]; exact hf)
  have he := fun h => encode_loc row hr h
  refine W_doesQ hp rfl rfl rfl Try.func17 rfl (by simp [Try.f17]) ?_
  simp only [Try.f17, List.length_cons, List.length_nil, List.replicate, List.cons_append, List.nil_append, Nat.reduceAdd, Nat.reduceSub]
  repeat' (first
    | (rw [doesO_cons]; simp [hf, hc, hne, hne2, hfi, he])
    | (rw [doesO_nil']; refine hQ' _ _ _ ?_; clear hQ' Q'; first | simp only [] | simp [hf, hc, hne, hne2, hfi, he])
    | (simp only [List.append_eq]; simp only [List.cons_append, List.nil_append])
    | (rw [doesD_cons]; simp [hf, hc, hne, hne2, hfi, he])
    | (rw [doesD_nil]; refine hQ' _ _ _ ?_; clear hQ' Q'; first | simp only [] | simp [hf, hc, hne, hne2, hfi, he])
    | refine does_seq hp ?_
    | (refine does_gen hp ?_; intro Q' hQ')
    | (refine doesD_gen (id := 1) hp [0, 1, 2, 3, 4, 5, 6, 7, 8, 9, 10, 11, 12, 13, 14, 15] [(4, 8), (4, 12)] (by kernel_rfl) ?_; intro Q' hQ')
    | (refine doesD_gen (id := 4) hp [0, 1, 2, 3, 4, 5, 6, 7, 8, 9, 10, 11, 12, 13, 14, 15] [(11, 13)] (by kernel_rfl) ?_; intro Q' hQ')
    | refine does_block hp ?_
    | (refine does_ret hp ?_; simp [hf, hc, hne, hne2, hfi, he])
    | (refine does_skip hp ?_; simp [hf, hc, hne, hne2, hfi, he])
    | (refine does_exit hp ?_; simp [hf, hc, hne, hne2, hfi, he])
    | (refine does_cond' hp ?_; simp [hf, hc, hne, hne2, hfi, he]; done)
    | (refine onW_split (fun hcnd => ?_) (fun hcnd => ?_) <;> simp only [hcnd] <;> (try simp [-List.isEmpty_iff, -List.isEmpty_eq_false_iff] at hcnd) <;> simp [hf, hc, hne, hne2, hfi, he])
    | (refine does_cond' hp ?_; simp [hf, hc, hne, hne2, hfi, he]; refine fork (fun hcnd => ?_) (fun hcnd => ?_) <;> (try simp only [hcnd]) <;> (try simp [-List.isEmpty_iff, -List.isEmpty_eq_false_iff] at hcnd))
    | (refine does_cond' hp ?_; simp [hf, hc, hne, hne2, hfi, he]))
  refine does_count hp 3 (fun i fr hh => ∃ s, (∃ t : Nat, hh.f h.next = some ⟨0, [10], true, askM id seq (u8 7 :: textB row) t⟩) ∧ Grown hh 10 (askM id seq (u8 7 :: textB row)) s (List.range i) ∧ h.next + 1 ≤ hh.next ∧ (∀ b, b < h.next → hh.f b = h.f b) ∧ (∀ b, ownB s = some b → h.next < b) ∧ ∃ j, fr = ((.one (.ptr p 0 0)) :: j 1 :: j 2 :: (.one (.ptr h.next 0 0)) :: j 4 :: (.one s) :: j 6 :: j 7 :: j 8 :: j 9 :: j 10 :: j 11 :: j 12 :: j 13 :: j 14 :: j 15 :: j 16 :: j 17 :: j 18 :: j 19 :: j 20 :: j 21 :: j 22 :: j 23 :: j 24 :: j 25 :: j 26 :: j 27 :: j 28 :: j 29 :: j 30 :: j 31 :: j 32 :: j 33 :: j 34 :: j 35 :: j 36 :: j 37 :: j 38 :: j 39 :: j 40 :: j 41 :: j 42 :: j 43 :: j 44 :: j 45 :: j 46 :: j 47 :: j 48 :: j 49 :: j 50 :: j 51 :: (.one (ii 3)) :: (.one (ii i)) :: j 54 :: j 55 :: j 56 :: j 57 :: j 58 :: j 59 :: j 60 :: j 61 :: j 62 :: j 63 :: j 64 :: [])) ?_ ?_ _ _ ⟨.nilslc, ⟨0, by simp [askM]⟩, by simpa using grown_nil _ _ _, by simp, fun b hb => by simp; omega, by simp [ownB], ex_get' (by simp)⟩
  · rintro i fr hh hi3 ⟨s, ⟨t, ht⟩, gr, hn, hk, ho, j, rfl⟩
    have hw : IntKind.i64.wrap ((i : Int) + 1) = ((i : Int) + 1) := step_wrap (by omega)
    have hl1 : decide ((i : Int) < 3) = true := by simp; omega
    have gr2 : Grown (hh.set h.next ⟨0, [10], true, askM id seq (u8 7 :: textB row) i⟩) 10 (askM id seq (u8 7 :: textB row)) s (List.range i) := gr.keep (by simp) fun b hb => by have := ho b hb; rw [set_at, if_neg (by omega)]
    obtain ⟨s', h2, e1, g2, n1, k1, k2⟩ := grow_one (P := Try.prog) (t := 43) Try.underlying43 (by simp) (by simp) Try.bytes48 (by omega) (len_askM id seq (u8 7 :: textB row)) gr2 i (by simp only [List.length_range, limit]; omega) (cells := askM id seq (u8 7 :: textB row) i) rfl
    have hcp := copy0_c 1 0 (100 + id) i 0 0 id seq (some (u8 7 :: textB row)) (by simp [textB, be_length]; omega)
    simp only [set_next] at e1 n1 k1
    repeat' (first
      | (rw [doesO_cons]; simp [ht, hcp, e1, hw, hl1])
      | (rw [doesO_nil']; refine hQ' _ _ _ ?_; clear hQ' Q'; first | simp only [] | simp [ht, hcp, e1, hw, hl1])
      | (simp only [List.append_eq]; simp only [List.cons_append, List.nil_append])
      | (rw [doesD_cons]; simp [ht, hcp, e1, hw, hl1])
      | (rw [doesD_nil]; refine hQ' _ _ _ ?_; clear hQ' Q'; first | simp only [] | simp [ht, hcp, e1, hw, hl1])
      | refine does_seq hp ?_
      | (refine does_gen hp ?_; intro Q' hQ')
      | (refine doesD_gen (id := 1) hp [0, 1, 2, 3, 4, 5, 6, 7, 8, 9, 10, 11, 12, 13, 14, 15] [(4, 8), (4, 12)] (by kernel_rfl) ?_; intro Q' hQ')
      | (refine doesD_gen (id := 4) hp [0, 1, 2, 3, 4, 5, 6, 7, 8, 9, 10, 11, 12, 13, 14, 15] [(11, 13)] (by kernel_rfl) ?_; intro Q' hQ')
      | refine does_block hp ?_
      | (refine does_ret hp ?_; simp [ht, hcp, e1, hw, hl1])
      | (refine does_skip hp ?_; simp [ht, hcp, e1, hw, hl1])
      | (refine does_exit hp ?_; simp [ht, hcp, e1, hw, hl1])
      | (refine does_cond' hp ?_; simp [ht, hcp, e1, hw, hl1]; done)
      | (refine onW_split (fun hcnd => ?_) (fun hcnd => ?_) <;> simp only [hcnd] <;> (try simp [-List.isEmpty_iff, -List.isEmpty_eq_false_iff] at hcnd) <;> simp [ht, hcp, e1, hw, hl1])
      | (refine does_cond' hp ?_; simp [ht, hcp, e1, hw, hl1]; refine fork (fun hcnd => ?_) (fun hcnd => ?_) <;> (try simp only [hcnd]) <;> (try simp [-List.isEmpty_iff, -List.isEmpty_eq_false_iff] at hcnd))
      | (refine does_cond' hp ?_; simp [ht, hcp, e1, hw, hl1]))
    all_goals (refine ⟨⟨i, ?_⟩, s', by rw [List.range_succ]; exact g2, by omega, fun b hb => ?_, fun b hb => ?_, ex_get' rfl⟩)
    · have hs : ownB s ≠ some h.next := fun e => by have := ho _ e; omega
      rw [k1 h.next (by omega) hs, set_at, if_pos rfl]
    · have hs : ownB s ≠ some b := fun e => by have := ho _ e; omega
      rw [k1 b (by omega) hs, set_at, if_neg (by omega)]; exact hk b hb
    · rcases k2 b hb with e | e
      · exact ho b e
      · simp only [set_next] at e; omega
  · rintro fr hh ⟨s, ⟨t, ht⟩, gr, hn, hk, ho, j, rfl⟩
    repeat' (first
      | (rw [doesO_cons]; simp [ht])
      | (rw [doesO_nil']; refine hQ' _ _ _ ?_; clear hQ' Q'; first | simp only [] | simp [ht])
      | (simp only [List.append_eq]; simp only [List.cons_append, List.nil_append])
      | (rw [doesD_cons]; simp [ht])
      | (rw [doesD_nil]; refine hQ' _ _ _ ?_; clear hQ' Q'; first | simp only [] | simp [ht])
      | refine does_seq hp ?_
      | (refine does_gen hp ?_; intro Q' hQ')
      | (refine doesD_gen (id := 1) hp [0, 1, 2, 3, 4, 5, 6, 7, 8, 9, 10, 11, 12, 13, 14, 15] [(4, 8), (4, 12)] (by kernel_rfl) ?_; intro Q' hQ')
      | (refine doesD_gen (id := 4) hp [0, 1, 2, 3, 4, 5, 6, 7, 8, 9, 10, 11, 12, 13, 14, 15] [(11, 13)] (by kernel_rfl) ?_; intro Q' hQ')
      | refine does_block hp ?_
      | (refine does_ret hp ?_; simp [ht])
      | (refine does_skip hp ?_; simp [ht])
      | (refine does_exit hp ?_; simp [ht])
      | (refine does_cond' hp ?_; simp [ht]; done)
      | (refine onW_split (fun hcnd => ?_) (fun hcnd => ?_) <;> simp only [hcnd] <;> (try simp [-List.isEmpty_iff, -List.isEmpty_eq_false_iff] at hcnd) <;> simp [ht])
      | (refine does_cond' hp ?_; simp [ht]; refine fork (fun hcnd => ?_) (fun hcnd => ?_) <;> (try simp only [hcnd]) <;> (try simp [-List.isEmpty_iff, -List.isEmpty_eq_false_iff] at hcnd))
      | (refine does_cond' hp ?_; simp [ht]))
    all_goals exact ⟨s, hh, ⟨rfl, rfl⟩, gr, by omega, hk, fun b hb => Nat.le_of_lt (ho b hb)⟩
theorem tick_idle {h : H} {p : Nat} {id seq : Int} {row : BL} {op : Option BL} {w g : Int} (hf : h.f p = some (cliB id 3 seq false row op w g)) : W K 8 [.one (.ptr p 0 0)] h = some (.ret (.one .nilslc) h) := by
  refine W_does hp rfl rfl rfl Try.func8 rfl (by simp [Try.f8]) ?_
  simp only [Try.f8, List.length_cons, List.length_nil, List.replicate, List.cons_append, List.nil_append, Nat.reduceAdd, Nat.reduceSub]
  repeat' (first
    | (rw [doesO_cons]; simp [hf])
    | (rw [doesO_nil']; refine hQ' _ _ _ ?_; clear hQ' Q'; first | simp only [] | simp [hf])
    | (simp only [List.append_eq]; simp only [List.cons_append, List.nil_append])
    | refine does_seq hp ?_
    | (refine does_gen hp ?_; intro Q' hQ')
    | refine does_block hp ?_
    | (refine does_ret hp ?_; simp [hf])
    | (refine does_skip hp ?_; simp [hf])
    | (refine does_exit hp ?_; simp [hf])
    | (refine does_cond' hp ?_; simp [hf]; done)
    | (refine onW_split (fun hcnd => ?_) (fun hcnd => ?_) <;> simp only [hcnd] <;> (try simp [-List.isEmpty_iff, -List.isEmpty_eq_false_iff] at hcnd) <;> simp [hf])
    | (refine does_cond' hp ?_; simp [hf]; refine fork (fun hcnd => ?_) (fun hcnd => ?_) <;> (try simp only [hcnd]) <;> (try simp [-List.isEmpty_iff, -List.isEmpty_eq_false_iff] at hcnd))
    | (refine does_cond' hp ?_; simp [hf]))
theorem tick_wait {h : H} {p : Nat} {id seq : Int} {row : BL} {op : Option BL} {w g : Int} (hw1 : 2 ≤ w ∧ w ≤ 4) (hf : h.f p = some (cliB id 3 seq true row op w g)) : W K 8 [.one (.ptr p 0 0)] h = some (.ret (.one .nilslc) (h.set p (cliB id 3 seq true row op (w - 1) g))) := by
  have hw : IntKind.i64.wrap (w - 1) = w - 1 := wrap_i64 (by omega) (by omega)
  have hd : decide (1 ≤ w - 1) = true := by simp; omega
  have hd2 : 1 ≤ w - 1 := by omega
  refine W_does hp rfl rfl rfl Try.func8 rfl (by simp [Try.f8]) ?_
  simp only [Try.f8, List.length_cons, List.length_nil, List.replicate, List.cons_append, List.nil_append, Nat.reduceAdd, Nat.reduceSub]
  repeat' (first
    | (rw [doesO_cons]; simp [hf, hw, hd, hd2])
    | (rw [doesO_nil']; refine hQ' _ _ _ ?_; clear hQ' Q'; first | simp only [] | simp [hf, hw, hd, hd2])
    | (simp only [List.append_eq]; simp only [List.cons_append, List.nil_append])
    | refine does_seq hp ?_
    | (refine does_gen hp ?_; intro Q' hQ')
    | refine does_block hp ?_
    | (refine does_ret hp ?_; simp [hf, hw, hd, hd2])
    | (refine does_skip hp ?_; simp [hf, hw, hd, hd2])
    | (refine does_exit hp ?_; simp [hf, hw, hd, hd2])
    | (refine does_cond' hp ?_; simp [hf, hw, hd, hd2]; done)
    | (refine onW_split (fun hcnd => ?_) (fun hcnd => ?_) <;> simp only [hcnd] <;> (try simp [-List.isEmpty_iff, -List.isEmpty_eq_false_iff] at hcnd) <;> simp [hf, hw, hd, hd2])
    | (refine does_cond' hp ?_; simp [hf, hw, hd, hd2]; refine fork (fun hcnd => ?_) (fun hcnd => ?_) <;> (try simp only [hcnd]) <;> (try simp [-List.isEmpty_iff, -List.isEmpty_eq_false_iff] at hcnd))
    | (refine does_cond' hp ?_; simp [hf, hw, hd, hd2]))
theorem tick_ask {h : H} {p : Nat} (hp1 : p < h.next) {id seq : Int} {row : BL} {op : Option BL} {w g : Int} (hi : 0 ≤ id ∧ id < 4) (hr : row.length ≤ 16) (hw1 : 0 ≤ w ∧ w ≤ 1) (hg : 0 ≤ g ∧ g ≤ 4) (hf : h.f p = some (cliB id 3 seq true row op w g)) {g' : Int} (eg : (if (if 1 < 2 * g then 2 * g else 1) < 4 then if 1 < 2 * g then 2 * g else 1 else 4) = g') :
    ∃ r, W K 8 [.one (.ptr p 0 0)] h = some r ∧ ∃ s h', r = .ret (.one s) h' ∧ Grown h' 10 (askM id seq (u8 7 :: textB row)) s (List.range 3) ∧ h.next ≤ h'.next ∧ (∀ b, b < h.next → b ≠ p → h'.f b = h.f b) ∧ h'.f p = some (cliB id 3 seq true row op g' g') ∧ ∀ b, ownB s = some b → h.next ≤ b := by
  have hw : IntKind.i64.wrap (w - 1) = w - 1 := wrap_i64 (by omega) (by omega)
  have hw2 : IntKind.i64.wrap (2 * g) = 2 * g := wrap_i64 (by omega) (by omega)
  have hd : decide (1 ≤ w - 1) = false := by simp; omega
  have hd2 : ¬ 1 ≤ w - 1 := by omega
  have ht : (h.set p (cliB id 3 seq true row op g' g')).f p = some (cliB id 3 seq true row op g' g') := by simp
  obtain ⟨r, e1, s, h', rfl, gr, hn, hk, ho⟩ := ask_c (h := h.set p (cliB id 3 seq true row op g' g')) (p := p) hp1 hi hr ht
  refine W_doesQ hp rfl rfl rfl Try.func8 rfl (by simp [Try.f8]) ?_
  simp only [Try.f8, List.length_cons, List.length_nil, List.replicate, List.cons_append, List.nil_append, Nat.reduceAdd, Nat.reduceSub]
  repeat' (first
    | (rw [doesO_cons]; simp [hf, hw, hw2, hd, hd2, eg, e1])
    | (rw [doesO_nil']; refine hQ' _ _ _ ?_; clear hQ' Q'; first | simp only [] | simp [hf, hw, hw2, hd, hd2, eg, e1])
    | (simp only [List.append_eq]; simp only [List.cons_append, List.nil_append])
    | refine does_seq hp ?_
    | (refine does_gen hp ?_; intro Q' hQ')
    | refine does_block hp ?_
    | (refine does_ret hp ?_; simp [hf, hw, hw2, hd, hd2, eg, e1])
    | (refine does_skip hp ?_; simp [hf, hw, hw2, hd, hd2, eg, e1])
    | (refine does_exit hp ?_; simp [hf, hw, hw2, hd, hd2, eg, e1])
    | (refine does_cond' hp ?_; simp [hf, hw, hw2, hd, hd2, eg, e1]; done)
    | (refine onW_split (fun hcnd => ?_) (fun hcnd => ?_) <;> simp only [hcnd] <;> (try simp [-List.isEmpty_iff, -List.isEmpty_eq_false_iff] at hcnd) <;> simp [hf, hw, hw2, hd, hd2, eg, e1])
    | (refine does_cond' hp ?_; simp [hf, hw, hw2, hd, hd2, eg, e1]; refine fork (fun hcnd => ?_) (fun hcnd => ?_) <;> (try simp only [hcnd]) <;> (try simp [-List.isEmpty_iff, -List.isEmpty_eq_false_iff] at hcnd))
    | (refine does_cond' hp ?_; simp [hf, hw, hw2, hd, hd2, eg, e1]))
  all_goals exact ⟨s, h', ⟨rfl, rfl⟩, gr, hn, fun b hb hne => by rw [hk b hb, set_at, if_neg hne], by rw [hk p hp1]; exact ht, ho⟩
/-- of what was grown: an element -/
theorem grown_at {P : Program} {t u size : Nat} (ht : P.underlying t = some (.slice u)) (hu : sizeT P u = some size) (h0 : 0 < size) {α : Type} {enc : α → List AS} (he : ∀ x, (enc x).length = size) {h : H} {s : AS} {a r : List α} {x : α} (gr : Grown h size enc s (a ++ x :: r)) :
    ∃ b v, indexA P t s a.length = some (.ptr b v (a.length * size)) ∧ readC h (.ptr b v (a.length * size)) size = some (enc x) := by
  obtain ⟨o, o2⟩ := gr
  clear o2
  have hl := flat_length he (a ++ x :: r)
  cases s <;> simp only [Owns] at o
  · rw [o] at hl
    simp only [List.length_nil, List.length_append, List.length_cons] at hl
    rcases Nat.mul_eq_zero.1 hl.symm with e | e <;> omega
  · rename_i b v oo n s' c
    obtain ⟨rfl, rfl, rfl, hl2, hb, B, h1, h2, h3, h4⟩ := o
    have hn : n = (a ++ x :: r).length := Nat.eq_of_mul_eq_mul_right h0 (by rw [← hl2, hl])
    refine ⟨b, v, ?_, ?_⟩
    · simp only [indexA, ht, hu, Option.bind_eq_bind, Option.bind_some]
      rw [if_pos ⟨trivial, h0, by rw [hn]; simp⟩, Nat.zero_add]
    · have := read_flat he h a x r
      simp only [readC] at this
      simp only [readC, h1, h3, h4, Option.bind_eq_bind, Option.bind_some]
      rw [if_pos]
      · exact this
      · rw [hl]; simp only [List.length_append, List.length_cons]
        have : (a.length + 1) * s' ≤ (a.length + (r.length + 1)) * s' := Nat.mul_le_mul_right _ (by omega)
        rw [Nat.add_mul, Nat.one_mul] at this; exact this
theorem grown_len {h : H} {size : Nat} (h0 : 0 < size) {α : Type} {enc : α → List AS} (he : ∀ x, (enc x).length = size) {s : AS} {l : List α} (gr : Grown h size enc s l) : lenS s = some l.length := by
  obtain ⟨o, o2⟩ := gr
  clear o2
  have hl := flat_length he l
  cases s <;> simp only [Owns] at o
  · rw [o] at hl
    simp only [List.length_nil] at hl
    rcases Nat.mul_eq_zero.1 hl.symm with e | e
    · rw [e]; rfl
    · omega
  · obtain ⟨rfl, rfl, rfl, hl2, _⟩ := o
    rw [hl] at hl2
    simp only [lenS]
    rw [Nat.eq_of_mul_eq_mul_right h0 hl2]
end Go.Proofs.Ytmhbdpgflomihaa
