/- A part of a proof over the abstract machine. No conditions. -/
import Derived.Test.YtmhbdpgflomihaaC3
/- Commands, as they are written. No conditions. -/
namespace Go.Proofs.Ytmhbdpgflomihaa
open Go Go.Ab Wm NumPlain
set_option linter.unusedSimpArgs false
set_option linter.unnecessarySimpa false
set_option linter.unusedVariables false
set_option maxRecDepth 10000
set_option maxHeartbeats 4000000
theorem val_w (v_kind : Int) (v_b : Option BL) (v_n : Nat) (hb : (ls v_b).length ≤ 1048576) : Writes K 64 [.agg [ii v_kind, bs v_b, .flt v_n]] (.tup []) (encVal ⟨v_kind, v_b, v_n⟩) := by
  by_cases h1 : v_kind = 1
  · simp only [encVal, h1, if_true]
    refine writes_of fun h p q l w hl => ?_
    have hk := True.intro
    have ws := WS.start w
    refine W_doesQ hp rfl rfl rfl Try.func64 rfl (by simp [Try.f64]) ?_
    simp only [Try.f64, List.length_cons, List.length_nil, List.replicate, List.cons_append, List.nil_append, Nat.reduceAdd, Nat.reduceSub]
    repeat' (first
      | (refine call_writes (byte_w 1) (by first | assumption | exact WS.new (by assumption) _ | exact WS.new (WS.new (by assumption) _) _) (by first | exact hl | omega | (simp only [List.length_append, List.length_cons, List.length_nil, be_length] at hl ⊢; omega) | (simp at hl ⊢; omega)) ?_; clear hk; intro h' ws' hk; (try simp only [keptP, and_true] at hk); (first | (have hk := hk; skip) | have hk := True.intro); (try simp [h1, hk]))
      | (refine call_writes (text_w v_b hb) (by first | assumption | exact WS.new (by assumption) _ | exact WS.new (WS.new (by assumption) _) _) (by first | exact hl | omega | (simp only [List.length_append, List.length_cons, List.length_nil, be_length] at hl ⊢; omega) | (simp at hl ⊢; omega)) ?_; clear hk; intro h' ws' hk; (try simp only [keptP, and_true] at hk); (first | (have hk := hk; skip) | have hk := True.intro); (try simp [h1, hk]))
      | (refine call_text (by first | assumption | omega) (by first | assumption | exact WS.new (by assumption) _ | exact WS.new (WS.new (by assumption) _) _) (by first | exact hl | omega | (simp only [List.length_append, List.length_cons, List.length_nil, be_length] at hl ⊢; omega) | (simp at hl ⊢; omega)) (by first | rfl | simp) ?_; clear hk; intro h' ws' hk; (try simp only [keptP, and_true] at hk); (first | (have hk := hk; skip) | have hk := True.intro); (try simp [h1, hk]))
      | (rw [doesO_cons]; simp [h1, hk])
      | (rw [doesO_nil']; refine hQ' _ _ _ ?_; clear hQ' Q'; first | simp only [] | simp [h1, hk])
      | refine does_seq hp ?_
      | (refine does_gen hp ?_; intro Q' hQ')
      | refine does_block hp ?_
      | (refine does_ret hp ?_; simp [h1, hk])
      | (refine does_skip hp ?_; simp [h1, hk])
      | (refine does_exit hp ?_; simp [h1, hk])
      | (refine does_cond' hp ?_; simp [h1, hk]; done)
      | (refine onW_split (fun hcnd => ?_) (fun hcnd => ?_) <;> simp only [hcnd] <;> (try simp [-List.isEmpty_iff, -List.isEmpty_eq_false_iff] at hcnd) <;> simp [h1, hk])
      | (refine does_cond' hp ?_; simp [h1, hk]; refine fork (fun hcnd => ?_) (fun hcnd => ?_) <;> (try simp only [hcnd]) <;> (try simp [-List.isEmpty_iff, -List.isEmpty_eq_false_iff] at hcnd))
      | (refine does_cond' hp ?_; simp [h1, hk]))
    all_goals first | omega | (simp; exact ⟨_, by simpa [List.append_assoc] using ws'⟩) | exact ⟨_, by simpa [List.append_assoc] using ws'⟩ | skip
  · by_cases h2 : v_kind = 2
    · subst h2; simp only [encVal, Int.reduceEq, if_true, if_false]
      refine writes_of fun h p q l w hl => ?_
      have hk := True.intro
      have ws := WS.start w
      refine W_doesQ hp rfl rfl rfl Try.func64 rfl (by simp [Try.f64]) ?_
      simp only [Try.f64, List.length_cons, List.length_nil, List.replicate, List.cons_append, List.nil_append, Nat.reduceAdd, Nat.reduceSub]
      repeat' (first
        | (refine call_writes (byte_w 2) (by first | assumption | exact WS.new (by assumption) _ | exact WS.new (WS.new (by assumption) _) _) (by first | exact hl | omega | (simp only [List.length_append, List.length_cons, List.length_nil, be_length] at hl ⊢; omega) | (simp at hl ⊢; omega)) ?_; clear hk; intro h' ws' hk; (try simp only [keptP, and_true] at hk); (first | (have hk := hk; skip) | have hk := True.intro); (try simp [hk]))
        | (refine call_writes (float_w v_n) (by first | assumption | exact WS.new (by assumption) _ | exact WS.new (WS.new (by assumption) _) _) (by first | exact hl | omega | (simp only [List.length_append, List.length_cons, List.length_nil, be_length] at hl ⊢; omega) | (simp at hl ⊢; omega)) ?_; clear hk; intro h' ws' hk; (try simp only [keptP, and_true] at hk); (first | (have hk := hk; skip) | have hk := True.intro); (try simp [hk]))
        | (refine call_text (by first | assumption | omega) (by first | assumption | exact WS.new (by assumption) _ | exact WS.new (WS.new (by assumption) _) _) (by first | exact hl | omega | (simp only [List.length_append, List.length_cons, List.length_nil, be_length] at hl ⊢; omega) | (simp at hl ⊢; omega)) (by first | rfl | simp) ?_; clear hk; intro h' ws' hk; (try simp only [keptP, and_true] at hk); (first | (have hk := hk; skip) | have hk := True.intro); (try simp [hk]))
        | (rw [doesO_cons]; simp [hk])
        | (rw [doesO_nil']; refine hQ' _ _ _ ?_; clear hQ' Q'; first | simp only [] | simp [hk])
        | refine does_seq hp ?_
        | (refine does_gen hp ?_; intro Q' hQ')
        | refine does_block hp ?_
        | (refine does_ret hp ?_; simp [hk])
        | (refine does_skip hp ?_; simp [hk])
        | (refine does_exit hp ?_; simp [hk])
        | (refine does_cond' hp ?_; simp [hk]; done)
        | (refine onW_split (fun hcnd => ?_) (fun hcnd => ?_) <;> simp only [hcnd] <;> (try simp [-List.isEmpty_iff, -List.isEmpty_eq_false_iff] at hcnd) <;> simp [hk])
        | (refine does_cond' hp ?_; simp [hk]; refine fork (fun hcnd => ?_) (fun hcnd => ?_) <;> (try simp only [hcnd]) <;> (try simp [-List.isEmpty_iff, -List.isEmpty_eq_false_iff] at hcnd))
        | (refine does_cond' hp ?_; simp [hk]))
      all_goals first | omega | (simp; exact ⟨_, by simpa [List.append_assoc] using ws'⟩) | exact ⟨_, by simpa [List.append_assoc] using ws'⟩ | skip
    · simp only [encVal, h1, h2, if_false]
      refine writes_of fun h p q l w hl => ?_
      have hk := True.intro
      have ws := WS.start w
      refine W_doesQ hp rfl rfl rfl Try.func64 rfl (by simp [Try.f64]) ?_
      simp only [Try.f64, List.length_cons, List.length_nil, List.replicate, List.cons_append, List.nil_append, Nat.reduceAdd, Nat.reduceSub]
      repeat' (first
        | (refine call_writes (byte_w 0) (by first | assumption | exact WS.new (by assumption) _ | exact WS.new (WS.new (by assumption) _) _) (by first | exact hl | omega | (simp only [List.length_append, List.length_cons, List.length_nil, be_length] at hl ⊢; omega) | (simp at hl ⊢; omega)) ?_; clear hk; intro h' ws' hk; (try simp only [keptP, and_true] at hk); (first | (have hk := hk; skip) | have hk := True.intro); (try simp [hk]))
        | (refine call_text (by first | assumption | omega) (by first | assumption | exact WS.new (by assumption) _ | exact WS.new (WS.new (by assumption) _) _) (by first | exact hl | omega | (simp only [List.length_append, List.length_cons, List.length_nil, be_length] at hl ⊢; omega) | (simp at hl ⊢; omega)) (by first | rfl | simp) ?_; clear hk; intro h' ws' hk; (try simp only [keptP, and_true] at hk); (first | (have hk := hk; skip) | have hk := True.intro); (try simp [hk]))
        | (rw [doesO_cons]; simp [hk])
        | (rw [doesO_nil']; refine hQ' _ _ _ ?_; clear hQ' Q'; first | simp only [] | simp [hk])
        | refine does_seq hp ?_
        | (refine does_gen hp ?_; intro Q' hQ')
        | refine does_block hp ?_
        | (refine does_ret hp ?_; simp [hk])
        | (refine does_skip hp ?_; simp [hk])
        | (refine does_exit hp ?_; simp [hk])
        | (refine does_cond' hp ?_; simp [hk]; done)
        | (refine onW_split (fun hcnd => ?_) (fun hcnd => ?_) <;> simp only [hcnd] <;> (try simp [-List.isEmpty_iff, -List.isEmpty_eq_false_iff] at hcnd) <;> simp [hk])
        | (refine does_cond' hp ?_; simp [hk]; refine fork (fun hcnd => ?_) (fun hcnd => ?_) <;> (try simp only [hcnd]) <;> (try simp [-List.isEmpty_iff, -List.isEmpty_eq_false_iff] at hcnd))
        | (refine does_cond' hp ?_; simp [hk]))
      all_goals first | omega | (simp; exact ⟨_, by simpa [List.append_assoc] using ws'⟩) | exact ⟨_, by simpa [List.append_assoc] using ws'⟩ | skip
theorem chg_w (c_kind : Int) (c_col : BL) (c_time : Int) (c_v_kind : Int) (c_v_b : Option BL) (c_v_n : Nat) (hc : c_col.length ≤ 1048576) (hb : (ls c_v_b).length ≤ 1048576) : Writes K 42 [.agg [ii c_kind, .str c_col, ii c_time, ii c_v_kind, bs c_v_b, .flt c_v_n]] (.tup []) (encChg ⟨c_kind, c_col, c_time, ⟨c_v_kind, c_v_b, c_v_n⟩⟩) := by
  have hv := val_w c_v_kind c_v_b c_v_n hb
  by_cases h1 : c_kind = 1
  · subst h1; simp [encChg, asks]
    refine writes_of fun h p q l w hl => ?_
    have hk := True.intro
    have ws := WS.start w
    refine W_doesQ hp rfl rfl rfl Try.func42 rfl (by simp [Try.f42]) ?_
    simp only [Try.f42, List.length_cons, List.length_nil, List.replicate, List.cons_append, List.nil_append, Nat.reduceAdd, Nat.reduceSub]
    repeat' (first
      | (refine call_writes (byte_w _) (by first | assumption | exact WS.new (by assumption) _ | exact WS.new (WS.new (by assumption) _) _) (by first | exact hl | omega | (simp only [List.length_append, List.length_cons, List.length_nil, be_length] at hl ⊢; omega) | (simp at hl ⊢; omega)) ?_; clear hk; intro h' ws' hk; (try simp only [keptP, and_true] at hk); (first | (have hk := hk; skip) | have hk := True.intro); (try simp [asks_c, asks, convA, isByteT, wrapB, le_lim hc, hk]))
      | (refine call_writes (hv) (by first | assumption | exact WS.new (by assumption) _ | exact WS.new (WS.new (by assumption) _) _) (by first | exact hl | omega | (simp only [List.length_append, List.length_cons, List.length_nil, be_length] at hl ⊢; omega) | (simp at hl ⊢; omega)) ?_; clear hk; intro h' ws' hk; (try simp only [keptP, and_true] at hk); (first | (have hk := hk; skip) | have hk := True.intro); (try simp [asks_c, asks, convA, isByteT, wrapB, le_lim hc, hk]))
      | (refine call_writes (longI_w _) (by first | assumption | exact WS.new (by assumption) _ | exact WS.new (WS.new (by assumption) _) _) (by first | exact hl | omega | (simp only [List.length_append, List.length_cons, List.length_nil, be_length] at hl ⊢; omega) | (simp at hl ⊢; omega)) ?_; clear hk; intro h' ws' hk; (try simp only [keptP, and_true] at hk); (first | (have hk := hk; skip) | have hk := True.intro); (try simp [asks_c, asks, convA, isByteT, wrapB, le_lim hc, hk]))
      | (refine call_text (by first | assumption | omega) (by first | assumption | exact WS.new (by assumption) _ | exact WS.new (WS.new (by assumption) _) _) (by first | exact hl | omega | (simp only [List.length_append, List.length_cons, List.length_nil, be_length] at hl ⊢; omega) | (simp at hl ⊢; omega)) (by first | rfl | simp) ?_; clear hk; intro h' ws' hk; (try simp only [keptP, and_true] at hk); (first | (have hk := hk; skip) | have hk := True.intro); (try simp [asks_c, asks, convA, isByteT, wrapB, le_lim hc, hk]))
      | (rw [doesO_cons]; simp [asks_c, asks, convA, isByteT, wrapB, le_lim hc, hk])
      | (rw [doesO_nil']; refine hQ' _ _ _ ?_; clear hQ' Q'; first | simp only [] | simp [asks_c, asks, convA, isByteT, wrapB, le_lim hc, hk])
      | refine does_seq hp ?_
      | (refine does_gen hp ?_; intro Q' hQ')
      | refine does_block hp ?_
      | (refine does_ret hp ?_; simp [asks_c, asks, convA, isByteT, wrapB, le_lim hc, hk])
      | (refine does_skip hp ?_; simp [asks_c, asks, convA, isByteT, wrapB, le_lim hc, hk])
      | (refine does_exit hp ?_; simp [asks_c, asks, convA, isByteT, wrapB, le_lim hc, hk])
      | (refine does_cond' hp ?_; simp [asks_c, asks, convA, isByteT, wrapB, le_lim hc, hk]; done)
      | (refine onW_split (fun hcnd => ?_) (fun hcnd => ?_) <;> simp only [hcnd] <;> (try simp [-List.isEmpty_iff, -List.isEmpty_eq_false_iff] at hcnd) <;> simp [asks_c, asks, convA, isByteT, wrapB, le_lim hc, hk])
      | (refine does_cond' hp ?_; simp [asks_c, asks, convA, isByteT, wrapB, le_lim hc, hk]; refine fork (fun hcnd => ?_) (fun hcnd => ?_) <;> (try simp only [hcnd]) <;> (try simp [-List.isEmpty_iff, -List.isEmpty_eq_false_iff] at hcnd))
      | (refine does_cond' hp ?_; simp [asks_c, asks, convA, isByteT, wrapB, le_lim hc, hk]))
    all_goals first | omega | (simp; exact ⟨_, by simpa [List.append_assoc] using ws'⟩) | exact ⟨_, by simpa [List.append_assoc] using ws'⟩ | skip
  by_cases h5 : c_kind = 5
  · subst h5; simp [encChg, asks]
    refine writes_of fun h p q l w hl => ?_
    have hk := True.intro
    have ws := WS.start w
    refine W_doesQ hp rfl rfl rfl Try.func42 rfl (by simp [Try.f42]) ?_
    simp only [Try.f42, List.length_cons, List.length_nil, List.replicate, List.cons_append, List.nil_append, Nat.reduceAdd, Nat.reduceSub]
    repeat' (first
      | (refine call_writes (byte_w _) (by first | assumption | exact WS.new (by assumption) _ | exact WS.new (WS.new (by assumption) _) _) (by first | exact hl | omega | (simp only [List.length_append, List.length_cons, List.length_nil, be_length] at hl ⊢; omega) | (simp at hl ⊢; omega)) ?_; clear hk; intro h' ws' hk; (try simp only [keptP, and_true] at hk); (first | (have hk := hk; skip) | have hk := True.intro); (try simp [asks_c, asks, convA, isByteT, wrapB, le_lim hc, hk]))
      | (refine call_writes (hv) (by first | assumption | exact WS.new (by assumption) _ | exact WS.new (WS.new (by assumption) _) _) (by first | exact hl | omega | (simp only [List.length_append, List.length_cons, List.length_nil, be_length] at hl ⊢; omega) | (simp at hl ⊢; omega)) ?_; clear hk; intro h' ws' hk; (try simp only [keptP, and_true] at hk); (first | (have hk := hk; skip) | have hk := True.intro); (try simp [asks_c, asks, convA, isByteT, wrapB, le_lim hc, hk]))
      | (refine call_writes (longI_w _) (by first | assumption | exact WS.new (by assumption) _ | exact WS.new (WS.new (by assumption) _) _) (by first | exact hl | omega | (simp only [List.length_append, List.length_cons, List.length_nil, be_length] at hl ⊢; omega) | (simp at hl ⊢; omega)) ?_; clear hk; intro h' ws' hk; (try simp only [keptP, and_true] at hk); (first | (have hk := hk; skip) | have hk := True.intro); (try simp [asks_c, asks, convA, isByteT, wrapB, le_lim hc, hk]))
      | (refine call_text (by first | assumption | omega) (by first | assumption | exact WS.new (by assumption) _ | exact WS.new (WS.new (by assumption) _) _) (by first | exact hl | omega | (simp only [List.length_append, List.length_cons, List.length_nil, be_length] at hl ⊢; omega) | (simp at hl ⊢; omega)) (by first | rfl | simp) ?_; clear hk; intro h' ws' hk; (try simp only [keptP, and_true] at hk); (first | (have hk := hk; skip) | have hk := True.intro); (try simp [asks_c, asks, convA, isByteT, wrapB, le_lim hc, hk]))
      | (rw [doesO_cons]; simp [asks_c, asks, convA, isByteT, wrapB, le_lim hc, hk])
      | (rw [doesO_nil']; refine hQ' _ _ _ ?_; clear hQ' Q'; first | simp only [] | simp [asks_c, asks, convA, isByteT, wrapB, le_lim hc, hk])
      | refine does_seq hp ?_
      | (refine does_gen hp ?_; intro Q' hQ')
      | refine does_block hp ?_
      | (refine does_ret hp ?_; simp [asks_c, asks, convA, isByteT, wrapB, le_lim hc, hk])
      | (refine does_skip hp ?_; simp [asks_c, asks, convA, isByteT, wrapB, le_lim hc, hk])
      | (refine does_exit hp ?_; simp [asks_c, asks, convA, isByteT, wrapB, le_lim hc, hk])
      | (refine does_cond' hp ?_; simp [asks_c, asks, convA, isByteT, wrapB, le_lim hc, hk]; done)
      | (refine onW_split (fun hcnd => ?_) (fun hcnd => ?_) <;> simp only [hcnd] <;> (try simp [-List.isEmpty_iff, -List.isEmpty_eq_false_iff] at hcnd) <;> simp [asks_c, asks, convA, isByteT, wrapB, le_lim hc, hk])
      | (refine does_cond' hp ?_; simp [asks_c, asks, convA, isByteT, wrapB, le_lim hc, hk]; refine fork (fun hcnd => ?_) (fun hcnd => ?_) <;> (try simp only [hcnd]) <;> (try simp [-List.isEmpty_iff, -List.isEmpty_eq_false_iff] at hcnd))
      | (refine does_cond' hp ?_; simp [asks_c, asks, convA, isByteT, wrapB, le_lim hc, hk]))
    all_goals first | omega | (simp; exact ⟨_, by simpa [List.append_assoc] using ws'⟩) | exact ⟨_, by simpa [List.append_assoc] using ws'⟩ | skip
  by_cases h2 : c_kind = 2
  · subst h2; simp [encChg, asks]
    refine writes_of fun h p q l w hl => ?_
    have hk := True.intro
    have ws := WS.start w
    refine W_doesQ hp rfl rfl rfl Try.func42 rfl (by simp [Try.f42]) ?_
    simp only [Try.f42, List.length_cons, List.length_nil, List.replicate, List.cons_append, List.nil_append, Nat.reduceAdd, Nat.reduceSub]
    repeat' (first
      | (refine call_writes (byte_w _) (by first | assumption | exact WS.new (by assumption) _ | exact WS.new (WS.new (by assumption) _) _) (by first | exact hl | omega | (simp only [List.length_append, List.length_cons, List.length_nil, be_length] at hl ⊢; omega) | (simp at hl ⊢; omega)) ?_; clear hk; intro h' ws' hk; (try simp only [keptP, and_true] at hk); (first | (have hk := hk; skip) | have hk := True.intro); (try simp [asks_c, asks, convA, isByteT, wrapB, le_lim hc, hk]))
      | (refine call_writes (longI_w _) (by first | assumption | exact WS.new (by assumption) _ | exact WS.new (WS.new (by assumption) _) _) (by first | exact hl | omega | (simp only [List.length_append, List.length_cons, List.length_nil, be_length] at hl ⊢; omega) | (simp at hl ⊢; omega)) ?_; clear hk; intro h' ws' hk; (try simp only [keptP, and_true] at hk); (first | (have hk := hk; skip) | have hk := True.intro); (try simp [asks_c, asks, convA, isByteT, wrapB, le_lim hc, hk]))
      | (refine call_text (by first | assumption | omega) (by first | assumption | exact WS.new (by assumption) _ | exact WS.new (WS.new (by assumption) _) _) (by first | exact hl | omega | (simp only [List.length_append, List.length_cons, List.length_nil, be_length] at hl ⊢; omega) | (simp at hl ⊢; omega)) (by first | rfl | simp) ?_; clear hk; intro h' ws' hk; (try simp only [keptP, and_true] at hk); (first | (have hk := hk; skip) | have hk := True.intro); (try simp [asks_c, asks, convA, isByteT, wrapB, le_lim hc, hk]))
      | (rw [doesO_cons]; simp [asks_c, asks, convA, isByteT, wrapB, le_lim hc, hk])
      | (rw [doesO_nil']; refine hQ' _ _ _ ?_; clear hQ' Q'; first | simp only [] | simp [asks_c, asks, convA, isByteT, wrapB, le_lim hc, hk])
      | refine does_seq hp ?_
      | (refine does_gen hp ?_; intro Q' hQ')
      | refine does_block hp ?_
      | (refine does_ret hp ?_; simp [asks_c, asks, convA, isByteT, wrapB, le_lim hc, hk])
      | (refine does_skip hp ?_; simp [asks_c, asks, convA, isByteT, wrapB, le_lim hc, hk])
      | (refine does_exit hp ?_; simp [asks_c, asks, convA, isByteT, wrapB, le_lim hc, hk])
      | (refine does_cond' hp ?_; simp [asks_c, asks, convA, isByteT, wrapB, le_lim hc, hk]; done)
      | (refine onW_split (fun hcnd => ?_) (fun hcnd => ?_) <;> simp only [hcnd] <;> (try simp [-List.isEmpty_iff, -List.isEmpty_eq_false_iff] at hcnd) <;> simp [asks_c, asks, convA, isByteT, wrapB, le_lim hc, hk])
      | (refine does_cond' hp ?_; simp [asks_c, asks, convA, isByteT, wrapB, le_lim hc, hk]; refine fork (fun hcnd => ?_) (fun hcnd => ?_) <;> (try simp only [hcnd]) <;> (try simp [-List.isEmpty_iff, -List.isEmpty_eq_false_iff] at hcnd))
      | (refine does_cond' hp ?_; simp [asks_c, asks, convA, isByteT, wrapB, le_lim hc, hk]))
    all_goals first | omega | (simp; exact ⟨_, by simpa [List.append_assoc] using ws'⟩) | exact ⟨_, by simpa [List.append_assoc] using ws'⟩ | skip
  by_cases h3 : c_kind = 3
  · subst h3; simp [encChg, asks]
    refine writes_of fun h p q l w hl => ?_
    have hk := True.intro
    have ws := WS.start w
    refine W_doesQ hp rfl rfl rfl Try.func42 rfl (by simp [Try.f42]) ?_
    simp only [Try.f42, List.length_cons, List.length_nil, List.replicate, List.cons_append, List.nil_append, Nat.reduceAdd, Nat.reduceSub]
    repeat' (first
      | (refine call_writes (byte_w _) (by first | assumption | exact WS.new (by assumption) _ | exact WS.new (WS.new (by assumption) _) _) (by first | exact hl | omega | (simp only [List.length_append, List.length_cons, List.length_nil, be_length] at hl ⊢; omega) | (simp at hl ⊢; omega)) ?_; clear hk; intro h' ws' hk; (try simp only [keptP, and_true] at hk); (first | (have hk := hk; skip) | have hk := True.intro); (try simp [asks_c, asks, convA, isByteT, wrapB, le_lim hc, hk]))
      | (refine call_text (by first | assumption | omega) (by first | assumption | exact WS.new (by assumption) _ | exact WS.new (WS.new (by assumption) _) _) (by first | exact hl | omega | (simp only [List.length_append, List.length_cons, List.length_nil, be_length] at hl ⊢; omega) | (simp at hl ⊢; omega)) (by first | rfl | simp) ?_; clear hk; intro h' ws' hk; (try simp only [keptP, and_true] at hk); (first | (have hk := hk; skip) | have hk := True.intro); (try simp [asks_c, asks, convA, isByteT, wrapB, le_lim hc, hk]))
      | (rw [doesO_cons]; simp [asks_c, asks, convA, isByteT, wrapB, le_lim hc, hk])
      | (rw [doesO_nil']; refine hQ' _ _ _ ?_; clear hQ' Q'; first | simp only [] | simp [asks_c, asks, convA, isByteT, wrapB, le_lim hc, hk])
      | refine does_seq hp ?_
      | (refine does_gen hp ?_; intro Q' hQ')
      | refine does_block hp ?_
      | (refine does_ret hp ?_; simp [asks_c, asks, convA, isByteT, wrapB, le_lim hc, hk])
      | (refine does_skip hp ?_; simp [asks_c, asks, convA, isByteT, wrapB, le_lim hc, hk])
      | (refine does_exit hp ?_; simp [asks_c, asks, convA, isByteT, wrapB, le_lim hc, hk])
      | (refine does_cond' hp ?_; simp [asks_c, asks, convA, isByteT, wrapB, le_lim hc, hk]; done)
      | (refine onW_split (fun hcnd => ?_) (fun hcnd => ?_) <;> simp only [hcnd] <;> (try simp [-List.isEmpty_iff, -List.isEmpty_eq_false_iff] at hcnd) <;> simp [asks_c, asks, convA, isByteT, wrapB, le_lim hc, hk])
      | (refine does_cond' hp ?_; simp [asks_c, asks, convA, isByteT, wrapB, le_lim hc, hk]; refine fork (fun hcnd => ?_) (fun hcnd => ?_) <;> (try simp only [hcnd]) <;> (try simp [-List.isEmpty_iff, -List.isEmpty_eq_false_iff] at hcnd))
      | (refine does_cond' hp ?_; simp [asks_c, asks, convA, isByteT, wrapB, le_lim hc, hk]))
    all_goals first | omega | (simp; exact ⟨_, by simpa [List.append_assoc] using ws'⟩) | exact ⟨_, by simpa [List.append_assoc] using ws'⟩ | skip
  by_cases h4 : c_kind = 4
  · subst h4; simp [encChg, asks]
    refine writes_of fun h p q l w hl => ?_
    have hk := True.intro
    have ws := WS.start w
    refine W_doesQ hp rfl rfl rfl Try.func42 rfl (by simp [Try.f42]) ?_
    simp only [Try.f42, List.length_cons, List.length_nil, List.replicate, List.cons_append, List.nil_append, Nat.reduceAdd, Nat.reduceSub]
    repeat' (first
      | (refine call_writes (byte_w _) (by first | assumption | exact WS.new (by assumption) _ | exact WS.new (WS.new (by assumption) _) _) (by first | exact hl | omega | (simp only [List.length_append, List.length_cons, List.length_nil, be_length] at hl ⊢; omega) | (simp at hl ⊢; omega)) ?_; clear hk; intro h' ws' hk; (try simp only [keptP, and_true] at hk); (first | (have hk := hk; skip) | have hk := True.intro); (try simp [asks_c, asks, convA, wrapB, hk]))
      | (refine call_text (by first | assumption | omega) (by first | assumption | exact WS.new (by assumption) _ | exact WS.new (WS.new (by assumption) _) _) (by first | exact hl | omega | (simp only [List.length_append, List.length_cons, List.length_nil, be_length] at hl ⊢; omega) | (simp at hl ⊢; omega)) (by first | rfl | simp) ?_; clear hk; intro h' ws' hk; (try simp only [keptP, and_true] at hk); (first | (have hk := hk; skip) | have hk := True.intro); (try simp [asks_c, asks, convA, wrapB, hk]))
      | (rw [doesO_cons]; simp [asks_c, asks, convA, wrapB, hk])
      | (rw [doesO_nil']; refine hQ' _ _ _ ?_; clear hQ' Q'; first | simp only [] | simp [asks_c, asks, convA, wrapB, hk])
      | refine does_seq hp ?_
      | (refine does_gen hp ?_; intro Q' hQ')
      | refine does_block hp ?_
      | (refine does_ret hp ?_; simp [asks_c, asks, convA, wrapB, hk])
      | (refine does_skip hp ?_; simp [asks_c, asks, convA, wrapB, hk])
      | (refine does_exit hp ?_; simp [asks_c, asks, convA, wrapB, hk])
      | (refine does_cond' hp ?_; simp [asks_c, asks, convA, wrapB, hk]; done)
      | (refine onW_split (fun hcnd => ?_) (fun hcnd => ?_) <;> simp only [hcnd] <;> (try simp [-List.isEmpty_iff, -List.isEmpty_eq_false_iff] at hcnd) <;> simp [asks_c, asks, convA, wrapB, hk])
      | (refine does_cond' hp ?_; simp [asks_c, asks, convA, wrapB, hk]; refine fork (fun hcnd => ?_) (fun hcnd => ?_) <;> (try simp only [hcnd]) <;> (try simp [-List.isEmpty_iff, -List.isEmpty_eq_false_iff] at hcnd))
      | (refine does_cond' hp ?_; simp [asks_c, asks, convA, wrapB, hk]))
    all_goals first | omega | (simp; exact ⟨_, by simpa [List.append_assoc] using ws'⟩) | exact ⟨_, by simpa [List.append_assoc] using ws'⟩ | skip
  simp [encChg, asks, h1, h2, h3, h4, h5]
  refine writes_of fun h p q l w hl => ?_
  have hk := True.intro
  have ws := WS.start w
  refine W_doesQ hp rfl rfl rfl Try.func42 rfl (by simp [Try.f42]) ?_
  simp only [Try.f42, List.length_cons, List.length_nil, List.replicate, List.cons_append, List.nil_append, Nat.reduceAdd, Nat.reduceSub]
  repeat' (first
    | (refine call_writes (byte_w 0) (by first | assumption | exact WS.new (by assumption) _ | exact WS.new (WS.new (by assumption) _) _) (by first | exact hl | omega | (simp only [List.length_append, List.length_cons, List.length_nil, be_length] at hl ⊢; omega) | (simp at hl ⊢; omega)) ?_; clear hk; intro h' ws' hk; (try simp only [keptP, and_true] at hk); (first | (have hk := hk; skip) | have hk := True.intro); (try simp [asks_c, asks, h1, h2, h3, h4, h5, hk]))
    | (refine call_text (by first | assumption | omega) (by first | assumption | exact WS.new (by assumption) _ | exact WS.new (WS.new (by assumption) _) _) (by first | exact hl | omega | (simp only [List.length_append, List.length_cons, List.length_nil, be_length] at hl ⊢; omega) | (simp at hl ⊢; omega)) (by first | rfl | simp) ?_; clear hk; intro h' ws' hk; (try simp only [keptP, and_true] at hk); (first | (have hk := hk; skip) | have hk := True.intro); (try simp [asks_c, asks, h1, h2, h3, h4, h5, hk]))
    | (rw [doesO_cons]; simp [asks_c, asks, h1, h2, h3, h4, h5, hk])
    | (rw [doesO_nil']; refine hQ' _ _ _ ?_; clear hQ' Q'; first | simp only [] | simp [asks_c, asks, h1, h2, h3, h4, h5, hk])
    | refine does_seq hp ?_
    | (refine does_gen hp ?_; intro Q' hQ')
    | refine does_block hp ?_
    | (refine does_ret hp ?_; simp [asks_c, asks, h1, h2, h3, h4, h5, hk])
    | (refine does_skip hp ?_; simp [asks_c, asks, h1, h2, h3, h4, h5, hk])
    | (refine does_exit hp ?_; simp [asks_c, asks, h1, h2, h3, h4, h5, hk])
    | (refine does_cond' hp ?_; simp [asks_c, asks, h1, h2, h3, h4, h5, hk]; done)
    | (refine onW_split (fun hcnd => ?_) (fun hcnd => ?_) <;> simp only [hcnd] <;> (try simp [-List.isEmpty_iff, -List.isEmpty_eq_false_iff] at hcnd) <;> simp [asks_c, asks, h1, h2, h3, h4, h5, hk])
    | (refine does_cond' hp ?_; simp [asks_c, asks, h1, h2, h3, h4, h5, hk]; refine fork (fun hcnd => ?_) (fun hcnd => ?_) <;> (try simp only [hcnd]) <;> (try simp [-List.isEmpty_iff, -List.isEmpty_eq_false_iff] at hcnd))
    | (refine does_cond' hp ?_; simp [asks_c, asks, h1, h2, h3, h4, h5, hk]))
  all_goals first | omega | (simp; exact ⟨_, by simpa [List.append_assoc] using ws'⟩) | exact ⟨_, by simpa [List.append_assoc] using ws'⟩ | skip
theorem cnd_w (c_has : Bool) (c_want : Bool) (c_col : BL) (c_v_kind : Int) (c_v_b : Option BL) (c_v_n : Nat) (hc : c_col.length ≤ 1048576) (hb : (ls c_v_b).length ≤ 1048576) : Writes K 41 [.agg [.bool c_has, .bool c_want, .str c_col, ii c_v_kind, bs c_v_b, .flt c_v_n]] (.tup []) (encCnd ⟨c_has, c_want, c_col, ⟨c_v_kind, c_v_b, c_v_n⟩⟩) := by
  have hv := val_w c_v_kind c_v_b c_v_n hb
  cases c_has
  · simp [encCnd]
    refine writes_of fun h p q l w hl => ?_
    have hk := True.intro
    have ws := WS.start w
    refine W_doesQ hp rfl rfl rfl Try.func41 rfl (by simp [Try.f41]) ?_
    simp only [Try.f41, List.length_cons, List.length_nil, List.replicate, List.cons_append, List.nil_append, Nat.reduceAdd, Nat.reduceSub]
    repeat' (first
      | (refine call_writes (byte_w 0) (by first | assumption | exact WS.new (by assumption) _ | exact WS.new (WS.new (by assumption) _) _) (by first | exact hl | omega | (simp only [List.length_append, List.length_cons, List.length_nil, be_length] at hl ⊢; omega) | (simp at hl ⊢; omega)) ?_; clear hk; intro h' ws' hk; (try simp only [keptP, and_true] at hk); (first | (have hk := hk; skip) | have hk := True.intro); (try simp [hk]))
      | (refine call_text (by first | assumption | omega) (by first | assumption | exact WS.new (by assumption) _ | exact WS.new (WS.new (by assumption) _) _) (by first | exact hl | omega | (simp only [List.length_append, List.length_cons, List.length_nil, be_length] at hl ⊢; omega) | (simp at hl ⊢; omega)) (by first | rfl | simp) ?_; clear hk; intro h' ws' hk; (try simp only [keptP, and_true] at hk); (first | (have hk := hk; skip) | have hk := True.intro); (try simp [hk]))
      | (rw [doesO_cons]; simp [hk])
      | (rw [doesO_nil']; refine hQ' _ _ _ ?_; clear hQ' Q'; first | simp only [] | simp [hk])
      | refine does_seq hp ?_
      | (refine does_gen hp ?_; intro Q' hQ')
      | refine does_block hp ?_
      | (refine does_ret hp ?_; simp [hk])
      | (refine does_skip hp ?_; simp [hk])
      | (refine does_exit hp ?_; simp [hk])
      | (refine does_cond' hp ?_; simp [hk]; done)
      | (refine onW_split (fun hcnd => ?_) (fun hcnd => ?_) <;> simp only [hcnd] <;> (try simp [-List.isEmpty_iff, -List.isEmpty_eq_false_iff] at hcnd) <;> simp [hk])
      | (refine does_cond' hp ?_; simp [hk]; refine fork (fun hcnd => ?_) (fun hcnd => ?_) <;> (try simp only [hcnd]) <;> (try simp [-List.isEmpty_iff, -List.isEmpty_eq_false_iff] at hcnd))
      | (refine does_cond' hp ?_; simp [hk]))
    all_goals first | omega | (simp; exact ⟨_, by simpa [List.append_assoc] using ws'⟩) | exact ⟨_, by simpa [List.append_assoc] using ws'⟩ | skip
  · cases c_want
    · simp [encCnd]
      refine writes_of fun h p q l w hl => ?_
      have hk := True.intro
      have ws := WS.start w
      refine W_doesQ hp rfl rfl rfl Try.func41 rfl (by simp [Try.f41]) ?_
      simp only [Try.f41, List.length_cons, List.length_nil, List.replicate, List.cons_append, List.nil_append, Nat.reduceAdd, Nat.reduceSub]
      repeat' (first
        | (refine call_writes (byte_w 1) (by first | assumption | exact WS.new (by assumption) _ | exact WS.new (WS.new (by assumption) _) _) (by first | exact hl | omega | (simp only [List.length_append, List.length_cons, List.length_nil, be_length] at hl ⊢; omega) | (simp at hl ⊢; omega)) ?_; clear hk; intro h' ws' hk; (try simp only [keptP, and_true] at hk); (first | (have hk := hk; skip) | have hk := True.intro); (try simp [convA, isByteT, le_lim hc, hk]))
        | (refine call_text (by first | assumption | omega) (by first | assumption | exact WS.new (by assumption) _ | exact WS.new (WS.new (by assumption) _) _) (by first | exact hl | omega | (simp only [List.length_append, List.length_cons, List.length_nil, be_length] at hl ⊢; omega) | (simp at hl ⊢; omega)) (by first | rfl | simp) ?_; clear hk; intro h' ws' hk; (try simp only [keptP, and_true] at hk); (first | (have hk := hk; skip) | have hk := True.intro); (try simp [convA, isByteT, le_lim hc, hk]))
        | (rw [doesO_cons]; simp [convA, isByteT, le_lim hc, hk])
        | (rw [doesO_nil']; refine hQ' _ _ _ ?_; clear hQ' Q'; first | simp only [] | simp [convA, isByteT, le_lim hc, hk])
        | refine does_seq hp ?_
        | (refine does_gen hp ?_; intro Q' hQ')
        | refine does_block hp ?_
        | (refine does_ret hp ?_; simp [convA, isByteT, le_lim hc, hk])
        | (refine does_skip hp ?_; simp [convA, isByteT, le_lim hc, hk])
        | (refine does_exit hp ?_; simp [convA, isByteT, le_lim hc, hk])
        | (refine does_cond' hp ?_; simp [convA, isByteT, le_lim hc, hk]; done)
        | (refine onW_split (fun hcnd => ?_) (fun hcnd => ?_) <;> simp only [hcnd] <;> (try simp [-List.isEmpty_iff, -List.isEmpty_eq_false_iff] at hcnd) <;> simp [convA, isByteT, le_lim hc, hk])
        | (refine does_cond' hp ?_; simp [convA, isByteT, le_lim hc, hk]; refine fork (fun hcnd => ?_) (fun hcnd => ?_) <;> (try simp only [hcnd]) <;> (try simp [-List.isEmpty_iff, -List.isEmpty_eq_false_iff] at hcnd))
        | (refine does_cond' hp ?_; simp [convA, isByteT, le_lim hc, hk]))
      all_goals first | omega | (simp; exact ⟨_, by simpa [List.append_assoc] using ws'⟩) | exact ⟨_, by simpa [List.append_assoc] using ws'⟩ | skip
    · simp [encCnd]
      refine writes_of fun h p q l w hl => ?_
      have hk := True.intro
      have ws := WS.start w
      refine W_doesQ hp rfl rfl rfl Try.func41 rfl (by simp [Try.f41]) ?_
      simp only [Try.f41, List.length_cons, List.length_nil, List.replicate, List.cons_append, List.nil_append, Nat.reduceAdd, Nat.reduceSub]
      repeat' (first
        | (refine call_writes (byte_w 2) (by first | assumption | exact WS.new (by assumption) _ | exact WS.new (WS.new (by assumption) _) _) (by first | exact hl | omega | (simp only [List.length_append, List.length_cons, List.length_nil, be_length] at hl ⊢; omega) | (simp at hl ⊢; omega)) ?_; clear hk; intro h' ws' hk; (try simp only [keptP, and_true] at hk); (first | (have hk := hk; skip) | have hk := True.intro); (try simp [convA, isByteT, le_lim hc, hk]))
        | (refine call_writes (hv) (by first | assumption | exact WS.new (by assumption) _ | exact WS.new (WS.new (by assumption) _) _) (by first | exact hl | omega | (simp only [List.length_append, List.length_cons, List.length_nil, be_length] at hl ⊢; omega) | (simp at hl ⊢; omega)) ?_; clear hk; intro h' ws' hk; (try simp only [keptP, and_true] at hk); (first | (have hk := hk; skip) | have hk := True.intro); (try simp [convA, isByteT, le_lim hc, hk]))
        | (refine call_text (by first | assumption | omega) (by first | assumption | exact WS.new (by assumption) _ | exact WS.new (WS.new (by assumption) _) _) (by first | exact hl | omega | (simp only [List.length_append, List.length_cons, List.length_nil, be_length] at hl ⊢; omega) | (simp at hl ⊢; omega)) (by first | rfl | simp) ?_; clear hk; intro h' ws' hk; (try simp only [keptP, and_true] at hk); (first | (have hk := hk; skip) | have hk := True.intro); (try simp [convA, isByteT, le_lim hc, hk]))
        | (rw [doesO_cons]; simp [convA, isByteT, le_lim hc, hk])
        | (rw [doesO_nil']; refine hQ' _ _ _ ?_; clear hQ' Q'; first | simp only [] | simp [convA, isByteT, le_lim hc, hk])
        | refine does_seq hp ?_
        | (refine does_gen hp ?_; intro Q' hQ')
        | refine does_block hp ?_
        | (refine does_ret hp ?_; simp [convA, isByteT, le_lim hc, hk])
        | (refine does_skip hp ?_; simp [convA, isByteT, le_lim hc, hk])
        | (refine does_exit hp ?_; simp [convA, isByteT, le_lim hc, hk])
        | (refine does_cond' hp ?_; simp [convA, isByteT, le_lim hc, hk]; done)
        | (refine onW_split (fun hcnd => ?_) (fun hcnd => ?_) <;> simp only [hcnd] <;> (try simp [-List.isEmpty_iff, -List.isEmpty_eq_false_iff] at hcnd) <;> simp [convA, isByteT, le_lim hc, hk])
        | (refine does_cond' hp ?_; simp [convA, isByteT, le_lim hc, hk]; refine fork (fun hcnd => ?_) (fun hcnd => ?_) <;> (try simp only [hcnd]) <;> (try simp [-List.isEmpty_iff, -List.isEmpty_eq_false_iff] at hcnd))
        | (refine does_cond' hp ?_; simp [convA, isByteT, le_lim hc, hk]))
      all_goals first | omega | (simp; exact ⟨_, by simpa [List.append_assoc] using ws'⟩) | exact ⟨_, by simpa [List.append_assoc] using ws'⟩ | skip
theorem spn_w (lo hi : BL) (h1 : lo.length ≤ 1048576) (h2 : hi.length ≤ 1048576) : Writes K 23 [.agg [.str lo, .str hi]] (.tup []) (encSpn ⟨lo, hi⟩) := by
  simp only [encSpn]
  refine writes_of fun h p q l w hl => ?_
  have hk := True.intro
  have ws := WS.start w
  refine W_doesQ hp rfl rfl rfl Try.func23 rfl (by simp [Try.f23]) ?_
  simp only [Try.f23, List.length_cons, List.length_nil, List.replicate, List.cons_append, List.nil_append, Nat.reduceAdd, Nat.reduceSub]
  repeat' (first
    | (refine call_writes (byte_w 0) (by first | assumption | exact WS.new (by assumption) _ | exact WS.new (WS.new (by assumption) _) _) (by first | exact hl | omega | (simp only [List.length_append, List.length_cons, List.length_nil, be_length] at hl ⊢; omega) | (simp at hl ⊢; omega)) ?_; clear hk; intro h' ws' hk; (try simp only [keptP, and_true] at hk); (first | (have hk := hk; skip) | have hk := True.intro); (try simp [convA, isByteT, le_lim h1, le_lim h2, hk]))
    | (refine call_text (by first | assumption | omega) (by first | assumption | exact WS.new (by assumption) _ | exact WS.new (WS.new (by assumption) _) _) (by first | exact hl | omega | (simp only [List.length_append, List.length_cons, List.length_nil, be_length] at hl ⊢; omega) | (simp at hl ⊢; omega)) (by first | rfl | simp) ?_; clear hk; intro h' ws' hk; (try simp only [keptP, and_true] at hk); (first | (have hk := hk; skip) | have hk := True.intro); (try simp [convA, isByteT, le_lim h1, le_lim h2, hk]))
    | (rw [doesO_cons]; simp [convA, isByteT, le_lim h1, le_lim h2, hk])
    | (rw [doesO_nil']; refine hQ' _ _ _ ?_; clear hQ' Q'; first | simp only [] | simp [convA, isByteT, le_lim h1, le_lim h2, hk])
    | refine does_seq hp ?_
    | (refine does_gen hp ?_; intro Q' hQ')
    | refine does_block hp ?_
    | (refine does_ret hp ?_; simp [convA, isByteT, le_lim h1, le_lim h2, hk])
    | (refine does_skip hp ?_; simp [convA, isByteT, le_lim h1, le_lim h2, hk])
    | (refine does_exit hp ?_; simp [convA, isByteT, le_lim h1, le_lim h2, hk])
    | (refine does_cond' hp ?_; simp [convA, isByteT, le_lim h1, le_lim h2, hk]; done)
    | (refine onW_split (fun hcnd => ?_) (fun hcnd => ?_) <;> simp only [hcnd] <;> (try simp [-List.isEmpty_iff, -List.isEmpty_eq_false_iff] at hcnd) <;> simp [convA, isByteT, le_lim h1, le_lim h2, hk])
    | (refine does_cond' hp ?_; simp [convA, isByteT, le_lim h1, le_lim h2, hk]; refine fork (fun hcnd => ?_) (fun hcnd => ?_) <;> (try simp only [hcnd]) <;> (try simp [-List.isEmpty_iff, -List.isEmpty_eq_false_iff] at hcnd))
    | (refine does_cond' hp ?_; simp [convA, isByteT, le_lim h1, le_lim h2, hk]))
  all_goals first | omega | (simp; exact ⟨_, by simpa [List.append_assoc] using ws'⟩) | exact ⟨_, by simpa [List.append_assoc] using ws'⟩ | skip
end Go.Proofs.Ytmhbdpgflomihaa
