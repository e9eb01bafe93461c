/- A part of a proof over the abstract machine. No conditions. -/
import Derived.Test.YtmhbdpgflomihaaGreatC3
namespace Go.Proofs.YtmhbdpgflomihaaGreat
open Go Go.Ab Wm NumPlain
set_option linter.unusedSimpArgs false
set_option linter.unnecessarySimpa false
set_option linter.unusedVariables false
set_option maxRecDepth 10000
set_option maxHeartbeats 4000000
theorem val_w (v_kind : Int) (v_b : Option BL) (v_n : Nat) (hb : (ls v_b).length ≤ 1048576) : Writes K 123 [.agg [ii v_kind, bs v_b, .flt v_n]] (.tup []) (encVal ⟨v_kind, v_b, v_n⟩) := by
  by_cases h1 : v_kind = 1
  · simp only [encVal, h1, if_true]
    refine writes_of fun h p q l w hl => ?_
    have hk := True.intro
    have ws := WS.start w
    refine W_doesQ hp rfl rfl rfl Tryz.func123 rfl (by simp [Tryz.f123]) ?_
    simp only [Tryz.f123]
    refine hide ?_; intro Q1 hQ1
    repeat' (first
      | (replace hQ1 := hQ1; simp [h1, hk])
      | refine hQ1 _ _ _ ?_
      | ((with_reducible refine call_id ?_); first
        | (refine call_writes (byte_w 1) (by first | assumption | exact WS.new (by assumption) _ | exact WS.new (WS.new (by assumption) _) _) (by first | (simp only [List.length_append, List.length_cons, List.length_nil, be_length, textB, encSpn, num4, num8]; omega) | exact hl | omega | (simp only [List.length_append, List.length_cons, List.length_nil, be_length] at hl ⊢; omega) | (simp at hl ⊢; omega)) ?_; clear hk; intro h' ws' hk; (try simp only [keptP, and_true] at hk); (first | (have hk := hk; skip) | have hk := True.intro); (try simp [h1, hk]))
        | (refine call_writes (text_w v_b hb) (by first | assumption | exact WS.new (by assumption) _ | exact WS.new (WS.new (by assumption) _) _) (by first | (simp only [List.length_append, List.length_cons, List.length_nil, be_length, textB, encSpn, num4, num8]; omega) | exact hl | omega | (simp only [List.length_append, List.length_cons, List.length_nil, be_length] at hl ⊢; omega) | (simp at hl ⊢; omega)) ?_; clear hk; intro h' ws' hk; (try simp only [keptP, and_true] at hk); (first | (have hk := hk; skip) | have hk := True.intro); (try simp [h1, hk]))
        | (refine call_text (by first | assumption | omega) (by first | assumption | exact WS.new (by assumption) _ | exact WS.new (WS.new (by assumption) _) _) (by first | (simp only [List.length_append, List.length_cons, List.length_nil, be_length, textB, encSpn, num4, num8]; omega) | exact hl | omega | (simp only [List.length_append, List.length_cons, List.length_nil, be_length] at hl ⊢; omega) | (simp at hl ⊢; omega)) (by first | rfl | simp) ?_; clear hk; intro h' ws' hk; (try simp only [keptP, and_true] at hk); (first | (have hk := hk; skip) | have hk := True.intro); (try simp [h1, hk])))
      | (first | apply cF | apply wN | apply wS) <;> intro hcnd <;> (try simp only [hcnd]) <;> (try simp [-List.isEmpty_iff, -List.isEmpty_eq_false_iff] at hcnd))
    all_goals first | omega | (simp; exact ⟨_, by simpa [List.append_assoc] using ws'⟩) | exact ⟨_, by simpa [List.append_assoc] using ws'⟩ | skip
  · by_cases h2 : v_kind = 2
    · subst h2; simp only [encVal, Int.reduceEq, if_true, if_false]
      refine writes_of fun h p q l w hl => ?_
      have hk := True.intro
      have ws := WS.start w
      refine W_doesQ hp rfl rfl rfl Tryz.func123 rfl (by simp [Tryz.f123]) ?_
      simp only [Tryz.f123]
      refine hide ?_; intro Q2 hQ2
      repeat' (first
        | (replace hQ2 := hQ2; simp [hk])
        | refine hQ2 _ _ _ ?_
        | ((with_reducible refine call_id ?_); first
          | (refine call_writes (byte_w 2) (by first | assumption | exact WS.new (by assumption) _ | exact WS.new (WS.new (by assumption) _) _) (by first | (simp only [List.length_append, List.length_cons, List.length_nil, be_length, textB, encSpn, num4, num8]; omega) | exact hl | omega | (simp only [List.length_append, List.length_cons, List.length_nil, be_length] at hl ⊢; omega) | (simp at hl ⊢; omega)) ?_; clear hk; intro h' ws' hk; (try simp only [keptP, and_true] at hk); (first | (have hk := hk; skip) | have hk := True.intro); (try simp [hk]))
          | (refine call_writes (float_w v_n) (by first | assumption | exact WS.new (by assumption) _ | exact WS.new (WS.new (by assumption) _) _) (by first | (simp only [List.length_append, List.length_cons, List.length_nil, be_length, textB, encSpn, num4, num8]; omega) | exact hl | omega | (simp only [List.length_append, List.length_cons, List.length_nil, be_length] at hl ⊢; omega) | (simp at hl ⊢; omega)) ?_; clear hk; intro h' ws' hk; (try simp only [keptP, and_true] at hk); (first | (have hk := hk; skip) | have hk := True.intro); (try simp [hk]))
          | (refine call_text (by first | assumption | omega) (by first | assumption | exact WS.new (by assumption) _ | exact WS.new (WS.new (by assumption) _) _) (by first | (simp only [List.length_append, List.length_cons, List.length_nil, be_length, textB, encSpn, num4, num8]; omega) | exact hl | omega | (simp only [List.length_append, List.length_cons, List.length_nil, be_length] at hl ⊢; omega) | (simp at hl ⊢; omega)) (by first | rfl | simp) ?_; clear hk; intro h' ws' hk; (try simp only [keptP, and_true] at hk); (first | (have hk := hk; skip) | have hk := True.intro); (try simp [hk])))
        | (first | apply cF | apply wN | apply wS) <;> intro hcnd <;> (try simp only [hcnd]) <;> (try simp [-List.isEmpty_iff, -List.isEmpty_eq_false_iff] at hcnd))
      all_goals first | omega | (simp; exact ⟨_, by simpa [List.append_assoc] using ws'⟩) | exact ⟨_, by simpa [List.append_assoc] using ws'⟩ | skip
    · simp only [encVal, h1, h2, if_false]
      refine writes_of fun h p q l w hl => ?_
      have hk := True.intro
      have ws := WS.start w
      refine W_doesQ hp rfl rfl rfl Tryz.func123 rfl (by simp [Tryz.f123]) ?_
      simp only [Tryz.f123]
      refine hide ?_; intro Q3 hQ3
      repeat' (first
        | (replace hQ3 := hQ3; simp [hk])
        | refine hQ3 _ _ _ ?_
        | ((with_reducible refine call_id ?_); first
          | (refine call_writes (byte_w 0) (by first | assumption | exact WS.new (by assumption) _ | exact WS.new (WS.new (by assumption) _) _) (by first | (simp only [List.length_append, List.length_cons, List.length_nil, be_length, textB, encSpn, num4, num8]; omega) | exact hl | omega | (simp only [List.length_append, List.length_cons, List.length_nil, be_length] at hl ⊢; omega) | (simp at hl ⊢; omega)) ?_; clear hk; intro h' ws' hk; (try simp only [keptP, and_true] at hk); (first | (have hk := hk; skip) | have hk := True.intro); (try simp [hk]))
          | (refine call_text (by first | assumption | omega) (by first | assumption | exact WS.new (by assumption) _ | exact WS.new (WS.new (by assumption) _) _) (by first | (simp only [List.length_append, List.length_cons, List.length_nil, be_length, textB, encSpn, num4, num8]; omega) | exact hl | omega | (simp only [List.length_append, List.length_cons, List.length_nil, be_length] at hl ⊢; omega) | (simp at hl ⊢; omega)) (by first | rfl | simp) ?_; clear hk; intro h' ws' hk; (try simp only [keptP, and_true] at hk); (first | (have hk := hk; skip) | have hk := True.intro); (try simp [hk])))
        | (first | apply cF | apply wN | apply wS) <;> intro hcnd <;> (try simp only [hcnd]) <;> (try simp [-List.isEmpty_iff, -List.isEmpty_eq_false_iff] at hcnd))
      all_goals first | omega | (simp; exact ⟨_, by simpa [List.append_assoc] using ws'⟩) | exact ⟨_, by simpa [List.append_assoc] using ws'⟩ | skip
theorem chg_w (c_kind : Int) (c_col : BL) (c_time : Int) (c_v_kind : Int) (c_v_b : Option BL) (c_v_n : Nat) (hc : c_col.length ≤ 1048576) (hb : (ls c_v_b).length ≤ 1048576) : Writes K 91 [.agg [ii c_kind, .str c_col, ii c_time, ii c_v_kind, bs c_v_b, .flt c_v_n]] (.tup []) (encChg ⟨c_kind, c_col, c_time, ⟨c_v_kind, c_v_b, c_v_n⟩⟩) := by
  have hv := val_w c_v_kind c_v_b c_v_n hb
  by_cases h1 : c_kind = 1
  · subst h1; simp [encChg, asks]
    refine writes_of fun h p q l w hl => ?_
    have hk := True.intro
    have ws := WS.start w
    refine W_doesQ hp rfl rfl rfl Tryz.func91 rfl (by simp [Tryz.f91]) ?_
    simp only [Tryz.f91]
    refine hide ?_; intro Q4 hQ4
    repeat' (first
      | (replace hQ4 := hQ4; simp [asks_c, asks, convA, isByteT, wrapB, le_lim hc, hk])
      | refine hQ4 _ _ _ ?_
      | ((with_reducible refine call_id ?_); first
        | (refine call_writes (byte_w _) (by first | assumption | exact WS.new (by assumption) _ | exact WS.new (WS.new (by assumption) _) _) (by first | (simp only [List.length_append, List.length_cons, List.length_nil, be_length, textB, encSpn, num4, num8]; omega) | exact hl | omega | (simp only [List.length_append, List.length_cons, List.length_nil, be_length] at hl ⊢; omega) | (simp at hl ⊢; omega)) ?_; clear hk; intro h' ws' hk; (try simp only [keptP, and_true] at hk); (first | (have hk := hk; skip) | have hk := True.intro); (try simp [asks_c, asks, convA, isByteT, wrapB, le_lim hc, hk]))
        | (refine call_writes (hv) (by first | assumption | exact WS.new (by assumption) _ | exact WS.new (WS.new (by assumption) _) _) (by first | (simp only [List.length_append, List.length_cons, List.length_nil, be_length, textB, encSpn, num4, num8]; omega) | exact hl | omega | (simp only [List.length_append, List.length_cons, List.length_nil, be_length] at hl ⊢; omega) | (simp at hl ⊢; omega)) ?_; clear hk; intro h' ws' hk; (try simp only [keptP, and_true] at hk); (first | (have hk := hk; skip) | have hk := True.intro); (try simp [asks_c, asks, convA, isByteT, wrapB, le_lim hc, hk]))
        | (refine call_writes (longI_w _) (by first | assumption | exact WS.new (by assumption) _ | exact WS.new (WS.new (by assumption) _) _) (by first | (simp only [List.length_append, List.length_cons, List.length_nil, be_length, textB, encSpn, num4, num8]; omega) | exact hl | omega | (simp only [List.length_append, List.length_cons, List.length_nil, be_length] at hl ⊢; omega) | (simp at hl ⊢; omega)) ?_; clear hk; intro h' ws' hk; (try simp only [keptP, and_true] at hk); (first | (have hk := hk; skip) | have hk := True.intro); (try simp [asks_c, asks, convA, isByteT, wrapB, le_lim hc, hk]))
        | (refine call_text (by first | assumption | omega) (by first | assumption | exact WS.new (by assumption) _ | exact WS.new (WS.new (by assumption) _) _) (by first | (simp only [List.length_append, List.length_cons, List.length_nil, be_length, textB, encSpn, num4, num8]; omega) | exact hl | omega | (simp only [List.length_append, List.length_cons, List.length_nil, be_length] at hl ⊢; omega) | (simp at hl ⊢; omega)) (by first | rfl | simp) ?_; clear hk; intro h' ws' hk; (try simp only [keptP, and_true] at hk); (first | (have hk := hk; skip) | have hk := True.intro); (try simp [asks_c, asks, convA, isByteT, wrapB, le_lim hc, hk])))
      | (first | apply cF | apply wN | apply wS) <;> intro hcnd <;> (try simp only [hcnd]) <;> (try simp [-List.isEmpty_iff, -List.isEmpty_eq_false_iff] at hcnd))
    all_goals first | omega | (simp; exact ⟨_, by simpa [List.append_assoc] using ws'⟩) | exact ⟨_, by simpa [List.append_assoc] using ws'⟩ | skip
  by_cases h5 : c_kind = 5
  · subst h5; simp [encChg, asks]
    refine writes_of fun h p q l w hl => ?_
    have hk := True.intro
    have ws := WS.start w
    refine W_doesQ hp rfl rfl rfl Tryz.func91 rfl (by simp [Tryz.f91]) ?_
    simp only [Tryz.f91]
    refine hide ?_; intro Q5 hQ5
    repeat' (first
      | (replace hQ5 := hQ5; simp [asks_c, asks, convA, isByteT, wrapB, le_lim hc, hk])
      | refine hQ5 _ _ _ ?_
      | ((with_reducible refine call_id ?_); first
        | (refine call_writes (byte_w _) (by first | assumption | exact WS.new (by assumption) _ | exact WS.new (WS.new (by assumption) _) _) (by first | (simp only [List.length_append, List.length_cons, List.length_nil, be_length, textB, encSpn, num4, num8]; omega) | exact hl | omega | (simp only [List.length_append, List.length_cons, List.length_nil, be_length] at hl ⊢; omega) | (simp at hl ⊢; omega)) ?_; clear hk; intro h' ws' hk; (try simp only [keptP, and_true] at hk); (first | (have hk := hk; skip) | have hk := True.intro); (try simp [asks_c, asks, convA, isByteT, wrapB, le_lim hc, hk]))
        | (refine call_writes (hv) (by first | assumption | exact WS.new (by assumption) _ | exact WS.new (WS.new (by assumption) _) _) (by first | (simp only [List.length_append, List.length_cons, List.length_nil, be_length, textB, encSpn, num4, num8]; omega) | exact hl | omega | (simp only [List.length_append, List.length_cons, List.length_nil, be_length] at hl ⊢; omega) | (simp at hl ⊢; omega)) ?_; clear hk; intro h' ws' hk; (try simp only [keptP, and_true] at hk); (first | (have hk := hk; skip) | have hk := True.intro); (try simp [asks_c, asks, convA, isByteT, wrapB, le_lim hc, hk]))
        | (refine call_writes (longI_w _) (by first | assumption | exact WS.new (by assumption) _ | exact WS.new (WS.new (by assumption) _) _) (by first | (simp only [List.length_append, List.length_cons, List.length_nil, be_length, textB, encSpn, num4, num8]; omega) | exact hl | omega | (simp only [List.length_append, List.length_cons, List.length_nil, be_length] at hl ⊢; omega) | (simp at hl ⊢; omega)) ?_; clear hk; intro h' ws' hk; (try simp only [keptP, and_true] at hk); (first | (have hk := hk; skip) | have hk := True.intro); (try simp [asks_c, asks, convA, isByteT, wrapB, le_lim hc, hk]))
        | (refine call_text (by first | assumption | omega) (by first | assumption | exact WS.new (by assumption) _ | exact WS.new (WS.new (by assumption) _) _) (by first | (simp only [List.length_append, List.length_cons, List.length_nil, be_length, textB, encSpn, num4, num8]; omega) | exact hl | omega | (simp only [List.length_append, List.length_cons, List.length_nil, be_length] at hl ⊢; omega) | (simp at hl ⊢; omega)) (by first | rfl | simp) ?_; clear hk; intro h' ws' hk; (try simp only [keptP, and_true] at hk); (first | (have hk := hk; skip) | have hk := True.intro); (try simp [asks_c, asks, convA, isByteT, wrapB, le_lim hc, hk])))
      | (first | apply cF | apply wN | apply wS) <;> intro hcnd <;> (try simp only [hcnd]) <;> (try simp [-List.isEmpty_iff, -List.isEmpty_eq_false_iff] at hcnd))
    all_goals first | omega | (simp; exact ⟨_, by simpa [List.append_assoc] using ws'⟩) | exact ⟨_, by simpa [List.append_assoc] using ws'⟩ | skip
  by_cases h2 : c_kind = 2
  · subst h2; simp [encChg, asks]
    refine writes_of fun h p q l w hl => ?_
    have hk := True.intro
    have ws := WS.start w
    refine W_doesQ hp rfl rfl rfl Tryz.func91 rfl (by simp [Tryz.f91]) ?_
    simp only [Tryz.f91]
    refine hide ?_; intro Q6 hQ6
    repeat' (first
      | (replace hQ6 := hQ6; simp [asks_c, asks, convA, isByteT, wrapB, le_lim hc, hk])
      | refine hQ6 _ _ _ ?_
      | ((with_reducible refine call_id ?_); first
        | (refine call_writes (byte_w _) (by first | assumption | exact WS.new (by assumption) _ | exact WS.new (WS.new (by assumption) _) _) (by first | (simp only [List.length_append, List.length_cons, List.length_nil, be_length, textB, encSpn, num4, num8]; omega) | exact hl | omega | (simp only [List.length_append, List.length_cons, List.length_nil, be_length] at hl ⊢; omega) | (simp at hl ⊢; omega)) ?_; clear hk; intro h' ws' hk; (try simp only [keptP, and_true] at hk); (first | (have hk := hk; skip) | have hk := True.intro); (try simp [asks_c, asks, convA, isByteT, wrapB, le_lim hc, hk]))
        | (refine call_writes (longI_w _) (by first | assumption | exact WS.new (by assumption) _ | exact WS.new (WS.new (by assumption) _) _) (by first | (simp only [List.length_append, List.length_cons, List.length_nil, be_length, textB, encSpn, num4, num8]; omega) | exact hl | omega | (simp only [List.length_append, List.length_cons, List.length_nil, be_length] at hl ⊢; omega) | (simp at hl ⊢; omega)) ?_; clear hk; intro h' ws' hk; (try simp only [keptP, and_true] at hk); (first | (have hk := hk; skip) | have hk := True.intro); (try simp [asks_c, asks, convA, isByteT, wrapB, le_lim hc, hk]))
        | (refine call_text (by first | assumption | omega) (by first | assumption | exact WS.new (by assumption) _ | exact WS.new (WS.new (by assumption) _) _) (by first | (simp only [List.length_append, List.length_cons, List.length_nil, be_length, textB, encSpn, num4, num8]; omega) | exact hl | omega | (simp only [List.length_append, List.length_cons, List.length_nil, be_length] at hl ⊢; omega) | (simp at hl ⊢; omega)) (by first | rfl | simp) ?_; clear hk; intro h' ws' hk; (try simp only [keptP, and_true] at hk); (first | (have hk := hk; skip) | have hk := True.intro); (try simp [asks_c, asks, convA, isByteT, wrapB, le_lim hc, hk])))
      | (first | apply cF | apply wN | apply wS) <;> intro hcnd <;> (try simp only [hcnd]) <;> (try simp [-List.isEmpty_iff, -List.isEmpty_eq_false_iff] at hcnd))
    all_goals first | omega | (simp; exact ⟨_, by simpa [List.append_assoc] using ws'⟩) | exact ⟨_, by simpa [List.append_assoc] using ws'⟩ | skip
  by_cases h3 : c_kind = 3
  · subst h3; simp [encChg, asks]
    refine writes_of fun h p q l w hl => ?_
    have hk := True.intro
    have ws := WS.start w
    refine W_doesQ hp rfl rfl rfl Tryz.func91 rfl (by simp [Tryz.f91]) ?_
    simp only [Tryz.f91]
    refine hide ?_; intro Q7 hQ7
    repeat' (first
      | (replace hQ7 := hQ7; simp [asks_c, asks, convA, isByteT, wrapB, le_lim hc, hk])
      | refine hQ7 _ _ _ ?_
      | ((with_reducible refine call_id ?_); first
        | (refine call_writes (byte_w _) (by first | assumption | exact WS.new (by assumption) _ | exact WS.new (WS.new (by assumption) _) _) (by first | (simp only [List.length_append, List.length_cons, List.length_nil, be_length, textB, encSpn, num4, num8]; omega) | exact hl | omega | (simp only [List.length_append, List.length_cons, List.length_nil, be_length] at hl ⊢; omega) | (simp at hl ⊢; omega)) ?_; clear hk; intro h' ws' hk; (try simp only [keptP, and_true] at hk); (first | (have hk := hk; skip) | have hk := True.intro); (try simp [asks_c, asks, convA, isByteT, wrapB, le_lim hc, hk]))
        | (refine call_text (by first | assumption | omega) (by first | assumption | exact WS.new (by assumption) _ | exact WS.new (WS.new (by assumption) _) _) (by first | (simp only [List.length_append, List.length_cons, List.length_nil, be_length, textB, encSpn, num4, num8]; omega) | exact hl | omega | (simp only [List.length_append, List.length_cons, List.length_nil, be_length] at hl ⊢; omega) | (simp at hl ⊢; omega)) (by first | rfl | simp) ?_; clear hk; intro h' ws' hk; (try simp only [keptP, and_true] at hk); (first | (have hk := hk; skip) | have hk := True.intro); (try simp [asks_c, asks, convA, isByteT, wrapB, le_lim hc, hk])))
      | (first | apply cF | apply wN | apply wS) <;> intro hcnd <;> (try simp only [hcnd]) <;> (try simp [-List.isEmpty_iff, -List.isEmpty_eq_false_iff] at hcnd))
    all_goals first | omega | (simp; exact ⟨_, by simpa [List.append_assoc] using ws'⟩) | exact ⟨_, by simpa [List.append_assoc] using ws'⟩ | skip
  by_cases h4 : c_kind = 4
  · subst h4; simp [encChg, asks]
    refine writes_of fun h p q l w hl => ?_
    have hk := True.intro
    have ws := WS.start w
    refine W_doesQ hp rfl rfl rfl Tryz.func91 rfl (by simp [Tryz.f91]) ?_
    simp only [Tryz.f91]
    refine hide ?_; intro Q8 hQ8
    repeat' (first
      | (replace hQ8 := hQ8; simp [asks_c, asks, convA, wrapB, hk])
      | refine hQ8 _ _ _ ?_
      | ((with_reducible refine call_id ?_); first
        | (refine call_writes (byte_w _) (by first | assumption | exact WS.new (by assumption) _ | exact WS.new (WS.new (by assumption) _) _) (by first | (simp only [List.length_append, List.length_cons, List.length_nil, be_length, textB, encSpn, num4, num8]; omega) | exact hl | omega | (simp only [List.length_append, List.length_cons, List.length_nil, be_length] at hl ⊢; omega) | (simp at hl ⊢; omega)) ?_; clear hk; intro h' ws' hk; (try simp only [keptP, and_true] at hk); (first | (have hk := hk; skip) | have hk := True.intro); (try simp [asks_c, asks, convA, wrapB, hk]))
        | (refine call_text (by first | assumption | omega) (by first | assumption | exact WS.new (by assumption) _ | exact WS.new (WS.new (by assumption) _) _) (by first | (simp only [List.length_append, List.length_cons, List.length_nil, be_length, textB, encSpn, num4, num8]; omega) | exact hl | omega | (simp only [List.length_append, List.length_cons, List.length_nil, be_length] at hl ⊢; omega) | (simp at hl ⊢; omega)) (by first | rfl | simp) ?_; clear hk; intro h' ws' hk; (try simp only [keptP, and_true] at hk); (first | (have hk := hk; skip) | have hk := True.intro); (try simp [asks_c, asks, convA, wrapB, hk])))
      | (first | apply cF | apply wN | apply wS) <;> intro hcnd <;> (try simp only [hcnd]) <;> (try simp [-List.isEmpty_iff, -List.isEmpty_eq_false_iff] at hcnd))
    all_goals first | omega | (simp; exact ⟨_, by simpa [List.append_assoc] using ws'⟩) | exact ⟨_, by simpa [List.append_assoc] using ws'⟩ | skip
  simp [encChg, asks, h1, h2, h3, h4, h5]
  refine writes_of fun h p q l w hl => ?_
  have hk := True.intro
  have ws := WS.start w
  refine W_doesQ hp rfl rfl rfl Tryz.func91 rfl (by simp [Tryz.f91]) ?_
  simp only [Tryz.f91]
  refine hide ?_; intro Q9 hQ9
  repeat' (first
    | (replace hQ9 := hQ9; simp [asks_c, asks, h1, h2, h3, h4, h5, hk])
    | refine hQ9 _ _ _ ?_
    | ((with_reducible refine call_id ?_); first
      | (refine call_writes (byte_w 0) (by first | assumption | exact WS.new (by assumption) _ | exact WS.new (WS.new (by assumption) _) _) (by first | (simp only [List.length_append, List.length_cons, List.length_nil, be_length, textB, encSpn, num4, num8]; omega) | exact hl | omega | (simp only [List.length_append, List.length_cons, List.length_nil, be_length] at hl ⊢; omega) | (simp at hl ⊢; omega)) ?_; clear hk; intro h' ws' hk; (try simp only [keptP, and_true] at hk); (first | (have hk := hk; skip) | have hk := True.intro); (try simp [asks_c, asks, h1, h2, h3, h4, h5, hk]))
      | (refine call_text (by first | assumption | omega) (by first | assumption | exact WS.new (by assumption) _ | exact WS.new (WS.new (by assumption) _) _) (by first | (simp only [List.length_append, List.length_cons, List.length_nil, be_length, textB, encSpn, num4, num8]; omega) | exact hl | omega | (simp only [List.length_append, List.length_cons, List.length_nil, be_length] at hl ⊢; omega) | (simp at hl ⊢; omega)) (by first | rfl | simp) ?_; clear hk; intro h' ws' hk; (try simp only [keptP, and_true] at hk); (first | (have hk := hk; skip) | have hk := True.intro); (try simp [asks_c, asks, h1, h2, h3, h4, h5, hk])))
    | (first | apply cF | apply wN | apply wS) <;> intro hcnd <;> (try simp only [hcnd]) <;> (try simp [-List.isEmpty_iff, -List.isEmpty_eq_false_iff] at hcnd))
  all_goals first | omega | (simp; exact ⟨_, by simpa [List.append_assoc] using ws'⟩) | exact ⟨_, by simpa [List.append_assoc] using ws'⟩ | skip
theorem cnd_w (c_has : Bool) (c_want : Bool) (c_col : BL) (c_v_kind : Int) (c_v_b : Option BL) (c_v_n : Nat) (hc : c_col.length ≤ 1048576) (hb : (ls c_v_b).length ≤ 1048576) : Writes K 90 [.agg [.bool c_has, .bool c_want, .str c_col, ii c_v_kind, bs c_v_b, .flt c_v_n]] (.tup []) (encCnd ⟨c_has, c_want, c_col, ⟨c_v_kind, c_v_b, c_v_n⟩⟩) := by
  have hv := val_w c_v_kind c_v_b c_v_n hb
  cases c_has
  · simp [encCnd]
    refine writes_of fun h p q l w hl => ?_
    have hk := True.intro
    have ws := WS.start w
    refine W_doesQ hp rfl rfl rfl Tryz.func90 rfl (by simp [Tryz.f90]) ?_
    simp only [Tryz.f90]
    refine hide ?_; intro Q10 hQ10
    repeat' (first
      | (replace hQ10 := hQ10; simp [hk])
      | refine hQ10 _ _ _ ?_
      | ((with_reducible refine call_id ?_); first
        | (refine call_writes (byte_w 0) (by first | assumption | exact WS.new (by assumption) _ | exact WS.new (WS.new (by assumption) _) _) (by first | (simp only [List.length_append, List.length_cons, List.length_nil, be_length, textB, encSpn, num4, num8]; omega) | exact hl | omega | (simp only [List.length_append, List.length_cons, List.length_nil, be_length] at hl ⊢; omega) | (simp at hl ⊢; omega)) ?_; clear hk; intro h' ws' hk; (try simp only [keptP, and_true] at hk); (first | (have hk := hk; skip) | have hk := True.intro); (try simp [hk]))
        | (refine call_text (by first | assumption | omega) (by first | assumption | exact WS.new (by assumption) _ | exact WS.new (WS.new (by assumption) _) _) (by first | (simp only [List.length_append, List.length_cons, List.length_nil, be_length, textB, encSpn, num4, num8]; omega) | exact hl | omega | (simp only [List.length_append, List.length_cons, List.length_nil, be_length] at hl ⊢; omega) | (simp at hl ⊢; omega)) (by first | rfl | simp) ?_; clear hk; intro h' ws' hk; (try simp only [keptP, and_true] at hk); (first | (have hk := hk; skip) | have hk := True.intro); (try simp [hk])))
      | (first | apply cF | apply wN | apply wS) <;> intro hcnd <;> (try simp only [hcnd]) <;> (try simp [-List.isEmpty_iff, -List.isEmpty_eq_false_iff] at hcnd))
    all_goals first | omega | (simp; exact ⟨_, by simpa [List.append_assoc] using ws'⟩) | exact ⟨_, by simpa [List.append_assoc] using ws'⟩ | skip
  · cases c_want
    · simp [encCnd]
      refine writes_of fun h p q l w hl => ?_
      have hk := True.intro
      have ws := WS.start w
      refine W_doesQ hp rfl rfl rfl Tryz.func90 rfl (by simp [Tryz.f90]) ?_
      simp only [Tryz.f90]
      refine hide ?_; intro Q11 hQ11
      repeat' (first
        | (replace hQ11 := hQ11; simp [convA, isByteT, le_lim hc, hk])
        | refine hQ11 _ _ _ ?_
        | ((with_reducible refine call_id ?_); first
          | (refine call_writes (byte_w 1) (by first | assumption | exact WS.new (by assumption) _ | exact WS.new (WS.new (by assumption) _) _) (by first | (simp only [List.length_append, List.length_cons, List.length_nil, be_length, textB, encSpn, num4, num8]; omega) | exact hl | omega | (simp only [List.length_append, List.length_cons, List.length_nil, be_length] at hl ⊢; omega) | (simp at hl ⊢; omega)) ?_; clear hk; intro h' ws' hk; (try simp only [keptP, and_true] at hk); (first | (have hk := hk; skip) | have hk := True.intro); (try simp [convA, isByteT, le_lim hc, hk]))
          | (refine call_text (by first | assumption | omega) (by first | assumption | exact WS.new (by assumption) _ | exact WS.new (WS.new (by assumption) _) _) (by first | (simp only [List.length_append, List.length_cons, List.length_nil, be_length, textB, encSpn, num4, num8]; omega) | exact hl | omega | (simp only [List.length_append, List.length_cons, List.length_nil, be_length] at hl ⊢; omega) | (simp at hl ⊢; omega)) (by first | rfl | simp) ?_; clear hk; intro h' ws' hk; (try simp only [keptP, and_true] at hk); (first | (have hk := hk; skip) | have hk := True.intro); (try simp [convA, isByteT, le_lim hc, hk])))
        | (first | apply cF | apply wN | apply wS) <;> intro hcnd <;> (try simp only [hcnd]) <;> (try simp [-List.isEmpty_iff, -List.isEmpty_eq_false_iff] at hcnd))
      all_goals first | omega | (simp; exact ⟨_, by simpa [List.append_assoc] using ws'⟩) | exact ⟨_, by simpa [List.append_assoc] using ws'⟩ | skip
    · simp [encCnd]
      refine writes_of fun h p q l w hl => ?_
      have hk := True.intro
      have ws := WS.start w
      refine W_doesQ hp rfl rfl rfl Tryz.func90 rfl (by simp [Tryz.f90]) ?_
      simp only [Tryz.f90]
      refine hide ?_; intro Q12 hQ12
      repeat' (first
        | (replace hQ12 := hQ12; simp [convA, isByteT, le_lim hc, hk])
        | refine hQ12 _ _ _ ?_
        | ((with_reducible refine call_id ?_); first
          | (refine call_writes (byte_w 2) (by first | assumption | exact WS.new (by assumption) _ | exact WS.new (WS.new (by assumption) _) _) (by first | (simp only [List.length_append, List.length_cons, List.length_nil, be_length, textB, encSpn, num4, num8]; omega) | exact hl | omega | (simp only [List.length_append, List.length_cons, List.length_nil, be_length] at hl ⊢; omega) | (simp at hl ⊢; omega)) ?_; clear hk; intro h' ws' hk; (try simp only [keptP, and_true] at hk); (first | (have hk := hk; skip) | have hk := True.intro); (try simp [convA, isByteT, le_lim hc, hk]))
          | (refine call_writes (hv) (by first | assumption | exact WS.new (by assumption) _ | exact WS.new (WS.new (by assumption) _) _) (by first | (simp only [List.length_append, List.length_cons, List.length_nil, be_length, textB, encSpn, num4, num8]; omega) | exact hl | omega | (simp only [List.length_append, List.length_cons, List.length_nil, be_length] at hl ⊢; omega) | (simp at hl ⊢; omega)) ?_; clear hk; intro h' ws' hk; (try simp only [keptP, and_true] at hk); (first | (have hk := hk; skip) | have hk := True.intro); (try simp [convA, isByteT, le_lim hc, hk]))
          | (refine call_text (by first | assumption | omega) (by first | assumption | exact WS.new (by assumption) _ | exact WS.new (WS.new (by assumption) _) _) (by first | (simp only [List.length_append, List.length_cons, List.length_nil, be_length, textB, encSpn, num4, num8]; omega) | exact hl | omega | (simp only [List.length_append, List.length_cons, List.length_nil, be_length] at hl ⊢; omega) | (simp at hl ⊢; omega)) (by first | rfl | simp) ?_; clear hk; intro h' ws' hk; (try simp only [keptP, and_true] at hk); (first | (have hk := hk; skip) | have hk := True.intro); (try simp [convA, isByteT, le_lim hc, hk])))
        | (first | apply cF | apply wN | apply wS) <;> intro hcnd <;> (try simp only [hcnd]) <;> (try simp [-List.isEmpty_iff, -List.isEmpty_eq_false_iff] at hcnd))
      all_goals first | omega | (simp; exact ⟨_, by simpa [List.append_assoc] using ws'⟩) | exact ⟨_, by simpa [List.append_assoc] using ws'⟩ | skip
theorem spn_w (lo hi : BL) (h1 : lo.length ≤ 1048576) (h2 : hi.length ≤ 1048576) : Writes K 46 [.agg [.str lo, .str hi]] (.tup []) (encSpn ⟨lo, hi⟩) := by
  simp only [encSpn]
  refine writes_of fun h p q l w hl => ?_
  have hk := True.intro
  have ws := WS.start w
  refine W_doesQ hp rfl rfl rfl Tryz.func46 rfl (by simp [Tryz.f46]) ?_
  simp only [Tryz.f46]
  refine hide ?_; intro Q13 hQ13
  repeat' (first
    | (replace hQ13 := hQ13; simp [convA, isByteT, le_lim h1, le_lim h2, hk])
    | refine hQ13 _ _ _ ?_
    | ((with_reducible refine call_id ?_); first
      | (refine call_writes (byte_w 0) (by first | assumption | exact WS.new (by assumption) _ | exact WS.new (WS.new (by assumption) _) _) (by first | (simp only [List.length_append, List.length_cons, List.length_nil, be_length, textB, encSpn, num4, num8]; omega) | exact hl | omega | (simp only [List.length_append, List.length_cons, List.length_nil, be_length] at hl ⊢; omega) | (simp at hl ⊢; omega)) ?_; clear hk; intro h' ws' hk; (try simp only [keptP, and_true] at hk); (first | (have hk := hk; skip) | have hk := True.intro); (try simp [convA, isByteT, le_lim h1, le_lim h2, hk]))
      | (refine call_text (by first | assumption | omega) (by first | assumption | exact WS.new (by assumption) _ | exact WS.new (WS.new (by assumption) _) _) (by first | (simp only [List.length_append, List.length_cons, List.length_nil, be_length, textB, encSpn, num4, num8]; omega) | exact hl | omega | (simp only [List.length_append, List.length_cons, List.length_nil, be_length] at hl ⊢; omega) | (simp at hl ⊢; omega)) (by first | rfl | simp) ?_; clear hk; intro h' ws' hk; (try simp only [keptP, and_true] at hk); (first | (have hk := hk; skip) | have hk := True.intro); (try simp [convA, isByteT, le_lim h1, le_lim h2, hk]))))
  all_goals first | omega | (simp; exact ⟨_, by simpa [List.append_assoc] using ws'⟩) | exact ⟨_, by simpa [List.append_assoc] using ws'⟩ | skip
end Go.Proofs.YtmhbdpgflomihaaGreat
