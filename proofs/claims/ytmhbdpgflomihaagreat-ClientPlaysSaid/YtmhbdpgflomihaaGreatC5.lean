/- A part of a proof over the abstract machine. No conditions. -/
import Derived.Test.YtmhbdpgflomihaaGreatC4
namespace Go.Proofs.YtmhbdpgflomihaaGreat
open Go Go.Ab Wm NumPlain
set_option linter.unusedSimpArgs false
set_option linter.unnecessarySimpa false
set_option linter.unusedVariables false
set_option maxRecDepth 10000
set_option maxHeartbeats 4000000
theorem op_w (o_kind : Int) (o_row : BL) (o_hi : BL) (o_cond_has : Bool) (o_cond_want : Bool) (o_cond_col : BL) (o_cond_v_kind : Int) (o_cond_v_b : Option BL) (o_cond_v_n : Nat) (o_l : Option (List Change)) (o_most : Int) (h1 : o_row.length ≤ 1048576) (h2 : o_hi.length ≤ 1048576) (h3 : o_cond_col.length ≤ 1048576) (h4 : (ls o_cond_v_b).length ≤ 1048576) (h6 : (ls o_l).length < 9223372036854775807) (h5 : ∀ c ∈ ls o_l, c.col.length ≤ 1048576 ∧ (ls c.v.b).length ≤ 1048576) : Writes K 45 [.agg [ii o_kind, .str o_row, .str o_hi, .bool o_cond_has, .bool o_cond_want, .str o_cond_col, ii o_cond_v_kind, bs o_cond_v_b, .flt o_cond_v_n, sl 6 encChange o_l, ii o_most]] (.tup []) (encOpB ⟨o_kind, o_row, o_hi, ⟨o_cond_has, o_cond_want, o_cond_col, ⟨o_cond_v_kind, o_cond_v_b, o_cond_v_n⟩⟩, o_l, o_most⟩) := by
  have hc := cnd_w o_cond_has o_cond_want o_cond_col o_cond_v_kind o_cond_v_b o_cond_v_n h3 h4
  by_cases k2 : o_kind = 2
  · subst k2; simp [encOpB]
    refine writes_of fun h p q l w hl => ?_
    have hk := True.intro
    have ws := WS.start w
    refine W_doesQ hp rfl rfl rfl Tryz.func45 rfl (by simp [Tryz.f45]) ?_
    simp only [Tryz.f45]
    refine hide ?_; intro Q5 hQ5
    repeat' (first
      | (replace hQ5 := hQ5; simp [convA, wrapB, hk])
      | refine hQ5 _ _ _ ?_
      | ((with_reducible refine call_id ?_); first
        | (refine call_writes (byte_w _) (by first | assumption | exact WS.new (by assumption) _ | exact WS.new (WS.new (by assumption) _) _) (by first | (simp only [List.length_append, List.length_cons, List.length_nil, be_length, textB, encSpn, num4, num8]; omega) | exact hl | omega | (simp only [List.length_append, List.length_cons, List.length_nil, be_length] at hl ⊢; omega) | (simp at hl ⊢; omega)) ?_; clear hk; intro h' ws' hk; (try simp only [keptP, and_true] at hk); (first | (have hk := hk; skip) | have hk := True.intro); (try simp [convA, wrapB, hk]))
        | (refine call_writes (strtext_w o_row h1) (by first | assumption | exact WS.new (by assumption) _ | exact WS.new (WS.new (by assumption) _) _) (by first | (simp only [List.length_append, List.length_cons, List.length_nil, be_length, textB, encSpn, num4, num8]; omega) | exact hl | omega | (simp only [List.length_append, List.length_cons, List.length_nil, be_length] at hl ⊢; omega) | (simp at hl ⊢; omega)) ?_; clear hk; intro h' ws' hk; (try simp only [keptP, and_true] at hk); (first | (have hk := hk; skip) | have hk := True.intro); (try simp [convA, wrapB, hk]))
        | (refine call_writes (hc) (by first | assumption | exact WS.new (by assumption) _ | exact WS.new (WS.new (by assumption) _) _) (by first | (simp only [List.length_append, List.length_cons, List.length_nil, be_length, textB, encSpn, num4, num8]; omega) | exact hl | omega | (simp only [List.length_append, List.length_cons, List.length_nil, be_length] at hl ⊢; omega) | (simp at hl ⊢; omega)) ?_; clear hk; intro h' ws' hk; (try simp only [keptP, and_true] at hk); (first | (have hk := hk; skip) | have hk := True.intro); (try simp [convA, wrapB, hk])))
      | (first | apply cF | apply wN | apply wS) <;> intro hcnd <;> (try simp only [hcnd]) <;> (try simp [-List.isEmpty_iff, -List.isEmpty_eq_false_iff] at hcnd))
    clear hk
    refine does_each hp (ls o_l) (fun a r fr hh => ∃ j, fr = ((.one (.ptr p 0 0)) :: j 1 :: j 2 :: j 3 :: j 4 :: j 5 :: j 6 :: j 7 :: j 8 :: j 9 :: j 10 :: j 11 :: j 12 :: j 13 :: j 14 :: j 15 :: j 16 :: j 17 :: j 18 :: j 19 :: j 20 :: j 21 :: j 22 :: j 23 :: j 24 :: j 25 :: j 26 :: j 27 :: j 28 :: j 29 :: (.one (sl 6 encChange o_l)) :: (.one (ii (ls o_l).length)) :: (.one (ii a.length)) :: j 33 :: j 34 :: j 35 :: j 36 :: j 37 :: j 38 :: j 39 :: j 40 :: j 41 :: j 42 :: j 43 :: j 44 :: j 45 :: j 46 :: j 47 :: j 48 :: j 49 :: j 50 :: []) ∧ WS h q hh p (l ++ u8 2 :: (textB o_row ++ (encCnd ⟨o_cond_has, o_cond_want, o_cond_col, ⟨o_cond_v_kind, o_cond_v_b, o_cond_v_n⟩⟩ ++ (u8 (ls o_l).length :: a.flatMap encChg)))) []) ?_ ?_ _ _ (ex_get rfl (by have := ws'.drop; simpa [List.append_assoc] using this))
    · rintro a x r fr hh hll ⟨j, rfl, ws⟩
      obtain rfl := ls_cons hll
      have hx := h5 x (by simp)
      obtain ⟨x_kind, x_col, x_time, ⟨x_v_kind, x_v_b, x_v_n⟩⟩ := x
      have hi := index_sl (P := Tryz.prog) (enc := encChange) (s := 6) (l := a ++ ⟨x_kind, x_col, x_time, ⟨x_v_kind, x_v_b, x_v_n⟩⟩ :: r) (i := a.length) Tryz.underlying35 (by simp) (by omega) (by simp)
      have hr := sub_flat (enc := encChange) (s := 6) len_change a ⟨x_kind, x_col, x_time, ⟨x_v_kind, x_v_b, x_v_n⟩⟩ r (o := 0) (n := 6) (by omega)
      simp only [Nat.add_zero, sub_all (len_change _)] at hr
      simp only [encChange] at hr
      have hw : IntKind.i64.wrap ((a.length : Int) + 1) = ((a.length : Int) + 1) := step_wrap (by simp at h6; omega)
      have hk := True.intro
      simp only [ls_some, List.flatMap_append, List.flatMap_cons, List.length_append, List.length_cons, List.length_nil] at hl
      first | (refine hide ?_; intro Q8 hQ8) | have hQ8 := True.intro
      repeat' (first
        | (replace hQ8 := hQ8; simp [hi, hr, hw, hk])
        | (refine hQ8 _ _ _ ?_; clear hQ8 Q8; first | simp only [] | simp [hi, hr, hw, hk] | skip)
        | (refine hadQ (by assumption) ?_; (try clear hQ8); first | simp only [] | simp [hi, hr, hw, hk] | skip)
        | ((fail_if_success replace hQ8 := hQ8); (first | refine hide ?_ | refine hideS ?_ | refine hideB ?_); intro Q8 hQ8)
        | ((with_reducible refine call_id ?_); first
          | (refine call_writes (chg_w x_kind x_col x_time x_v_kind x_v_b x_v_n hx.1 hx.2) (by first | assumption | exact WS.new (by assumption) _ | exact WS.new (WS.new (by assumption) _) _) (by first | (simp only [List.length_append, List.length_cons, List.length_nil, be_length, textB, encSpn, num4, num8]; omega) | exact hl | omega | (simp only [List.length_append, List.length_cons, List.length_nil, be_length] at hl ⊢; omega) | (simp at hl ⊢; omega)) ?_; clear hk; intro h' ws' hk; (try simp only [keptP, and_true] at hk); (first | (have hk := hk; skip) | have hk := True.intro); (try simp [hi, hr, hw, hk])))
        | (first | apply cF | apply wN | apply wS) <;> intro hcnd <;> (try simp only [hcnd]) <;> (try simp [-List.isEmpty_iff, -List.isEmpty_eq_false_iff] at hcnd))
      all_goals first | omega | (refine ex_get (by simp) ?_; have := ws'.drop; simpa [List.append_assoc] using this)
    · rintro fr hh ⟨j, rfl, ws⟩
      have hk := True.intro
      have ws' := ws
      first | (refine hide ?_; intro Q9 hQ9) | have hQ9 := True.intro
      repeat' (first
        | (replace hQ9 := hQ9; simp [hk])
        | (refine hQ9 _ _ _ ?_; clear hQ9 Q9; first | simp only [] | simp [hk] | skip)
        | (refine hadQ (by assumption) ?_; (try clear hQ9); first | simp only [] | simp [hk] | skip)
        | ((fail_if_success replace hQ9 := hQ9); (first | refine hide ?_ | refine hideS ?_ | refine hideB ?_); intro Q9 hQ9)
        | ((with_reducible refine call_id ?_); first
          | (refine call_writes (byte_w 0) (by first | assumption | exact WS.new (by assumption) _ | exact WS.new (WS.new (by assumption) _) _) (by first | (simp only [List.length_append, List.length_cons, List.length_nil, be_length, textB, encSpn, num4, num8]; omega) | exact hl | omega | (simp only [List.length_append, List.length_cons, List.length_nil, be_length] at hl ⊢; omega) | (simp at hl ⊢; omega)) ?_; clear hk; intro h' ws' hk; (try simp only [keptP, and_true] at hk); (first | (have hk := hk; skip) | have hk := True.intro); (try simp [hk])))
        | (first | apply cF | apply wN | apply wS) <;> intro hcnd <;> (try simp only [hcnd]) <;> (try simp [-List.isEmpty_iff, -List.isEmpty_eq_false_iff] at hcnd))
      exact ⟨_, ws'⟩
  · by_cases k3 : o_kind = 3
    · subst k3; simp [encOpB]
      refine writes_of fun h p q l w hl => ?_
      have hk := True.intro
      have ws := WS.start w
      refine W_doesQ hp rfl rfl rfl Tryz.func45 rfl (by simp [Tryz.f45]) ?_
      simp only [Tryz.f45]
      refine hide ?_; intro Q6 hQ6
      repeat' (first
        | (replace hQ6 := hQ6; simp [convA, wrapB, hk])
        | refine hQ6 _ _ _ ?_
        | ((with_reducible refine call_id ?_); first
          | (refine call_writes (byte_w _) (by first | assumption | exact WS.new (by assumption) _ | exact WS.new (WS.new (by assumption) _) _) (by first | (simp only [List.length_append, List.length_cons, List.length_nil, be_length, textB, encSpn, num4, num8]; omega) | exact hl | omega | (simp only [List.length_append, List.length_cons, List.length_nil, be_length] at hl ⊢; omega) | (simp at hl ⊢; omega)) ?_; clear hk; intro h' ws' hk; (try simp only [keptP, and_true] at hk); (first | (have hk := hk; skip) | have hk := True.intro); (try simp [convA, wrapB, hk]))
          | (refine call_writes (strtext_w o_row h1) (by first | assumption | exact WS.new (by assumption) _ | exact WS.new (WS.new (by assumption) _) _) (by first | (simp only [List.length_append, List.length_cons, List.length_nil, be_length, textB, encSpn, num4, num8]; omega) | exact hl | omega | (simp only [List.length_append, List.length_cons, List.length_nil, be_length] at hl ⊢; omega) | (simp at hl ⊢; omega)) ?_; clear hk; intro h' ws' hk; (try simp only [keptP, and_true] at hk); (first | (have hk := hk; skip) | have hk := True.intro); (try simp [convA, wrapB, hk]))
          | (refine call_writes (strtext_w o_hi h2) (by first | assumption | exact WS.new (by assumption) _ | exact WS.new (WS.new (by assumption) _) _) (by first | (simp only [List.length_append, List.length_cons, List.length_nil, be_length, textB, encSpn, num4, num8]; omega) | exact hl | omega | (simp only [List.length_append, List.length_cons, List.length_nil, be_length] at hl ⊢; omega) | (simp at hl ⊢; omega)) ?_; clear hk; intro h' ws' hk; (try simp only [keptP, and_true] at hk); (first | (have hk := hk; skip) | have hk := True.intro); (try simp [convA, wrapB, hk])))
        | (first | apply cF | apply wN | apply wS) <;> intro hcnd <;> (try simp only [hcnd]) <;> (try simp [-List.isEmpty_iff, -List.isEmpty_eq_false_iff] at hcnd))
      all_goals first | omega | (simp; exact ⟨_, by simpa [List.append_assoc] using ws'⟩) | exact ⟨_, by simpa [List.append_assoc] using ws'⟩ | skip
    · simp [encOpB, k2, k3]
      refine writes_of fun h p q l w hl => ?_
      have hk := True.intro
      have ws := WS.start w
      refine W_doesQ hp rfl rfl rfl Tryz.func45 rfl (by simp [Tryz.f45]) ?_
      simp only [Tryz.f45]
      refine hide ?_; intro Q7 hQ7
      repeat' (first
        | (replace hQ7 := hQ7; simp [convA, wrapB, hk])
        | refine hQ7 _ _ _ ?_
        | ((with_reducible refine call_id ?_); first
          | (refine call_writes (byte_w _) (by first | assumption | exact WS.new (by assumption) _ | exact WS.new (WS.new (by assumption) _) _) (by first | (simp only [List.length_append, List.length_cons, List.length_nil, be_length, textB, encSpn, num4, num8]; omega) | exact hl | omega | (simp only [List.length_append, List.length_cons, List.length_nil, be_length] at hl ⊢; omega) | (simp at hl ⊢; omega)) ?_; clear hk; intro h' ws' hk; (try simp only [keptP, and_true] at hk); (first | (have hk := hk; skip) | have hk := True.intro); (try simp [convA, wrapB, hk]))
          | (refine call_writes (strtext_w o_row h1) (by first | assumption | exact WS.new (by assumption) _ | exact WS.new (WS.new (by assumption) _) _) (by first | (simp only [List.length_append, List.length_cons, List.length_nil, be_length, textB, encSpn, num4, num8]; omega) | exact hl | omega | (simp only [List.length_append, List.length_cons, List.length_nil, be_length] at hl ⊢; omega) | (simp at hl ⊢; omega)) ?_; clear hk; intro h' ws' hk; (try simp only [keptP, and_true] at hk); (first | (have hk := hk; skip) | have hk := True.intro); (try simp [convA, wrapB, hk])))
        | (first | apply cF | apply wN | apply wS) <;> intro hcnd <;> (try simp only [hcnd]) <;> (try simp [-List.isEmpty_iff, -List.isEmpty_eq_false_iff] at hcnd))
      all_goals first | omega | (simp; exact ⟨_, by simpa [List.append_assoc] using ws'⟩) | exact ⟨_, by simpa [List.append_assoc] using ws'⟩ | skip
theorem new_c (h : H) : W K 43 [] h = some (.ret (.one (.ptr h.next 0 0)) (h.new ⟨0, [1], true, [.nilslc]⟩)) := by
  refine W_does hp rfl rfl rfl Tryz.func43 rfl (by simp [Tryz.f43]) ?_
  simp only [Tryz.f43]
  refine hide ?_; intro Q1 hQ1
  repeat' (first
    | (replace hQ1 := hQ1; simp)
    | refine hQ1 _ _ _ ?_)
theorem clone_g (o : Option BL) (ho : (ls o).length ≤ 1099511627776) : Fun K 93 [.one (bs o)] (fun h => .ret (.one (bs o)) h) := by
  cases o with
  | none =>
    simp only [bs_none]
    have hown : memL S.own 93 = false := by kernel_rfl
    refine ⟨by simp [pureV, bin, ford, equalA, outV, frzV, frzS, frzS_pure, frzP, pureS, pureL, K_own, hown], fun hh => apart_does rfl rfl (by kernel_rfl) Tryz.func93 rfl (by simp [Tryz.f93]) ?_⟩
    simp only [Tryz.f93]
    refine hide ?_; intro Q2 hQ2
    repeat' (first
      | (replace hQ2 := hQ2; simp [bin, ford, equalA, outV, frzV, frzS, frzS_pure, frzP, pureS, pureL, K_own, hown])
      | refine hQ2 _ _ _ ?_
      | (first | apply cF | apply wN | apply wS) <;> intro hcnd <;> (try simp only [hcnd]) <;> (try simp [-List.isEmpty_iff, -List.isEmpty_eq_false_iff] at hcnd))
  | some l =>
    rw [bs_some]
    by_cases h0 : l = []
    · subst h0
      have hown : memL S.own 93 = false := by kernel_rfl
      refine ⟨by simp [pureV, bin, ford, equalA, appendA, appendL, lenS, elemsOf, sub, limit, outV, frzV, frzS, frzS_pure, frzP, pureS, pureL, K_own, hown], fun hh => apart_does rfl rfl (by kernel_rfl) Tryz.func93 rfl (by simp [Tryz.f93]) ?_⟩
      simp only [Tryz.f93]
      refine hide ?_; intro Q3 hQ3
      repeat' (first
        | (replace hQ3 := hQ3; simp [bin, ford, equalA, appendA, appendL, lenS, elemsOf, sub, limit, outV, frzV, frzS, frzS_pure, frzP, pureS, pureL, K_own, hown])
        | refine hQ3 _ _ _ ?_
        | (first | apply cF | apply wN | apply wS) <;> intro hcnd <;> (try simp only [hcnd]) <;> (try simp [-List.isEmpty_iff, -List.isEmpty_eq_false_iff] at hcnd))
    · have h1 : l.length ≠ 0 := by simpa using h0
      have h3 : pureL true (l.map byteS) = true := by
        clear h0 h1 ho
        induction l with
        | nil => rfl
        | cons a l ih => simp [pureL, byteS, pureS] at ih ⊢; exact ih
      have h2 : ¬ (17592186044416 < l.length + 600 + l.length) := by simp at ho; omega
      have ht : (l.map byteS).take l.length = l.map byteS := List.take_of_length_le (by simp)
      have h4 : pureL false (l.map byteS) = true := by have := pureS_bs (some l); rw [bs_some] at this; simpa [pureS] using this
      have h5 : (l.map byteS).mapM (frzS true ((H.empty.new ⟨0, [0], true, []⟩).new ⟨0, [l.length], false, l.map byteS⟩) 63) = some (l.map byteS) := mapM_pure (n := 62) (by assumption)
      have hown : memL S.own 93 = false := by kernel_rfl
      refine ⟨by simp [pureV, bin, ford, equalA, appendA, appendL, lenS, elemsOf, sub, limit, h0, h2, h3, h4, h5, ht, outV, frzV, frzS, frzS_pure, frzP, pureS, pureL, K_own, hown], fun hh => apart_does rfl rfl (by kernel_rfl) Tryz.func93 rfl (by simp [Tryz.f93]) ?_⟩
      simp only [Tryz.f93]
      refine hide ?_; intro Q4 hQ4
      repeat' (first
        | (replace hQ4 := hQ4; simp [bin, ford, equalA, appendA, appendL, lenS, elemsOf, sub, limit, h0, h2, h3, h4, h5, ht, outV, frzV, frzS, frzS_pure, frzP, pureS, pureL, K_own, hown])
        | refine hQ4 _ _ _ ?_
        | (first | apply cF | apply wN | apply wS) <;> intro hcnd <;> (try simp only [hcnd]) <;> (try simp [-List.isEmpty_iff, -List.isEmpty_eq_false_iff] at hcnd))
      all_goals trace_state
end Go.Proofs.YtmhbdpgflomihaaGreat
