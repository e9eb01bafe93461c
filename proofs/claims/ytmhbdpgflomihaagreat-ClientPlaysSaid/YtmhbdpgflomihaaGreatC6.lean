/- A part of a proof over the abstract machine. No conditions. -/
import Derived.Test.YtmhbdpgflomihaaGreatC5
namespace Go.Proofs.YtmhbdpgflomihaaGreat
open Go Go.Ab Wm NumPlain
set_option linter.unusedSimpArgs false
set_option linter.unnecessarySimpa false
set_option linter.unusedVariables false
set_option maxRecDepth 10000
set_option maxHeartbeats 4000000
theorem viewL_pure {h : H} {n : Nat} : ∀ {l : List AS}, pureL false l = true → (∀ a ∈ l, (∀ f x c, a ≠ .fn f x c) ∧ ∀ t v, a ≠ .ifc t v) → l.mapM (viewS h (n + 1)) = some l
  | [], _, _ => rfl
  | a :: l, hp, hn => by
    simp only [pureL, Bool.and_eq_true] at hp
    have h1 := hn a (by simp)
    simp only [List.mapM_cons, viewS_pure hp.1 h1.1 h1.2, viewL_pure hp.2 (fun b hb => hn b (by simp [hb])), Option.bind_eq_bind, Option.bind_some, Option.pure_def]
theorem bytes_pure (l : BL) : pureL false (l.map byteS) = true := by have := pureS_bs (some l); rw [bs_some] at this; simpa [pureS] using this
theorem bytes_plain (l : BL) : ∀ a ∈ l.map byteS, (∀ f x c, a ≠ .fn f x c) ∧ ∀ t v, a ≠ .ifc t v := by
  intro a ha
  obtain ⟨b, _, rfl⟩ := List.mem_map.1 ha
  exact ⟨fun _ _ _ h => (by cases h), fun _ _ h => (by cases h)⟩
theorem view_bytes {h : H} {s : AS} {l : BL} (hs : Sees h 1 s (l.map byteS)) : ∃ o : Option BL, ls o = l ∧ (s = bs o ∨ pureS false s = false) ∧ viewS h 64 s = some (bs o) := by
  cases s <;> simp only [Sees] at hs
  · refine ⟨none, ?_, .inl rfl, rfl⟩
    simpa using hs.symm
  · rename_i b v o n s' c
    obtain ⟨rfl, hr⟩ := hs
    have hn : n = l.length := by have := readC_len hr; simpa using this.symm
    subst hn
    refine ⟨some l, rfl, .inr rfl, ?_⟩
    rw [bs_some]
    simp only [viewS, hr, Option.bind_eq_bind, Option.bind_some, viewL_pure (n := 62) (bytes_pure l) (bytes_plain l)]
  · rename_i n s' q
    obtain ⟨rfl, rfl, hl⟩ := hs
    have hn : n = l.length := by simpa using hl.symm
    subst hn
    refine ⟨some l, rfl, .inl (bs_some l).symm, ?_⟩
    rw [bs_some]
    simp only [viewS, pureS, bytes_pure, Bool.not_false, Bool.true_or, Bool.and_self, if_true]
theorem cloneB_c {h : H} {s : AS} {l : BL} (hs : Sees h 1 s (l.map byteS)) (hl : l.length ≤ 1099511627776) : ∃ o : Option BL, ls o = l ∧ W K 93 [.one s] h = some (.ret (.one (bs o)) h) := by
  obtain ⟨o, h1, h2, h3⟩ := view_bytes hs
  refine ⟨o, h1, ?_⟩
  rcases h2 with rfl | h2
  · exact (clone_g o (by rw [h1]; exact hl)).pure hp h
  · refine (clone_g o (by rw [h1]; exact hl)).view hp ?_
    unfold viewA
    rw [if_neg (by simp [pureV, h2])]
    simp [viewV, h3]
theorem done_c {h : H} {p : Nat} {q : Option Nat} {l : BL} (w : Wr h p q l) (hl : l.length ≤ 1099511627776) : ∃ o, ls o = l ∧ W K 50 [.one (.ptr p 0 0)] h = some (.ret (.one (bs o)) h) := by
  obtain ⟨_, s, _, _, hf, ho⟩ := w
  obtain ⟨o, h1, h2⟩ := cloneB_c ho.sees hl
  refine ⟨o, h1, ?_⟩
  refine W_does hp rfl rfl rfl Tryz.func50 rfl (by simp [Tryz.f50]) ?_
  simp only [Tryz.f50]
  refine hide ?_; intro Q1 hQ1
  repeat' (first
    | (replace hQ1 := hQ1; simp [hf, h2])
    | refine hQ1 _ _ _ ?_)
theorem ls_ne {α : Type} {o : Option (List α)} {l : List α} (h : ls o = l) (hl : l ≠ []) : o = some l := by
  cases o with
  | none => exact absurd h.symm hl
  | some x => simp only [ls_some] at h; rw [h]
theorem done_ws {h0 h : H} {q0 : Option Nat} {p : Nat} {l : BL} {kept : List (Nat × Blk)} (ws : WS h0 q0 h p l kept) (hl : l.length ≤ 1099511627776) (hne : l ≠ []) : W K 50 [.one (.ptr p 0 0)] h = some (.ret (.one (bs (some l))) h) := by
  obtain ⟨q, w, _⟩ := ws
  obtain ⟨o, h1, h2⟩ := done_c w hl
  rw [h2, ls_ne h1 hne]
theorem ws_new (h : H) (kept : List (Nat × Blk)) (hk : keptP h kept) (hl : ∀ e ∈ kept, e.1 < h.next) : WS (h.new ⟨0, [1], true, [.nilslc]⟩) none (h.new ⟨0, [1], true, [.nilslc]⟩) h.next [] kept := by
  refine ⟨none, ⟨by simp, .nilslc, rfl, by simp, by simp, rfl⟩, Only.refl _ _ _, keptP_same (fun e he => ?_) hk, fun e he => ⟨?_, ?_, by simp⟩⟩
  · rw [new_at, if_neg (by have := hl e he; omega)]
  · have := hl e he; simp; omega
  · have := hl e he; omega
structure Fits (c : Command) : Prop where
  row : c.op.row.length ≤ 1048576
  hi : c.op.hi.length ≤ 1048576
  col : c.op.cond.col.length ≤ 1048576
  cv : (ls c.op.cond.v.b).length ≤ 1048576
  l : ∀ x ∈ ls c.op.l, x.col.length ≤ 1048576 ∧ (ls x.v.b).length ≤ 1048576
  n : (ls c.op.l).length < 9223372036854775807
theorem encode_op (o_kind : Int) (o_row : BL) (o_hi : BL) (o_cond_has : Bool) (o_cond_want : Bool) (o_cond_col : BL) (o_cond_v_kind : Int) (o_cond_v_b : Option BL) (o_cond_v_n : Nat) (o_l : Option (List Change)) (o_most : Int) (hf : opOk ⟨o_kind, o_row, o_hi, ⟨o_cond_has, o_cond_want, o_cond_col, ⟨o_cond_v_kind, o_cond_v_b, o_cond_v_n⟩⟩, o_l, o_most⟩ = true) (h1 : o_row.length ≤ 1048576) (h2 : o_hi.length ≤ 1048576) (h3 : o_cond_col.length ≤ 1048576) (h4 : (ls o_cond_v_b).length ≤ 1048576) (h5 : ∀ c ∈ ls o_l, c.col.length ≤ 1048576 ∧ (ls c.v.b).length ≤ 1048576) (h6 : (ls o_l).length < 9223372036854775807)
    (lo hi a : BL) (gen to d : Int) (st : Option BL) (hl : ([] : BL).length + (u8 1 :: encOpB ⟨o_kind, o_row, o_hi, ⟨o_cond_has, o_cond_want, o_cond_col, ⟨o_cond_v_kind, o_cond_v_b, o_cond_v_n⟩⟩, o_l, o_most⟩).length ≤ 1099511627776) (h : H) :
    W K 19 [.agg [ii 1, ii o_kind, .str o_row, .str o_hi, .bool o_cond_has, .bool o_cond_want, .str o_cond_col, ii o_cond_v_kind, bs o_cond_v_b, .flt o_cond_v_n, sl 6 encChange o_l, ii o_most, .str lo, .str hi, ii gen, .str a, ii to, ii d, bs st]] h = some (.ret (.tup [(false, [bs (some (u8 1 :: encOpB ⟨o_kind, o_row, o_hi, ⟨o_cond_has, o_cond_want, o_cond_col, ⟨o_cond_v_kind, o_cond_v_b, o_cond_v_n⟩⟩, o_l, o_most⟩))]), (false, [ii 0])]) h) := by
  have hx := right_c 1 o_kind o_row o_hi o_cond_has o_cond_want o_cond_col o_cond_v_kind o_cond_v_b o_cond_v_n o_l o_most lo hi gen a to d st h6
  have hok : cmdOk ⟨1, ⟨o_kind, o_row, o_hi, ⟨o_cond_has, o_cond_want, o_cond_col, ⟨o_cond_v_kind, o_cond_v_b, o_cond_v_n⟩⟩, o_l, o_most⟩, ⟨lo, hi⟩, gen, a, to, d, st⟩ = true := by simp [cmdOk, hf]
  rw [hok] at hx
  have hop := op_w o_kind o_row o_hi o_cond_has o_cond_want o_cond_col o_cond_v_kind o_cond_v_b o_cond_v_n o_l o_most h1 h2 h3 h4 h6 h5
  have hk := True.intro
  have ws := ws_new (H.empty.new ⟨0, [19], true, [ii 1, ii o_kind, .str o_row, .str o_hi, .bool o_cond_has, .bool o_cond_want, .str o_cond_col, ii o_cond_v_kind, bs o_cond_v_b, .flt o_cond_v_n, sl 6 encChange o_l, ii o_most, .str lo, .str hi, ii gen, .str a, ii to, ii d, bs st]⟩) [(0, ⟨0, [19], true, [ii 1, ii o_kind, .str o_row, .str o_hi, .bool o_cond_has, .bool o_cond_want, .str o_cond_col, ii o_cond_v_kind, bs o_cond_v_b, .flt o_cond_v_n, sl 6 encChange o_l, ii o_most, .str lo, .str hi, ii gen, .str a, ii to, ii d, bs st]⟩)] (by simp [keptP]) (by simp)
  simp only [new_next, empty_next, Nat.zero_add] at ws
  have hown : memL S.own 19 = false := by kernel_rfl
  refine W_pure hp (by simp [pureV, hx, new_c, convA, wrapB, outV, frzV, frzS, frzS_pure, frzP, pureS, pureL, K_own, hown]) (apart_does rfl rfl (by kernel_rfl) Tryz.func19 rfl (by simp [Tryz.f19]) ?_)
  simp only [Tryz.f19]
  refine hide ?_; intro Q3 hQ3
  repeat' (first
    | (replace hQ3 := hQ3; simp [hx, new_c, convA, wrapB, outV, frzV, frzS, frzS_pure, frzP, pureS, pureL, K_own, hown, hk])
    | refine hQ3 _ _ _ ?_
    | ((with_reducible refine call_id ?_); first
      | (refine call_writes (byte_w _) (by first | assumption | exact WS.new (by assumption) _ | exact WS.new (WS.new (by assumption) _) _) (by first | (simp only [List.length_append, List.length_cons, List.length_nil, be_length, textB, encSpn, num4, num8]; omega) | exact hl | omega | (simp only [List.length_append, List.length_cons, List.length_nil, be_length] at hl ⊢; omega) | (simp at hl ⊢; omega)) ?_; clear hk; intro h' ws' hk; (try simp only [keptP, and_true] at hk); (first | (have hk := hk; skip) | have hk := True.intro); (try simp [hx, new_c, convA, wrapB, outV, frzV, frzS, frzS_pure, frzP, pureS, pureL, K_own, hown, hk]))
      | (refine call_writes (hop) (by first | assumption | exact WS.new (by assumption) _ | exact WS.new (WS.new (by assumption) _) _) (by first | (simp only [List.length_append, List.length_cons, List.length_nil, be_length, textB, encSpn, num4, num8]; omega) | exact hl | omega | (simp only [List.length_append, List.length_cons, List.length_nil, be_length] at hl ⊢; omega) | (simp at hl ⊢; omega)) ?_; clear hk; intro h' ws' hk; (try simp only [keptP, and_true] at hk); (first | (have hk := hk; skip) | have hk := True.intro); (try simp [hx, new_c, convA, wrapB, outV, frzV, frzS, frzS_pure, frzP, pureS, pureL, K_own, hown, hk]))
      | (refine call_text (by first | assumption | omega) (by first | assumption | exact WS.new (by assumption) _ | exact WS.new (WS.new (by assumption) _) _) (by first | (simp only [List.length_append, List.length_cons, List.length_nil, be_length, textB, encSpn, num4, num8]; omega) | exact hl | omega | (simp only [List.length_append, List.length_cons, List.length_nil, be_length] at hl ⊢; omega) | (simp at hl ⊢; omega)) (by first | rfl | simp) ?_; clear hk; intro h' ws' hk; (try simp only [keptP, and_true] at hk); (first | (have hk := hk; skip) | have hk := True.intro); (try simp [hx, new_c, convA, wrapB, outV, frzV, frzS, frzS_pure, frzP, pureS, pureL, K_own, hown, hk])))
    | (rw [done_ws ws' (by first | omega | (simp only [List.length_append, List.length_cons, List.length_nil, be_length, textB, encSpn, num4, num8]; omega) | (simp only [List.length_append, List.length_cons, List.length_nil, be_length] at hl ⊢; omega) | (simp at hl ⊢; omega)) (by simp)]; simp [hx, new_c, convA, wrapB, outV, frzV, frzS, frzS_pure, frzP, pureS, pureL, K_own, hown, hk])
    | (first | apply cF | apply wN | apply wS) <;> intro hcnd <;> (try simp only [hcnd]) <;> (try simp [-List.isEmpty_iff, -List.isEmpty_eq_false_iff] at hcnd))
end Go.Proofs.YtmhbdpgflomihaaGreat
