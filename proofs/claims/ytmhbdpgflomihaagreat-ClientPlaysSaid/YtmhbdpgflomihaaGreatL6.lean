/- A part of a proof over the abstract machine. No conditions. -/
import Derived.Test.YtmhbdpgflomihaaGreatL5
namespace Go.Proofs.YtmhbdpgflomihaaGreat
open Go Go.Ab Wm NumPlain
set_option linter.unusedSimpArgs false
set_option linter.unnecessarySimpa false
set_option linter.unusedVariables false
set_option maxRecDepth 10000
set_option maxHeartbeats 4000000
theorem nil1 (c : Nat → Option (List AS)) (b v o : Nat) : bin Tryz.prog c .eql 24 (.one (.ptr b v o)) (.one .nilptr) = some (.bool false) := by simp [bin, ford, equalA]
theorem nil2 (c : Nat → Option (List AS)) (b v o : Nat) : bin Tryz.prog c .neq 24 (.one (.ptr b v o)) (.one .nilptr) = some (.bool true) := by simp [bin, ford, equalA]
theorem nil3 (c : Nat → Option (List AS)) : bin Tryz.prog c .neq 24 (.one .nilptr) (.one .nilptr) = some (.bool false) := by simp [bin, ford, equalA]
theorem new4_c (h : H) : W K 6 [.one (ii 4), .one (ii 3)] h = some (.ret (.one .nilptr) h) := by
  refine W_does hp rfl rfl rfl Tryz.func6 rfl (by simp [Tryz.f6]) ?_
  simp only [Tryz.f6]
  refine hide ?_; intro Q1 hQ1
  repeat' (first
    | (replace hQ1 := hQ1; simp)
    | refine hQ1 _ _ _ ?_
    | (first | apply cF | apply wN | apply wS) <;> intro hcnd <;> (try simp only [hcnd]) <;> (try simp [-List.isEmpty_iff, -List.isEmpty_eq_false_iff] at hcnd))
theorem new_at_c (h : H) (k : Int) (hk : 0 ≤ k ∧ k < 4) : W K 6 [.one (ii k), .one (ii 3)] h = some (.ret (.one (.ptr h.next 0 0)) (h.new ⟨0, [21], true, clC (cNew k) .nilslc⟩)) := new_cl k 3 hk (by omega) h
theorem clAt_new (h : H) (k : Int) : ClAt (h.new ⟨0, [21], true, clC (cNew k) .nilslc⟩) h.next (cNew k) := ⟨by simp, .nilslc, by simp, .inl ⟨rfl, rfl⟩, by simp [ownB]⟩
theorem ok_new {k : Int} (hk : 0 ≤ k ∧ k < 4) : ClOk (cNew k) := ⟨hk, by simp [cNew], by simp [cNew], by simp [cNew], by simp [cNew], by simp [cNew], by simp [cNew], by simp [cNew]⟩
abbrev opA1 : Wm.Op := ⟨1, [97], [], ⟨false, false, [], ⟨0, none, 0⟩⟩, none, 0⟩
theorem opA1_is : OpIs opA1 := ⟨by decide, by simp, by simp, by simp, by simp, by simp, by simp⟩
abbrev cSub (k : Int) (row op : BL) : Cl := ⟨k, 3, 1, true, row, some op, 0, 0, [], 0, zAns⟩
theorem tick_sub (k : Int) (row op : BL) : tickC (cSub k row op) = (cAsk k row op, true) := by simp [tickC, cAsk]
theorem ok_sub {k : Int} {row op : BL} (hk : 0 ≤ k ∧ k < 4) (hr : row.length ≤ 16) (ho : op.length ≤ 1048576) : ClOk (cSub k row op) := ⟨hk, by simp, by simp, hr, ho, by simp, by simp, by simp⟩
abbrev locC (row : BL) : List AS := [ii 7, ii 0, .str [], .str [], .bool false, .bool false, .str [], ii 0, .nilslc, .flt 0, .nilslc, ii 0, .str [], .str [], ii 0, .str row, ii 0, ii 0, .nilslc]
theorem asks_loc {h0 h : H} {k : Int} {row op : BL} {v : AV} (a : Asks h0 h (cAsk k row op) true v) (hk : 0 ≤ k ∧ k < 4) (hr : row.length ≤ 16) : ∃ s, v = .one s ∧ W K 12 [.one s, .one (ii 0), .one (ii 3), .one (ii k), .one (ii 1), .agg (locC row)] h = some (.ret (.one (.bool true)) h) :=
  lawAsks_c a (.inr (.inl rfl)) hk (whom_ask k row op).2 (by simp [textB, be_length]; omega) rfl (by simp [pureL, pureS]) (by simp) (fun h => refLoc_c row (by omega) h) (whom_ask k row op).1.symm
theorem known_c (h : H) : ∃ h', W K 9 [] h = some (.ret (.one (.bool true)) h') := by
  suffices hq : ∃ r, W K 9 [] h = some r ∧ Rets (fun v _ => v = .one (.bool true)) r by
    obtain ⟨r, e, hr⟩ := hq
    obtain ⟨v, h', rfl, rfl⟩ := hr.ret
    exact ⟨h', e⟩
  refine Rets.intro fun P hP => ?_
  have hn := new_at_c (k := 2) (hk := by omega)
  have hn4 := new4_c
  have ca0 := clAt_new h 2
  obtain ⟨r0, e0, hr0⟩ := tick_cl ca0 (ok_new (by omega))
  obtain ⟨v0, h0, rfl, ca1, _, s0, rfl, hs0, _⟩ := hr0.ret
  have hs0' : s0 = .nilslc := hs0
  subst hs0'
  have e00 : (tickC (cNew 2)).1 = cNew 2 := rfl
  rw [e00] at ca1
  obtain ⟨r1, e1, hr1⟩ := submit_cl 1 [97] [] false false [] 0 none 0 none 0 opA1_is ca1 (by simp [cNew])
  obtain ⟨v1, h1, rfl, hx1⟩ := hr1.ret
  obtain ⟨rfl, ca2, _⟩ := (show _ ∧ _ from hx1)
  obtain ⟨r2, e2, hr2⟩ := submit_cl 1 [97] [] false false [] 0 none 0 none 0 opA1_is ca2 (by simp [cNew])
  obtain ⟨v2, h2, rfl, hx2⟩ := hr2.ret
  obtain ⟨rfl, rfl⟩ := (show _ ∧ _ from hx2)
  have ca3 : ClAt (h1.new ⟨0, [11], true, [ii 1, .str [97], .str [], .bool false, .bool false, .str [], ii 0, bs none, .flt 0, sl 6 encChange none, ii 0]⟩) h.next (cSub 2 [97] (u8 1 :: encOpB opA1)) := ca2.new _
  obtain ⟨r3, e3, hr3⟩ := tick_cl ca3 (ok_sub (by omega) (by simp) (by decide))
  obtain ⟨v3, h3, rfl, ca4, _, as3⟩ := hr3.ret
  rw [tick_sub] at ca4 as3
  obtain ⟨s3, rfl, e4⟩ := asks_loc as3 (by omega) (by simp)
  have hb := busy_cl ca4
  have hq : P (.one (.bool true)) h3 := hP _ _ rfl
  have en : bs none = .nilslc := rfl
  have es : sl 6 encChange none = .nilslc := rfl
  have eb : (cAsk 2 [97] (u8 1 :: encOpB opA1)).busy = true := rfl
  have eseq : (cNew 2).seq + 1 = 1 := rfl
  simp only [en, es, eseq] at e1 e2 e3
  rw [eb] at hb
  generalize clC (cNew 2) .nilslc = M0 at *
  refine W_doesQ hp rfl rfl rfl Tryz.func9 rfl (by simp [Tryz.f9]) ?_
  simp only [Tryz.f9]
  refine hide ?_; intro Q2 hQ2
  repeat' (first
    | (replace hQ2 := hQ2; simp [hn, hn4, e0, e1, e2, e3, e4, hb, nil1, nil2, nil3])
    | refine hQ2 _ _ _ ?_
    | (first | apply cF | apply wN | apply wS) <;> intro hcnd <;> (try simp only [hcnd]) <;> (try simp [-List.isEmpty_iff, -List.isEmpty_eq_false_iff] at hcnd))
  all_goals first | exact hq | trace_state
end Go.Proofs.YtmhbdpgflomihaaGreat
