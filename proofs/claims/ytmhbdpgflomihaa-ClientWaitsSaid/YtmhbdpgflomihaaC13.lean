/- A part of a proof over the abstract machine. No conditions. -/
import Derived.Test.YtmhbdpgflomihaaC11
import Derived.Test.YtmhbdpgflomihaaC12
/- What is known of the law: one run. No conditions. -/
namespace Go.Proofs.Ytmhbdpgflomihaa
open Go Go.Ab Wm NumPlain
set_option linter.unusedSimpArgs false
set_option linter.unnecessarySimpa false
set_option linter.unusedVariables false
set_option maxRecDepth 10000
set_option maxHeartbeats 4000000
abbrev bA : BL := u8 7 :: textB [97]
theorem pure_askM (t : Nat) : pureL false (askM 2 1 bA t) = true := by simp [askM, pureL, pureS]
theorem same1_c (i : Nat) (h : H) : W K 9 [.agg (askM 2 1 bA i), .agg (askM 2 1 bA i)] h = some (.ret (.one (.bool true)) h) := by
  have := same0_c 1 0 (100 + 2) i 0 0 2 1 (some bA) i (some bA) rfl h
  rw [show ((i : Int) == (i : Int)) = true by simp] at this
  exact this
theorem asks_g : Fun K 18 [.one (sl 10 (askM 2 1 bA) (some [0, 1, 2])), .one (ii 0), .one (ii 3), .one (ii 2), .one (ii 1), .agg [ii 7, ii 0, .str [], .str [], .bool false, .bool false, .str [], ii 0, .nilslc, .flt 0, .nilslc, ii 0, .str [], .str [], ii 0, .str [97], ii 0, ii 0, .nilslc]] (fun h => .ret (.one (.bool true)) h) := by
  have hps : pureS false (sl 10 (askM 2 1 bA) (some [0, 1, 2])) = true := pureS_sl pure_askM _
  have he := refEncode_c
  have ql : 6 ≤ limit := by decide
  have hw : IntKind.i64.wrap 102 = 102 := rfl
  have hown : memL S.own 18 = false := by kernel_rfl
  refine ⟨by simp [pureV, hps, he, ql, outV, frzV, frzS, frzS_pure, frzP, pureS, pureL, K_own, hown], fun hh => apart_does rfl rfl (by kernel_rfl) Try.func18 rfl (by simp [Try.f18]) ?_⟩
  simp only [Try.f18, List.length_cons, List.length_nil, List.replicate, List.cons_append, List.nil_append, Nat.reduceAdd, Nat.reduceSub]
  repeat' (first
    | (rw [doesO_cons]; simp [hps, he, ql, outV, frzV, frzS, frzS_pure, frzP, pureS, pureL, K_own, hown])
    | (rw [doesO_nil']; refine hQ' _ _ _ ?_; clear hQ' Q'; first | simp only [] | simp [hps, he, ql, outV, frzV, frzS, frzS_pure, frzP, pureS, pureL, K_own, hown])
    | (simp only [List.append_eq]; simp only [List.cons_append, List.nil_append])
    | refine does_seq hp ?_
    | (refine does_gen hp ?_; intro Q' hQ')
    | refine does_block hp ?_
    | (refine does_ret hp ?_; simp [hps, he, ql, outV, frzV, frzS, frzS_pure, frzP, pureS, pureL, K_own, hown])
    | (refine does_skip hp ?_; simp [hps, he, ql, outV, frzV, frzS, frzS_pure, frzP, pureS, pureL, K_own, hown])
    | (refine does_exit hp ?_; simp [hps, he, ql, outV, frzV, frzS, frzS_pure, frzP, pureS, pureL, K_own, hown])
    | (refine does_cond' hp ?_; simp [hps, he, ql, outV, frzV, frzS, frzS_pure, frzP, pureS, pureL, K_own, hown]; done)
    | (refine onW_split (fun hcnd => ?_) (fun hcnd => ?_) <;> simp only [hcnd] <;> (try simp [-List.isEmpty_iff, -List.isEmpty_eq_false_iff] at hcnd) <;> simp [hps, he, ql, outV, frzV, frzS, frzS_pure, frzP, pureS, pureL, K_own, hown])
    | (refine does_cond' hp ?_; simp [hps, he, ql, outV, frzV, frzS, frzS_pure, frzP, pureS, pureL, K_own, hown]; refine fork (fun hcnd => ?_) (fun hcnd => ?_) <;> (try simp only [hcnd]) <;> (try simp [-List.isEmpty_iff, -List.isEmpty_eq_false_iff] at hcnd))
    | (refine does_cond' hp ?_; simp [hps, he, ql, outV, frzV, frzS, frzS_pure, frzP, pureS, pureL, K_own, hown]))
  refine does_count hp 3 (fun i fr hh => hh.f 1 = some ⟨0, [3], true, [.bool (decide (0 < i)), .bool (decide (1 < i)), .bool (decide (2 < i))]⟩ ∧ 2 ≤ hh.next ∧ ∃ j, fr = ((.one (sl 10 (askM 2 1 bA) (some [0, 1, 2]))) :: (.one (ii 0)) :: (.one (ii 3)) :: (.one (ii 2)) :: (.one (ii 1)) :: j 5 :: j 6 :: j 7 :: j 8 :: j 9 :: j 10 :: j 11 :: j 12 :: (.one (bs (some bA))) :: (.one (.slc 1 0 0 3 1 none)) :: (.one (ii i)) :: j 16 :: j 17 :: j 18 :: j 19 :: j 20 :: j 21 :: j 22 :: j 23 :: j 24 :: j 25 :: j 26 :: j 27 :: j 28 :: j 29 :: j 30 :: j 31 :: j 32 :: j 33 :: j 34 :: j 35 :: j 36 :: j 37 :: j 38 :: j 39 :: j 40 :: j 41 :: j 42 :: j 43 :: j 44 :: j 45 :: j 46 :: j 47 :: j 48 :: j 49 :: j 50 :: j 51 :: j 52 :: j 53 :: j 54 :: j 55 :: j 56 :: j 57 :: j 58 :: j 59 :: j 60 :: j 61 :: j 62 :: j 63 :: j 64 :: j 65 :: j 66 :: j 67 :: [])) ?_ ?_ _ _ ⟨by simp, by simp, ex_get' (by simp)⟩
  · rintro i fr hh hi ⟨h1, hn, j, rfl⟩
    have hne : ¬ 1 = hh.next := by omega
    have hne2 : ¬ hh.next = 1 := by omega
    obtain rfl | rfl | rfl : i = 0 ∨ i = 1 ∨ i = 2 := by omega
    · have hi := index_sl (P := Try.prog) (enc := askM 2 1 bA) (s := 10) (l := [0, 1, 2]) (i := 0) Try.underlying43 (by simp) (by omega) (by simp)
      have hr : sub (cat (askM 2 1 bA) [0, 1, 2]) 0 10 = some [ii 1, ii 0, ii 102, ii 0, ii 0, ii 0, ii 2, ii 1, bs (some bA), .nilslc] := rfl
      have hs : ∀ h, W K 9 [.agg [ii 1, ii 0, ii 102, ii 0, ii 0, ii 0, ii 2, ii 1, bs (some bA), .nilslc], .agg [ii 1, ii 0, ii 102, ii 0, ii 0, ii 0, ii 2, ii 1, bs (some bA), .nilslc]] h = some (.ret (.one (.bool true)) h) := fun h => same1_c 0 h
      have hx : indexA Try.prog 95 (.slc 1 0 0 3 1 none) 0 = some (.ptr 1 0 0) := by simp [indexA]
      simp at h1 hi
      repeat' (first
        | (rw [doesO_cons]; simp [h1, hne, hne2, hi, hr, hs, hx, hw, outV, frzV, frzS, frzS_pure, frzP, pureS, pureL, K_own, hown])
        | (rw [doesO_nil']; refine hQ' _ _ _ ?_; clear hQ' Q'; first | simp only [] | simp [h1, hne, hne2, hi, hr, hs, hx, hw, outV, frzV, frzS, frzS_pure, frzP, pureS, pureL, K_own, hown])
        | (simp only [List.append_eq]; simp only [List.cons_append, List.nil_append])
        | refine does_seq hp ?_
        | (refine does_gen hp ?_; intro Q' hQ')
        | refine does_block hp ?_
        | (refine does_ret hp ?_; simp [h1, hne, hne2, hi, hr, hs, hx, hw, outV, frzV, frzS, frzS_pure, frzP, pureS, pureL, K_own, hown])
        | (refine does_skip hp ?_; simp [h1, hne, hne2, hi, hr, hs, hx, hw, outV, frzV, frzS, frzS_pure, frzP, pureS, pureL, K_own, hown])
        | (refine does_exit hp ?_; simp [h1, hne, hne2, hi, hr, hs, hx, hw, outV, frzV, frzS, frzS_pure, frzP, pureS, pureL, K_own, hown])
        | (refine does_cond' hp ?_; simp [h1, hne, hne2, hi, hr, hs, hx, hw, outV, frzV, frzS, frzS_pure, frzP, pureS, pureL, K_own, hown]; done)
        | (refine onW_split (fun hcnd => ?_) (fun hcnd => ?_) <;> simp only [hcnd] <;> (try simp [-List.isEmpty_iff, -List.isEmpty_eq_false_iff] at hcnd) <;> simp [h1, hne, hne2, hi, hr, hs, hx, hw, outV, frzV, frzS, frzS_pure, frzP, pureS, pureL, K_own, hown])
        | (refine does_cond' hp ?_; simp [h1, hne, hne2, hi, hr, hs, hx, hw, outV, frzV, frzS, frzS_pure, frzP, pureS, pureL, K_own, hown]; refine fork (fun hcnd => ?_) (fun hcnd => ?_) <;> (try simp only [hcnd]) <;> (try simp [-List.isEmpty_iff, -List.isEmpty_eq_false_iff] at hcnd))
        | (refine does_cond' hp ?_; simp [h1, hne, hne2, hi, hr, hs, hx, hw, outV, frzV, frzS, frzS_pure, frzP, pureS, pureL, K_own, hown]))
      all_goals first | exact ⟨by simp, by simp; omega, ex_get' rfl⟩ | exact ⟨by omega, ex_get' rfl⟩ | trace_state
    · have hi := index_sl (P := Try.prog) (enc := askM 2 1 bA) (s := 10) (l := [0, 1, 2]) (i := 1) Try.underlying43 (by simp) (by omega) (by simp)
      have hr : sub (cat (askM 2 1 bA) [0, 1, 2]) 10 10 = some [ii 1, ii 0, ii 102, ii 1, ii 0, ii 0, ii 2, ii 1, bs (some bA), .nilslc] := rfl
      have hs : ∀ h, W K 9 [.agg [ii 1, ii 0, ii 102, ii 1, ii 0, ii 0, ii 2, ii 1, bs (some bA), .nilslc], .agg [ii 1, ii 0, ii 102, ii 1, ii 0, ii 0, ii 2, ii 1, bs (some bA), .nilslc]] h = some (.ret (.one (.bool true)) h) := fun h => same1_c 1 h
      have hx : indexA Try.prog 95 (.slc 1 0 0 3 1 none) 1 = some (.ptr 1 0 1) := by simp [indexA]
      simp at h1 hi
      repeat' (first
        | (rw [doesO_cons]; simp [h1, hne, hne2, hi, hr, hs, hx, hw, outV, frzV, frzS, frzS_pure, frzP, pureS, pureL, K_own, hown])
        | (rw [doesO_nil']; refine hQ' _ _ _ ?_; clear hQ' Q'; first | simp only [] | simp [h1, hne, hne2, hi, hr, hs, hx, hw, outV, frzV, frzS, frzS_pure, frzP, pureS, pureL, K_own, hown])
        | (simp only [List.append_eq]; simp only [List.cons_append, List.nil_append])
        | refine does_seq hp ?_
        | (refine does_gen hp ?_; intro Q' hQ')
        | refine does_block hp ?_
        | (refine does_ret hp ?_; simp [h1, hne, hne2, hi, hr, hs, hx, hw, outV, frzV, frzS, frzS_pure, frzP, pureS, pureL, K_own, hown])
        | (refine does_skip hp ?_; simp [h1, hne, hne2, hi, hr, hs, hx, hw, outV, frzV, frzS, frzS_pure, frzP, pureS, pureL, K_own, hown])
        | (refine does_exit hp ?_; simp [h1, hne, hne2, hi, hr, hs, hx, hw, outV, frzV, frzS, frzS_pure, frzP, pureS, pureL, K_own, hown])
        | (refine does_cond' hp ?_; simp [h1, hne, hne2, hi, hr, hs, hx, hw, outV, frzV, frzS, frzS_pure, frzP, pureS, pureL, K_own, hown]; done)
        | (refine onW_split (fun hcnd => ?_) (fun hcnd => ?_) <;> simp only [hcnd] <;> (try simp [-List.isEmpty_iff, -List.isEmpty_eq_false_iff] at hcnd) <;> simp [h1, hne, hne2, hi, hr, hs, hx, hw, outV, frzV, frzS, frzS_pure, frzP, pureS, pureL, K_own, hown])
        | (refine does_cond' hp ?_; simp [h1, hne, hne2, hi, hr, hs, hx, hw, outV, frzV, frzS, frzS_pure, frzP, pureS, pureL, K_own, hown]; refine fork (fun hcnd => ?_) (fun hcnd => ?_) <;> (try simp only [hcnd]) <;> (try simp [-List.isEmpty_iff, -List.isEmpty_eq_false_iff] at hcnd))
        | (refine does_cond' hp ?_; simp [h1, hne, hne2, hi, hr, hs, hx, hw, outV, frzV, frzS, frzS_pure, frzP, pureS, pureL, K_own, hown]))
      all_goals first | exact ⟨by simp, by simp; omega, ex_get' rfl⟩ | exact ⟨by omega, ex_get' rfl⟩ | trace_state
    · have hi := index_sl (P := Try.prog) (enc := askM 2 1 bA) (s := 10) (l := [0, 1, 2]) (i := 2) Try.underlying43 (by simp) (by omega) (by simp)
      have hr : sub (cat (askM 2 1 bA) [0, 1, 2]) 20 10 = some [ii 1, ii 0, ii 102, ii 2, ii 0, ii 0, ii 2, ii 1, bs (some bA), .nilslc] := rfl
      have hs : ∀ h, W K 9 [.agg [ii 1, ii 0, ii 102, ii 2, ii 0, ii 0, ii 2, ii 1, bs (some bA), .nilslc], .agg [ii 1, ii 0, ii 102, ii 2, ii 0, ii 0, ii 2, ii 1, bs (some bA), .nilslc]] h = some (.ret (.one (.bool true)) h) := fun h => same1_c 2 h
      have hx : indexA Try.prog 95 (.slc 1 0 0 3 1 none) 2 = some (.ptr 1 0 2) := by simp [indexA]
      simp at h1 hi
      repeat' (first
        | (rw [doesO_cons]; simp [h1, hne, hne2, hi, hr, hs, hx, hw, outV, frzV, frzS, frzS_pure, frzP, pureS, pureL, K_own, hown])
        | (rw [doesO_nil']; refine hQ' _ _ _ ?_; clear hQ' Q'; first | simp only [] | simp [h1, hne, hne2, hi, hr, hs, hx, hw, outV, frzV, frzS, frzS_pure, frzP, pureS, pureL, K_own, hown])
        | (simp only [List.append_eq]; simp only [List.cons_append, List.nil_append])
        | refine does_seq hp ?_
        | (refine does_gen hp ?_; intro Q' hQ')
        | refine does_block hp ?_
        | (refine does_ret hp ?_; simp [h1, hne, hne2, hi, hr, hs, hx, hw, outV, frzV, frzS, frzS_pure, frzP, pureS, pureL, K_own, hown])
        | (refine does_skip hp ?_; simp [h1, hne, hne2, hi, hr, hs, hx, hw, outV, frzV, frzS, frzS_pure, frzP, pureS, pureL, K_own, hown])
        | (refine does_exit hp ?_; simp [h1, hne, hne2, hi, hr, hs, hx, hw, outV, frzV, frzS, frzS_pure, frzP, pureS, pureL, K_own, hown])
        | (refine does_cond' hp ?_; simp [h1, hne, hne2, hi, hr, hs, hx, hw, outV, frzV, frzS, frzS_pure, frzP, pureS, pureL, K_own, hown]; done)
        | (refine onW_split (fun hcnd => ?_) (fun hcnd => ?_) <;> simp only [hcnd] <;> (try simp [-List.isEmpty_iff, -List.isEmpty_eq_false_iff] at hcnd) <;> simp [h1, hne, hne2, hi, hr, hs, hx, hw, outV, frzV, frzS, frzS_pure, frzP, pureS, pureL, K_own, hown])
        | (refine does_cond' hp ?_; simp [h1, hne, hne2, hi, hr, hs, hx, hw, outV, frzV, frzS, frzS_pure, frzP, pureS, pureL, K_own, hown]; refine fork (fun hcnd => ?_) (fun hcnd => ?_) <;> (try simp only [hcnd]) <;> (try simp [-List.isEmpty_iff, -List.isEmpty_eq_false_iff] at hcnd))
        | (refine does_cond' hp ?_; simp [h1, hne, hne2, hi, hr, hs, hx, hw, outV, frzV, frzS, frzS_pure, frzP, pureS, pureL, K_own, hown]))
      all_goals first | exact ⟨by simp, by simp; omega, ex_get' rfl⟩ | exact ⟨by omega, ex_get' rfl⟩ | trace_state
  · rintro fr hh ⟨h1, hn, j, rfl⟩
    repeat' (first
      | (rw [doesO_cons]; simp [h1, outV, frzV, frzS, frzS_pure, frzP, pureS, pureL, K_own, hown])
      | (rw [doesO_nil']; refine hQ' _ _ _ ?_; clear hQ' Q'; first | simp only [] | simp [h1, outV, frzV, frzS, frzS_pure, frzP, pureS, pureL, K_own, hown])
      | (simp only [List.append_eq]; simp only [List.cons_append, List.nil_append])
      | refine does_seq hp ?_
      | (refine does_gen hp ?_; intro Q' hQ')
      | refine does_block hp ?_
      | (refine does_ret hp ?_; simp [h1, outV, frzV, frzS, frzS_pure, frzP, pureS, pureL, K_own, hown])
      | (refine does_skip hp ?_; simp [h1, outV, frzV, frzS, frzS_pure, frzP, pureS, pureL, K_own, hown])
      | (refine does_exit hp ?_; simp [h1, outV, frzV, frzS, frzS_pure, frzP, pureS, pureL, K_own, hown])
      | (refine does_cond' hp ?_; simp [h1, outV, frzV, frzS, frzS_pure, frzP, pureS, pureL, K_own, hown]; done)
      | (refine onW_split (fun hcnd => ?_) (fun hcnd => ?_) <;> simp only [hcnd] <;> (try simp [-List.isEmpty_iff, -List.isEmpty_eq_false_iff] at hcnd) <;> simp [h1, outV, frzV, frzS, frzS_pure, frzP, pureS, pureL, K_own, hown])
      | (refine does_cond' hp ?_; simp [h1, outV, frzV, frzS, frzS_pure, frzP, pureS, pureL, K_own, hown]; refine fork (fun hcnd => ?_) (fun hcnd => ?_) <;> (try simp only [hcnd]) <;> (try simp [-List.isEmpty_iff, -List.isEmpty_eq_false_iff] at hcnd))
      | (refine does_cond' hp ?_; simp [h1, outV, frzV, frzS, frzS_pure, frzP, pureS, pureL, K_own, hown]))
    all_goals trace_state
theorem plain_askM (t : Nat) : ∀ a ∈ askM 2 1 bA t, (∀ f x c, a ≠ .fn f x c) ∧ ∀ t v, a ≠ .ifc t v := by simp [askM, bs_some]
theorem view_ask {h : H} {s : AS} (gr : Grown h 10 (askM 2 1 bA) s (List.range 3)) : viewS h 64 s = some (sl 10 (askM 2 1 bA) (some [0, 1, 2])) ∧ pureS false s = false := by
  obtain ⟨o, o2⟩ := gr
  clear o2
  have hl : (cat (askM 2 1 bA) (List.range 3)).length = 30 := rfl
  have hp' : pureL false (cat (askM 2 1 bA) (List.range 3)) = true := pureL_flat _ fun x _ => pure_askM x
  have hq : ∀ a ∈ cat (askM 2 1 bA) (List.range 3), (∀ f x c, a ≠ .fn f x c) ∧ ∀ t v, a ≠ .ifc t v := by
    intro a ha
    obtain ⟨t, _, ht⟩ := List.mem_flatMap.1 ha
    exact plain_askM t a ht
  cases s <;> simp only [Owns] at o
  · rw [o] at hl; cases hl
  · rename_i b v oo n s' c
    obtain ⟨rfl, rfl, rfl, hl2, hb, B, h1, h2, h3, h4⟩ := o
    have hn : n = 3 := by omega
    subst hn
    refine ⟨?_, rfl⟩
    have hr : readC h (.ptr b v 0) (3 * 10) = some (cat (askM 2 1 bA) (List.range 3)) := by
      simp only [readC, h1, h3, h4, Option.bind_eq_bind, Option.bind_some]
      rw [if_pos (by omega)]
      unfold sub
      rw [if_pos (by omega), List.drop_zero, List.take_of_length_le (by omega)]
    simp only [viewS, hr, Option.bind_eq_bind, Option.bind_some, viewL_pure (n := 62) hp' hq]
    rfl
theorem known_c (h : H) : ∃ h', W K 11 [] h = some (.ret (.one (.bool true)) h') := by
  have hn := clientNew_c 2 (by omega) (by omega)
  have hn4 := clientNew4_c
  have ht := tick_idle (h := h.new (cliB 2 3 0 false [] none 0 0)) (p := h.next) (id := 2) (seq := 0) (row := []) (op := none) (w := 0) (g := 0) (by simp)
  obtain ⟨bo, h2, e2, f2, n2⟩ : ∃ bo h2, W K 6 [.one (.ptr h.next 0 0), .agg [.int .i64 1, .str [97], .str [], .bool false, .bool false, .str [], .int .i64 0, .nilslc, .flt 0, .nilslc, .int .i64 0]] (h.new (cliB 2 3 0 false [] none 0 0)) = some (.ret (.tup [(false, [ii 1]), (false, [ii 0])]) h2) ∧ h2.f h.next = some (cliB 2 3 1 true [97] bo 0 0) ∧ h.next < h2.next :=
    ⟨some (u8 1 :: encOpB ⟨1, [97], [], ⟨false, false, [], ⟨0, none, 0⟩⟩, none, 0⟩), _, submitOp_c (o := ⟨1, [97], [], ⟨false, false, [], ⟨0, none, 0⟩⟩, none, 0⟩) ⟨by decide, by simp, by simp, by simp, by simp, by simp, by simp⟩ (h := h.new (cliB 2 3 0 false [] none 0 0)) (p := h.next) (by simp) (id := 2) (n := 3) (row := []) (op := none) (w := 0) (g := 0) (seq := 0) (by omega) (by simp), by simp, by simp; omega⟩
  obtain ⟨h3, e3, f3, n3⟩ : ∃ h3, W K 6 [.one (.ptr h.next 0 0), .agg [.int .i64 1, .str [97], .str [], .bool false, .bool false, .str [], .int .i64 0, .nilslc, .flt 0, .nilslc, .int .i64 0]] h2 = some (.ret (.tup [(false, [ii 0]), (false, [ii 4])]) h3) ∧ h3.f h.next = some (cliB 2 3 1 true [97] bo 0 0) ∧ h.next < h3.next :=
    ⟨_, submit_busy 1 [97] [] false false [] 0 none 0 none 0 (by decide) (by simp) (by simp) (by simp) (by simp) (by simp) (by simp) (by decide) n2 f2, by rw [new_at, if_neg (by omega)]; exact f2, by simp; omega⟩
  obtain ⟨r, e4, s', h4, rfl, gr, hn1, hk1, hf1, ho1⟩ := tick_ask n3 (id := 2) (g' := 1) (by omega) (by simp) (by omega) (by omega) f3 (by simp)
  obtain ⟨v1, v2⟩ := view_ask gr
  have hlen := len3 gr
  have hb := busy_c hf1
  have e5 : W K 18 [.one s', .one (.int .i64 0), .one (.int .i64 3), .one (.int .i64 2), .one (.int .i64 1), .agg [.int .i64 7, .int .i64 0, .str [], .str [], .bool false, .bool false, .str [], .int .i64 0, .nilslc, .flt 0, .nilslc, .int .i64 0, .str [], .str [], .int .i64 0, .str [97], .int .i64 0, .int .i64 0, .nilslc]] h4 = some (.ret (.one (.bool true)) h4) := by
    refine asks_g.view hp ?_
    unfold viewA
    rw [if_neg (by simp [pureV, v2])]
    simp [viewV, v1, viewS, pureS]
  suffices hq : ∃ r, W K 11 [] h = some r ∧ ∃ h', r = .ret (.one (.bool true)) h' by
    obtain ⟨r, e, h', rfl⟩ := hq; exact ⟨h', e⟩
  refine W_doesQ hp rfl rfl rfl Try.func11 rfl (by simp [Try.f11]) ?_
  simp only [Try.f11, List.length_cons, List.length_nil, List.replicate, List.cons_append, List.nil_append, Nat.reduceAdd, Nat.reduceSub]
  repeat' (first
    | (rw [doesO_cons]; simp [hn, hn4, ht, e2, e3, e4, e5, hlen, hb, nil1, nil2, nil3])
    | (rw [doesO_nil']; refine hQ' _ _ _ ?_; clear hQ' Q'; first | simp only [] | simp [hn, hn4, ht, e2, e3, e4, e5, hlen, hb, nil1, nil2, nil3])
    | (simp only [List.append_eq]; simp only [List.cons_append, List.nil_append])
    | refine does_seq hp ?_
    | (refine does_gen hp ?_; intro Q' hQ')
    | refine does_block hp ?_
    | (refine does_ret hp ?_; simp [hn, hn4, ht, e2, e3, e4, e5, hlen, hb, nil1, nil2, nil3])
    | (refine does_skip hp ?_; simp [hn, hn4, ht, e2, e3, e4, e5, hlen, hb, nil1, nil2, nil3])
    | (refine does_exit hp ?_; simp [hn, hn4, ht, e2, e3, e4, e5, hlen, hb, nil1, nil2, nil3])
    | (refine does_cond' hp ?_; simp [hn, hn4, ht, e2, e3, e4, e5, hlen, hb, nil1, nil2, nil3]; done)
    | (refine onW_split (fun hcnd => ?_) (fun hcnd => ?_) <;> simp only [hcnd] <;> (try simp [-List.isEmpty_iff, -List.isEmpty_eq_false_iff] at hcnd) <;> simp [hn, hn4, ht, e2, e3, e4, e5, hlen, hb, nil1, nil2, nil3])
    | (refine does_cond' hp ?_; simp [hn, hn4, ht, e2, e3, e4, e5, hlen, hb, nil1, nil2, nil3]; refine fork (fun hcnd => ?_) (fun hcnd => ?_) <;> (try simp only [hcnd]) <;> (try simp [-List.isEmpty_iff, -List.isEmpty_eq_false_iff] at hcnd))
    | (refine does_cond' hp ?_; simp [hn, hn4, ht, e2, e3, e4, e5, hlen, hb, nil1, nil2, nil3]))
  all_goals trace_state
end Go.Proofs.Ytmhbdpgflomihaa
