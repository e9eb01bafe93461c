/- A part of a proof over the abstract machine. No conditions. -/
import Derived.Test.YtmhbdpgflomihaaC10
/- The document's own encoding of a question. No conditions. -/
namespace Go.Proofs.Ytmhbdpgflomihaa
open Go Go.Ab Wm NumPlain
set_option linter.unusedSimpArgs false
set_option linter.unnecessarySimpa false
set_option linter.unusedVariables false
set_option maxRecDepth 10000
set_option maxHeartbeats 4000000
theorem bytes_pure2 {st : Bool} (l : BL) : pureL st (l.map byteS) = true := by
  induction l with
  | nil => rfl
  | cons a l ih => simp [pureL, pureS, byteS, ih]
theorem own_out {st : Bool} {h1 : H} {s : AS} {l : BL} (o : Owns h1 1 s (l.map byteS)) (hne : l ≠ []) : ∃ x, ∀ h, outV true st h1 h (.one s) = some (.ret (.one (.slc h.next 0 0 l.length 1 none)) (h.new (blkOf (l.map byteS) x))) := by
  cases s <;> simp only [Owns] at o
  · exact absurd (by simpa using o) hne
  · rename_i b v oo n s' c
    obtain ⟨rfl, rfl, rfl, hl, hb, B, h2, h3, h4, h5⟩ := o
    have hn : n = l.length := by simpa using hl.symm
    subst hn
    refine ⟨B.fixed, fun h => ?_⟩
    simp only [outV, h2, Option.bind_eq_bind, Option.bind_some]
    rw [if_pos ⟨h3.symm, trivial, trivial, by omega, by rw [h5]; simp, by rw [h4]; simp⟩]
    simp only [h5, mapM_pure (n := 63) (bytes_pure2 l), Option.bind_some]
theorem app_b {h : H} {s a : AS} {l0 x : BL} (o : Owns h 1 s (l0.map byteS)) (hs : lenS a = some x.length) (he : elemsOf h 1 x.length a = some (x.map byteS)) (hx : x ≠ []) (hl : l0.length + x.length ≤ 1099511627776) : ∃ s' h', appendA Try.prog 23 23 h s a = some (s', h') ∧ Owns h' 1 s' ((l0 ++ x).map byteS) := by
  obtain ⟨s', h', e1, e2, _⟩ := append_own (bytes := 1) (m := x.length) (new := x.map byteS) (n := l0.length) o (by omega) (by simp) (List.length_pos_iff.2 hx) (by simp) (by simp only [limit]; omega)
  refine ⟨s', h', ?_, by simpa using e2⟩
  rw [append_slice (x := a) (el := 5) (size := 1) (bytes := 1) (by simp) (by simp) Try.bytes5 Try.underlying23 hs he]; exact e1
theorem refNum_g : ∃ x, Fun K 56 [.one (bs (some [7])), .one (.int .u32 1)] (fun h => .ret (.one (.slc h.next 0 0 5 1 none)) (h.new (blkOf ([7, 0, 0, 0, 1].map byteS) x))) := by
  have o0 : Owns (H.empty.new ⟨0, [0], true, []⟩) 1 (.slc 0 0 0 0 1 none) (([] : BL).map byteS) := by simp [Owns, Blk.ext]
  obtain ⟨s1, h1, e1, o1⟩ := app_b (a := bs (some [7])) (x := [7]) o0 (lenS_bs (some [7])) (elems_bs _ (some [7])) (by simp) (by simp)
  obtain ⟨s2, h2, e2, o2⟩ := app_b (a := .slc h1.next 0 0 4 1 none) (x := [0, 0, 0, 1]) (o1.new ⟨0, [4], true, [0, 0, 0, 1].map byteS⟩) rfl (by simp [elemsOf, Blk.ext, sub]) (by simp) (by simp)
  obtain ⟨x, e3⟩ := own_out (st := true) o2 (by simp)
  refine ⟨x, ?_⟩
  have e2' : appendA Try.prog 23 23 (h1.new ⟨0, [4], true, [.int .u8 0, .int .u8 0, .int .u8 0, .int .u8 1]⟩) s1 (.slc h1.next 0 0 4 1 none) = some (s2, h2) := e2
  have q1 : shiftI .shr .u32 1 24 = some (.int .u32 0) := rfl
  have q2 : shiftI .shr .u32 1 16 = some (.int .u32 0) := rfl
  have q3 : shiftI .shr .u32 1 8 = some (.int .u32 0) := rfl
  have q4 : IntKind.u8.wrap 0 = 0 := rfl
  have q5 : IntKind.u8.wrap 1 = 1 := rfl
  clear e2
  have hown : memL S.own 56 = true := by kernel_rfl
  refine ⟨by simp [pureV, pureS, pureL, e1, q1, q2, q3, q4, q5, convA, e2', K_own, hown], fun hh => apart_does rfl rfl (by kernel_rfl) Try.func56 rfl (by simp [Try.f56]) ?_⟩
  simp only [Try.f56, List.length_cons, List.length_nil, List.replicate, List.cons_append, List.nil_append, Nat.reduceAdd, Nat.reduceSub]
  repeat' (first
    | (rw [doesO_cons]; simp [e1, q1, q2, q3, q4, q5, convA, e2', K_own, hown])
    | (rw [doesO_nil']; refine hQ' _ _ _ ?_; clear hQ' Q'; first | simp only [] | simp [e1, q1, q2, q3, q4, q5, convA, e2', K_own, hown])
    | (simp only [List.append_eq]; simp only [List.cons_append, List.nil_append])
    | refine does_seq hp ?_
    | (refine does_gen hp ?_; intro Q' hQ')
    | refine does_block hp ?_
    | (refine does_ret hp ?_; simp [e1, q1, q2, q3, q4, q5, convA, e2', K_own, hown])
    | (refine does_skip hp ?_; simp [e1, q1, q2, q3, q4, q5, convA, e2', K_own, hown])
    | (refine does_exit hp ?_; simp [e1, q1, q2, q3, q4, q5, convA, e2', K_own, hown])
    | (refine does_cond' hp ?_; simp [e1, q1, q2, q3, q4, q5, convA, e2', K_own, hown]; done)
    | (refine onW_split (fun hcnd => ?_) (fun hcnd => ?_) <;> simp only [hcnd] <;> (try simp [-List.isEmpty_iff, -List.isEmpty_eq_false_iff] at hcnd) <;> simp [e1, q1, q2, q3, q4, q5, convA, e2', K_own, hown])
    | (refine does_cond' hp ?_; simp [e1, q1, q2, q3, q4, q5, convA, e2', K_own, hown]; refine fork (fun hcnd => ?_) (fun hcnd => ?_) <;> (try simp only [hcnd]) <;> (try simp [-List.isEmpty_iff, -List.isEmpty_eq_false_iff] at hcnd))
    | (refine does_cond' hp ?_; simp [e1, q1, q2, q3, q4, q5, convA, e2', K_own, hown]))
  all_goals exact e3 _
theorem refText_g : ∃ x, Fun K 58 [.one (bs (some [7])), .one (bs (some [97]))] (fun h => .ret (.one (.slc h.next 0 0 6 1 none)) (h.new (blkOf ([7, 0, 0, 0, 1, 97].map byteS) x))) := by
  obtain ⟨x0, e0⟩ := refNum_g
  have e0 := e0.pure hp H.empty
  have o0 : Owns (H.empty.new (blkOf ([7, 0, 0, 0, 1].map byteS) x0)) 1 (.slc 0 0 0 5 1 none) (([7, 0, 0, 0, 1] : BL).map byteS) := owns_made H.empty 1 5 _ x0 rfl
  obtain ⟨s1, h1, e1, o1⟩ := app_b (a := bs (some [97])) (x := [97]) o0 (lenS_bs (some [97])) (elems_bs _ (some [97])) (by simp) (by simp)
  obtain ⟨x, e3⟩ := own_out (st := true) o1 (by simp)
  refine ⟨x, ?_⟩
  have q4 : IntKind.u32.wrap 1 = 1 := rfl
  simp only [blkOf, List.map_cons, List.map_nil, List.length_cons, List.length_nil, Nat.reduceAdd, empty_next] at e0 e1
  have hown : memL S.own 58 = true := by kernel_rfl
  refine ⟨by simp [pureV, pureS, pureL, e0, e1, q4, convA, K_own, hown], fun hh => apart_does rfl rfl (by kernel_rfl) Try.func58 rfl (by simp [Try.f58]) ?_⟩
  simp only [Try.f58, List.length_cons, List.length_nil, List.replicate, List.cons_append, List.nil_append, Nat.reduceAdd, Nat.reduceSub]
  repeat' (first
    | (rw [doesO_cons]; simp [e0, e1, q4, convA, K_own, hown])
    | (rw [doesO_nil']; refine hQ' _ _ _ ?_; clear hQ' Q'; first | simp only [] | simp [e0, e1, q4, convA, K_own, hown])
    | (simp only [List.append_eq]; simp only [List.cons_append, List.nil_append])
    | refine does_seq hp ?_
    | (refine does_gen hp ?_; intro Q' hQ')
    | refine does_block hp ?_
    | (refine does_ret hp ?_; simp [e0, e1, q4, convA, K_own, hown])
    | (refine does_skip hp ?_; simp [e0, e1, q4, convA, K_own, hown])
    | (refine does_exit hp ?_; simp [e0, e1, q4, convA, K_own, hown])
    | (refine does_cond' hp ?_; simp [e0, e1, q4, convA, K_own, hown]; done)
    | (refine onW_split (fun hcnd => ?_) (fun hcnd => ?_) <;> simp only [hcnd] <;> (try simp [-List.isEmpty_iff, -List.isEmpty_eq_false_iff] at hcnd) <;> simp [e0, e1, q4, convA, K_own, hown])
    | (refine does_cond' hp ?_; simp [e0, e1, q4, convA, K_own, hown]; refine fork (fun hcnd => ?_) (fun hcnd => ?_) <;> (try simp only [hcnd]) <;> (try simp [-List.isEmpty_iff, -List.isEmpty_eq_false_iff] at hcnd))
    | (refine does_cond' hp ?_; simp [e0, e1, q4, convA, K_own, hown]))
  all_goals exact e3 _
theorem refTexts_g : ∃ x, Fun K 52 [.one (bs (some [7])), .one (.str [97])] (fun h => .ret (.one (.slc h.next 0 0 6 1 none)) (h.new (blkOf ([7, 0, 0, 0, 1, 97].map byteS) x))) := by
  obtain ⟨x0, e0⟩ := refText_g
  have e0 : W K 58 [.one (bs (some [7])), .one (.slc 0 0 0 1 1 none)] (H.empty.new ⟨0, [1], false, [byteS 97]⟩) = _ := e0.view hp (by simp [viewA, viewV, viewS, pureV, pureS, bs_some, Blk.ext, sub, pureL, byteS])
  have o0 : Owns ((H.empty.new ⟨0, [1], false, [byteS 97]⟩).new (blkOf ([7, 0, 0, 0, 1, 97].map byteS) x0)) 1 (.slc 1 0 0 6 1 none) (([7, 0, 0, 0, 1, 97] : BL).map byteS) := owns_made (H.empty.new ⟨0, [1], false, [byteS 97]⟩) 1 6 _ x0 rfl
  obtain ⟨x, e3⟩ := own_out (st := true) o0 (by simp)
  refine ⟨x, ?_⟩
  have qb : isByteT Try.prog 5 = true := by simp [isByteT]
  have ql : 1 ≤ limit := by decide
  have hown : memL S.own 52 = true := by kernel_rfl
  refine ⟨by simp [pureV, pureS, pureL, e0, qb, ql, convA, K_own, hown], fun hh => apart_does rfl rfl (by kernel_rfl) Try.func52 rfl (by simp [Try.f52]) ?_⟩
  simp only [Try.f52, List.length_cons, List.length_nil, List.replicate, List.cons_append, List.nil_append, Nat.reduceAdd, Nat.reduceSub]
  repeat' (first
    | (rw [doesO_cons]; simp [e0, qb, ql, convA, K_own, hown])
    | (rw [doesO_nil']; refine hQ' _ _ _ ?_; clear hQ' Q'; first | simp only [] | simp [e0, qb, ql, convA, K_own, hown])
    | (simp only [List.append_eq]; simp only [List.cons_append, List.nil_append])
    | refine does_seq hp ?_
    | (refine does_gen hp ?_; intro Q' hQ')
    | refine does_block hp ?_
    | (refine does_ret hp ?_; simp [e0, qb, ql, convA, K_own, hown])
    | (refine does_skip hp ?_; simp [e0, qb, ql, convA, K_own, hown])
    | (refine does_exit hp ?_; simp [e0, qb, ql, convA, K_own, hown])
    | (refine does_cond' hp ?_; simp [e0, qb, ql, convA, K_own, hown]; done)
    | (refine onW_split (fun hcnd => ?_) (fun hcnd => ?_) <;> simp only [hcnd] <;> (try simp [-List.isEmpty_iff, -List.isEmpty_eq_false_iff] at hcnd) <;> simp [e0, qb, ql, convA, K_own, hown])
    | (refine does_cond' hp ?_; simp [e0, qb, ql, convA, K_own, hown]; refine fork (fun hcnd => ?_) (fun hcnd => ?_) <;> (try simp only [hcnd]) <;> (try simp [-List.isEmpty_iff, -List.isEmpty_eq_false_iff] at hcnd))
    | (refine does_cond' hp ?_; simp [e0, qb, ql, convA, K_own, hown]))
  all_goals exact e3 _
theorem refEncode_c (h : H) : W K 35 [.agg [ii 7, ii 0, .str [], .str [], .bool false, .bool false, .str [], ii 0, .nilslc, .flt 0, .nilslc, ii 0, .str [], .str [], ii 0, .str [97], ii 0, ii 0, .nilslc]] h = some (.ret (.one (bs (some (u8 7 :: textB [97])))) h) := by
  obtain ⟨x0, e0⟩ := refTexts_g
  have e0 : W K 52 [.one (.slc 1 0 0 1 1 none), .one (.str [97])] ((H.empty.new ⟨0, [19], true, [ii 7, ii 0, .str [], .str [], .bool false, .bool false, .str [], ii 0, .nilslc, .flt 0, .nilslc, ii 0, .str [], .str [], ii 0, .str [97], ii 0, ii 0, .nilslc]⟩).new ⟨0, [1], true, [.int .u8 7]⟩) = _ := e0.view hp (by simp [viewA, viewV, viewS, pureV, pureS, bs_some, Blk.ext, sub, pureL, byteS])
  simp only [blkOf, List.map_cons, List.map_nil, List.length_cons, List.length_nil, Nat.reduceAdd, new_next, empty_next] at e0
  have q7 : IntKind.u8.wrap 7 = 7 := rfl
  have hz : bs (some (u8 7 :: textB [97])) = .vs 6 1 [byteS 7, byteS 0, byteS 0, byteS 0, byteS 1, byteS 97] := by
    have : u8 7 :: textB [97] = [7, 0, 0, 0, 1, 97] := by decide
    rw [this, bs_some]; rfl
  rw [hz]
  have hown : memL S.own 35 = false := by kernel_rfl
  refine W_pure hp (by simp [pureV, convA, q7, e0, byteS, outV, frzV, frzS, frzS_pure, frzP, pureS, pureL, K_own, hown]) (apart_does rfl rfl (by kernel_rfl) Try.func35 rfl (by simp [Try.f35]) ?_)
  simp only [Try.f35, List.length_cons, List.length_nil, List.replicate, List.cons_append, List.nil_append, Nat.reduceAdd, Nat.reduceSub]
  repeat' (first
    | (rw [doesO_cons]; simp [convA, q7, e0, byteS, outV, frzV, frzS, frzS_pure, frzP, pureS, pureL, K_own, hown])
    | (rw [doesO_nil']; refine hQ' _ _ _ ?_; clear hQ' Q'; first | simp only [] | simp [convA, q7, e0, byteS, outV, frzV, frzS, frzS_pure, frzP, pureS, pureL, K_own, hown])
    | (simp only [List.append_eq]; simp only [List.cons_append, List.nil_append])
    | (rw [doesD_cons]; simp [convA, q7, e0, byteS, outV, frzV, frzS, frzS_pure, frzP, pureS, pureL, K_own, hown])
    | (rw [doesD_nil]; refine hQ' _ _ _ ?_; clear hQ' Q'; first | simp only [] | simp [convA, q7, e0, byteS, outV, frzV, frzS, frzS_pure, frzP, pureS, pureL, K_own, hown])
    | refine does_seq hp ?_
    | (refine does_gen hp ?_; intro Q' hQ')
    | (refine doesD_gen (id := 5) hp [0, 1, 2, 3, 4, 5, 6, 7] [(3, 5)] (by kernel_rfl) ?_; intro Q' hQ')
    | (refine doesD_gen (id := 8) hp [0, 1, 2, 3, 4, 5, 6, 7, 8] [(3, 5)] (by kernel_rfl) ?_; intro Q' hQ')
    | (refine doesD_gen (id := 14) hp [0, 1, 2, 3, 4, 5, 6, 7] [(3, 5)] (by kernel_rfl) ?_; intro Q' hQ')
    | (refine doesD_gen (id := 17) hp [0, 1, 2, 3, 4, 5, 6, 7, 8] [(3, 5)] (by kernel_rfl) ?_; intro Q' hQ')
    | (refine doesD_gen (id := 19) hp [0, 1, 2, 3, 4, 5, 6, 7, 8, 9, 10, 11] [(3, 5), (3, 9), (7, 9)] (by kernel_rfl) ?_; intro Q' hQ')
    | (refine doesD_gen (id := 22) hp [0, 1, 2, 3, 4, 5, 6, 7, 8, 9, 10, 11] [(3, 5), (3, 9), (7, 9)] (by kernel_rfl) ?_; intro Q' hQ')
    | (refine doesD_gen (id := 28) hp [0, 1, 2, 3, 4, 5, 6, 7] [(3, 5)] (by kernel_rfl) ?_; intro Q' hQ')
    | (refine doesD_gen (id := 30) hp [0, 1, 2, 3, 4, 5, 6, 7, 8, 9] [(4, 6)] (by kernel_rfl) ?_; intro Q' hQ')
    | refine does_block hp ?_
    | (refine does_ret hp ?_; simp [convA, q7, e0, byteS, outV, frzV, frzS, frzS_pure, frzP, pureS, pureL, K_own, hown])
    | (refine does_skip hp ?_; simp [convA, q7, e0, byteS, outV, frzV, frzS, frzS_pure, frzP, pureS, pureL, K_own, hown])
    | (refine does_exit hp ?_; simp [convA, q7, e0, byteS, outV, frzV, frzS, frzS_pure, frzP, pureS, pureL, K_own, hown])
    | (refine does_cond' hp ?_; simp [convA, q7, e0, byteS, outV, frzV, frzS, frzS_pure, frzP, pureS, pureL, K_own, hown]; done)
    | (refine onW_split (fun hcnd => ?_) (fun hcnd => ?_) <;> simp only [hcnd] <;> (try simp [-List.isEmpty_iff, -List.isEmpty_eq_false_iff] at hcnd) <;> simp [convA, q7, e0, byteS, outV, frzV, frzS, frzS_pure, frzP, pureS, pureL, K_own, hown])
    | (refine does_cond' hp ?_; simp [convA, q7, e0, byteS, outV, frzV, frzS, frzS_pure, frzP, pureS, pureL, K_own, hown]; refine fork (fun hcnd => ?_) (fun hcnd => ?_) <;> (try simp only [hcnd]) <;> (try simp [-List.isEmpty_iff, -List.isEmpty_eq_false_iff] at hcnd))
    | (refine does_cond' hp ?_; simp [convA, q7, e0, byteS, outV, frzV, frzS, frzS_pure, frzP, pureS, pureL, K_own, hown]))
  all_goals trace_state
end Go.Proofs.Ytmhbdpgflomihaa
