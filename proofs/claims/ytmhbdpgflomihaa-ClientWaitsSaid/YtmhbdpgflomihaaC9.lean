/- A part of a proof over the abstract machine. No conditions. -/
import Derived.Test.YtmhbdpgflomihaaC6
import Derived.Test.YtmhbdpgflomihaaC7
import Derived.Test.YtmhbdpgflomihaaC8
/- A client: made, asked whether it is busy, where a row is. No conditions. -/
namespace Go.Proofs.Ytmhbdpgflomihaa
open Go Go.Ab Wm NumPlain
set_option linter.unusedSimpArgs false
set_option linter.unnecessarySimpa false
set_option linter.unusedVariables false
set_option maxRecDepth 10000
set_option maxHeartbeats 4000000
theorem encode_loc (at_ : BL) (ha : at_.length ≤ 16) (h : H) :
    W K 12 [.agg [ii 7, ii 0, .str [], .str [], .bool false, .bool false, .str [], ii 0, .nilslc, .flt 0, .nilslc, ii 0, .str [], .str [], ii 0, .str at_, ii 0, ii 0, .nilslc]] h = some (.ret (.tup [(false, [bs (some (u8 7 :: textB at_))]), (false, [ii 0])]) h) := by
  have hx := right_c 7 0 [] [] false false [] 0 none 0 none 0 [] [] 0 at_ 0 0 none (by simp)
  have hok : cmdOk ⟨7, ⟨0, [], [], ⟨false, false, [], ⟨0, none, 0⟩⟩, none, 0⟩, ⟨[], []⟩, 0, at_, 0, 0, none⟩ = true := by simp [cmdOk, ha]
  rw [hok] at hx
  simp only [bs_none, sl] at hx
  have hk := True.intro
  have hl : ([] : BL).length + (u8 7 :: textB at_).length ≤ 1099511627776 := by simp [textB, be_length]; omega
  have ws := ws_new (H.empty.new ⟨0, [19], true, [ii 7, ii 0, .str [], .str [], .bool false, .bool false, .str [], ii 0, .nilslc, .flt 0, .nilslc, ii 0, .str [], .str [], ii 0, .str at_, ii 0, ii 0, .nilslc]⟩) [(0, ⟨0, [19], true, [ii 7, ii 0, .str [], .str [], .bool false, .bool false, .str [], ii 0, .nilslc, .flt 0, .nilslc, ii 0, .str [], .str [], ii 0, .str at_, ii 0, ii 0, .nilslc]⟩)] (by simp [keptP]) (by simp)
  simp only [new_next, empty_next, Nat.zero_add] at ws
  have hown : memL S.own 12 = false := by kernel_rfl
  refine W_pure hp (by simp [pureV, hx, new_c, convA, wrapB, outV, frzV, frzS, frzS_pure, frzP, pureS, pureL, K_own, hown]) (apart_does rfl rfl (by kernel_rfl) Try.func12 rfl (by simp [Try.f12]) ?_)
  simp only [Try.f12, List.length_cons, List.length_nil, List.replicate, List.cons_append, List.nil_append, Nat.reduceAdd, Nat.reduceSub]
  repeat' (first
    | (refine call_writes (byte_w _) (by first | assumption | exact WS.new (by assumption) _ | exact WS.new (WS.new (by assumption) _) _) (by first | exact hl | omega | (simp only [List.length_append, List.length_cons, List.length_nil, be_length] at hl ⊢; omega) | (simp at hl ⊢; omega)) ?_; clear hk; intro h' ws' hk; (try simp only [keptP, and_true] at hk); (first | (have hk := hk; skip) | have hk := True.intro); (try simp [hx, new_c, convA, wrapB, outV, frzV, frzS, frzS_pure, frzP, pureS, pureL, K_own, hown, hk]))
    | (refine call_writes (strtext_w at_ (by omega)) (by first | assumption | exact WS.new (by assumption) _ | exact WS.new (WS.new (by assumption) _) _) (by first | exact hl | omega | (simp only [List.length_append, List.length_cons, List.length_nil, be_length] at hl ⊢; omega) | (simp at hl ⊢; omega)) ?_; clear hk; intro h' ws' hk; (try simp only [keptP, and_true] at hk); (first | (have hk := hk; skip) | have hk := True.intro); (try simp [hx, new_c, convA, wrapB, outV, frzV, frzS, frzS_pure, frzP, pureS, pureL, K_own, hown, hk]))
    | (refine call_text (by first | assumption | omega) (by first | assumption | exact WS.new (by assumption) _ | exact WS.new (WS.new (by assumption) _) _) (by first | exact hl | omega | (simp only [List.length_append, List.length_cons, List.length_nil, be_length] at hl ⊢; omega) | (simp at hl ⊢; omega)) (by first | rfl | simp) ?_; clear hk; intro h' ws' hk; (try simp only [keptP, and_true] at hk); (first | (have hk := hk; skip) | have hk := True.intro); (try simp [hx, new_c, convA, wrapB, outV, frzV, frzS, frzS_pure, frzP, pureS, pureL, K_own, hown, hk]))
    | (rw [done_ws ws' (by first | omega | (simp only [List.length_append, List.length_cons, List.length_nil, be_length] at hl ⊢; omega) | (simp at hl ⊢; omega)) (by simp)]; simp [hx, new_c, convA, wrapB, outV, frzV, frzS, frzS_pure, frzP, pureS, pureL, K_own, hown, hk])
    | (rw [doesO_cons]; simp [hx, new_c, convA, wrapB, outV, frzV, frzS, frzS_pure, frzP, pureS, pureL, K_own, hown, hk])
    | (rw [doesO_nil']; refine hQ' _ _ _ ?_; clear hQ' Q'; first | simp only [] | simp [hx, new_c, convA, wrapB, outV, frzV, frzS, frzS_pure, frzP, pureS, pureL, K_own, hown, hk])
    | (simp only [List.append_eq]; simp only [List.cons_append, List.nil_append])
    | refine does_seq hp ?_
    | (refine does_gen hp ?_; intro Q' hQ')
    | refine does_block hp ?_
    | (refine does_ret hp ?_; simp [hx, new_c, convA, wrapB, outV, frzV, frzS, frzS_pure, frzP, pureS, pureL, K_own, hown, hk])
    | (refine does_skip hp ?_; simp [hx, new_c, convA, wrapB, outV, frzV, frzS, frzS_pure, frzP, pureS, pureL, K_own, hown, hk])
    | (refine does_exit hp ?_; simp [hx, new_c, convA, wrapB, outV, frzV, frzS, frzS_pure, frzP, pureS, pureL, K_own, hown, hk])
    | (refine does_cond' hp ?_; simp [hx, new_c, convA, wrapB, outV, frzV, frzS, frzS_pure, frzP, pureS, pureL, K_own, hown, hk]; done)
    | (refine onW_split (fun hcnd => ?_) (fun hcnd => ?_) <;> simp only [hcnd] <;> (try simp [-List.isEmpty_iff, -List.isEmpty_eq_false_iff] at hcnd) <;> simp [hx, new_c, convA, wrapB, outV, frzV, frzS, frzS_pure, frzP, pureS, pureL, K_own, hown, hk])
    | (refine does_cond' hp ?_; simp [hx, new_c, convA, wrapB, outV, frzV, frzS, frzS_pure, frzP, pureS, pureL, K_own, hown, hk]; refine fork (fun hcnd => ?_) (fun hcnd => ?_) <;> (try simp only [hcnd]) <;> (try simp [-List.isEmpty_iff, -List.isEmpty_eq_false_iff] at hcnd))
    | (refine does_cond' hp ?_; simp [hx, new_c, convA, wrapB, outV, frzV, frzS, frzS_pure, frzP, pureS, pureL, K_own, hown, hk]))
/-- a block that is pure, seen -/
theorem view_ptr {h : H} {p n : Nat} {cells : List AS} (hf : h.f p = some ⟨0, [n], true, cells⟩) (hn : cells.length = n) (hp : pureL false cells = true) (hc : ∀ a ∈ cells, (∀ f x c, a ≠ .fn f x c) ∧ ∀ t v, a ≠ .ifc t v) : viewA h [.one (.ptr p 0 0)] = some [.one (.rp cells 0)] := by
  subst hn
  unfold viewA
  rw [if_neg (by simp [pureV, pureS])]
  simp only [List.mapM_cons, List.mapM_nil, viewV, viewS, hf, Blk.ext, Option.bind_eq_bind, Option.bind_some, Nat.le_refl, ↓reduceIte, Nat.sub_zero, List.getElem?_cons_zero, List.take_length, viewL_pure (n := 62) hp hc, Option.pure_def]
abbrev cli (id n seq : Int) (busy : Bool) (row : BL) (op : Option BL) (w g : Int) : List AS := [ii id, ii n, ii seq, .bool busy, .str row, bs op, ii w, ii g, .nilslc, ii 0, ii 0, .nilslc, .str [], .str [], ii 0, ii 0, ii 0, ii 0, ii 0, .str [], .nilslc]
abbrev cliB (id n seq : Int) (busy : Bool) (row : BL) (op : Option BL) (w g : Int) : Blk := ⟨0, [21], true, cli id n seq busy row op w g⟩
theorem cli_pure (id n seq : Int) (busy : Bool) (row : BL) (op : Option BL) (w g : Int) : pureL false (cli id n seq busy row op w g) = true := by simp [pureL, pureS]
theorem cli_plain (id n seq : Int) (busy : Bool) (row : BL) (op : Option BL) (w g : Int) : ∀ a ∈ cli id n seq busy row op w g, (∀ f x c, a ≠ .fn f x c) ∧ ∀ t v, a ≠ .ifc t v := by
  cases op <;> simp [bs_none, bs_some]
theorem view_cli {h : H} {p : Nat} {id n seq : Int} {busy : Bool} {row : BL} {op : Option BL} {w g : Int} (hf : h.f p = some (cliB id n seq busy row op w g)) : viewA h [.one (.ptr p 0 0)] = some [.one (.rp (cli id n seq busy row op w g) 0)] := view_ptr hf rfl (cli_pure ..) (by exact cli_plain _ _ _ _ _ _ _ _)
theorem busy_c {h : H} {p : Nat} {id n seq : Int} {busy : Bool} {row : BL} {op : Option BL} {w g : Int} (hf : h.f p = some (cliB id n seq busy row op w g)) : W K 10 [.one (.ptr p 0 0)] h = some (.ret (.one (.bool busy)) h) := by
  refine Fun.view hp (r := fun h => .ret (.one (.bool busy)) h) ?_ (view_cli hf)
  have hown : memL S.own 10 = false := by kernel_rfl
  refine ⟨by simp [pureV, outV, frzV, frzS, frzS_pure, frzP, pureS, pureL, K_own, hown], fun hh => apart_does rfl rfl (by kernel_rfl) Try.func10 rfl (by simp [Try.f10]) ?_⟩
  simp only [Try.f10, List.length_cons, List.length_nil, List.replicate, List.cons_append, List.nil_append, Nat.reduceAdd, Nat.reduceSub]
  repeat' (first
    | (rw [doesO_cons]; simp [outV, frzV, frzS, frzS_pure, frzP, pureS, pureL, K_own, hown])
    | (rw [doesO_nil']; refine hQ' _ _ _ ?_; clear hQ' Q'; first | simp only [] | simp [outV, frzV, frzS, frzS_pure, frzP, pureS, pureL, K_own, hown])
    | (simp only [List.append_eq]; simp only [List.cons_append, List.nil_append])
    | refine does_seq hp ?_
    | (refine does_gen hp ?_; intro Q' hQ')
    | refine does_block hp ?_
    | (refine does_ret hp ?_; simp [outV, frzV, frzS, frzS_pure, frzP, pureS, pureL, K_own, hown])
    | (refine does_skip hp ?_; simp [outV, frzV, frzS, frzS_pure, frzP, pureS, pureL, K_own, hown])
    | (refine does_exit hp ?_; simp [outV, frzV, frzS, frzS_pure, frzP, pureS, pureL, K_own, hown])
    | (refine does_cond' hp ?_; simp [outV, frzV, frzS, frzS_pure, frzP, pureS, pureL, K_own, hown]; done)
    | (refine onW_split (fun hcnd => ?_) (fun hcnd => ?_) <;> simp only [hcnd] <;> (try simp [-List.isEmpty_iff, -List.isEmpty_eq_false_iff] at hcnd) <;> simp [outV, frzV, frzS, frzS_pure, frzP, pureS, pureL, K_own, hown])
    | (refine does_cond' hp ?_; simp [outV, frzV, frzS, frzS_pure, frzP, pureS, pureL, K_own, hown]; refine fork (fun hcnd => ?_) (fun hcnd => ?_) <;> (try simp only [hcnd]) <;> (try simp [-List.isEmpty_iff, -List.isEmpty_eq_false_iff] at hcnd))
    | (refine does_cond' hp ?_; simp [outV, frzV, frzS, frzS_pure, frzP, pureS, pureL, K_own, hown]))
theorem indexNil_g (g : Nat) (caps : List AS) (hc : pureL false caps = true) : Fun K 49 [.one .nilslc, .one (.fn g [] caps)] (fun h => .ret (.one (ii (-1))) h) := by
  have hown : memL S.own 49 = false := by kernel_rfl
  refine ⟨by simp [pureV, hc, outV, frzV, frzS, frzS_pure, frzP, pureS, pureL, K_own, hown], fun hh => apart_does rfl rfl (by kernel_rfl) Try.func49 rfl (by simp [Try.f49]) ?_⟩
  simp only [Try.f49, List.length_cons, List.length_nil, List.replicate, List.cons_append, List.nil_append, Nat.reduceAdd, Nat.reduceSub]
  repeat' (first
    | (rw [doesO_cons]; simp [hc, outV, frzV, frzS, frzS_pure, frzP, pureS, pureL, K_own, hown])
    | (rw [doesO_nil']; refine hQ' _ _ _ ?_; clear hQ' Q'; first | simp only [] | simp [hc, outV, frzV, frzS, frzS_pure, frzP, pureS, pureL, K_own, hown])
    | (simp only [List.append_eq]; simp only [List.cons_append, List.nil_append])
    | refine does_seq hp ?_
    | (refine does_gen hp ?_; intro Q' hQ')
    | refine does_block hp ?_
    | (refine does_ret hp ?_; simp [hc, outV, frzV, frzS, frzS_pure, frzP, pureS, pureL, K_own, hown])
    | (refine does_skip hp ?_; simp [hc, outV, frzV, frzS, frzS_pure, frzP, pureS, pureL, K_own, hown])
    | (refine does_exit hp ?_; simp [hc, outV, frzV, frzS, frzS_pure, frzP, pureS, pureL, K_own, hown])
    | (refine does_cond' hp ?_; simp [hc, outV, frzV, frzS, frzS_pure, frzP, pureS, pureL, K_own, hown]; done)
    | (refine onW_split (fun hcnd => ?_) (fun hcnd => ?_) <;> simp only [hcnd] <;> (try simp [-List.isEmpty_iff, -List.isEmpty_eq_false_iff] at hcnd) <;> simp [hc, outV, frzV, frzS, frzS_pure, frzP, pureS, pureL, K_own, hown])
    | (refine does_cond' hp ?_; simp [hc, outV, frzV, frzS, frzS_pure, frzP, pureS, pureL, K_own, hown]; refine fork (fun hcnd => ?_) (fun hcnd => ?_) <;> (try simp only [hcnd]) <;> (try simp [-List.isEmpty_iff, -List.isEmpty_eq_false_iff] at hcnd))
    | (refine does_cond' hp ?_; simp [hc, outV, frzV, frzS, frzS_pure, frzP, pureS, pureL, K_own, hown]))
  refine does_count hp 0 (fun i fr hh => ∃ j, fr = [.one .nilslc, j 1, j 2, j 3, j 4, j 5, j 6, .one (ii 0), .one (ii 0), j 9, j 10, j 11, j 12, j 13, j 14, j 15, j 16, j 17, j 18] ∧ True) ?_ ?_ _ _ (ex_get rfl (by simp))
  · intro i fr hh hi; omega
  · rintro fr hh ⟨j, rfl, h0⟩
    repeat' (first
      | (rw [doesO_cons]; simp [hc, outV, frzV, frzS, frzS_pure, frzP, pureS, pureL, K_own, hown])
      | (rw [doesO_nil']; refine hQ' _ _ _ ?_; clear hQ' Q'; first | simp only [] | simp [hc, outV, frzV, frzS, frzS_pure, frzP, pureS, pureL, K_own, hown])
      | (simp only [List.append_eq]; simp only [List.cons_append, List.nil_append])
      | refine does_seq hp ?_
      | (refine does_gen hp ?_; intro Q' hQ')
      | refine does_block hp ?_
      | (refine does_ret hp ?_; simp [hc, outV, frzV, frzS, frzS_pure, frzP, pureS, pureL, K_own, hown])
      | (refine does_skip hp ?_; simp [hc, outV, frzV, frzS, frzS_pure, frzP, pureS, pureL, K_own, hown])
      | (refine does_exit hp ?_; simp [hc, outV, frzV, frzS, frzS_pure, frzP, pureS, pureL, K_own, hown])
      | (refine does_cond' hp ?_; simp [hc, outV, frzV, frzS, frzS_pure, frzP, pureS, pureL, K_own, hown]; done)
      | (refine onW_split (fun hcnd => ?_) (fun hcnd => ?_) <;> simp only [hcnd] <;> (try simp [-List.isEmpty_iff, -List.isEmpty_eq_false_iff] at hcnd) <;> simp [hc, outV, frzV, frzS, frzS_pure, frzP, pureS, pureL, K_own, hown])
      | (refine does_cond' hp ?_; simp [hc, outV, frzV, frzS, frzS_pure, frzP, pureS, pureL, K_own, hown]; refine fork (fun hcnd => ?_) (fun hcnd => ?_) <;> (try simp only [hcnd]) <;> (try simp [-List.isEmpty_iff, -List.isEmpty_eq_false_iff] at hcnd))
      | (refine does_cond' hp ?_; simp [hc, outV, frzV, frzS, frzS_pure, frzP, pureS, pureL, K_own, hown]))
theorem find_c {h : H} {p : Nat} {id n seq : Int} {busy : Bool} {row : BL} {op : Option BL} {w g : Int} (hf : h.f p = some (cliB id n seq busy row op w g)) : W K 33 [.one (.ptr p 0 0)] h = some (.ret (.one (ii (-1))) h) := by
  refine Fun.view hp (r := fun h => .ret (.one (ii (-1))) h) ?_ (view_cli hf)
  have hcp := cli_pure id n seq busy row op w g
  have hi : W K 49 [.one .nilslc, .one (.fn 50 [] [.ptr 0 0 0])] (H.empty.new ⟨0, [1], true, [.rp (cli id n seq busy row op w g) 0]⟩) = some (.ret (.one (ii (-1))) (H.empty.new ⟨0, [1], true, [.rp (cli id n seq busy row op w g) 0]⟩)) := by
    refine (indexNil_g 50 [.rp [.rp (cli id n seq busy row op w g) 0] 0] (by simp [pureL, pureS])).view hp ?_
    unfold viewA
    rw [if_neg (by simp [pureV, pureS, pureL])]
    simp [viewV, viewS, pureS, pureL, Blk.ext]
  have hown : memL S.own 33 = false := by kernel_rfl
  refine ⟨by simp [pureV, hi, outV, frzV, frzS, frzS_pure, frzP, pureS, pureL, K_own, hown], fun hh => apart_does rfl rfl (by kernel_rfl) Try.func33 rfl (by simp [Try.f33]) ?_⟩
  simp only [Try.f33, List.length_cons, List.length_nil, List.replicate, List.cons_append, List.nil_append, Nat.reduceAdd, Nat.reduceSub]
  repeat' (first
    | (rw [doesO_cons]; simp [hi, outV, frzV, frzS, frzS_pure, frzP, pureS, pureL, K_own, hown])
    | (rw [doesO_nil']; refine hQ' _ _ _ ?_; clear hQ' Q'; first | simp only [] | simp [hi, outV, frzV, frzS, frzS_pure, frzP, pureS, pureL, K_own, hown])
    | (simp only [List.append_eq]; simp only [List.cons_append, List.nil_append])
    | refine does_seq hp ?_
    | (refine does_gen hp ?_; intro Q' hQ')
    | refine does_block hp ?_
    | (refine does_ret hp ?_; simp [hi, outV, frzV, frzS, frzS_pure, frzP, pureS, pureL, K_own, hown])
    | (refine does_skip hp ?_; simp [hi, outV, frzV, frzS, frzS_pure, frzP, pureS, pureL, K_own, hown])
    | (refine does_exit hp ?_; simp [hi, outV, frzV, frzS, frzS_pure, frzP, pureS, pureL, K_own, hown])
    | (refine does_cond' hp ?_; simp [hi, outV, frzV, frzS, frzS_pure, frzP, pureS, pureL, K_own, hown]; done)
    | (refine onW_split (fun hcnd => ?_) (fun hcnd => ?_) <;> simp only [hcnd] <;> (try simp [-List.isEmpty_iff, -List.isEmpty_eq_false_iff] at hcnd) <;> simp [hi, outV, frzV, frzS, frzS_pure, frzP, pureS, pureL, K_own, hown])
    | (refine does_cond' hp ?_; simp [hi, outV, frzV, frzS, frzS_pure, frzP, pureS, pureL, K_own, hown]; refine fork (fun hcnd => ?_) (fun hcnd => ?_) <;> (try simp only [hcnd]) <;> (try simp [-List.isEmpty_iff, -List.isEmpty_eq_false_iff] at hcnd))
    | (refine does_cond' hp ?_; simp [hi, outV, frzV, frzS, frzS_pure, frzP, pureS, pureL, K_own, hown]))
theorem clientNew_c (id : Int) (h0 : 0 ≤ id) (h1 : id < 4) (h : H) : W K 5 [.one (ii id), .one (ii 3)] h = some (.ret (.one (.ptr h.next 0 0)) (h.new (cliB id 3 0 false [] none 0 0))) := by
  have hd1 : decide (id < 0) = false := by simp; omega
  have hd2 : decide (4 ≤ id) = false := by simp; omega
  have hd3 : ¬ id < 0 := by omega
  have hd4 : ¬ 4 ≤ id := by omega
  refine W_does hp rfl rfl rfl Try.func5 rfl (by simp [Try.f5]) ?_
  simp only [Try.f5, List.length_cons, List.length_nil, List.replicate, List.cons_append, List.nil_append, Nat.reduceAdd, Nat.reduceSub]
  repeat' (first
    | (rw [doesO_cons]; simp [hd1, hd2, hd3, hd4])
    | (rw [doesO_nil']; refine hQ' _ _ _ ?_; clear hQ' Q'; first | simp only [] | simp [hd1, hd2, hd3, hd4])
    | (simp only [List.append_eq]; simp only [List.cons_append, List.nil_append])
    | refine does_seq hp ?_
    | (refine does_gen hp ?_; intro Q' hQ')
    | refine does_block hp ?_
    | (refine does_ret hp ?_; simp [hd1, hd2, hd3, hd4])
    | (refine does_skip hp ?_; simp [hd1, hd2, hd3, hd4])
    | (refine does_exit hp ?_; simp [hd1, hd2, hd3, hd4])
    | (refine does_cond' hp ?_; simp [hd1, hd2, hd3, hd4]; done)
    | (refine onW_split (fun hcnd => ?_) (fun hcnd => ?_) <;> simp only [hcnd] <;> (try simp [-List.isEmpty_iff, -List.isEmpty_eq_false_iff] at hcnd) <;> simp [hd1, hd2, hd3, hd4])
    | (refine does_cond' hp ?_; simp [hd1, hd2, hd3, hd4]; refine fork (fun hcnd => ?_) (fun hcnd => ?_) <;> (try simp only [hcnd]) <;> (try simp [-List.isEmpty_iff, -List.isEmpty_eq_false_iff] at hcnd))
    | (refine does_cond' hp ?_; simp [hd1, hd2, hd3, hd4]))
  all_goals rfl
theorem clientNew4_c (h : H) : W K 5 [.one (ii 4), .one (ii 3)] h = some (.ret (.one .nilptr) h) := by
  refine W_does hp rfl rfl rfl Try.func5 rfl (by simp [Try.f5]) ?_
  simp only [Try.f5, List.length_cons, List.length_nil, List.replicate, List.cons_append, List.nil_append, Nat.reduceAdd, Nat.reduceSub]
  repeat' (first
    | (rw [doesO_cons]; simp)
    | (rw [doesO_nil']; refine hQ' _ _ _ ?_; clear hQ' Q'; first | simp only [] | simp)
    | (simp only [List.append_eq]; simp only [List.cons_append, List.nil_append])
    | refine does_seq hp ?_
    | (refine does_gen hp ?_; intro Q' hQ')
    | refine does_block hp ?_
    | (refine does_ret hp ?_; simp)
    | (refine does_skip hp ?_; simp)
    | (refine does_exit hp ?_; simp)
    | (refine does_cond' hp ?_; simp; done)
    | (refine onW_split (fun hcnd => ?_) (fun hcnd => ?_) <;> simp only [hcnd] <;> (try simp [-List.isEmpty_iff, -List.isEmpty_eq_false_iff] at hcnd) <;> simp)
    | (refine does_cond' hp ?_; simp; refine fork (fun hcnd => ?_) (fun hcnd => ?_) <;> (try simp only [hcnd]) <;> (try simp [-List.isEmpty_iff, -List.isEmpty_eq_false_iff] at hcnd))
    | (refine does_cond' hp ?_; simp))
end Go.Proofs.Ytmhbdpgflomihaa
