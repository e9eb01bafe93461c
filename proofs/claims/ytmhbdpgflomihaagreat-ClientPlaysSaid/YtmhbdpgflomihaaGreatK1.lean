/- A part of a proof over the abstract machine. No conditions. -/
import Derived.Test.YtmhbdpgflomihaaGreatS1
import Derived.Test.YtmhbdpgflomihaaGreatAb5
import Derived.Test.YtmhbdpgflomihaaGreatC15
namespace Go.Proofs.YtmhbdpgflomihaaGreat
open Go Go.Ab Wm NumPlain
set_option linter.unusedSimpArgs false
set_option linter.unnecessarySimpa false
set_option linter.unusedVariables false
set_option maxRecDepth 10000
set_option maxHeartbeats 4000000
theorem encode_loc (at_ : BL) (ha : at_.length ≤ 16) (h : H) :
    W K 19 [.agg [ii 7, ii 0, .str [], .str [], .bool false, .bool false, .str [], ii 0, .nilslc, .flt 0, .nilslc, ii 0, .str [], .str [], ii 0, .str at_, ii 0, ii 0, .nilslc]] h = some (.ret (.tup [(false, [bs (some (u8 7 :: textB at_))]), (false, [ii 0])]) h) := by
  have hx := right_c 7 0 [] [] false false [] 0 none 0 none 0 [] [] 0 at_ 0 0 none (by simp)
  have hok : cmdOk ⟨7, ⟨0, [], [], ⟨false, false, [], ⟨0, none, 0⟩⟩, none, 0⟩, ⟨[], []⟩, 0, at_, 0, 0, none⟩ = true := by simp [cmdOk, ha]
  rw [hok] at hx
  simp only [bs_none, sl] at hx
  have hk := True.intro
  have hl : ([] : BL).length + (u8 7 :: textB at_).length ≤ 1099511627776 := by simp [textB, be_length]; omega
  have ws := ws_new (H.empty.new ⟨0, [19], true, [ii 7, ii 0, .str [], .str [], .bool false, .bool false, .str [], ii 0, .nilslc, .flt 0, .nilslc, ii 0, .str [], .str [], ii 0, .str at_, ii 0, ii 0, .nilslc]⟩) [(0, ⟨0, [19], true, [ii 7, ii 0, .str [], .str [], .bool false, .bool false, .str [], ii 0, .nilslc, .flt 0, .nilslc, ii 0, .str [], .str [], ii 0, .str at_, ii 0, ii 0, .nilslc]⟩)] (by simp [keptP]) (by simp)
  simp only [new_next, empty_next, Nat.zero_add] at ws
  have hown : memL S.own 19 = false := by kernel_rfl
  refine W_pure hp (by simp [pureV, hx, new_c, convA, wrapB, outV, frzV, frzS, frzS_pure, frzP, pureS, pureL, K_own, hown]) (apart_does rfl rfl (by kernel_rfl) Tryz.func19 rfl (by simp [Tryz.f19]) ?_)
  simp only [Tryz.f19]
  refine hide ?_; intro Q12 hQ12
  repeat' (first
    | (replace hQ12 := hQ12; simp [hx, new_c, convA, wrapB, outV, frzV, frzS, frzS_pure, frzP, pureS, pureL, K_own, hown, hk])
    | refine hQ12 _ _ _ ?_
    | ((with_reducible refine call_id ?_); first
      | (refine call_writes (byte_w _) (by first | assumption | exact WS.new (by assumption) _ | exact WS.new (WS.new (by assumption) _) _) (by first | (simp only [List.length_append, List.length_cons, List.length_nil, be_length, textB, encSpn, num4, num8]; omega) | exact hl | omega | (simp only [List.length_append, List.length_cons, List.length_nil, be_length] at hl ⊢; omega) | (simp at hl ⊢; omega)) ?_; clear hk; intro h' ws' hk; (try simp only [keptP, and_true] at hk); (first | (have hk := hk; skip) | have hk := True.intro); (try simp [hx, new_c, convA, wrapB, outV, frzV, frzS, frzS_pure, frzP, pureS, pureL, K_own, hown, hk]))
      | (refine call_writes (strtext_w at_ (by omega)) (by first | assumption | exact WS.new (by assumption) _ | exact WS.new (WS.new (by assumption) _) _) (by first | (simp only [List.length_append, List.length_cons, List.length_nil, be_length, textB, encSpn, num4, num8]; omega) | exact hl | omega | (simp only [List.length_append, List.length_cons, List.length_nil, be_length] at hl ⊢; omega) | (simp at hl ⊢; omega)) ?_; clear hk; intro h' ws' hk; (try simp only [keptP, and_true] at hk); (first | (have hk := hk; skip) | have hk := True.intro); (try simp [hx, new_c, convA, wrapB, outV, frzV, frzS, frzS_pure, frzP, pureS, pureL, K_own, hown, hk]))
      | (refine call_text (by first | assumption | omega) (by first | assumption | exact WS.new (by assumption) _ | exact WS.new (WS.new (by assumption) _) _) (by first | (simp only [List.length_append, List.length_cons, List.length_nil, be_length, textB, encSpn, num4, num8]; omega) | exact hl | omega | (simp only [List.length_append, List.length_cons, List.length_nil, be_length] at hl ⊢; omega) | (simp at hl ⊢; omega)) (by first | rfl | simp) ?_; clear hk; intro h' ws' hk; (try simp only [keptP, and_true] at hk); (first | (have hk := hk; skip) | have hk := True.intro); (try simp [hx, new_c, convA, wrapB, outV, frzV, frzS, frzS_pure, frzP, pureS, pureL, K_own, hown, hk])))
    | (rw [done_ws ws' (by first | omega | (simp only [List.length_append, List.length_cons, List.length_nil, be_length, textB, encSpn, num4, num8]; omega) | (simp only [List.length_append, List.length_cons, List.length_nil, be_length] at hl ⊢; omega) | (simp at hl ⊢; omega)) (by simp)]; simp [hx, new_c, convA, wrapB, outV, frzV, frzS, frzS_pure, frzP, pureS, pureL, K_own, hown, hk])
    | (first | apply cF | apply wN | apply wS) <;> intro hcnd <;> (try simp only [hcnd]) <;> (try simp [-List.isEmpty_iff, -List.isEmpty_eq_false_iff] at hcnd))
structure Cl where
  id : Int
  n : Int
  seq : Int
  busy : Bool
  row : BL
  op : Option BL
  w : Int
  g : Int
  cached : List Tablet
  told : Int
  ans : Answer
def clC (c : Cl) (s : AS) : List AS := [ii c.id, ii c.n, ii c.seq, .bool c.busy, .str c.row, bs c.op, ii c.w, ii c.g, s, ii c.told, ii c.ans.code, sl 2 encNamed c.ans.rows, .str c.ans.span.lo, .str c.ans.span.hi, ii c.ans.group, ii c.ans.gen, ii c.ans.old, ii c.ans.to, ii c.ans.do_, .str c.ans.at_, bs c.ans.state]
abbrev clV (c : Cl) (o : Option (List Tablet)) : AS := .rp (clC c (sl 4 encTablet o)) 0
theorem pure_clC {st : Bool} (c : Cl) (o : Option (List Tablet)) : pureL false (clC c (sl 4 encTablet o)) = true := by simp [clC, pureL, pureS]
@[simp] theorem pure_clV (c : Cl) (o : Option (List Tablet)) : pureS false (clV c o) = true := by simp only [clV, pureS]; exact pure_clC (st := false) c o
theorem find1_c (c : Cl) (o : Option (List Tablet)) (t : Tablet) (h : H) : W K 72 [.agg (encTablet t), .one (.rp [clV c o] 0)] h = some (.ret (.one (.bool (hasName t.span c.row))) h) := by
  obtain ⟨⟨lo, hi⟩, g, n⟩ := t
  have hx := spanHas_c lo hi c.row
  have hpv := pure_clC (st := false) c o
  simp only [encTablet, clV]
  have hown : memL S.own 72 = false := by kernel_rfl
  refine W_pure hp (by simp [pureV, hpv, hx, clC, outV, frzV, frzS, frzS_pure, frzP, pureS, pureL, K_own, hown]) (apart_does rfl rfl (by kernel_rfl) Tryz.func72 rfl (by simp [Tryz.f72]) ?_)
  simp only [Tryz.f72]
  refine hide ?_; intro Q1 hQ1
  repeat' (first
    | (replace hQ1 := hQ1; simp [hpv, hx, clC, outV, frzV, frzS, frzS_pure, frzP, pureS, pureL, K_own, hown])
    | refine hQ1 _ _ _ ?_
    | refine dF (id := 1) [0, 1, 2, 3, 4, 5, 6, 7] [] ?_)
theorem indexTablet_g (o : Option (List Tablet)) (g : Nat) (caps : List AS) (p : Tablet → Bool) (hg : ∀ x h, W K g (.agg (encTablet x) :: caps.map AV.one) h = some (.ret (.one (.bool (p x))) h)) (hc : pureL false caps = true) (ho : (ls o).length < 9223372036854775807) :
    Fun K 71 [.one (sl 4 encTablet o), .one (.fn g [] caps)] (fun h => .ret (.one (ii (idx p (ls o)))) h) := by
  have hown : memL S.own 71 = false := by kernel_rfl
  refine ⟨by simp [pureV, hc, outV, frzV, frzS, frzS_pure, frzP, pureS, pureL, K_own, hown], fun hh => apart_does rfl rfl (by kernel_rfl) Tryz.func71 rfl (by simp [Tryz.f71]) ?_⟩
  simp only [Tryz.f71]
  refine hide ?_; intro Q2 hQ2
  repeat' (first
    | (replace hQ2 := hQ2; simp [hc, outV, frzV, frzS, frzS_pure, frzP, pureS, pureL, K_own, hown])
    | refine hQ2 _ _ _ ?_
    | (first | apply cF | apply wN | apply wS) <;> intro hcnd <;> (try simp only [hcnd]) <;> (try simp [-List.isEmpty_iff, -List.isEmpty_eq_false_iff] at hcnd))
  refine does_each hp (ls o) (fun a r fr hh => ∃ j, fr = ((.one (sl 4 encTablet o)) :: (.one (.fn g [] caps)) :: j 2 :: j 3 :: (.one (ii 0)) :: j 5 :: j 6 :: (.one (ii (ls o).length)) :: (.one (ii a.length)) :: j 9 :: j 10 :: j 11 :: j 12 :: j 13 :: j 14 :: j 15 :: j 16 :: j 17 :: j 18 :: []) ∧ ∀ y ∈ a, p y = false) ?_ ?_ _ _ (ex_get rfl (by simp))
  · rintro a x r fr hh hl ⟨j, rfl, ha⟩
    obtain rfl := ls_cons hl
    have hi := index_sl (P := Tryz.prog) (enc := encTablet) (s := 4) (l := a ++ x :: r) (i := a.length) Tryz.underlying66 (by simp) (by omega) (by simp)
    have hr := sub_flat (enc := encTablet) (s := 4) len_tablet a x r (o := 0) (n := 4) (by omega)
    have hw : IntKind.i64.wrap ((a.length : Int) + 1) = ((a ++ [x]).length : Int) := by rw [step_len]; exact step_wrap (by simp at ho; omega)
    have hx := hg x
    simp only [Nat.add_zero] at hr
    first | (refine hide ?_; intro Q3 hQ3) | have hQ3 := True.intro
    repeat' (first
      | (replace hQ3 := hQ3; simp [hi, hr, hx, hw, hc, sub_all (len_tablet x), outV, frzV, frzS, frzS_pure, frzP, pureS, pureL, K_own, hown])
      | (refine hQ3 _ _ _ ?_; clear hQ3 Q3; first | simp only [] | simp [hi, hr, hx, hw, hc, sub_all (len_tablet x), outV, frzV, frzS, frzS_pure, frzP, pureS, pureL, K_own, hown] | skip)
      | (refine hadQ (by assumption) ?_; (try clear hQ3); first | simp only [] | simp [hi, hr, hx, hw, hc, sub_all (len_tablet x), outV, frzV, frzS, frzS_pure, frzP, pureS, pureL, K_own, hown] | skip)
      | ((fail_if_success replace hQ3 := hQ3); (first | refine hide ?_ | refine hideS ?_ | refine hideB ?_); intro Q3 hQ3)
      | (first | apply cF | apply wN | apply wS) <;> intro hcnd <;> (try simp only [hcnd]) <;> (try simp [-List.isEmpty_iff, -List.isEmpty_eq_false_iff] at hcnd))
    all_goals first | omega | exact (idx_hit ha ‹_›).symm | (refine ex_get (by simp) ?_; intro y hy; rcases List.mem_append.mp hy with hy | hy; exact ha y hy; rw [List.mem_singleton.mp hy]; assumption) | skip
  · rintro fr hh ⟨j, rfl, ha⟩
    first | (refine hide ?_; intro Q4 hQ4) | have hQ4 := True.intro
    repeat' (first
      | (replace hQ4 := hQ4; simp [idx_miss ha, outV, frzV, frzS, frzS_pure, frzP, pureS, pureL, K_own, hown])
      | (refine hQ4 _ _ _ ?_; clear hQ4 Q4; first | simp only [] | simp [idx_miss ha, outV, frzV, frzS, frzS_pure, frzP, pureS, pureL, K_own, hown] | skip)
      | (refine hadQ (by assumption) ?_; (try clear hQ4); first | simp only [] | simp [idx_miss ha, outV, frzV, frzS, frzS_pure, frzP, pureS, pureL, K_own, hown] | skip)
      | ((fail_if_success replace hQ4 := hQ4); (first | refine hide ?_ | refine hideS ?_ | refine hideB ?_); intro Q4 hQ4)
      | (first | apply cF | apply wN | apply wS) <;> intro hcnd <;> (try simp only [hcnd]) <;> (try simp [-List.isEmpty_iff, -List.isEmpty_eq_false_iff] at hcnd))
    all_goals first | done | (simp_all [-List.isEmpty_iff, -List.isEmpty_eq_false_iff, ← List.isEmpty_iff]; done) | (simp_all; done) | (simp_all; omega) | (simp; omega) | (intros; omega) | (intros; simp only [decide_eq_true_eq] at *; omega) | (intros; simp at *; omega) | skip
theorem find_g (c : Cl) (o : Option (List Tablet)) (ho : (ls o).length < 1000) : Fun K 36 [.one (clV c o)] (fun h => .ret (.one (ii (idx (fun t => hasName t.span c.row) (ls o)))) h) := by
  have hpv := pure_clC (st := false) c o
  have hi : W K 71 [.one (sl 4 encTablet o), .one (.fn 72 [] [.ptr 0 0 0])] (H.empty.new ⟨0, [1], true, [clV c o]⟩) = some (.ret (.one (ii (idx (fun t => hasName t.span c.row) (ls o)))) (H.empty.new ⟨0, [1], true, [clV c o]⟩)) := by
    refine (indexTablet_g o 72 [.rp [clV c o] 0] (fun t => hasName t.span c.row) (fun x h => find1_c c o x h) (by simp [pureL, pureS]; exact hpv) (by omega)).view hp ?_
    have e1 : viewS (H.empty.new ⟨0, [1], true, [clV c o]⟩) 64 (sl 4 encTablet o) = some (sl 4 encTablet o) := viewS_pure (by simp) (by cases o <;> simp [sl]) (by cases o <;> simp [sl])
    unfold viewA
    rw [if_neg (by simp [pureV, pureS, pureL])]
    simp only [List.mapM_cons, List.mapM_nil, viewV, e1, Option.bind_eq_bind, Option.bind_some, Option.pure_def]
    simp [viewS, Blk.ext, clV, pureS, hpv]
  have hcl : clC c (sl 4 encTablet o) = clC c (sl 4 encTablet o) := rfl
  simp only [clV] at hi ⊢
  have hg : sub (clC c (sl 4 encTablet o)) 8 1 = some [sl 4 encTablet o] := rfl
  generalize clC c (sl 4 encTablet o) = M at *
  have hown : memL S.own 36 = false := by kernel_rfl
  refine ⟨by simp [pureV, hi, hg, hpv, outV, frzV, frzS, frzS_pure, frzP, pureS, pureL, K_own, hown], fun hh => apart_does rfl rfl (by kernel_rfl) Tryz.func36 rfl (by simp [Tryz.f36]) ?_⟩
  simp only [Tryz.f36]
  refine hide ?_; intro Q5 hQ5
  repeat' (first
    | (replace hQ5 := hQ5; simp [hi, hg, hpv, outV, frzV, frzS, frzS_pure, frzP, pureS, pureL, K_own, hown])
    | refine hQ5 _ _ _ ?_)
abbrev askG (g id seq : Int) (b : Option BL) (t : Nat) : List AS := [ii 1, ii g, ii (100 + id), ii t, ii 0, ii 0, ii id, ii seq, bs b, .nilslc]
theorem len_askG (g id seq : Int) (b : Option BL) (t : Nat) : (askG g id seq b t).length = 10 := rfl
def whom (c : Cl) : Int := match c.cached.find? (fun t => hasName t.span c.row) with | some t => t.group | none => 0
def what (c : Cl) : Option BL := match c.cached.find? (fun t => hasName t.span c.row) with | some _ => c.op | none => some (u8 7 :: textB c.row)
theorem find_miss {α : Type} {p : α → Bool} {l : List α} (h : ∀ x ∈ l, p x = false) : l.find? p = none := List.find?_eq_none.2 fun x hx => by simp [h x hx]
theorem find_hit {α : Type} {p : α → Bool} {a : List α} {x : α} {r : List α} (ha : ∀ y ∈ a, p y = false) (hx : p x = true) : (a ++ x :: r).find? p = some x := by
  rw [List.find?_append, find_miss ha]; simp [hx]
theorem view_mid {h : H} {n : Nat} {s s' : AS} (hs : viewS h (n + 1) s = some s') : ∀ {l : List AS} {r : List AS}, pureL false l = true → (∀ a ∈ l, (∀ f x c, a ≠ .fn f x c) ∧ ∀ t v, a ≠ .ifc t v) → pureL false r = true → (∀ a ∈ r, (∀ f x c, a ≠ .fn f x c) ∧ ∀ t v, a ≠ .ifc t v) → (l ++ s :: r).mapM (viewS h (n + 1)) = some (l ++ s' :: r)
  | [], r, _, _, hp, hn => by simp only [List.nil_append, List.mapM_cons, hs, view_pureL hp hn, Option.bind_eq_bind, Option.bind_some, Option.pure_def]
  | a :: l, r, hp1, hn1, hp, hn => by
    simp only [pureL, Bool.and_eq_true] at hp1
    have h1 := hn1 a (by simp)
    have h2 := view_mid (l := l) hs hp1.2 (fun b hb => hn1 b (by simp [hb])) hp hn
    simp only [List.cons_append, List.mapM_cons, viewS_pure hp1.1 h1.1 h1.2, h2, Option.bind_eq_bind, Option.bind_some, Option.pure_def]
theorem view_sl {α : Type} {enc : α → List AS} {size : Nat} (he : ∀ x, (enc x).length = size) (hp : ∀ x, pureL false (enc x) = true) (hn : ∀ x, ∀ a ∈ enc x, (∀ f y c, a ≠ .fn f y c) ∧ ∀ t v, a ≠ .ifc t v) {h : H} {s : AS} {l : List α} (a : Sl h size enc s l) (n : Nat) :
    ∃ o : Option (List α), ls o = l ∧ viewS h (n + 2) s = some (sl size enc o) ∧ (s = .nilslc ∧ o = none ∨ pureS false s = false ∧ o = some l) := by
  rcases a with ⟨rfl, rfl⟩ | ⟨b, v, z, rfl, a⟩
  · exact ⟨none, rfl, rfl, .inl ⟨rfl, rfl⟩⟩
  · refine ⟨some l, rfl, ?_, .inr ⟨rfl, rfl⟩⟩
    have hr := arr_behind (l := []) he a
    simp only [List.nil_append, List.length_nil, Nat.zero_mul] at hr
    have h2 : pureL false (cat enc l) = true := pureL_flat _ fun x _ => hp x
    have h3 : ∀ a ∈ cat enc l, (∀ f y c, a ≠ .fn f y c) ∧ ∀ t v, a ≠ .ifc t v := by
      intro a ha
      obtain ⟨t, _, ht⟩ := List.mem_flatMap.1 ha
      exact hn t a ht
    simp only [viewS, hr, Option.bind_eq_bind, Option.bind_some, view_pureL h2 h3, sl]
theorem plain_tablet (t : Tablet) : ∀ a ∈ encTablet t, (∀ f y c, a ≠ .fn f y c) ∧ ∀ t v, a ≠ .ifc t v := by simp [encTablet]
theorem bs_plain (o : Option BL) : (∀ f y c, bs o ≠ .fn f y c) ∧ ∀ t v, bs o ≠ .ifc t v := by cases o <;> simp [bs_none, bs_some]
def ClAt (h : H) (p : Nat) (c : Cl) : Prop := p < h.next ∧ ∃ s, h.f p = some ⟨0, [21], true, clC c s⟩ ∧ Sl h 4 encTablet s c.cached ∧ ownB s ≠ some p
theorem view_cl {h : H} {p : Nat} {c : Cl} (a : ClAt h p c) : ∃ o, ls o = c.cached ∧ viewA h [.one (.ptr p 0 0)] = some [.one (clV c o)] := by
  obtain ⟨hp, s, hf, hs, _⟩ := a
  obtain ⟨o, ho, hv, _⟩ := view_sl len_tablet pure_tablet plain_tablet hs 61
  refine ⟨o, ho, ?_⟩
  have h1 := view_mid (n := 62) (l := [ii c.id, ii c.n, ii c.seq, .bool c.busy, .str c.row, bs c.op, ii c.w, ii c.g]) (r := [ii c.told, ii c.ans.code, sl 2 encNamed c.ans.rows, .str c.ans.span.lo, .str c.ans.span.hi, ii c.ans.group, ii c.ans.gen, ii c.ans.old, ii c.ans.to, ii c.ans.do_, .str c.ans.at_, bs c.ans.state]) hv (by simp [pureL, pureS]) (by
      intro a ha
      simp only [List.mem_cons, List.not_mem_nil, or_false] at ha
      rcases ha with rfl | rfl | rfl | rfl | rfl | rfl | rfl | rfl <;> first | exact bs_plain _ | simp) (by simp [pureL, pureS]) (by
      intro a ha
      simp only [List.mem_cons, List.not_mem_nil, or_false] at ha
      rcases ha with rfl | rfl | rfl | rfl | rfl | rfl | rfl | rfl | rfl | rfl | rfl | rfl <;> first | exact bs_plain _ | (cases c.ans.rows <;> simp [sl]) | simp)
  unfold viewA
  rw [if_neg (by simp [pureV, pureS])]
  have h2 : (clC c s).mapM (viewS h 63) = some (clC c (sl 4 encTablet o)) := h1
  have hl : (clC c s).length = 21 := rfl
  have ht : (clC c s).take 21 = clC c s := List.take_of_length_le (by rw [hl]; omega)
  simp only [List.mapM_cons, List.mapM_nil, viewV, viewS, hf, Blk.ext, Option.bind_eq_bind, Option.bind_some, Nat.le_refl, if_true, Nat.sub_zero, List.getElem?_cons_zero, ht, h2, Option.pure_def, clV]
theorem find_c {h : H} {p : Nat} {c : Cl} (a : ClAt h p c) (ho : c.cached.length < 1000) : W K 36 [.one (.ptr p 0 0)] h = some (.ret (.one (ii (idx (fun t => hasName t.span c.row) c.cached))) h) := by
  obtain ⟨o, e, hv⟩ := view_cl a
  rw [← e] at ho ⊢
  exact (find_g c o ho).view hp hv
theorem ClAt.keep {h h' : H} {p : Nat} {c : Cl} (a : ClAt h p c) (hn : h.next ≤ h'.next) (hf : ∀ b, b < h.next → h'.f b = h.f b) : ClAt h' p c := by
  obtain ⟨h1, s, h2, h3, h4⟩ := a
  exact ⟨by omega, s, by rw [hf p h1]; exact h2, h3.keep hn fun b hb => hf b (h3.lt hb), h4⟩
theorem ClAt.new {h : H} {p : Nat} {c : Cl} (a : ClAt h p c) (k : Blk) : ClAt (h.new k) p c := a.keep (by simp) fun b hb => by rw [new_at, if_neg (by omega)]
theorem ask_c {h : H} {p : Nat} {c : Cl} (ca : ClAt h p c) (ho : c.cached.length < 1000) (hid : 0 ≤ c.id ∧ c.id < 4) (hr : c.row.length ≤ 16) (n : Nat) (hn : c.n = n) (hn5 : n ≤ 5) (hop : (ls c.op).length ≤ 1048576) :
    ∃ r, W K 33 [.one (.ptr p 0 0)] h = some r ∧ Rets (fun v h' => ∃ s, v = .one s ∧ Grown h' 10 (askG (whom c) c.id c.seq (what c)) s (List.range n) ∧ h.next ≤ h'.next ∧ (∀ b, b < h.next → h'.f b = h.f b) ∧ ∀ b, ownB s = some b → h.next ≤ b) r := by
  refine Rets.intro fun P hP => ?_
  have hcl := client_c c.id (by omega)
  have hfi : ∀ k, W K 36 [.one (.ptr p 0 0)] (h.new k) = some (.ret (.one (ii (idx (fun t => hasName t.span c.row) c.cached))) (h.new k)) := fun k => find_c (ca.new k) ho
  have he := fun h => encode_loc c.row hr h
  obtain ⟨hpn, sc, hf, hsl, _⟩ := ca
  have hne : ¬ p = h.next := by omega
  have hne2 : ¬ h.next = p := by omega
  have g0 : sub (clC c sc) 0 1 = some [ii c.id] := rfl
  have g1 : sub (clC c sc) 1 1 = some [ii c.n] := rfl
  have g2 : sub (clC c sc) 2 1 = some [ii c.seq] := rfl
  have g4 : sub (clC c sc) 4 1 = some [.str c.row] := rfl
  have g5 : sub (clC c sc) 5 1 = some [bs c.op] := rfl
  have g8 : sub (clC c sc) 8 1 = some [sc] := rfl
  rw [hn] at g1
  generalize clC c sc = M at *
  rcases idx_cases (fun t => hasName t.span c.row) c.cached with ⟨hm, hix⟩ | ⟨a, x, r, hl, ha, hx⟩
  · have e1 : c.cached.find? (fun t => hasName t.span c.row) = none := find_miss hm
    have ew : whom c = 0 := by rw [whom, e1]
    have eb : what c = some (u8 7 :: textB c.row) := by rw [what, e1]
    rw [ew, eb] at hP
    rw [hix] at hfi
    have hlb : (ls (some (u8 7 :: textB c.row))).length ≤ 1099511627776 := by simp [textB, be_length]; omega
    refine W_doesQ hp rfl rfl rfl Tryz.func33 rfl (by simp [Tryz.f33]) ?_
    simp only [Tryz.f33]
    refine hide ?_; intro Q6 hQ6
    repeat' (first
      | (replace hQ6 := hQ6; simp [hf, hcl, hne, hne2, hfi, he, g0, g1, g2, g4])
      | refine hQ6 _ _ _ ?_
      | (first | refine dF (id := 1) [0, 1, 2, 3, 4, 5, 6, 7, 8, 9, 10, 11, 12, 13, 14, 15] [(4, 8), (4, 12)] ?_ | refine dF (id := 4) [0, 1, 2, 3, 4, 5, 6, 7, 8, 9, 10, 11, 12, 13, 14, 15] [(11, 13)] ?_)
      | (first | apply cF | apply wN | apply wS) <;> intro hcnd <;> (try simp only [hcnd]) <;> (try simp [-List.isEmpty_iff, -List.isEmpty_eq_false_iff] at hcnd))
    obtain ⟨I, hI⟩ : ∃ I : Nat → Fr → H → Prop, I = fun i fr hh => ∃ s, (∃ t : Nat, hh.f h.next = some ⟨0, [10], true, askG 0 c.id c.seq (some (u8 7 :: textB c.row)) t⟩) ∧ Grown hh 10 (askG 0 c.id c.seq (some (u8 7 :: textB c.row))) s (List.range i) ∧ h.next + 1 ≤ hh.next ∧ (∀ b, b < h.next → hh.f b = h.f b) ∧ (∀ q, ownB s = some q → h.next < q) ∧ ∃ j : Nat → AV, fr = ((.one (.ptr p 0 0)) :: j 1 :: j 2 :: (.one (.ptr h.next 0 0)) :: j 4 :: (.one s) :: j 6 :: j 7 :: j 8 :: j 9 :: j 10 :: j 11 :: j 12 :: j 13 :: j 14 :: j 15 :: j 16 :: j 17 :: j 18 :: j 19 :: j 20 :: j 21 :: j 22 :: j 23 :: j 24 :: j 25 :: j 26 :: j 27 :: j 28 :: j 29 :: j 30 :: j 31 :: j 32 :: j 33 :: j 34 :: j 35 :: j 36 :: j 37 :: j 38 :: j 39 :: j 40 :: j 41 :: j 42 :: j 43 :: j 44 :: j 45 :: j 46 :: j 47 :: j 48 :: j 49 :: j 50 :: j 51 :: (.one (ii n)) :: (.one (ii i)) :: j 54 :: j 55 :: j 56 :: j 57 :: j 58 :: j 59 :: j 60 :: j 61 :: j 62 :: j 63 :: j 64 :: []) := ⟨_, rfl⟩
    refine does_count hp n I ?_ ?_ _ _ (by rw [hI]; exact ⟨.nilslc, ⟨0, by simp [askG]⟩, by simpa using grown_nil _ _ _, by simp, fun b hb => by rw [new_at, if_neg (by omega)], by simp [ownB], ex_get' (by simp)⟩)
    · intro i fr hh hi3 hx
      rw [hI] at hx
      obtain ⟨s, ⟨t, ht⟩, gr, hn1, hkp, ho, j, rfl⟩ := hx
      have hw : IntKind.i64.wrap ((i : Int) + 1) = ((i : Int) + 1) := step_wrap (by omega)
      have hl1 : decide ((i : Int) < n) = true := by simp; omega
      have hl2 : i < n := hi3
      have gr2 : Grown (hh.set h.next ⟨0, [10], true, askG 0 c.id c.seq (some (u8 7 :: textB c.row)) i⟩) 10 (askG 0 c.id c.seq (some (u8 7 :: textB c.row))) s (List.range i) := gr.keep (by simp) fun b hb => by have := ho b hb; rw [set_at, if_neg (by omega)]
      obtain ⟨s', h2, e1, gr3, n1, k1, k2⟩ := grow_one (P := Tryz.prog) (t := 52) Tryz.underlying52 (by simp) (by simp) Tryz.bytes61 (by omega) (len_askG 0 c.id c.seq (some (u8 7 :: textB c.row))) gr2 i (by simp only [List.length_range, limit]; omega) (cells := askG 0 c.id c.seq (some (u8 7 :: textB c.row)) i) rfl
      have hcp := copy0_c 1 0 (100 + c.id) i 0 0 c.id c.seq (some (u8 7 :: textB c.row)) hlb
      simp only [set_next] at e1 n1 k1 k2
      first | (refine hide ?_; intro Q7 hQ7) | have hQ7 := True.intro
      repeat' (first
        | (replace hQ7 := hQ7; simp [ht, hcp, e1, hw, hl1, hl2])
        | (refine hQ7 _ _ _ ?_; clear hQ7 Q7; first | simp only [] | simp [ht, hcp, e1, hw, hl1, hl2] | skip)
        | (refine hadQ (by assumption) ?_; (try clear hQ7); first | simp only [] | simp [ht, hcp, e1, hw, hl1, hl2] | skip)
        | ((fail_if_success replace hQ7 := hQ7); (first | refine hide ?_ | refine hideS ?_ | refine hideB ?_); intro Q7 hQ7)
        | (first | refine dF (id := 1) [0, 1, 2, 3, 4, 5, 6, 7, 8, 9, 10, 11, 12, 13, 14, 15] [(4, 8), (4, 12)] ?_ | refine dF (id := 4) [0, 1, 2, 3, 4, 5, 6, 7, 8, 9, 10, 11, 12, 13, 14, 15] [(11, 13)] ?_)
        | (first | apply cF | apply wN | apply wS) <;> intro hcnd <;> (try simp only [hcnd]) <;> (try simp [-List.isEmpty_iff, -List.isEmpty_eq_false_iff] at hcnd))
      all_goals (
        rw [hI]
        refine ⟨s', ⟨i, ?_⟩, by rw [List.range_succ]; exact gr3, by omega, fun b hb => ?_, fun b hb => ?_, ex_get' rfl⟩
        · have hs : ownB s ≠ some h.next := fun e => by have := ho _ e; omega
          rw [k1 h.next (by omega) hs, set_at, if_pos rfl]
        · have hs : ownB s ≠ some b := fun e => by have := ho _ e; omega
          rw [k1 b (by omega) hs, set_at, if_neg (by omega)]; exact hkp b hb
        · rcases k2 b hb with e | e
          · exact ho b e
          · omega)
    · intro fr hh hx
      rw [hI] at hx
      obtain ⟨s, ⟨t, ht⟩, gr, hn1, hkp, ho, j, rfl⟩ := hx
      first | (refine hide ?_; intro Q8 hQ8) | have hQ8 := True.intro
      repeat' (first
        | (replace hQ8 := hQ8; simp [ht])
        | (refine hQ8 _ _ _ ?_; clear hQ8 Q8; first | simp only [] | simp [ht] | skip)
        | (refine hadQ (by assumption) ?_; (try clear hQ8); first | simp only [] | simp [ht] | skip)
        | ((fail_if_success replace hQ8 := hQ8); (first | refine hide ?_ | refine hideS ?_ | refine hideB ?_); intro Q8 hQ8)
        | (first | refine dF (id := 1) [0, 1, 2, 3, 4, 5, 6, 7, 8, 9, 10, 11, 12, 13, 14, 15] [(4, 8), (4, 12)] ?_ | refine dF (id := 4) [0, 1, 2, 3, 4, 5, 6, 7, 8, 9, 10, 11, 12, 13, 14, 15] [(11, 13)] ?_)
        | (first | apply cF | apply wN | apply wS) <;> intro hcnd <;> (try simp only [hcnd]) <;> (try simp [-List.isEmpty_iff, -List.isEmpty_eq_false_iff] at hcnd))
      all_goals exact hP _ _ ⟨s, rfl, gr, by omega, hkp, fun b hb => Nat.le_of_lt (ho b hb)⟩
  · have ex : c.cached.find? (fun t => hasName t.span c.row) = some x := by rw [hl]; exact find_hit ha hx
    have ew : whom c = x.group := by rw [whom, ex]
    have eb : what c = c.op := by rw [what, ex]
    rw [ew, eb] at hP
    have hix := idx_hit (r := r) ha hx
    rw [← hl] at hix
    rw [hix] at hfi
    rcases hsl with ⟨rfl, e⟩ | ⟨b, v, z, rfl, har⟩
    · rw [hl] at e; simp at e
    have hbn := har.1
    have hnb : ¬ b = h.next := by omega
    obtain ⟨fx, ex, Z, hfb, _, _, hrd, _⟩ := har.cells len_tablet
    obtain ⟨q1, q2⟩ := hrd a.length (by rw [hl]; simp)
    have hlen : c.cached.length = a.length + 1 + r.length := by rw [hl]; simp; omega
    have hi := arr_index (P := Tryz.prog) (size := 4) (b := b) (v := v) (n := c.cached.length) (i := a.length) Tryz.underlying66 (by simp) (by omega) (by omega)
    have hr2 : sub Z (a.length * 4 + 2) 1 = some [ii x.group] := by
      have e1 : c.cached[a.length]'(by omega) = x := by simp only [hl]; simp
      rw [e1] at q2
      have := sub_part q2 (o := 2) (n := 1) (by omega)
      rw [this]; rfl
    have q3 : a.length * 4 + 2 + 1 ≤ Z.length := by omega
    refine W_doesQ hp rfl rfl rfl Tryz.func33 rfl (by simp [Tryz.f33]) ?_
    simp only [Tryz.f33]
    refine hide ?_; intro Q9 hQ9
    repeat' (first
      | (replace hQ9 := hQ9; simp [hf, hfb, hcl, hne, hne2, hnb, hfi, he, g0, g1, g2, g4, g5, g8, hi, hr2, q3])
      | refine hQ9 _ _ _ ?_
      | (first | refine dF (id := 1) [0, 1, 2, 3, 4, 5, 6, 7, 8, 9, 10, 11, 12, 13, 14, 15] [(4, 8), (4, 12)] ?_ | refine dF (id := 4) [0, 1, 2, 3, 4, 5, 6, 7, 8, 9, 10, 11, 12, 13, 14, 15] [(11, 13)] ?_)
      | (first | apply cF | apply wN | apply wS) <;> intro hcnd <;> (try simp only [hcnd]) <;> (try simp [-List.isEmpty_iff, -List.isEmpty_eq_false_iff] at hcnd))
    obtain ⟨I, hI⟩ : ∃ I : Nat → Fr → H → Prop, I = fun i fr hh => ∃ s, (∃ t : Nat, hh.f h.next = some ⟨0, [10], true, askG x.group c.id c.seq c.op t⟩) ∧ Grown hh 10 (askG x.group c.id c.seq c.op) s (List.range i) ∧ h.next + 1 ≤ hh.next ∧ (∀ b, b < h.next → hh.f b = h.f b) ∧ (∀ q, ownB s = some q → h.next < q) ∧ ∃ j : Nat → AV, fr = ((.one (.ptr p 0 0)) :: j 1 :: j 2 :: (.one (.ptr h.next 0 0)) :: j 4 :: (.one s) :: j 6 :: j 7 :: j 8 :: j 9 :: j 10 :: j 11 :: j 12 :: j 13 :: j 14 :: j 15 :: j 16 :: j 17 :: j 18 :: j 19 :: j 20 :: j 21 :: j 22 :: j 23 :: j 24 :: j 25 :: j 26 :: j 27 :: j 28 :: j 29 :: j 30 :: j 31 :: j 32 :: j 33 :: j 34 :: j 35 :: j 36 :: j 37 :: j 38 :: j 39 :: j 40 :: j 41 :: j 42 :: j 43 :: j 44 :: j 45 :: j 46 :: j 47 :: j 48 :: j 49 :: j 50 :: j 51 :: (.one (ii n)) :: (.one (ii i)) :: j 54 :: j 55 :: j 56 :: j 57 :: j 58 :: j 59 :: j 60 :: j 61 :: j 62 :: j 63 :: j 64 :: []) := ⟨_, rfl⟩
    refine does_count hp n I ?_ ?_ _ _ (by rw [hI]; exact ⟨.nilslc, ⟨0, by simp [askG]⟩, by simpa using grown_nil _ _ _, by simp, fun b hb => by rw [new_at, if_neg (by omega)], by simp [ownB], ex_get' (by simp)⟩)
    · intro i fr hh hi3 hx
      rw [hI] at hx
      obtain ⟨s, ⟨t, ht⟩, gr, hn1, hkp, ho, j, rfl⟩ := hx
      have hw : IntKind.i64.wrap ((i : Int) + 1) = ((i : Int) + 1) := step_wrap (by omega)
      have hl1 : decide ((i : Int) < n) = true := by simp; omega
      have hl2 : i < n := hi3
      have gr2 : Grown (hh.set h.next ⟨0, [10], true, askG x.group c.id c.seq c.op i⟩) 10 (askG x.group c.id c.seq c.op) s (List.range i) := gr.keep (by simp) fun b hb => by have := ho b hb; rw [set_at, if_neg (by omega)]
      obtain ⟨s', h2, e1, gr3, n1, k1, k2⟩ := grow_one (P := Tryz.prog) (t := 52) Tryz.underlying52 (by simp) (by simp) Tryz.bytes61 (by omega) (len_askG x.group c.id c.seq c.op) gr2 i (by simp only [List.length_range, limit]; omega) (cells := askG x.group c.id c.seq c.op i) rfl
      have hcp := copy0_c 1 x.group (100 + c.id) i 0 0 c.id c.seq c.op (by omega)
      simp only [set_next] at e1 n1 k1 k2
      first | (refine hide ?_; intro Q10 hQ10) | have hQ10 := True.intro
      repeat' (first
        | (replace hQ10 := hQ10; simp [ht, hcp, e1, hw, hl1, hl2])
        | (refine hQ10 _ _ _ ?_; clear hQ10 Q10; first | simp only [] | simp [ht, hcp, e1, hw, hl1, hl2] | skip)
        | (refine hadQ (by assumption) ?_; (try clear hQ10); first | simp only [] | simp [ht, hcp, e1, hw, hl1, hl2] | skip)
        | ((fail_if_success replace hQ10 := hQ10); (first | refine hide ?_ | refine hideS ?_ | refine hideB ?_); intro Q10 hQ10)
        | (first | refine dF (id := 1) [0, 1, 2, 3, 4, 5, 6, 7, 8, 9, 10, 11, 12, 13, 14, 15] [(4, 8), (4, 12)] ?_ | refine dF (id := 4) [0, 1, 2, 3, 4, 5, 6, 7, 8, 9, 10, 11, 12, 13, 14, 15] [(11, 13)] ?_)
        | (first | apply cF | apply wN | apply wS) <;> intro hcnd <;> (try simp only [hcnd]) <;> (try simp [-List.isEmpty_iff, -List.isEmpty_eq_false_iff] at hcnd))
      all_goals (
        rw [hI]
        refine ⟨s', ⟨i, ?_⟩, by rw [List.range_succ]; exact gr3, by omega, fun b hb => ?_, fun b hb => ?_, ex_get' rfl⟩
        · have hs : ownB s ≠ some h.next := fun e => by have := ho _ e; omega
          rw [k1 h.next (by omega) hs, set_at, if_pos rfl]
        · have hs : ownB s ≠ some b := fun e => by have := ho _ e; omega
          rw [k1 b (by omega) hs, set_at, if_neg (by omega)]; exact hkp b hb
        · rcases k2 b hb with e | e
          · exact ho b e
          · omega)
    · intro fr hh hx
      rw [hI] at hx
      obtain ⟨s, ⟨t, ht⟩, gr, hn1, hkp, ho, j, rfl⟩ := hx
      first | (refine hide ?_; intro Q11 hQ11) | have hQ11 := True.intro
      repeat' (first
        | (replace hQ11 := hQ11; simp [ht])
        | (refine hQ11 _ _ _ ?_; clear hQ11 Q11; first | simp only [] | simp [ht] | skip)
        | (refine hadQ (by assumption) ?_; (try clear hQ11); first | simp only [] | simp [ht] | skip)
        | ((fail_if_success replace hQ11 := hQ11); (first | refine hide ?_ | refine hideS ?_ | refine hideB ?_); intro Q11 hQ11)
        | (first | refine dF (id := 1) [0, 1, 2, 3, 4, 5, 6, 7, 8, 9, 10, 11, 12, 13, 14, 15] [(4, 8), (4, 12)] ?_ | refine dF (id := 4) [0, 1, 2, 3, 4, 5, 6, 7, 8, 9, 10, 11, 12, 13, 14, 15] [(11, 13)] ?_)
        | (first | apply cF | apply wN | apply wS) <;> intro hcnd <;> (try simp only [hcnd]) <;> (try simp [-List.isEmpty_iff, -List.isEmpty_eq_false_iff] at hcnd))
      all_goals exact hP _ _ ⟨s, rfl, gr, by omega, hkp, fun b hb => Nat.le_of_lt (ho b hb)⟩
end Go.Proofs.YtmhbdpgflomihaaGreat
