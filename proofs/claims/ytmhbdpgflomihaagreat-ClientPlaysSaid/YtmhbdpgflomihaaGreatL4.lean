/- A part of a proof over the abstract machine. No conditions. -/
import Derived.Test.YtmhbdpgflomihaaGreatL3
import Derived.Test.YtmhbdpgflomihaaGreatK6
namespace Go.Proofs.YtmhbdpgflomihaaGreat
open Go Go.Ab Wm NumPlain
set_option linter.unusedSimpArgs false
set_option linter.unnecessarySimpa false
set_option linter.unusedVariables false
set_option maxRecDepth 10000
set_option maxHeartbeats 4000000
theorem reply_c (g id seq : Int) (hid : 0 ≤ id ∧ id < 4) (a : Answer) (ha : AnsIs a) (h : H) : W K 15 [.one (ii g), .one (ii id), .one (ii seq), .agg (ansC a)] h = some (.ret (.agg (msgC 2 g 1 (100 + id) 0 0 id seq (some (ansB0 a)))) h) := by
  obtain ⟨hok, hr⟩ := ha
  obtain ⟨code, rows, ⟨lo, hi⟩, group, gen, old, to, do_, at_, state⟩ := a
  simp only at hr
  subst hr
  simp only [ansOk0, spanOk, Bool.and_eq_true, decide_eq_true_eq] at hok
  obtain ⟨_, _, ⟨⟨o1, o2⟩, _⟩, o3, o4⟩ := hok
  have he := refEncAns_c code lo hi group gen old to do_ at_ state (by omega) (by omega) (by omega) o4
  have hw : IntKind.i64.wrap (100 + id) = 100 + id := wrap_i64 (by omega) (by omega)
  generalize ansB0 ⟨code, none, ⟨lo, hi⟩, group, gen, old, to, do_, at_, state⟩ = B at *
  have hown : memL S.own 15 = false := by kernel_rfl
  refine W_pure hp (by simp [pureV, he, hw, outV, frzV, frzS, frzS_pure, frzP, pureS, pureL, K_own, hown]) (apart_does rfl rfl (by kernel_rfl) Tryz.func15 rfl (by simp [Tryz.f15]) ?_)
  simp only [Tryz.f15]
  refine hide ?_; intro Q1 hQ1
  repeat' (first
    | (replace hQ1 := hQ1; simp [he, hw, outV, frzV, frzS, frzS_pure, frzP, pureS, pureL, K_own, hown])
    | refine hQ1 _ _ _ ?_)
theorem Held.other {h h' : H} {p b : Nat} {k : Blk} (a : Held h h' p) (hf : h.f b = some k) (hb : b < h.next) (hp1 : b ≠ p) (hq : clQ h p ≠ some b) : h'.f b = some k ∧ b < h'.next ∧ clQ h' p ≠ some b :=
  ⟨by rw [a.2.1 b hb hp1 hq]; exact hf, Nat.lt_of_lt_of_le hb a.1, fun e => by rcases a.2.2 b e with e | e; exact hq e; omega⟩
theorem askN_view {h0 h : H} {c : Cl} {v : AV} (a : Asks h0 h c true v) (hn : c.n = 1 ∨ c.n = 3 ∨ c.n = 5) : ∃ s, v = .one s ∧ viewS h 64 s = some (sl 10 (askG (whom c) c.id c.seq (what c)) (some (List.range c.n.toNat))) ∧ pureS false s = false ∧ lenS s = some c.n.toNat := by
  obtain ⟨s, rfl, gr, ho⟩ := a
  simp only [if_true] at gr
  have hpa : ∀ t, pureL false (askG (whom c) c.id c.seq (what c) t) = true := fun t => by simp [askG, pureL, pureS]
  have hpl : ∀ t, ∀ a ∈ askG (whom c) c.id c.seq (what c) t, (∀ f y c, a ≠ .fn f y c) ∧ ∀ t v, a ≠ .ifc t v := by
    intro t a ha
    simp only [askG, List.mem_cons, List.not_mem_nil, or_false] at ha
    rcases ha with rfl | rfl | rfl | rfl | rfl | rfl | rfl | rfl | rfl | rfl <;> first | exact bs_plain _ | simp
  have hsl := owns_arr (by omega) (len_askG _ _ _ _) gr.1
  obtain ⟨o, e1, e2, e3⟩ := view_sl (len_askG _ _ _ _) hpa hpl hsl 62
  have hne : List.range c.n.toNat ≠ [] := by
    intro e
    have := congrArg List.length e
    simp at this; omega
  rcases e3 with ⟨rfl, rfl⟩ | ⟨e3, rfl⟩
  · exact absurd e1.symm hne
  · exact ⟨s, rfl, e2, e3, by have := hsl.len; simpa using this⟩
theorem lawAsks_c {h0 h : H} {c : Cl} {v : AV} (a : Asks h0 h c true v) (hn : c.n = 1 ∨ c.n = 3 ∨ c.n = 5) (hid : 0 ≤ c.id ∧ c.id < 4) {B : BL} (hB : what c = some B) (hBl : B.length ≤ 1000000) {cmd : List AS} (hcl : cmd.length = 19) (hcp : pureL false cmd = true) (hpl : ∀ a ∈ cmd, (∀ f y c, a ≠ .fn f y c) ∧ ∀ t v, a ≠ .ifc t v)
    (hb2 : ∀ h, W K 31 [.agg cmd] h = some (.ret (.one (bs (some B))) h)) {g : Int} (hg : g = whom c) : ∃ s, v = .one s ∧ W K 12 [.one s, .one (ii g), .one (ii c.n), .one (ii c.id), .one (ii c.seq), .agg cmd] h = some (.ret (.one (.bool true)) h) := by
  obtain ⟨s, rfl, hv, hps, _⟩ := askN_view a hn
  refine ⟨s, rfl, ?_⟩
  subst hg
  have hnn : ((c.n.toNat : Nat) : Int) = c.n := by omega
  have := asks_g (whom c) c.id c.seq (what c) B hB hBl c.n.toNat (by omega) hid cmd hcl hcp hb2
  rw [hnn] at this
  refine this.view hp ?_
  unfold viewA
  rw [if_neg (by simp [pureV, hps])]
  have hcv : cmd.mapM (viewS h 64) = some cmd := view_pureL (n := 63) hcp hpl
  simp only [List.mapM_cons, List.mapM_nil, viewV, hv, hcv, Option.bind_eq_bind, Option.bind_some, Option.pure_def]
  simp [viewS, pureS]
end Go.Proofs.YtmhbdpgflomihaaGreat
