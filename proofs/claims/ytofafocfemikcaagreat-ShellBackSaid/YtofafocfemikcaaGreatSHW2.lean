/- A part of a proof over the abstract machine. No conditions. -/
import Derived.Test.YtofafocfemikcaaGreatSHW
import Derived.Test.YtofafocfemikcaaGreatSeatW
import Derived.Test.YtofafocfemikcaaGreatSJ1
set_option linter.unusedSimpArgs false
set_option linter.unnecessarySimpa false
set_option linter.unusedVariables false
namespace Go.Proofs.YtofafocfemikcaaGreat
open Go Go.Ab Wm NumPlain
set_option maxRecDepth 10000
set_option maxHeartbeats 4000000
theorem sright_c (g n c : Int) (o : Option (List Wm.Item)) (hl : (ls o).length ≤ 256) (h : H) : W K 8 [.agg [ii g, ii n, ii c, sl 5 encItem o]] h = some (.ret (.one (ii (if ShellPlain.okS (scP g n c o) then 0 else 1))) h) := by
 have e : ShellPlain.okS (scP g n c o) = ((ShellPlain.small g && ShellPlain.small n && ShellPlain.small c) && (ls o).all (fun x => ShellPlain.okI (itP x))) := by
  unfold ShellPlain.okS scP
  simp only [List.length_map, hl, decide_true, Bool.true_and, List.all_map]
  rfl
 rw [e]
 cases hs : (ShellPlain.small g && ShellPlain.small n && ShellPlain.small c) with
 | false => simpa using right_small g n c o hl hs h
 | true => simpa using right_items g n c o hl hs h
theorem okS_all {g n c : Int} {o : Option (List Wm.Item)} (h : ShellPlain.okS (scP g n c o) = true) : ∀ x ∈ ls o, ShellPlain.okI (itP x) = true := by
 unfold ShellPlain.okS scP at h
 simp only [Bool.and_eq_true, List.all_eq_true] at h
 exact fun x hx => h.2 (itP x) (List.mem_map.2 ⟨x, hx, rfl⟩)
theorem conv_bs (o : Option BL) (h : H) : convA Tryz.prog 31 9 (bs o) h = some (.val (.one (.str (ls o))) h) := by
 have he := elems_bs h o
 have hl := lenS_bs o
 have : ∀ s, bs o ≠ .str s := by cases o <;> simp [bs_none, bs_some]
 simp only [convA]
 cases hbs : bs o <;> simp_all [isByteT, bytesOf_map]
theorem conv_slc (l : BL) (h : H) (b : Nat) (fx : Bool) (hb : h.f b = some ⟨0, [l.length], fx, l.map byteS⟩) : convA Tryz.prog 31 9 (.slc b 0 0 l.length 1 none) h = some (.val (.one (.str l)) h) := by
 have h1 := elems_slc hb rfl
 have h2 := bytesOf_map l
 simp [convA, lenS, h1, h2, isByteT]
theorem law_writes (x : Raw) (hx : RawOk x) (h : H) : ∃ r, W K 3 [.agg [ii x.c.groups, ii x.c.n, ii x.c.clients, sl 19 encDraw x.l, sl 5 encItem x.items, .bool x.tame]] h = some r ∧ Rets (fun v h' => v = .one (.bool true)) r := by
 have hm := made_c x hx
 have hml := mkL_len x
 obtain ⟨g, hg⟩ : ∃ g, (mkC x).groups = g := ⟨_, rfl⟩
 obtain ⟨n, hn⟩ : ∃ n, (mkC x).n = n := ⟨_, rfl⟩
 obtain ⟨c, hc⟩ : ∃ c, (mkC x).clients = c := ⟨_, rfl⟩
 obtain ⟨o, ho⟩ : ∃ o, opt (mkL x) = o := ⟨_, rfl⟩
 have hl : (ls o).length ≤ 256 := by rw [← ho, ls_opt]; omega
 rw [hg, hn, hc, ho] at hm
 obtain ⟨⟨cg, cn, cc⟩, xl, xi, tame⟩ := x
 have hk := known_c
 have hr := sright_c g n c o hl
 refine Rets.intro fun P hP => ?_
 cases hok : ShellPlain.okS (scP g n c o) with
 | false =>
  have he := sencode_bad g n c o hl hok
  rw [hok] at hr
  refine W_doesQ hp rfl rfl rfl Tryz.func3 rfl (by simp [Tryz.f3]) ?_
  simp only [Tryz.f3]
  refine hide ?_; intro Q1 hQ1
  repeat' (first
   | (replace hQ1 := hQ1; simp [hm, hr, he, hk, bs_none])
   | refine hQ1 _ _ _ ?_
   | refine dF (id := 4) [0, 1, 2, 3, 4, 5, 6, 7, 8, 9, 10, 11, 12, 13, 14, 15, 16, 17, 18, 19, 20, 21, 22, 23, 24, 25, 26, 27] [(16, 18)] ?_
   | (first | apply cF | apply wN | apply wS) <;> intro hcnd <;> (try simp only [hcnd]) <;> (try simp [-List.isEmpty_iff, -List.isEmpty_eq_false_iff] at hcnd))
  all_goals first | exact hP _ _ rfl | trace_state
 | true =>
  have he := sencode_ok g n c o hl hok
  obtain ⟨wx, hw⟩ := Classical.skolem.1 (written_c g n c o hl (okS_all hok))
  rw [hok] at hr
  generalize ShellPlain.scB (scP g n c o) = B at *
  have cv := conv_bs (some B)
  have cs : ∀ (h : H) (b : Nat), (∃ x, h.f b = some ⟨0, [B.length], x, B.map byteS⟩) → convA Tryz.prog 31 9 (.slc b 0 0 B.length 1 none) h = some (.val (.one (.str B)) h) := fun h b ⟨x, hb⟩ => conv_slc B h b x hb
  refine W_doesQ hp rfl rfl rfl Tryz.func3 rfl (by simp [Tryz.f3]) ?_
  simp only [Tryz.f3]
  refine hide ?_; intro Q2 hQ2
  repeat' (first
   | (replace hQ2 := hQ2; simp [hm, hr, he, hw, hk, cv, cs, strOp])
   | refine hQ2 _ _ _ ?_
   | refine dF (id := 4) [0, 1, 2, 3, 4, 5, 6, 7, 8, 9, 10, 11, 12, 13, 14, 15, 16, 17, 18, 19, 20, 21, 22, 23, 24, 25, 26, 27] [(16, 18)] ?_
   | (first | apply cF | apply wN | apply wS) <;> intro hcnd <;> (try simp only [hcnd]) <;> (try simp [-List.isEmpty_iff, -List.isEmpty_eq_false_iff] at hcnd))
  all_goals first | exact hP _ _ rfl | trace_state
theorem shellWrites_spec : LawSpec Rows.shellWritesSpec 1 := by
 refine ⟨rfl, fun H ds hd => ?_⟩
 rcases ds with _ | ⟨d1, _ | ⟨d2, ds⟩⟩ <;> simp at hd
 rfl
theorem writes_c {a0 : AV} (g0 : FitA (true, rawS) a0) : ∃ h', W K 3 [a0] H.empty = some (.ret (.one (.bool true)) h') := by
 obtain ⟨x, hx, rfl⟩ := raw_inv g0
 obtain ⟨r, e, hr⟩ := law_writes x hx H.empty
 obtain ⟨v, h', rfl, rfl⟩ := hr.ret
 exact ⟨h', e⟩
set_option maxRecDepth 100000 in
theorem shellWrites_lifted (os : Os) (started : os.Started) (H : Type) (enc : TypeId × Value → H) :
  ReturnsInHanded {} Tryz.checked os 3 .any (Rows.shellWritesSpec.pre6 enc Tryz.prog Tryz.f3 [] false) (Rows.shellWritesSpec.post enc Tryz.prog Tryz.f3 false true false false) := by
 refine law_lifted (Ck := Tryz.checked) Tryz.own started (by kernel_rfl) Tryz.func3 Tryz.laidOut (tb := 4) (by kernel_rfl) Tryz.underlying4 (by intro t ht; have : t ∈ [27] := ht; simp at this; subst this; exact ⟨by kernel_rfl, of_decide_eq_true (by kernel_rfl)⟩) shellWrites_spec
  (ChangeSpec.witness6 (enc := enc) (C := Tryz.checked) false ⟨#[], #[.agg #[.int .i64 0, .int .i64 0, .int .i64 0, .slice none 0 0, .slice none 0 0, .bool false]], []⟩ 8 (by kernel_rfl) (by kernel_rfl) (by kernel_rfl) (by kernel_rfl))
  (n := 12) (shs := [(true, rawS)]) (by kernel_rfl) ?_
 intro w xs args hf ha
 obtain ⟨a0, r0, rfl, g0, hf⟩ := fit_cons hf
 cases fit_nil hf
 exact law_calls (C := K) W_K Tryz.func3 rfl (by kernel_rfl) ha (writes_c g0)
theorem shellWrites_holds : Rows.ShellWritesSaid :=
 OpenClaim.holds_of_wide 3 Tryz.f3 rfl rfl rfl rfl rfl rfl rfl ⟨rfl, rfl, rfl, rfl, rfl⟩ rfl rfl rfl rfl rfl (by kernel_rfl) Tryz.func3 shellWrites_facts
  (of_decide_eq_true (by kernel_rfl)) (by unfold Func.isWrapper; first | (rw [if_pos (by decide +kernel)]; kernel_rfl) | (rw [if_neg (by decide +kernel)]; exact ⟨rfl, rfl⟩))
  (fun os started H enc _ => shellWrites_lifted os started H enc)
#print axioms shellWrites_holds
end Go.Proofs.YtofafocfemikcaaGreat
