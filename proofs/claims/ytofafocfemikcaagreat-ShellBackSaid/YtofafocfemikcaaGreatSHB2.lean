/- A part of a proof over the abstract machine. No conditions. -/
import Derived.Test.YtofafocfemikcaaGreatSHB
import Derived.Test.YtofafocfemikcaaGreatSHR3
import Derived.Test.YtofafocfemikcaaGreatSHW2
import Derived.Test.YtofafocfemikcaaGreatSJ3
set_option linter.unusedSimpArgs false
set_option linter.unnecessarySimpa false
set_option linter.unusedVariables false
namespace Go.Proofs.YtofafocfemikcaaGreat
open Go Go.Ab Wm NumPlain
set_option maxRecDepth 10000
set_option maxHeartbeats 4000000
theorem eq_asked (x : Wm.Item) : EqI (itemW (ShellPlain.asked (itP x))) (askW x) := by
 obtain ⟨k, g, n, c, b⟩ := x
 unfold itemW ShellPlain.asked askW itP
 simp only
 constructor
 all_goals
  split
  ·rename_i h; subst h; simp
  split
  ·rename_i h; rcases h with rfl | rfl | rfl <;> simp
  split
  ·rename_i h; subst h; simp
  split
  ·rename_i h; subst h; simp
  split
  ·rename_i h; subst h; simp
  ·rename_i h1 h2 h5 h6 h7; simp [h6, h7]
theorem slice_items (h : H) (o : Option (List Wm.Item)) (n : Nat) (hn : n ≤ (ls o).length) : sliceA h 5 (sl 5 encItem o) none (some (.one (ii n))) none = some (sl 5 encItem (o.map (·.take n))) := by
 cases o with
 | none =>
  have : n = 0 := by simpa using hn
  subst this
  rfl
 | some l =>
  simp only [ls_some] at hn
  have hl := flat_length len_item l
  have h5 : n * 5 ≤ (cat encItem l).length := by rw [hl]; exact Nat.mul_le_mul_right 5 hn
  have hcat : (cat encItem l).take (n * 5) = cat encItem (l.take n) := by
   conv => lhs; rw [← List.take_append_drop n l, cat_app]
   rw [List.take_append_of_le_length (by rw [flat_length len_item, List.length_take, Nat.min_eq_left hn]; exact Nat.le_refl _), List.take_of_length_le (by rw [flat_length len_item, List.length_take, Nat.min_eq_left hn]; exact Nat.le_refl _)]
  simp [sl, sliceA, bound, sub, hn, h5, hcat, Nat.min_eq_left hn]
theorem it_size (o : Option (List Wm.Item)) : sliceSize Tryz.prog 25 (sl 5 encItem o) = some 5 := by
 cases o <;> simp [sl, sliceSize]
theorem law_back (x : Raw) (hx : RawOk x) (at_ : Int) (hat : I64 at_) (h : H) : ∃ r, W K 5 [.agg [ii x.c.groups, ii x.c.n, ii x.c.clients, sl 19 encDraw x.l, sl 5 encItem x.items, .bool x.tame], .one (ii at_)] h = some r ∧ Rets (fun v h' => v = .one (.bool true)) r := by
 have hm := made_c x hx
 have hml := mkL_len x
 obtain ⟨g, hg⟩ : ∃ g, (mkC x).groups = g := ⟨_, rfl⟩
 obtain ⟨n, hn⟩ : ∃ n, (mkC x).n = n := ⟨_, rfl⟩
 obtain ⟨c, hc⟩ : ∃ c, (mkC x).clients = c := ⟨_, rfl⟩
 obtain ⟨o, ho⟩ : ∃ o, opt (mkL x) = o := ⟨_, rfl⟩
 have hl : (ls o).length ≤ 42 := by rw [← ho, ls_opt]; omega
 rw [hg, hn, hc, ho] at hm
 obtain ⟨⟨cg, cn, cc⟩, xl, xi, tame⟩ := x
 have hk := known_c
 have hr := sright_c g n c o (by omega)
 refine Rets.intro fun P hP => ?_
 cases hok : ShellPlain.okS (scP g n c o) with
 | false =>
  rw [hok] at hr
  clear hml hg hn hc ho
  refine W_doesQ hp rfl rfl rfl Tryz.func5 rfl (by simp [Tryz.f5]) ?_
  simp only [Tryz.f5]
  refine hide ?_; intro Q1 hQ1
  repeat' (first
   | (replace hQ1 := hQ1; simp [hm, hr, hk])
   | refine hQ1 _ _ _ ?_
   | refine dF (id := 11) [0, 1, 2, 3, 4, 5, 6, 7, 8, 9, 10, 11, 12, 13, 14, 15, 16, 17, 18, 19, 20, 21, 22, 23] [] ?_
   | (first | apply cF | apply wN | apply wS) <;> intro hcnd <;> (try simp only [hcnd]) <;> (try simp [-List.isEmpty_iff, -List.isEmpty_eq_false_iff] at hcnd))
  all_goals first | exact hP _ _ rfl | trace_state
 | true =>
  have he := sencode_ok g n c o (by omega) hok
  have hall := okS_all hok
  have hask := asked_c g n c o (by omega) fun x hx => ShellPlain.ok_kind (hall x hx)
  have hpb := ShellPlain.parse_back hok
  rw [hok] at hr
  rw [scB_eq] at he hpb
  have hsm : (0 ≤ g ∧ g ≤ 255) ∧ (0 ≤ n ∧ n ≤ 255) ∧ (0 ≤ c ∧ c ≤ 255) := by
   unfold ShellPlain.okS ShellPlain.small scP at hok
   simp only [Bool.and_eq_true, decide_eq_true_eq] at hok
   obtain ⟨⟨_, q⟩, _⟩ := hok
   omega
  have hTl : ((ls o).flatMap itBs).length ≤ (ls o).length * 65550 := flat_len fun y hy => itB_len (hall y hy)
  obtain ⟨T, hT⟩ : ∃ T, (ls o).flatMap itBs = T := ⟨_, rfl⟩
  rw [hT] at he hpb hTl
  simp only [List.cons_append, List.nil_append] at he hpb
  rw [ShellPlain.parse_its] at hpb
  simp only [oqI, ShellPlain.Sc.mk.injEq] at hpb
  have hits : ShellPlain.its 256 T = (ls o).map fun x => ShellPlain.asked (itP x) := by rw [hpb.2.2.2]; simp [scP]
  have eg : ((u8 g).toNat : Int) = g := ShellPlain.by1_nat hsm.1.1 hsm.1.2
  have en : ((u8 n).toNat : Int) = n := ShellPlain.by1_nat hsm.2.1.1 hsm.2.1.2
  have ec : ((u8 c).toNat : Int) = c := ShellPlain.by1_nat hsm.2.2.1 hsm.2.2.2
  have D1 := fun h => decode_ok (u8 g) (u8 n) (u8 c) T h (by omega)
  rw [hits, eg, en, ec] at D1
  obtain ⟨Q, hQ⟩ : ∃ Q : Nat, withinI at_ 3 ((T.length + 3 : Nat) : Int) = (Q : Int) ∧ 3 ≤ Q ∧ Q ≤ T.length + 3 := by
   have := @withinI_bounds at_ 3 ((T.length + 3 : Nat) : Int) (by omega)
   exact ⟨(withinI at_ 3 ((T.length + 3 : Nat) : Int)).toNat, by omega, by omega, by omega⟩
  have hw := within_c at_ 3 ((T.length + 3 : Nat) : Int) (by omega) (by omega) (by omega) hat
  rw [hQ.1] at hw
  have D2 := fun h => decode_ok (u8 g) (u8 n) (u8 c) (T.take (Q - 3)) h (by rw [List.length_take]; omega)
  rw [eg, en, ec] at D2
  have hpre : ShellPlain.its 256 (T.take (Q - 3)) <+: ShellPlain.its 256 T := ShellPlain.items_cut _ _ _ _ _ (List.take_prefix _ _) (Nat.lt_succ_self _) (Nat.lt_succ_self _)
  obtain ⟨k, hk2, hkl⟩ : ∃ k, ShellPlain.its 256 (T.take (Q - 3)) = ((ls o).take k).map (fun x => ShellPlain.asked (itP x)) ∧ k ≤ (ls o).length := by
   have e := List.prefix_iff_eq_take.1 hpre
   refine ⟨(ShellPlain.its 256 (T.take (Q - 3))).length, ?_, ?_⟩
   ·conv => lhs; rw [e, hits]
    rw [List.map_take]
   ·have := hpre.length_le
    rw [hits] at this
    simpa using this
  rw [hk2] at D2
  have S1 := same_c (ls o) (fun x => itemW (ShellPlain.asked (itP x))) askW (fun x _ => eq_asked x) g n c (opt (((ls o).map fun x => ShellPlain.asked (itP x)).map itemW)) (opt ((ls o).map askW)) (by rw [ls_opt, List.map_map]; rfl) (by rw [ls_opt]) (by omega)
  have S2 := same_c ((ls o).take k) (fun x => itemW (ShellPlain.asked (itP x))) askW (fun x _ => eq_asked x) g n c (opt ((((ls o).take k).map fun x => ShellPlain.asked (itP x)).map itemW)) ((opt ((ls o).map askW)).map (·.take k)) (by rw [ls_opt, List.map_map]; rfl) (by
   have : ∀ (z : Option (List Wm.Item)), ls (z.map (·.take k)) = (ls z).take k := fun z => by cases z <;> simp
   rw [this, ls_opt, List.map_take]) (by rw [List.length_take]; omega)
  have SL := fun h => slice_to h (u8 g :: u8 n :: u8 c :: T) Q (by simp; omega)
  have eB : (u8 g :: u8 n :: u8 c :: T).take Q = u8 g :: u8 n :: u8 c :: T.take (Q - 3) := by
   obtain ⟨q, rfl⟩ : ∃ q, Q = q + 3 := ⟨Q - 3, by omega⟩
   simp
  rw [eB] at SL
  have SI := fun h => slice_items h (opt ((ls o).map askW)) k (by rw [ls_opt]; simpa using hkl)
  have L2 : ∀ h, lenA (sl 5 encItem (opt ((((ls o).take k).map fun x => ShellPlain.asked (itP x)).map itemW))) (some (.slice 62)) h = some (one (ii k) h) := fun h => by
   have := lenA_sl 5 encItem (opt ((((ls o).take k).map fun x => ShellPlain.asked (itP x)).map itemW)) 62 h
   rw [ls_opt] at this
   simpa [Nat.min_eq_left hkl] using this
  have LW : ∀ h, lenA (sl 5 encItem (opt ((ls o).map askW))) (some (.slice 62)) h = some (one (ii (ls o).length) h) := fun h => by
   have := lenA_sl 5 encItem (opt ((ls o).map askW)) 62 h
   rw [ls_opt] at this
   simpa using this
  have LB : ∀ h, lenA (bs (some (u8 g :: u8 n :: u8 c :: T))) (some (.slice 5)) h = some (one (ii ((T.length + 3 : Nat) : Int)) h) := fun h => lenA_bs _ _ _
  have d1 : ¬ ((T.length + 3 : Nat) : Int) < 3 := by omega
  have d2 : decide (((T.length + 3 : Nat) : Int) < 3) = false := by simp; omega
  have d3 : ((k : Nat) : Int) ≤ ((ls o).length : Int) := by omega
  have d4 : decide (((k : Nat) : Int) ≤ ((ls o).length : Int)) = true := by simp; omega
  clear hml hg hn hc ho hall hpb hits hpre hk2 eB hTl hT hQ hkl hl hok
  generalize opt ((((ls o).take k).map fun x => ShellPlain.asked (itP x)).map itemW) = X2 at *
  generalize opt (((ls o).map fun x => ShellPlain.asked (itP x)).map itemW) = X1 at *
  generalize (opt ((ls o).map askW)).map (·.take k) = WC at *
  generalize opt ((ls o).map askW) = WT at *
  generalize ((ls o).length : Int) = LO at *
  generalize u8 g :: u8 n :: u8 c :: T.take (Q - 3) = BQ at *
  generalize u8 g :: u8 n :: u8 c :: T = BB at *
  generalize ((T.length + 3 : Nat) : Int) = LT at *
  have bz := bs_size (some BB)
  have iz := it_size WT
  refine W_doesQ hp rfl rfl rfl Tryz.func5 rfl (by simp [Tryz.f5]) ?_
  simp only [Tryz.f5]
  refine hide ?_; intro Q2 hQ2
  repeat' (first
   | (replace hQ2 := hQ2; simp [hm, hr, he, hask, D1, D2, S1, S2, SL, SI, L2, LW, LB, hw, d1, d2, d3, d4, hk, bz, iz])
   | refine hQ2 _ _ _ ?_
   | refine dF (id := 11) [0, 1, 2, 3, 4, 5, 6, 7, 8, 9, 10, 11, 12, 13, 14, 15, 16, 17, 18, 19, 20, 21, 22, 23] [] ?_
   | (first | apply cF | apply wN | apply wS) <;> intro hcnd <;> (try simp only [hcnd]) <;> (try simp [-List.isEmpty_iff, -List.isEmpty_eq_false_iff] at hcnd))
  all_goals first | exact hP _ _ rfl | trace_state
theorem shellBack_spec : LawSpec Rows.shellBackSpec 2 := by
 refine ⟨rfl, fun H ds hd => ?_⟩
 rcases ds with _ | ⟨d1, _ | ⟨d2, _ | ⟨d3, ds⟩⟩⟩ <;> simp at hd
 rfl
theorem back_c {a0 a1 : AV} (g0 : FitA (true, rawS) a0) (g1 : FitA (false, [.int .i64]) a1) : ∃ h', W K 5 [a0, a1] H.empty = some (.ret (.one (.bool true)) h') := by
 obtain ⟨x, hx, rfl⟩ := raw_inv g0
 obtain ⟨n, i1, i2, rfl⟩ := i64_inv g1
 obtain ⟨r, e, hr⟩ := law_back x hx n ⟨i1, i2⟩ H.empty
 obtain ⟨v, h', rfl, rfl⟩ := hr.ret
 exact ⟨h', e⟩
set_option maxRecDepth 100000 in
theorem shellBack_lifted (os : Os) (started : os.Started) (H : Type) (enc : TypeId × Value → H) :
  ReturnsInHanded {} Tryz.checked os 5 .any (Rows.shellBackSpec.pre6 enc Tryz.prog Tryz.f5 [] false) (Rows.shellBackSpec.post enc Tryz.prog Tryz.f5 false true false false) := by
 refine law_lifted (Ck := Tryz.checked) Tryz.own started (by kernel_rfl) Tryz.func5 Tryz.laidOut (tb := 4) (by kernel_rfl) Tryz.underlying4 (by intro t ht; have : t ∈ [27, 3] := ht; simp at this; rcases this with rfl | rfl <;> exact ⟨by kernel_rfl, of_decide_eq_true (by kernel_rfl)⟩) shellBack_spec
  (ChangeSpec.witness6 (enc := enc) (C := Tryz.checked) false ⟨#[], #[.agg #[.int .i64 0, .int .i64 0, .int .i64 0, .slice none 0 0, .slice none 0 0, .bool false], .int .i64 0], []⟩ 8 (by kernel_rfl) (by kernel_rfl) (by kernel_rfl) (by kernel_rfl))
  (n := 12) (shs := [(true, rawS), (false, [.int .i64])]) (by kernel_rfl) ?_
 intro w xs args hf ha
 obtain ⟨a0, r0, rfl, g0, hf⟩ := fit_cons hf
 obtain ⟨a1, r1, rfl, g1, hf⟩ := fit_cons hf
 cases fit_nil hf
 exact law_calls (C := K) W_K Tryz.func5 rfl (by kernel_rfl) ha (back_c g0 g1)
theorem shellBack_holds : Rows.ShellBackSaid :=
 OpenClaim.holds_of_wide 5 Tryz.f5 rfl rfl rfl rfl rfl rfl rfl ⟨rfl, rfl, rfl, rfl, rfl⟩ rfl rfl rfl rfl rfl (by kernel_rfl) Tryz.func5 shellBack_facts
  (of_decide_eq_true (by kernel_rfl)) (by unfold Func.isWrapper; first | (rw [if_pos (by decide +kernel)]; kernel_rfl) | (rw [if_neg (by decide +kernel)]; exact ⟨rfl, rfl⟩))
  (fun os started H enc _ => shellBack_lifted os started H enc)
#print axioms shellBack_holds
end Go.Proofs.YtofafocfemikcaaGreat
