/- A part of a proof over the abstract machine. No conditions. -/
import Derived.Test.YtmhbdpgflomihaaGreatP16
import Derived.Test.YtmhbdpgflomihaaGreatL8a
namespace Go.Proofs.YtmhbdpgflomihaaGreat
open Go Go.Ab Wm NumPlain
set_option linter.unusedSimpArgs false
set_option linter.unusedVariables false
set_option maxRecDepth 10000
set_option maxHeartbeats 4000000
theorem law_plays (a n : Int) (ha : I64 a) (hn : I64 n) (l : Option (List KDr)) (hl : ∀ d ∈ ls l, DrOk d) (hll : (ls l).length < 9223372036854775808) (h : H) :
    ∃ r, W K 4 [.one (ii a), .one (ii n), .one (sl 17 encDr l)] h = some r ∧ Rets (fun v _ => v = .one (.bool true)) r := by
  refine Rets.intro fun P hP => ?_
  have hk := within_c a 0 3 (by omega) (by omega) (by omega) ha
  have hb := @withinI_bounds a 0 3 (by omega)
  generalize withinI a 0 3 = k at *
  have hw := m20_c n hn
  have hb3 := m20_bounds n
  have ht3 : (m20 n).tmod 3 = m20 n % 3 := tmod_pos hb3.1
  obtain ⟨kn, hkn⟩ : ∃ kn : Nat, m20 n % 3 = kn := ⟨(m20 n % 3).toNat, by omega⟩
  have hkb : kn < 3 := by omega
  rw [hkn] at ht3
  have hai := fun b => arr_index (P := Tryz.prog) (t := 39) (size := 1) (b := b) (v := 0) (n := 3) (i := kn) Tryz.underlying39 (by simp) (by omega) hkb
  simp only [Nat.mul_one] at hai
  obtain ⟨cn, hcn, hsub⟩ : ∃ cn : Int, (cn = 1 ∨ cn = 3 ∨ cn = 5) ∧ sub [ii 1, ii 3, ii 5] kn 1 = some [ii cn] := by
    rcases (show kn = 0 ∨ kn = 1 ∨ kn = 2 by omega) with rfl | rfl | rfl <;> exact ⟨_, by omega, rfl⟩
  have hk1 : kn + 1 ≤ 3 := by omega
  obtain ⟨r, e1, hr⟩ := play_c k cn (by omega) hcn l hl hll (h.new ⟨0, [3], true, [ii 1, ii 3, ii 5]⟩)
  obtain ⟨v, h', rfl, rfl⟩ := hr.ret
  obtain ⟨h7, e7⟩ := known_c h'
  have hq : P (.one (.bool true)) h7 := hP _ _ rfl
  refine W_doesQ hp rfl rfl rfl Tryz.func4 rfl (by simp [Tryz.f4]) ?_
  simp only [Tryz.f4]
  refine hide ?_; intro Q1 hQ1
  repeat' (first
    | (replace hQ1 := hQ1; simp [hk, hw, ht3, hai, hsub, hk1, e1, e7])
    | refine hQ1 _ _ _ ?_
    | (first | apply cF | apply wN | apply wS) <;> intro hcnd <;> (try simp only [hcnd]) <;> (try simp [-List.isEmpty_iff, -List.isEmpty_eq_false_iff] at hcnd))
  all_goals exact hq
theorem fit_dr : ∀ l, FitL [.int .i64, .int .i64, .int .i64, .int .i64, .int .i64, .int .i64, .int .i64, .int .i64, .int .i64, .int .i64, .bool, .bool, .bool, .int .i64, .flt, .slc [.int .u8], .slc [.int .i64, .int .i64, .int .i64, .bool, .int .i64, .flt, .slc [.int .u8]]] l → ∃ x : KDr, DrOk x ∧ l = encDr x := by
  intro l hf
  obtain ⟨y1, s1, rfl, p1, hf⟩ := fitL_cons hf
  obtain ⟨y2, s2, rfl, p2, hf⟩ := fitL_cons hf
  obtain ⟨y3, s3, rfl, p3, hf⟩ := fitL_cons hf
  obtain ⟨y4, s4, rfl, p4, hf⟩ := fitL_cons hf
  obtain ⟨y5, s5, rfl, p5, hf⟩ := fitL_cons hf
  obtain ⟨x1, r1, rfl, q1, hf⟩ := fitL_cons hf
  obtain ⟨x2, r2, rfl, q2, hf⟩ := fitL_cons hf
  obtain ⟨x3, r3, rfl, q3, hf⟩ := fitL_cons hf
  obtain ⟨x4, r4, rfl, q4, hf⟩ := fitL_cons hf
  obtain ⟨x5, r5, rfl, q5, hf⟩ := fitL_cons hf
  obtain ⟨x6, r6, rfl, q6, hf⟩ := fitL_cons hf
  obtain ⟨x7, r7, rfl, q7, hf⟩ := fitL_cons hf
  obtain ⟨x8, r8, rfl, q8, hf⟩ := fitL_cons hf
  obtain ⟨x9, r9, rfl, q9, hf⟩ := fitL_cons hf
  obtain ⟨x10, r10, rfl, q10, hf⟩ := fitL_cons hf
  obtain ⟨x11, r11, rfl, q11, hf⟩ := fitL_cons hf
  obtain ⟨x12, r12, rfl, q12, hf⟩ := fitL_cons hf
  cases fitL_nil hf
  obtain ⟨m1, c1, rfl⟩ := fit_i64 p1
  obtain ⟨m2, c2, rfl⟩ := fit_i64 p2
  obtain ⟨m3, c3, rfl⟩ := fit_i64 p3
  obtain ⟨m4, c4, rfl⟩ := fit_i64 p4
  obtain ⟨m5, c5, rfl⟩ := fit_i64 p5
  obtain ⟨n1, b1, rfl⟩ := fit_i64 q1
  obtain ⟨n2, b2, rfl⟩ := fit_i64 q2
  obtain ⟨n3, b3, rfl⟩ := fit_i64 q3
  obtain ⟨n4, b4, rfl⟩ := fit_i64 q4
  obtain ⟨n5, b5, rfl⟩ := fit_i64 q5
  obtain ⟨n6, rfl⟩ := fit_bool q6
  obtain ⟨n7, rfl⟩ := fit_bool q7
  obtain ⟨n8, rfl⟩ := fit_bool q8
  obtain ⟨n9, b9, rfl⟩ := fit_i64 q9
  obtain ⟨n10, b10, rfl⟩ := fit_flt q10
  obtain ⟨n11, b11, rfl⟩ := fit_bs q11
  obtain ⟨n12, b12, c12, rfl⟩ := fit_sl fit_kc q12
  exact ⟨⟨m1, m2, m3, m4, m5, ⟨n1, n2, n3, n4, n5, n6, n7, ⟨n8, n9, n10, n11⟩, n12⟩⟩, ⟨c1, c2, c3, c4, c5, ⟨b1, b2, b3, b4, b5, b9, fun c hc => (c12 c hc).1⟩, kOp_num b10 fun c hc => (c12 c hc).2⟩, rfl⟩
theorem clientPlays_spec : LawSpec Rows.clientPlaysSpec 3 := by
  refine ⟨rfl, fun H ds hd => ?_⟩
  rcases ds with _ | ⟨d1, _ | ⟨d2, _ | ⟨d3, _ | ⟨d4, ds⟩⟩⟩⟩ <;> simp at hd
  rfl
theorem plays_c {a0 a1 a2 : AV} (g0 : FitA (false, [.int .i64]) a0) (g1 : FitA (false, [.int .i64]) a1) (g2 : FitA (false, [.slc [.int .i64, .int .i64, .int .i64, .int .i64, .int .i64, .int .i64, .int .i64, .int .i64, .int .i64, .int .i64, .bool, .bool, .bool, .int .i64, .flt, .slc [.int .u8], .slc [.int .i64, .int .i64, .int .i64, .bool, .int .i64, .flt, .slc [.int .u8]]]]) a2) : ∃ h', W K 4 [a0, a1, a2] H.empty = some (.ret (.one (.bool true)) h') := by
  obtain ⟨id, i1, i2, rfl⟩ := i64_inv g0
  obtain ⟨n, j1, j2, rfl⟩ := i64_inv g1
  obtain ⟨z, rfl, hz⟩ := fit_one g2
  obtain ⟨gs, gl, gok, rfl⟩ := fit_sl fit_dr hz
  have hm : maxLen < 9223372036854775808 := by decide
  obtain ⟨r, e, hr⟩ := law_plays id n ⟨i1, i2⟩ ⟨j1, j2⟩ gs gok (by omega) H.empty
  obtain ⟨v, h', rfl, rfl⟩ := hr.ret
  exact ⟨h', e⟩
set_option maxRecDepth 100000 in
theorem clientPlays_lifted (os : Os) (started : os.Started) (H : Type) (enc : TypeId × Value → H) :
    ReturnsInHanded {} Tryz.checked os 4 .any (Rows.clientPlaysSpec.pre6 enc Tryz.prog Tryz.f4 [] false) (Rows.clientPlaysSpec.post enc Tryz.prog Tryz.f4 false true false false) := by
  refine law_lifted (Ck := Tryz.checked) Tryz.own started (by kernel_rfl) Tryz.func4 Tryz.laidOut (tb := 4) (by kernel_rfl) Tryz.underlying4 (by intro t ht; have : t ∈ [3, 3, 38] := ht; simp at this; rcases this with rfl | rfl <;> exact ⟨by kernel_rfl, of_decide_eq_true (by kernel_rfl)⟩) clientPlays_spec
    (ChangeSpec.witness6 (enc := enc) (C := Tryz.checked) false ⟨#[], #[.int .i64 0, .int .i64 0, .slice none 0 0], []⟩ 8 (by kernel_rfl) (by kernel_rfl) (by kernel_rfl) (by kernel_rfl))
    (n := 12) (shs := [(false, [.int .i64]), (false, [.int .i64]), (false, [.slc [.int .i64, .int .i64, .int .i64, .int .i64, .int .i64, .int .i64, .int .i64, .int .i64, .int .i64, .int .i64, .bool, .bool, .bool, .int .i64, .flt, .slc [.int .u8], .slc [.int .i64, .int .i64, .int .i64, .bool, .int .i64, .flt, .slc [.int .u8]]]])]) (by kernel_rfl) ?_
  intro w xs args hf ha
  obtain ⟨a0, r0, rfl, g0, hf⟩ := fit_cons hf
  obtain ⟨a1, r1, rfl, g1, hf⟩ := fit_cons hf
  obtain ⟨a2, r2, rfl, g2, hf⟩ := fit_cons hf
  cases fit_nil hf
  exact law_calls (C := K) W_K Tryz.func4 rfl (by kernel_rfl) ha (plays_c g0 g1 g2)
theorem clientPlays_holds : Rows.ClientPlaysSaid :=
  OpenClaim.holds_of_wide 4 Tryz.f4 rfl rfl rfl rfl rfl rfl rfl ⟨rfl, rfl, rfl, rfl, rfl⟩ rfl rfl rfl rfl rfl (by kernel_rfl) Tryz.func4 (by kernel_rfl)
    (of_decide_eq_true (by kernel_rfl)) (by unfold Func.isWrapper; first | (rw [if_pos (by decide +kernel)]; kernel_rfl) | (rw [if_neg (by decide +kernel)]; exact ⟨rfl, rfl⟩))
    (fun os started H enc _ => clientPlays_lifted os started H enc)
#print axioms clientPlays_holds
end Go.Proofs.YtmhbdpgflomihaaGreat
