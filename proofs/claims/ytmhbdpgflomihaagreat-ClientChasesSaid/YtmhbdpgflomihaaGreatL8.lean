/- A part of a proof over the abstract machine. No conditions. -/
import Derived.Test.YtmhbdpgflomihaaGreatL7
namespace Go.Proofs.YtmhbdpgflomihaaGreat
open Go Go.Ab Wm NumPlain
set_option linter.unusedSimpArgs false
set_option linter.unusedVariables false
set_option maxRecDepth 10000
theorem near_lt : ∀ m : Fin 20, FloatKind.nearest .f64 ((m.val : Int) - 9) < 2 ^ 64 := by decide +kernel
theorem kFloat_lt (n : Int) {x : Nat} (hx : x < 2 ^ 64) : kFloat n x < 2 ^ 64 := by
  unfold kFloat
  simp only
  split
  · omega
  split
  · omega
  split
  · omega
  split
  · omega
  split
  · omega
  split
  · omega
  split
  · have h1 := Int.emod_nonneg (m20 n) (show (20 : Int) ≠ 0 by decide)
    have h2 := Int.emod_lt_of_pos (m20 n) (show (0 : Int) < 20 by decide)
    have := near_lt ⟨(m20 n % 20).toNat, by omega⟩
    have e : (((m20 n % 20).toNat : Nat) : Int) = m20 n % 20 := by omega
    simp only [e] at this
    exact this
  · exact hx
theorem kValue_lt {v : KV} (hx : v.x < 2 ^ 64) : (kValue v).n < 2 ^ 64 := by
  unfold kValue
  split
  · simp
  · exact kFloat_lt _ hx
theorem kChange_num {c : KC} (hx : c.v.x < 2 ^ 64) : (1 ≤ (kChange c).kind ∧ (kChange c).kind ≤ 5) ∧ (0 ≤ (kChange c).time ∧ (kChange c).time < 9223372036854775808) ∧ (kChange c).v.n < 2 ^ 64 := by
  have hb := @withinI_bounds c.time 0 30 (by omega)
  have h1 := Int.emod_nonneg (m20 c.kind) (show (5 : Int) ≠ 0 by decide)
  have h2 := Int.emod_lt_of_pos (m20 c.kind) (show (0 : Int) < 5 by decide)
  unfold kChange
  simp only
  split
  · exact ⟨by simp, by simp only; omega, kFloat_lt _ hx⟩
  split
  · exact ⟨by simp, by simp only; omega, by simp⟩
  split
  · exact ⟨by simp, by simp, by simp⟩
  split
  · exact ⟨by simp, by simp, by simp⟩
  · exact ⟨by simp only; omega, by simp only; omega, kValue_lt hx⟩
theorem kOp_num {o : KO} (hx : o.v.x < 2 ^ 64) (hl : ∀ c ∈ ls o.l, c.v.x < 2 ^ 64) : OpNum (kOp o) := by
  unfold kOp
  split
  · exact ⟨by simp, by simp [noCond]⟩
  split
  · exact ⟨by simp, by simp [noCond]⟩
  · refine ⟨?_, ?_⟩
    · intro c hc
      simp only at hc
      split at hc
      · simp at hc; subst hc; simp
      · simp only [kChanges, ls_opt] at hc
        obtain ⟨x, hx1, rfl⟩ := List.mem_map.1 hc
        exact kChange_num (hl x (List.mem_of_mem_take hx1))
    · simp only
      split
      · simp only
        split
        · exact kValue_lt hx
        · simp
      · simp [noCond]
theorem clientChases_spec : LawSpec Rows.clientChasesSpec 3 := by
  refine ⟨rfl, fun H ds hd => ?_⟩
  rcases ds with _ | ⟨d1, _ | ⟨d2, _ | ⟨d3, _ | ⟨d4, ds⟩⟩⟩⟩ <;> simp at hd
  rfl
theorem fit_kc : ∀ l, FitL [.int .i64, .int .i64, .int .i64, .bool, .int .i64, .flt, .slc [.int .u8]] l → ∃ x : KC, (KCok x ∧ x.v.x < 2 ^ 64) ∧ l = encKC x := by
  intro l hf
  obtain ⟨a1, r1, rfl, g1, hf⟩ := fitL_cons hf
  obtain ⟨a2, r2, rfl, g2, hf⟩ := fitL_cons hf
  obtain ⟨a3, r3, rfl, g3, hf⟩ := fitL_cons hf
  obtain ⟨a4, r4, rfl, g4, hf⟩ := fitL_cons hf
  obtain ⟨a5, r5, rfl, g5, hf⟩ := fitL_cons hf
  obtain ⟨a6, r6, rfl, g6, hf⟩ := fitL_cons hf
  obtain ⟨a7, r7, rfl, g7, hf⟩ := fitL_cons hf
  cases fitL_nil hf
  obtain ⟨n1, b1, rfl⟩ := fit_i64 g1
  obtain ⟨n2, b2, rfl⟩ := fit_i64 g2
  obtain ⟨n3, b3, rfl⟩ := fit_i64 g3
  obtain ⟨n4, rfl⟩ := fit_bool g4
  obtain ⟨n5, b5, rfl⟩ := fit_i64 g5
  obtain ⟨n6, b6, rfl⟩ := fit_flt g6
  obtain ⟨n7, b7, rfl⟩ := fit_bs g7
  exact ⟨⟨n1, n2, n3, ⟨n4, n5, n6, n7⟩⟩, ⟨⟨b1, b2, b3, b5⟩, b6⟩, rfl⟩
theorem fit_int : ∀ l, FitL [.int .i64] l → ∃ x : Int, I64 x ∧ l = encI x := by
  intro l hf
  obtain ⟨a1, r1, rfl, g1, hf⟩ := fitL_cons hf
  cases fitL_nil hf
  obtain ⟨n1, b1, rfl⟩ := fit_i64 g1
  exact ⟨n1, b1, rfl⟩
theorem chases_c {a0 a1 a2 : AV} (g0 : FitA (false, [.int .i64]) a0) (g1 : FitA (true, [.int .i64, .int .i64, .int .i64, .int .i64, .int .i64, .bool, .bool, .bool, .int .i64, .flt, .slc [.int .u8], .slc [.int .i64, .int .i64, .int .i64, .bool, .int .i64, .flt, .slc [.int .u8]]]) a1) (g2 : FitA (false, [.slc [.int .i64]]) a2) : ∃ h', W K 5 [a0, a1, a2] H.empty = some (.ret (.one (.bool true)) h') := by
  obtain ⟨id, i1, i2, rfl⟩ := i64_inv g0
  obtain ⟨z, rfl, hz⟩ := fit_one g2
  obtain ⟨gs, gl, gok, rfl⟩ := fit_sl fit_int hz
  obtain ⟨l, rfl, hf⟩ := fit_agg g1
  obtain ⟨x1, r1, rfl, q1, hf⟩ := fitL_cons hf
  obtain ⟨x2, r2, rfl, q2, hf⟩ := fitL_cons hf
  obtain ⟨x3, r3, rfl, q3, hf⟩ := fitL_cons hf
  obtain ⟨x4, r4, rfl, q4, hf⟩ := fitL_cons hf
  obtain ⟨x5, r5, rfl, q5, hf⟩ := fitL_cons hf
  obtain ⟨x6, r6, rfl, q6, hf⟩ := fitL_cons hf
  obtain ⟨x7, r7, rfl, q7, hf⟩ := fitL_cons hf
  obtain ⟨x8, r8, rfl, q8, hf⟩ := fitL_cons hf
  obtain ⟨x9, r9, rfl, q9, hf⟩ := fitL_cons hf
  obtain ⟨x10, r10, rfl, q10, hf⟩ := fitL_cons hf
  obtain ⟨x11, r11, rfl, q11, hf⟩ := fitL_cons hf
  obtain ⟨x12, r12, rfl, q12, hf⟩ := fitL_cons hf
  cases fitL_nil hf
  obtain ⟨n1, b1, rfl⟩ := fit_i64 q1
  obtain ⟨n2, b2, rfl⟩ := fit_i64 q2
  obtain ⟨n3, b3, rfl⟩ := fit_i64 q3
  obtain ⟨n4, b4, rfl⟩ := fit_i64 q4
  obtain ⟨n5, b5, rfl⟩ := fit_i64 q5
  obtain ⟨n6, rfl⟩ := fit_bool q6
  obtain ⟨n7, rfl⟩ := fit_bool q7
  obtain ⟨n8, rfl⟩ := fit_bool q8
  obtain ⟨n9, b9, rfl⟩ := fit_i64 q9
  obtain ⟨n10, b10, rfl⟩ := fit_flt q10
  obtain ⟨n11, b11, rfl⟩ := fit_bs q11
  obtain ⟨n12, b12, c12, rfl⟩ := fit_sl fit_kc q12
  have hm : maxLen < 9223372036854775808 := by decide
  obtain ⟨r, e, hr⟩ := law_chases id ⟨i1, i2⟩ n1 n2 n3 n4 n5 n6 n7 n8 n9 n10 n11 n12 ⟨b1, b2, b3, b4, b5, b9, fun c hc => (c12 c hc).1⟩ (kOp_num b10 fun c hc => (c12 c hc).2) gs gok (by omega) H.empty
  obtain ⟨v, h', rfl, rfl⟩ := hr.ret
  exact ⟨h', e⟩
set_option maxRecDepth 100000 in
theorem clientChases_lifted (os : Os) (started : os.Started) (H : Type) (enc : TypeId × Value → H) :
    ReturnsInHanded {} Tryz.checked os 5 .any (Rows.clientChasesSpec.pre6 enc Tryz.prog Tryz.f5 [] false) (Rows.clientChasesSpec.post enc Tryz.prog Tryz.f5 false true false false) := by
  refine law_lifted (Ck := Tryz.checked) Tryz.own started (by kernel_rfl) Tryz.func5 Tryz.laidOut (tb := 4) (by kernel_rfl) Tryz.underlying4 (by intro t ht; have : t ∈ [3, 44, 39] := ht; simp at this; rcases this with rfl | rfl | rfl <;> exact ⟨by kernel_rfl, of_decide_eq_true (by kernel_rfl)⟩) clientChases_spec
    (ChangeSpec.witness6 (enc := enc) (C := Tryz.checked) false ⟨#[], #[.int .i64 0, .agg #[.int .i64 0, .int .i64 0, .int .i64 0, .int .i64 0, .int .i64 0, .bool false, .bool false, .bool false, .int .i64 0, .float .f64 0, .slice none 0 0, .slice none 0 0], .slice none 0 0], []⟩ 8 (by kernel_rfl) (by kernel_rfl) (by kernel_rfl) (by kernel_rfl))
    (n := 6) (shs := [(false, [.int .i64]), (true, [.int .i64, .int .i64, .int .i64, .int .i64, .int .i64, .bool, .bool, .bool, .int .i64, .flt, .slc [.int .u8], .slc [.int .i64, .int .i64, .int .i64, .bool, .int .i64, .flt, .slc [.int .u8]]]), (false, [.slc [.int .i64]])]) (by kernel_rfl) ?_
  intro w xs args hf ha
  obtain ⟨a0, r0, rfl, g0, hf⟩ := fit_cons hf
  obtain ⟨a1, r1, rfl, g1, hf⟩ := fit_cons hf
  obtain ⟨a2, r2, rfl, g2, hf⟩ := fit_cons hf
  cases fit_nil hf
  exact law_calls (C := K) W_K Tryz.func5 rfl (by kernel_rfl) ha (chases_c g0 g1 g2)
theorem clientChases_holds : Rows.ClientChasesSaid :=
  OpenClaim.holds_of_wide 5 Tryz.f5 rfl rfl rfl rfl rfl rfl rfl ⟨rfl, rfl, rfl, rfl, rfl⟩ rfl rfl rfl rfl rfl (by kernel_rfl) Tryz.func5 (by kernel_rfl)
    (of_decide_eq_true (by kernel_rfl)) (by unfold Func.isWrapper; first | (rw [if_pos (by decide +kernel)]; kernel_rfl) | (rw [if_neg (by decide +kernel)]; exact ⟨rfl, rfl⟩))
    (fun os started H enc _ => clientChases_lifted os started H enc)
#print axioms clientChases_holds
end Go.Proofs.YtmhbdpgflomihaaGreat
