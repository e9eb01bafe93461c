/- A part of a proof over the abstract machine. No conditions. -/
import Derived.Test.YtmhbdpgflomihaaC13
/- ClientWaits, whatever comes in. No conditions. -/
namespace Go.Proofs.Ytmhbdpgflomihaa
open Go Go.Ab Wm NumPlain
set_option linter.unusedSimpArgs false
set_option linter.unusedVariables false
set_option maxRecDepth 10000
theorem clientWaits_spec : LawSpec Rows.clientWaitsSpec 3 := by
  refine ⟨rfl, fun H ds hd => ?_⟩
  rcases ds with _ | ⟨d1, _ | ⟨d2, _ | ⟨d3, _ | ⟨d4, ds⟩⟩⟩⟩ <;> simp at hd
  rfl
theorem fit_kc : ∀ l, FitL [.int .i64, .int .i64, .int .i64, .bool, .int .i64, .flt, .slc [.int .u8]] l → ∃ x : KC, KCok x ∧ l = encKC x := by
  intro l hf
  obtain ⟨a1, r1, rfl, g1, hf⟩ := fitL_cons hf
  obtain ⟨a2, r2, rfl, g2, hf⟩ := fitL_cons hf
  obtain ⟨a3, r3, rfl, g3, hf⟩ := fitL_cons hf
  obtain ⟨a4, r4, rfl, g4, hf⟩ := fitL_cons hf
  obtain ⟨a5, r5, rfl, g5, hf⟩ := fitL_cons hf
  obtain ⟨a6, r6, rfl, g6, hf⟩ := fitL_cons hf
  obtain ⟨a7, r7, rfl, g7, hf⟩ := fitL_cons hf
  cases fitL_nil hf
  obtain ⟨n1, b1, rfl⟩ := fit_i64 g1
  obtain ⟨n2, b2, rfl⟩ := fit_i64 g2
  obtain ⟨n3, b3, rfl⟩ := fit_i64 g3
  obtain ⟨n4, rfl⟩ := fit_bool g4
  obtain ⟨n5, b5, rfl⟩ := fit_i64 g5
  obtain ⟨n6, b6, rfl⟩ := fit_flt g6
  obtain ⟨n7, b7, rfl⟩ := fit_bs g7
  exact ⟨⟨n1, n2, n3, ⟨n4, n5, n6, n7⟩⟩, ⟨b1, b2, b3, b5⟩, rfl⟩
theorem waits_c {a0 a1 a2 : AV} (g0 : FitA (false, [.int .i64]) a0) (g1 : FitA (true, [.int .i64, .int .i64, .int .i64, .int .i64, .int .i64, .bool, .bool, .bool, .int .i64, .flt, .slc [.int .u8], .slc [.int .i64, .int .i64, .int .i64, .bool, .int .i64, .flt, .slc [.int .u8]]]) a1) (g2 : FitA (false, [.int .i64]) a2) : ∃ h', W K 3 [a0, a1, a2] H.empty = some (.ret (.one (.bool true)) h') := by
  obtain ⟨id, i1, i2, rfl⟩ := i64_inv g0
  obtain ⟨tk, t1, t2, rfl⟩ := i64_inv g2
  obtain ⟨l, rfl, hf⟩ := fit_agg g1
  obtain ⟨x1, r1, rfl, q1, hf⟩ := fitL_cons hf
  obtain ⟨x2, r2, rfl, q2, hf⟩ := fitL_cons hf
  obtain ⟨x3, r3, rfl, q3, hf⟩ := fitL_cons hf
  obtain ⟨x4, r4, rfl, q4, hf⟩ := fitL_cons hf
  obtain ⟨x5, r5, rfl, q5, hf⟩ := fitL_cons hf
  obtain ⟨x6, r6, rfl, q6, hf⟩ := fitL_cons hf
  obtain ⟨x7, r7, rfl, q7, hf⟩ := fitL_cons hf
  obtain ⟨x8, r8, rfl, q8, hf⟩ := fitL_cons hf
  obtain ⟨x9, r9, rfl, q9, hf⟩ := fitL_cons hf
  obtain ⟨x10, r10, rfl, q10, hf⟩ := fitL_cons hf
  obtain ⟨x11, r11, rfl, q11, hf⟩ := fitL_cons hf
  obtain ⟨x12, r12, rfl, q12, hf⟩ := fitL_cons hf
  cases fitL_nil hf
  obtain ⟨n1, b1, rfl⟩ := fit_i64 q1
  obtain ⟨n2, b2, rfl⟩ := fit_i64 q2
  obtain ⟨n3, b3, rfl⟩ := fit_i64 q3
  obtain ⟨n4, b4, rfl⟩ := fit_i64 q4
  obtain ⟨n5, b5, rfl⟩ := fit_i64 q5
  obtain ⟨n6, rfl⟩ := fit_bool q6
  obtain ⟨n7, rfl⟩ := fit_bool q7
  obtain ⟨n8, rfl⟩ := fit_bool q8
  obtain ⟨n9, b9, rfl⟩ := fit_i64 q9
  obtain ⟨n10, b10, rfl⟩ := fit_flt q10
  obtain ⟨n11, b11, rfl⟩ := fit_bs q11
  obtain ⟨n12, b12, c12, rfl⟩ := fit_sl fit_kc q12
  obtain ⟨r, e, h', rfl⟩ := law_c id tk ⟨i1, i2⟩ ⟨t1, t2⟩ n1 n2 n3 n4 n5 n6 n7 n8 n9 n10 n11 n12 ⟨b1, b2, b3, b4, b5, b9, c12⟩ known_c H.empty
  exact ⟨h', e⟩
set_option maxRecDepth 100000 in
theorem clientWaits_lifted (os : Os) (started : os.Started) (H : Type) (enc : TypeId × Value → H) :
    ReturnsInHanded {} Try.checked os 3 .any (Rows.clientWaitsSpec.pre6 enc Try.prog Try.f3 [] false) (Rows.clientWaitsSpec.post enc Try.prog Try.f3 false true false false) := by
  refine law_lifted (Ck := Try.checked) Try.own started (by kernel_rfl) Try.func3 Try.laidOut (tb := 4) (by kernel_rfl) Try.underlying4 (by intro t ht; have : t ∈ [3, 28, 3] := ht; simp at this; rcases this with rfl | rfl | rfl <;> exact ⟨by kernel_rfl, of_decide_eq_true (by kernel_rfl)⟩) clientWaits_spec
    (ChangeSpec.witness6 (enc := enc) (C := Try.checked) false ⟨#[], #[.int .i64 0, .agg #[.int .i64 0, .int .i64 0, .int .i64 0, .int .i64 0, .int .i64 0, .bool false, .bool false, .bool false, .int .i64 0, .float .f64 0, .slice none 0 0, .slice none 0 0], .int .i64 0], []⟩ 8 (by kernel_rfl) (by kernel_rfl) (by kernel_rfl) (by kernel_rfl))
    (n := 6) (shs := [(false, [.int .i64]), (true, [.int .i64, .int .i64, .int .i64, .int .i64, .int .i64, .bool, .bool, .bool, .int .i64, .flt, .slc [.int .u8], .slc [.int .i64, .int .i64, .int .i64, .bool, .int .i64, .flt, .slc [.int .u8]]]), (false, [.int .i64])]) (by kernel_rfl) ?_
  intro w xs args hf ha
  obtain ⟨a0, r0, rfl, g0, hf⟩ := fit_cons hf
  obtain ⟨a1, r1, rfl, g1, hf⟩ := fit_cons hf
  obtain ⟨a2, r2, rfl, g2, hf⟩ := fit_cons hf
  cases fit_nil hf
  exact law_calls (C := K) W_K Try.func3 rfl (by kernel_rfl) ha (waits_c g0 g1 g2)
theorem clientWaits_holds : Rows.ClientWaitsSaid :=
  OpenClaim.holds_of_wide 3 Try.f3 rfl rfl rfl rfl rfl rfl rfl ⟨rfl, rfl, rfl, rfl, rfl⟩ rfl rfl rfl rfl rfl (by kernel_rfl) Try.func3 (by kernel_rfl)
    (of_decide_eq_true (by kernel_rfl)) (by unfold Func.isWrapper; first | (rw [if_pos (by decide +kernel)]; kernel_rfl) | (rw [if_neg (by decide +kernel)]; exact ⟨rfl, rfl⟩))
    (fun os started H enc _ => clientWaits_lifted os started H enc)
#print axioms clientWaits_holds
end Go.Proofs.Ytmhbdpgflomihaa
