/- A part of a proof over the abstract machine. No conditions. -/
import Derived.Test.YtmhbdpgflomihaaGreatP3
namespace Go.Proofs.YtmhbdpgflomihaaGreat
open Go Go.Ab Wm NumPlain
set_option linter.unusedSimpArgs false
set_option linter.unnecessarySimpa false
set_option linter.unusedVariables false
set_option maxRecDepth 10000
set_option maxHeartbeats 4000000
theorem take_snoc {α : Type} (l : List α) {i : Nat} (hi : i < l.length) : l.take (i + 1) = l.take i ++ [l[i]] := by
  rw [List.take_add_one, List.getElem?_eq_getElem hi]; rfl
theorem sl_lenA {α : Type} {h : H} {size : Nat} {enc : α → List AS} {s : AS} {l : List α} (a : Sl h size enc s l) (u : Nat) (hh : H) : lenA s (some (.slice u)) hh = some (.val (.one (ii l.length)) hh) := by
  rcases a with ⟨rfl, rfl⟩ | ⟨b, v, z, rfl, _⟩
  · rfl
  · rfl
theorem forget_m {h : H} {p : Nat} {m : Md} (ma : MdAt h p m) (hl : m.cached.length < 1000) (lo hi : BL) : ∃ r, W K 54 [.one (.ptr p 0 0), .agg [.str lo, .str hi]] h = some r ∧ Rets (fun v h' => v = .tup [] ∧ MdAt h' p { m with cached := m.cached.filter fun t => !meet7 t.span ⟨lo, hi⟩ } ∧ HeldM h h' p) r := by
  refine Rets.intro fun P hP => ?_
  obtain ⟨hpn, s0, hf, hsl, hos⟩ := ma
  have hne : ¬ p = h.next := by omega
  have hne2 : ¬ h.next = p := by omega
  have g17 : sub (mdC m s0) 17 1 = some [s0] := rfl
  have gl : (mdC m s0).length = 30 := rfl
  have hlay : ∀ l s, List.take 17 (mdC m s0) ++ s :: List.drop 18 (mdC m s0) = mdC { m with cached := l } s := fun l s => rfl
  have hlen := fun hh => sl_lenA hsl 99 hh
  have hqq := mdQ_at hf
  generalize hM : mdC m s0 = M at *
  obtain ⟨B, hB⟩ : ∃ B : Blk, (⟨0, [2], true, [.str lo, .str hi]⟩ : Blk) = B := ⟨_, rfl⟩
  refine W_doesQ hp rfl rfl rfl Tryz.func54 rfl (by simp [Tryz.f54]) ?_
  simp only [Tryz.f54]
  refine hide ?_; intro Q1 hQ1
  repeat' (first
    | (replace hQ1 := hQ1; simp [hf, hne, hne2, g17, gl, hlen, hB])
    | refine hQ1 _ _ _ ?_
    | refine dF (id := 5) [0, 1, 2, 3, 4, 5, 6, 7, 8, 9, 10] [] ?_
    | (first | apply cF | apply wN | apply wS) <;> intro hcnd <;> (try simp only [hcnd]) <;> (try simp [-List.isEmpty_iff, -List.isEmpty_eq_false_iff] at hcnd))
  obtain ⟨I, hI⟩ : ∃ I : Nat → Fr → H → Prop, I = fun i fr hh => ∃ s, Grown hh 4 encTablet s ((m.cached.take i).filter fun t => !meet7 t.span ⟨lo, hi⟩) ∧ hh.f h.next = some B ∧ h.next + 1 ≤ hh.next ∧ (∀ b, b < h.next → hh.f b = h.f b) ∧ (∀ b, ownB s = some b → h.next < b) ∧ ∃ j : Nat → AV, fr = ((.one (.ptr p 0 0)) :: j 1 :: j 2 :: (.one (.ptr h.next 0 0)) :: (.one s) :: (.one (ii i)) :: j 6 :: j 7 :: j 8 :: j 9 :: j 10 :: j 11 :: j 12 :: j 13 :: j 14 :: j 15 :: j 16 :: j 17 :: j 18 :: j 19 :: j 20 :: j 21 :: j 22 :: j 23 :: j 24 :: j 25 :: j 26 :: j 27 :: j 28 :: j 29 :: j 30 :: j 31 :: j 32 :: j 33 :: j 34 :: j 35 :: j 36 :: j 37 :: j 38 :: j 39 :: []) := ⟨_, rfl⟩
  refine does_count hp m.cached.length I ?_ ?_ _ _ (by rw [hI]; exact ⟨.nilslc, grown_nil _ _ _, by simp, by simp, fun b hb => by rw [new_at, if_neg (by omega)], by simp [ownB], ex_get' (by simp)⟩)
  · intro i fr hh hi2 hx
    rw [hI] at hx
    obtain ⟨s, gr, hbx, hn1, hkp, ho, j, rfl⟩ := hx
    rcases hsl with ⟨rfl, e0⟩ | ⟨b, v, z, rfl, ar⟩
    · rw [e0] at hi2; simp at hi2
    have hbn := ar.1
    have hfp : hh.f p = some ⟨0, [30], true, M⟩ := by rw [hkp p hpn]; exact hf
    obtain ⟨fx, ex, Z, hfb, _, _, hrd, _⟩ := (ar.keep (by omega) (hkp b hbn)).cells len_tablet
    obtain ⟨q1, q2⟩ := hrd i hi2
    have hix := arr_index (P := Tryz.prog) (size := 4) (b := b) (v := v) (n := m.cached.length) (i := i) Tryz.underlying66 (by simp) (by omega) hi2
    have hw : IntKind.i64.wrap ((i : Int) + 1) = (i : Int) + 1 := step_wrap (by omega)
    have hlt : decide ((i : Int) < m.cached.length) = true := by simp; omega
    have hlt2 : (i : Int) < m.cached.length := by omega
    have ht := take_snoc m.cached hi2
    generalize m.cached[i] = x at *
    have q3 : sub Z (i * 4) 2 = some [.str x.span.lo, .str x.span.hi] := by
      have := sub_part q2 (o := 0) (n := 2) (by omega)
      rw [Nat.add_zero] at this; rw [this]; rfl
    have q4 : i * 4 + 2 ≤ Z.length := by omega
    have hmt := refMeet_c x.span.lo x.span.hi lo hi
    rw [show (⟨x.span.lo, x.span.hi⟩ : Span) = x.span from rfl] at hmt
    obtain ⟨s', h2, e1, gr2, n1, k1, k2⟩ := grow_one (P := Tryz.prog) (t := 66) Tryz.underlying66 (by simp) (by simp) Tryz.bytes99 (by omega) len_tablet gr x (by have := List.length_filter_le (fun t : Tablet => !meet7 t.span ⟨lo, hi⟩) (m.cached.take i); simp only [List.length_take, limit] at *; omega) (cells := encTablet x) rfl
    have hne5 : ¬ hh.next = h.next := by omega
    subst hB
    by_cases hmm : meet7 x.span ⟨lo, hi⟩ = true
    · rw [hmm] at hmt
      clear e1 gr2
      first | (refine hide ?_; intro Q2 hQ2) | have hQ2 := True.intro
      repeat' (first
        | (replace hQ2 := hQ2; simp [hfp, hbx, hfb, hix, q1, q2, q3, q4, g17, gl, hmt, hw, hlt, hlt2])
        | (refine hQ2 _ _ _ ?_; clear hQ2 Q2; first | simp only [] | simp [hfp, hbx, hfb, hix, q1, q2, q3, q4, g17, gl, hmt, hw, hlt, hlt2] | skip)
        | (refine hadQ (by assumption) ?_; (try clear hQ2); first | simp only [] | simp [hfp, hbx, hfb, hix, q1, q2, q3, q4, g17, gl, hmt, hw, hlt, hlt2] | skip)
        | ((fail_if_success replace hQ2 := hQ2); (first | refine hide ?_ | refine hideS ?_ | refine hideB ?_); intro Q2 hQ2)
        | refine dF (id := 5) [0, 1, 2, 3, 4, 5, 6, 7, 8, 9, 10] [] ?_
        | (first | apply cF | apply wN | apply wS) <;> intro hcnd <;> (try simp only [hcnd]) <;> (try simp [-List.isEmpty_iff, -List.isEmpty_eq_false_iff] at hcnd))
      all_goals (rw [hI]; exact ⟨s, by rw [ht, List.filter_append]; simpa [hmm] using gr, hbx, hn1, hkp, ho, ex_get' (by simp)⟩)
    · have hmm' : meet7 x.span ⟨lo, hi⟩ = false := by simpa using hmm
      rw [hmm'] at hmt
      first | (refine hide ?_; intro Q3 hQ3) | have hQ3 := True.intro
      repeat' (first
        | (replace hQ3 := hQ3; simp [hfp, hbx, hfb, hix, q1, q2, q3, q4, g17, gl, hmt, hw, hlt, hlt2, e1, len_tablet])
        | (refine hQ3 _ _ _ ?_; clear hQ3 Q3; first | simp only [] | simp [hfp, hbx, hfb, hix, q1, q2, q3, q4, g17, gl, hmt, hw, hlt, hlt2, e1, len_tablet] | skip)
        | (refine hadQ (by assumption) ?_; (try clear hQ3); first | simp only [] | simp [hfp, hbx, hfb, hix, q1, q2, q3, q4, g17, gl, hmt, hw, hlt, hlt2, e1, len_tablet] | skip)
        | ((fail_if_success replace hQ3 := hQ3); (first | refine hide ?_ | refine hideS ?_ | refine hideB ?_); intro Q3 hQ3)
        | refine dF (id := 5) [0, 1, 2, 3, 4, 5, 6, 7, 8, 9, 10] [] ?_
        | (first | apply cF | apply wN | apply wS) <;> intro hcnd <;> (try simp only [hcnd]) <;> (try simp [-List.isEmpty_iff, -List.isEmpty_eq_false_iff] at hcnd))
      all_goals (
        rw [hI]
        refine ⟨s', by rw [ht, List.filter_append]; simpa [hmm'] using gr2, ?_, by omega, fun c hc => ?_, fun c hc => ?_, ex_get' (by simp)⟩
        · rw [k1 h.next (by omega) (fun e => by have := ho _ e; omega)]; exact hbx
        · rw [k1 c (by omega) (fun e => by have := ho _ e; omega)]; exact hkp c hc
        · rcases k2 c hc with e | e
          · exact ho c e
          · omega)
  · intro fr hh hx
    rw [hI] at hx
    obtain ⟨s, gr, hbx, hn1, hkp, ho, j, rfl⟩ := hx
    rw [List.take_length] at gr
    have hfp : hh.f p = some ⟨0, [30], true, M⟩ := by rw [hkp p hpn]; exact hf
    have hlay2 := hlay (m.cached.filter fun t => !meet7 t.span ⟨lo, hi⟩) s
    have hos2 : ownB s ≠ some p := fun e => by have := ho _ e; omega
    have hq : P (.tup []) (hh.set p ⟨0, [30], true, mdC { m with cached := m.cached.filter fun t => !meet7 t.span ⟨lo, hi⟩ } s⟩) := by
      refine hP _ _ ⟨rfl, ⟨by simp; omega, s, by simp, (owns_arr (by omega) len_tablet gr.1).keep (by simp) fun c hc => by rw [set_at, if_neg (fun (e : c = p) => hos2 (by rw [← e]; exact hc))], hos2⟩, by simp; omega, fun c hc hcp _ => by rw [set_at, if_neg hcp]; exact hkp c hc, fun c hc => ?_⟩
      rw [mdQ_at (m := { m with cached := m.cached.filter fun t => !meet7 t.span ⟨lo, hi⟩ }) (s := s) (by simp)] at hc
      exact .inr (by have := ho c hc; omega)
    first | (refine hide ?_; intro Q4 hQ4) | have hQ4 := True.intro
    repeat' (first
      | (replace hQ4 := hQ4; simp [hfp, g17, gl, hlen, hlay2])
      | (refine hQ4 _ _ _ ?_; clear hQ4 Q4; first | simp only [] | simp [hfp, g17, gl, hlen, hlay2] | skip)
      | (refine hadQ (by assumption) ?_; (try clear hQ4); first | simp only [] | simp [hfp, g17, gl, hlen, hlay2] | skip)
      | ((fail_if_success replace hQ4 := hQ4); (first | refine hide ?_ | refine hideS ?_ | refine hideB ?_); intro Q4 hQ4)
      | refine dF (id := 5) [0, 1, 2, 3, 4, 5, 6, 7, 8, 9, 10] [] ?_
      | (first | apply cF | apply wN | apply wS) <;> intro hcnd <;> (try simp only [hcnd]) <;> (try simp [-List.isEmpty_iff, -List.isEmpty_eq_false_iff] at hcnd))
    all_goals first | exact hq | trace_state
end Go.Proofs.YtmhbdpgflomihaaGreat
