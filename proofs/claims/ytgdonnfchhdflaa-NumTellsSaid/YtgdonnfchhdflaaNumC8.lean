/- A part of a proof over the abstract machine. No conditions. -/
import Derived.Test.YtgdonnfchhdflaaNumC5
import Derived.Test.YtgdonnfchhdflaaNumC7
/- chapter 1: tells -/
namespace Go.Proofs.Ytgdonnfchhdflaa
open Go Go.Ab NumPlain
set_option linter.unusedSimpArgs false
set_option linter.unnecessarySimpa false
set_option linter.unusedVariables false
set_option maxRecDepth 10000
set_option maxHeartbeats 2000000

/-- floats that are read, whatever else is there -/
def AnyF (s : AS) (us : List Nat) : Prop := (s = .nilslc ∧ us = []) ∨ s = .vs us.length 1 (us.map AS.flt)
theorem anyF_sees {s : AS} {us : List Nat} (hs : AnyF s us) (h : H) : SeesF h s us := by
  rcases hs with ⟨rfl, rfl⟩ | rfl
  · rfl
  · exact ⟨rfl, rfl, by simp⟩
theorem append_any {h : H} {s : AS} {cells new : List AS} {n m : Nat} (ho : Owns h 1 s cells) (hn : cells.length = n) (hnew : new.length = m) (hlim : (n + m + 600) * 8 + (n + m) ≤ limit) :
    ∃ s' h', appendL 1 8 m new h s = some (s', h') ∧ Sees h' 1 s' (cells ++ new) := by
  rcases Nat.eq_zero_or_pos m with rfl | hm
  · have : new = [] := List.eq_nil_of_length_eq_zero hnew
    subst this
    refine ⟨s, h, ?_, by simpa using ho.sees⟩
    unfold appendL
    cases s <;> simp only [Owns] at ho
    · simp
    · obtain ⟨_, rfl, _⟩ := ho
      simp
  · obtain ⟨s', h', a1, a2, _⟩ := append_own (size := 1) (bytes := 8) (n := n) (m := m) (new := new) ho (by decide) (by simp [hn]) hm (by simp [hnew]) hlim
    exact ⟨s', h', a1, a2.sees⟩
/-- at most twelve of them -/
theorem tells_c (a b x y : Nat) (n m : Int) (s0 : AS) (us : List Nat) (ha : a < 2 ^ 64) (hb : b < 2 ^ 64) (hx : x < 2 ^ 64) (hy : y < 2 ^ 64) (hn1 : -9223372036854775808 ≤ n) (hn2 : n < 9223372036854775808) (hm1 : -9223372036854775808 ≤ m) (hm2 : m < 9223372036854775808) (hs : AnyF s0 us) (hus : ∀ u ∈ us, u < 2 ^ 64) (hlen : us.length < 9223372036854775808) (h : H) :
    ∃ h', W K 8 [.one (.int .u64 a), .one (.int .u64 b), .one (.flt x), .one (.flt y), .one (.int .i64 n), .one (.int .i64 m), .one s0] h = some (.ret (.one (.bool true)) h') := by
  have fa := frombits_n a
  have fb := frombits_n b
  obtain ⟨p, hp1, hp2⟩ := float_c n hn1 hn2 x hx
  obtain ⟨q, hq1, hq2⟩ := float_c m hm1 hm2 y hy
  have t1 := two_c a b ha hb
  have t2 := two_c x y hx hy
  have t3 := two_c p q hp1 hq1
  have t4 := two_c p a hp1 ha
  have f1 := from_c a
  have f2 := rfrom_c a ha
  have hl0 := sf_len (anyF_sees hs h)
  have hz := sf_size (anyF_sees hs h)
  suffices hx : ∃ r, W K 8 [.one (.int .u64 a), .one (.int .u64 b), .one (.flt x), .one (.flt y), .one (.int .i64 n), .one (.int .i64 m), .one s0] h = some r ∧ ∃ h', r = .ret (.one (.bool true)) h' by
    obtain ⟨r, hr, h', rfl⟩ := hx; exact ⟨h', hr⟩
  have main : ∃ (s1 : AS) (vs : List Nat), (∀ h, SeesF h s1 vs) ∧ (∀ v ∈ vs, v < 2 ^ 64) ∧ vs.length ≤ 12 ∧ ((us.length ≤ 12 ∧ s1 = s0) ∨ (12 < us.length ∧ s1 = cutS 1 s0 0 12)) := by
    by_cases hc : us.length ≤ 12
    · exact ⟨s0, us, anyF_sees hs, hus, hc, .inl ⟨hc, rfl⟩⟩
    · refine ⟨cutS 1 s0 0 12, us.take 12, fun h => ?_, fun v hv => hus v (List.mem_of_mem_take hv), by simp; omega, .inr ⟨by omega, rfl⟩⟩
      have := sf_cut (anyF_sees hs h) (l := 0) (u := 12) (by omega) (by omega)
      simpa using this
  obtain ⟨s1, vs, hv1, hv2, hv3, hcase⟩ := main
  have hli : ∀ h, W K 27 [.one s1] h = some (.ret (.one (.bool true)) h) := fun h => lists_c h s1 vs (hv1 h) hv2 (by omega)
  have hown := owns_made h 1 2 [AS.flt p, AS.flt q] true rfl
  obtain ⟨x2, h2, a1, a2⟩ := append_any (n := 2) (m := vs.length) (new := vs.map AS.flt) hown rfl (by simp) (by unfold limit; omega)
  have hap : appendA Try.prog 39 39 (h.new (blkOf [AS.flt p, AS.flt q] true)) (.slc h.next 0 0 2 1 none) s1 = some (x2, h2) := by
    rw [append_slice Try.elem39 Try.size23 Try.bytes23 Try.underlying39 (m := vs.length) (new := vs.map AS.flt)]
    · exact a1
    · exact sees_len (hv1 h) (by decide) (by simp)
    · exact sees_elems (n := vs.length) (hv1 _) (by decide) (by simp)
  have a3 : SeesF h2 x2 (p :: q :: vs) := a2
  have hli2 := lists_c h2 x2 (p :: q :: vs) a3 (by
    intro v hv
    rcases List.mem_cons.1 hv with rfl | hv
    · exact hp1
    · rcases List.mem_cons.1 hv with rfl | hv
      · exact hq1
      · exact hv2 v hv) (by simp; omega)
  rcases hcase with ⟨hc, rfl⟩ | ⟨hc, rfl⟩
  · have hc' : ¬ ((12 : Int) < us.length) := by omega
    refine W_doesQ hp rfl rfl rfl Try.func8 rfl (by simp [Try.f8]) ?_
    simp only [Try.f8, List.length_cons, List.length_nil, List.replicate, List.cons_append, List.nil_append, Nat.reduceAdd, Nat.reduceSub]
    repeat' (first
      | (rw [doesO_cons]; simp [hl0, hc', fa, fb, hp2, hq2, t1, t2, t3, t4, hli, hap, hli2, f1, f2, bits18_c, known_c])
      | (rw [doesO_nil']; refine hQ' _ _ _ ?_; clear hQ' Q'; simp only [])
      | refine does_seq hp ?_
      | (refine does_gen hp ?_; intro Q' hQ')
      | refine does_block hp ?_
      | (refine does_ret hp ?_; simp [hl0, hc', fa, fb, hp2, hq2, t1, t2, t3, t4, hli, hap, hli2, f1, f2, bits18_c, known_c])
      | (refine does_skip hp ?_; simp [hl0, hc', fa, fb, hp2, hq2, t1, t2, t3, t4, hli, hap, hli2, f1, f2, bits18_c, known_c])
      | (refine does_exit hp ?_; simp [hl0, hc', fa, fb, hp2, hq2, t1, t2, t3, t4, hli, hap, hli2, f1, f2, bits18_c, known_c])
      | (refine does_cond' hp ?_; simp [hl0, hc', fa, fb, hp2, hq2, t1, t2, t3, t4, hli, hap, hli2, f1, f2, bits18_c, known_c]; done)
      | (refine does_cond' hp ?_; simp [hl0, hc', fa, fb, hp2, hq2, t1, t2, t3, t4, hli, hap, hli2, f1, f2, bits18_c, known_c]; refine fork (fun hcnd => ?_) (fun hcnd => ?_) <;> (try simp at hcnd))
      | (refine does_cond' hp ?_; simp [hl0, hc', fa, fb, hp2, hq2, t1, t2, t3, t4, hli, hap, hli2, f1, f2, bits18_c, known_c]))
  · have hc' : ((12 : Int) < us.length) := by omega
    have hsl : sliceA h 1 s0 none (some (.one (.int .i64 12))) none = some (cutS 1 s0 0 12) := sees_slice (anyF_sees hs h) (by decide) (n := us.length) (by simp) rfl rfl (by omega) (by omega)
    generalize cutS 1 s0 0 12 = s1 at *
    refine W_doesQ hp rfl rfl rfl Try.func8 rfl (by simp [Try.f8]) ?_
    simp only [Try.f8, List.length_cons, List.length_nil, List.replicate, List.cons_append, List.nil_append, Nat.reduceAdd, Nat.reduceSub]
    repeat' (first
      | (rw [doesO_cons]; simp [hl0, hc', hz, hsl, fa, fb, hp2, hq2, t1, t2, t3, t4, hli, hap, hli2, f1, f2, bits18_c, known_c])
      | (rw [doesO_nil']; refine hQ' _ _ _ ?_; clear hQ' Q'; simp only [])
      | refine does_seq hp ?_
      | (refine does_gen hp ?_; intro Q' hQ')
      | refine does_block hp ?_
      | (refine does_ret hp ?_; simp [hl0, hc', hz, hsl, fa, fb, hp2, hq2, t1, t2, t3, t4, hli, hap, hli2, f1, f2, bits18_c, known_c])
      | (refine does_skip hp ?_; simp [hl0, hc', hz, hsl, fa, fb, hp2, hq2, t1, t2, t3, t4, hli, hap, hli2, f1, f2, bits18_c, known_c])
      | (refine does_exit hp ?_; simp [hl0, hc', hz, hsl, fa, fb, hp2, hq2, t1, t2, t3, t4, hli, hap, hli2, f1, f2, bits18_c, known_c])
      | (refine does_cond' hp ?_; simp [hl0, hc', hz, hsl, fa, fb, hp2, hq2, t1, t2, t3, t4, hli, hap, hli2, f1, f2, bits18_c, known_c]; done)
      | (refine does_cond' hp ?_; simp [hl0, hc', hz, hsl, fa, fb, hp2, hq2, t1, t2, t3, t4, hli, hap, hli2, f1, f2, bits18_c, known_c]; refine fork (fun hcnd => ?_) (fun hcnd => ?_) <;> (try simp at hcnd))
      | (refine does_cond' hp ?_; simp [hl0, hc', hz, hsl, fa, fb, hp2, hq2, t1, t2, t3, t4, hli, hap, hli2, f1, f2, bits18_c, known_c]))
end Go.Proofs.Ytgdonnfchhdflaa
