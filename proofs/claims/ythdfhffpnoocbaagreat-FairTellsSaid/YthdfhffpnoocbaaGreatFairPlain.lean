/- A part of a proof over the abstract machine. No conditions. -/

namespace FairPlain
structure It where
  k : Int
  g : Int
  n : Int
  c : Int
  deriving DecidableEq, Inhabited
def asked (x : It) : It := if x.k = 1 then (if x.n = 100 then ⟨x.k, 0, x.n, 0⟩ else if x.n = 101 then ⟨x.k, 0, x.n, x.c⟩ else ⟨x.k, x.g, x.n, 0⟩) else ⟨x.k, 0, 0, 0⟩
def same (a b : It) : Bool :=
  if a.k ≠ b.k then false
  else if a.k = 1 ∧ a.n = 100 then decide (b.n = 100)
  else if a.k = 1 ∧ a.n = 101 then decide (b.n = 101 ∧ a.c = b.c)
  else decide (a.k ≠ 1 ∨ (a.n = b.n ∧ a.g = b.g))
def ticks (G N : Nat) : List It := (List.range (G + 1)).flatMap fun g => (List.range N).map fun (i : Nat) => (⟨1, (g : Nat), i, 0⟩ : It)
def round (G N K : Nat) : List It := ticks G N ++ ([⟨1, 0, 100, 0⟩] ++ ((List.range K).map (fun (k : Nat) => (⟨1, 0, 101, k⟩ : It)) ++ [⟨8, 0, 0, 0⟩]))
inductive Good : It → Prop
  | rep (g i : Int) : i ≠ 100 → i ≠ 101 → Good ⟨1, g, i, 0⟩
  | mov : Good ⟨1, 0, 100, 0⟩
  | ask (k : Int) : Good ⟨1, 0, 101, k⟩
  | set : Good ⟨8, 0, 0, 0⟩
theorem good {G N K : Nat} (hN : N ≤ 3) : ∀ x ∈ round G N K, Good x := by
  intro x hx
  simp only [round, ticks, List.mem_append, List.mem_flatMap, List.mem_map, List.mem_range, List.mem_singleton] at hx
  rcases hx with ⟨g, _, i, hi, rfl⟩ | rfl | ⟨k, _, rfl⟩ | rfl
  · exact .rep _ _ (by omega) (by omega)
  · exact .mov
  · exact .ask _
  · exact .set
theorem len (G N K : Nat) : (round G N K).length = (G + 1) * N + K + 2 := by
  have : (ticks G N).length = (G + 1) * N := by
    unfold ticks
    rw [List.length_flatMap]
    simp only [List.length_map, List.length_range]
    have h : ∀ m, ((List.range m).map fun _ => N).sum = m * N := by
      intro m
      induction m with
      | zero => simp
      | succ m ih => rw [List.range_succ, List.map_append, List.sum_append, ih]; simp [Nat.succ_mul]
    exact h _
  unfold round
  simp only [List.length_append, this, List.length_map, List.length_range, List.length_cons, List.length_nil]
  omega
theorem asked_good {x : It} (h : Good x) : asked x = x := by
  cases h <;> simp_all [asked]
theorem apart {x b : It} (h : Good x) (hs : same x b = false) : asked b ≠ x := by
  intro e
  obtain ⟨bk, bg, bn, bc⟩ := b
  cases h with
  | rep g i h1 h2 =>
    simp only [asked] at e
    simp only [same] at hs
    split at e
    · split at e
      · simp only [It.mk.injEq] at e; omega
      · split at e
        · simp only [It.mk.injEq] at e; omega
        · simp only [It.mk.injEq] at e
          obtain ⟨e1, e2, e3, _⟩ := e
          subst e1; subst e2; subst e3
          simp [h1, h2] at hs
    · simp only [It.mk.injEq] at e; rename_i h3; exact h3 e.1
  | mov =>
    simp only [asked] at e
    simp only [same] at hs
    split at e
    · rename_i h3
      subst h3
      split at e
      · rename_i h4; subst h4; simp at hs
      · split at e <;> simp only [It.mk.injEq] at e <;> omega
    · simp only [It.mk.injEq] at e; rename_i h3; exact h3 e.1
  | ask k =>
    simp only [asked] at e
    simp only [same] at hs
    split at e
    · rename_i h3
      subst h3
      split at e
      · simp only [It.mk.injEq] at e; omega
      · split at e
        · rename_i h4
          subst h4
          simp only [It.mk.injEq] at e
          obtain ⟨_, _, _, rfl⟩ := e
          simp at hs
        · simp only [It.mk.injEq] at e; omega
    · simp only [It.mk.injEq] at e; rename_i h3; exact h3 e.1
  | set =>
    simp only [asked] at e
    simp only [same] at hs
    split at e
    · rename_i h3
      subst h3
      split at e
      · simp only [It.mk.injEq] at e; omega
      · split at e <;> simp only [It.mk.injEq] at e <;> omega
    · simp only [It.mk.injEq] at e
      have := e.1
      subst this
      simp at hs
def fits (r : List It) : Nat → List It → Bool
  | _, [] => true
  | i, x :: l => match r[i % r.length]? with
    | some z => if asked x = z then fits r (i + 1) l else false
    | none => false
def fair (r l : List It) : Bool := if r.length = 0 ∨ l.length = 0 ∨ l.length % r.length ≠ 0 then false else fits r 0 l
def reps (r : List It) : Nat → List It
  | 0 => []
  | t + 1 => reps r t ++ r
theorem reps_len (r : List It) : ∀ t, (reps r t).length = t * r.length
  | 0 => by simp [reps]
  | t + 1 => by rw [reps, List.length_append, reps_len r t, Nat.succ_mul]
theorem reps_get (r : List It) (hr : 0 < r.length) : ∀ t i, i < t * r.length → (reps r t)[i]? = r[i % r.length]?
  | 0, i, h => by simp at h
  | t + 1, i, h => by
    rw [reps]
    rcases Nat.lt_or_ge i (t * r.length) with h1 | h1
    · rw [List.getElem?_append_left (by rw [reps_len]; exact h1)]
      exact reps_get r hr t i h1
    · rw [List.getElem?_append_right (by rw [reps_len]; exact h1), reps_len]
      have e : i % r.length = i - t * r.length := by
        have h2 : i - t * r.length < r.length := by rw [Nat.succ_mul] at h; omega
        have h3 : i = i - t * r.length + t * r.length := by omega
        rw [h3, Nat.add_mul_mod_self_right, Nat.mod_eq_of_lt (by omega)]
        omega
      rw [e]
theorem fits_iff (r : List It) (hr : 0 < r.length) : ∀ (l : List It) (i : Nat), fits r i l = true ↔ ∀ j x, l[j]? = some x → r[(i + j) % r.length]? = some (asked x)
  | [], i => by simp [fits]
  | y :: l, i => by
    rw [fits]
    have hlt : i % r.length < r.length := Nat.mod_lt _ hr
    rw [List.getElem?_eq_getElem hlt]
    simp only
    constructor
    · intro h
      split at h
      · rename_i he
        intro j x hj
        cases j with
        | zero =>
          simp only [List.getElem?_cons_zero, Option.some.injEq] at hj
          subst hj
          rw [Nat.add_zero, List.getElem?_eq_getElem hlt, he]
        | succ j =>
          have := (fits_iff r hr l (i + 1)).1 h j x (by simpa using hj)
          rw [show i + (j + 1) = i + 1 + j by omega]; exact this
      · cases h
    · intro h
      have h0 := h 0 y rfl
      rw [Nat.add_zero, List.getElem?_eq_getElem hlt] at h0
      simp only [Option.some.injEq] at h0
      rw [if_pos h0.symm]
      exact (fits_iff r hr l (i + 1)).2 fun j x hj => by
        have := h (j + 1) x (by simpa using hj)
        rw [show i + 1 + j = i + (j + 1) by omega]; exact this
theorem fair_reps {r : List It} (hr : 0 < r.length) (hg : ∀ x ∈ r, Good x) {t : Nat} (ht : 0 < t) : fair r (reps r t) = true := by
  have hl := reps_len r t
  unfold fair
  rw [if_neg, fits_iff r hr]
  · intro j x hj
    have h1 := (List.getElem?_eq_some_iff.1 hj).1
    rw [hl] at h1
    rw [reps_get r hr t j h1] at hj
    rw [Nat.zero_add, hj]
    have hm := List.mem_of_getElem? hj
    rw [asked_good (hg x hm)]
  · rw [hl]
    have : 0 < t * r.length := Nat.mul_pos ht hr
    rintro (h | h | h)
    · omega
    · omega
    · exact h (Nat.mul_mod_left _ _)
theorem unfair_set {r : List It} (hr : 0 < r.length) (hg : ∀ x ∈ r, Good x) {t k : Nat} (hk : k < t * r.length) {x b : It} (hx : (reps r t)[k]? = some x) (hs : same x b = false) : fair r ((reps r t).set k b) = false := by
  have hl := reps_len r t
  cases h : fair r ((reps r t).set k b) with
  | false => rfl
  | true =>
    exfalso
    unfold fair at h
    split at h
    · cases h
    · rw [fits_iff r hr] at h
      have h1 := h k b (by rw [List.getElem?_set_self (by rw [hl]; exact hk)])
      rw [Nat.zero_add, ← reps_get r hr t k hk, hx] at h1
      simp only [Option.some.injEq] at h1
      rw [reps_get r hr t k hk] at hx
      exact apart (hg x (List.mem_of_getElem? hx)) hs h1.symm
theorem unfair_short {r l : List It} (h : l.length < r.length) : fair r l = false := by
  unfold fair
  split
  · rfl
  · rename_i hc
    simp only [not_or, Decidable.not_not] at hc
    have := Nat.mod_eq_of_lt h
    omega
end FairPlain
