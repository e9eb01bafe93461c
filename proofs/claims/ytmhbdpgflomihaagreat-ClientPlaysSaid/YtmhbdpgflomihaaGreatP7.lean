/- A part of a proof over the abstract machine. No conditions. -/
import Derived.Test.YtmhbdpgflomihaaGreatP6
namespace Go.Proofs.YtmhbdpgflomihaaGreat
open Go Go.Ab Wm NumPlain
set_option linter.unusedSimpArgs false
set_option linter.unnecessarySimpa false
set_option linter.unusedVariables false
set_option maxRecDepth 10000
set_option maxHeartbeats 4000000
theorem blt_trans {a b c : BL} (h : blt a b = true) (k : blt b c = true) : blt a c = true := less_trans h k
theorem blt_irr (a : BL) : blt a a = false := less_irrefl a
theorem blt_nlt {a b c : BL} (h : blt a b = false) (k : blt a c = true) : blt b c = true := by
  cases hbc : blt b c
  · cases hcb : blt c b
    · have := less_total hbc hcb; subst this; exact absurd k (by rw [h]; simp)
    · have := blt_trans k hcb; rw [h] at this; cases this
  · rfl
theorem meet7_comm (a b : Span) : meet7 a b = meet7 b a := by
  unfold meet7
  cases spanOk a <;> cases spanOk b <;> simp [Bool.and_comm]
theorem meet_of {a b : Span} {r : BL} (ha : spanOk a = true) (hb : spanOk b = true) (h1 : hasName a r = true) (h2 : hasName b r = true) : meet7 a b = true := by
  simp only [hasName, Bool.and_eq_true, Bool.not_eq_true', Bool.or_eq_true, beq_iff_eq] at h1 h2
  obtain ⟨a1, a2⟩ := h1
  obtain ⟨b1, b2⟩ := h2
  simp only [meet7, ha, hb, Bool.true_and, Bool.and_eq_true, Bool.or_eq_true, beq_iff_eq]
  refine ⟨a2.imp id fun h => ?_, b2.imp id fun h => ?_⟩
  · exact blt_nlt b1 h
  · exact blt_nlt a1 h
theorem has_lo {a : Span} (ha : spanOk a = true) : hasName a a.lo = true := by
  simp only [spanOk, Bool.and_eq_true, Bool.or_eq_true, beq_iff_eq] at ha
  simp only [hasName, Bool.and_eq_true, Bool.not_eq_true', Bool.or_eq_true, beq_iff_eq, blt_irr, true_and]
  exact ha.2
theorem meet_self {a : Span} (ha : spanOk a = true) : meet7 a a = true := meet_of ha ha (has_lo ha) (has_lo ha)
theorem meet_lo {a b : Span} (ha : spanOk a = true) (hb : spanOk b = true) (h : a.lo = b.lo) : meet7 a b = true := meet_of ha hb (has_lo ha) (by rw [h]; exact has_lo hb)
theorem meet_eq (a b : Span) : meetOk a b = meet7 a b := by
  cases ha : spanOk a
  · simp [meetOk, meet7, ha]
  cases hb : spanOk b
  · simp [meetOk, meet7, ha, hb]
  rw [Bool.eq_iff_iff]
  constructor
  · intro h
    simp only [meetOk, ha, hb, Bool.true_and, Bool.and_eq_true] at h
    exact meet_of ha hb h.1 h.2
  · intro h
    have la := has_lo ha
    have lb := has_lo hb
    simp only [meet7, ha, hb, Bool.true_and, Bool.and_eq_true, Bool.or_eq_true, beq_iff_eq] at h
    obtain ⟨h1, h2⟩ := h
    simp only [meetOk, ha, hb, Bool.true_and, Bool.and_eq_true, maxB]
    cases hm : Op.bytesLess a.lo b.lo
    · have hm2 : blt a.lo b.lo = false := hm
      simp only [Bool.false_eq_true, if_false]
      refine ⟨la, ?_⟩
      simp only [hasName, Bool.and_eq_true, Bool.not_eq_true', Bool.or_eq_true, beq_iff_eq]
      exact ⟨hm2, h2⟩
    · have hm2 : blt a.lo b.lo = true := hm
      simp only [if_true]
      refine ⟨?_, lb⟩
      simp only [hasName, Bool.and_eq_true, Bool.not_eq_true', Bool.or_eq_true, beq_iff_eq]
      exact ⟨less_asymm hm2, h1⟩
def rows9 : List BL := [] :: rowNames
theorem rows9_len {s : BL} (h : s ∈ rows9) : s.length ≤ 2 := by
  have : ∀ s ∈ rows9, s.length ≤ 2 := by decide
  exact this s h
theorem keepRow_mem (n : Int) : keepRow n ∈ rows9 := List.mem_cons_of_mem _ (pickN_mem (by decide) n)
structure Good (l : List Tablet) : Prop where
  ok : ∀ t ∈ l, spanOk t.span = true ∧ 0 < t.gen ∧ 0 < t.group ∧ t.span.lo ∈ rows9
  ap : l.Pairwise fun a b => meet7 a.span b.span = false
theorem Good.perm {l l' : List Tablet} (g : Good l) (p : l.Perm l') : Good l' :=
  ⟨fun t ht => g.ok t (p.mem_iff.2 ht), (p.pairwise_iff (fun {a b} h => by rw [meet7_comm]; exact h)).1 g.ap⟩
theorem Good.one : ∀ {l : List Tablet}, Good l → ∀ {r : BL} {a b : Tablet}, a ∈ l → b ∈ l → hasName a.span r = true → hasName b.span r = true → a = b
  | [], _, _, _, _, ha, _, _, _ => by cases ha
  | x :: l, g, r, a, b, ha, hb, h1, h2 => by
    have g' : Good l := ⟨fun t ht => g.ok t (by simp [ht]), (List.pairwise_cons.1 g.ap).2⟩
    have gx := (List.pairwise_cons.1 g.ap).1
    have ox := (g.ok x (by simp)).1
    rcases List.mem_cons.1 ha with e1 | ha2
    · rcases List.mem_cons.1 hb with e2 | hb2
      · rw [e1, e2]
      · have := gx b hb2; rw [meet_of ox (g'.ok b hb2).1 (by rw [← e1]; exact h1) h2] at this; cases this
    · rcases List.mem_cons.1 hb with e2 | hb2
      · have := gx a ha2; rw [meet_of ox (g'.ok a ha2).1 (by rw [← e2]; exact h2) h1] at this; cases this
      · exact g'.one ha2 hb2 h1 h2
theorem find_perm {l l' : List Tablet} (p : l.Perm l') (g : Good l) (r : BL) : l.find? (fun t => hasName t.span r) = l'.find? (fun t => hasName t.span r) := by
  cases h : l.find? (fun t => hasName t.span r) with
  | none =>
    rw [eq_comm, List.find?_eq_none]
    intro x hx
    exact List.find?_eq_none.1 h x (p.mem_iff.2 hx)
  | some t =>
    have h1 := List.mem_of_find?_eq_some h
    have h2 := List.find?_some h
    cases k : l'.find? (fun t => hasName t.span r) with
    | none => exact absurd h2 (List.find?_eq_none.1 k t (p.mem_iff.1 h1))
    | some t' =>
      have k1 := List.mem_of_find?_eq_some k
      have k2 := List.find?_some k
      rw [g.one h1 (p.mem_iff.2 k1) h2 k2]
theorem nodup_len {l : List BL} : ∀ {m : List BL}, l.Nodup → (∀ x ∈ l, x ∈ m) → l.length ≤ m.length := by
  induction l with
  | nil => intro m _ _; simp
  | cons a l ih =>
    intro m hn hs
    have ha := hs a (by simp)
    have := ih (m := m.erase a) (List.nodup_cons.1 hn).2 (fun x hx => by
      have hne : x ≠ a := fun e => (List.nodup_cons.1 hn).1 (e ▸ hx)
      exact (List.mem_erase_of_ne hne).2 (hs x (by simp [hx])))
    rw [List.length_erase_of_mem ha] at this
    have hm : 0 < m.length := List.length_pos_of_mem ha
    simp only [List.length_cons]; omega
theorem Good.los {l : List Tablet} (g : Good l) : (l.map fun t => t.span.lo).Nodup := by
  rw [List.Nodup, List.pairwise_map]
  have : ∀ {l : List Tablet}, (∀ t ∈ l, spanOk t.span = true) → l.Pairwise (fun a b => meet7 a.span b.span = false) → l.Pairwise fun a b => a.span.lo ≠ b.span.lo := by
    intro l ho hp
    induction l with
    | nil => exact .nil
    | cons x l ih =>
      obtain ⟨h1, h2⟩ := List.pairwise_cons.1 hp
      refine List.pairwise_cons.2 ⟨fun b hb e => ?_, ih (fun t ht => ho t (by simp [ht])) h2⟩
      have := h1 b hb
      rw [meet_lo (ho x (by simp)) (ho b (by simp [hb])) e] at this; cases this
  exact this (fun t ht => (g.ok t ht).1) g.ap
theorem Good.len {l : List Tablet} (g : Good l) : l.length ≤ 9 := by
  have := nodup_len (m := rows9) g.los (fun x hx => by obtain ⟨t, ht, rfl⟩ := List.mem_map.1 hx; exact (g.ok t ht).2.2.2)
  simpa [rows9, rowNames] using this
def Srt (l : List Tablet) : Prop := l.Pairwise fun a b => blt a.span.lo b.span.lo = true
theorem ltT_iff (x y : Tablet) : ltT x y = blt x.span.lo y.span.lo := by
  unfold ltT cmpL blt
  cases h1 : Op.bytesLess x.span.lo y.span.lo <;> cases h2 : Op.bytesLess y.span.lo x.span.lo <;> simp <;> (split <;> simp)
theorem srt_ins {s : List Tablet} {x : Tablet} (hs : Srt s) (hx : ∀ t ∈ s, t.span.lo ≠ x.span.lo) : Srt (ins ltT x s) := by
  obtain ⟨a, b, rfl, h2, h3, h4⟩ := ins_split ltT x s
  rw [h2]
  obtain ⟨p1, p2, p3⟩ := List.pairwise_append.1 hs
  have hb : ∀ y ∈ b, blt x.span.lo y.span.lo = true := fun y hy => by rw [← ltT_iff]; exact h3 y hy
  have ha : ∀ y ∈ a, blt y.span.lo x.span.lo = true := by
    rcases List.eq_nil_or_concat a with rfl | ⟨a', w, rfl⟩
    · intro y hy; cases hy
    · rw [List.concat_eq_append] at *
      have hw := h4 w (by simp)
      rw [ltT_iff] at hw
      have hw2 : blt w.span.lo x.span.lo = true := by
        cases hq : blt w.span.lo x.span.lo
        · exact absurd (less_total hq hw) (hx w (by simp))
        · rfl
      intro y hy
      rcases List.mem_append.1 hy with hy | hy
      · exact blt_trans ((List.pairwise_append.1 p1).2.2 y hy w (by simp)) hw2
      · rw [List.mem_singleton.1 hy]; exact hw2
  refine List.pairwise_append.2 ⟨p1, List.pairwise_cons.2 ⟨hb, p2⟩, fun y hy z hz => ?_⟩
  rcases List.mem_cons.1 hz with rfl | hz
  · exact ha y hy
  · exact p3 y hy z hz
theorem srt_isort {s : List Tablet} {x : Tablet} (hs : Srt s) (hx : ∀ t ∈ s, t.span.lo ≠ x.span.lo) : isort ltT s = s → Srt (isort ltT (s ++ [x])) := by
  intro e
  rw [isort_snoc, e]
  exact srt_ins hs hx
theorem isort_srt : ∀ {s : List Tablet}, Srt s → isort ltT s = s := by
  intro s
  refine snoc_ind (P := fun s => Srt s → isort ltT s = s) (fun _ => rfl) (fun u y ih hs => ?_) s
  obtain ⟨p1, _, p3⟩ := List.pairwise_append.1 hs
  rw [isort_snoc, ih p1]
  rcases List.eq_nil_or_concat u with rfl | ⟨u', w, rfl⟩
  · rfl
  · rw [List.concat_eq_append] at *
    rw [ins_snoc, ltT_iff, if_neg]
    · simp
    · have := p3 w (by simp) y (by simp)
      rw [show blt y.span.lo w.span.lo = false from less_asymm this]; simp
theorem filter_one {a r : List Tablet} {t : Tablet} (g : Good (a ++ t :: r)) : (a ++ t :: r).filter (fun x => !meet7 x.span t.span) = a ++ r := by
  obtain ⟨_, p2, p3⟩ := List.pairwise_append.1 g.ap
  have p4 := (List.pairwise_cons.1 p2).1
  rw [List.filter_append, List.filter_cons, meet_self (g.ok t (by simp)).1]
  rw [List.filter_eq_self.2 (fun x hx => by rw [p3 x hx t (by simp)]; rfl), List.filter_eq_self.2 (fun x hx => by rw [meet7_comm, p4 x hx]; rfl)]
  rfl
theorem good_add {l : List Tablet} (g : Good l) {t : Tablet} (ht : spanOk t.span = true ∧ 0 < t.gen ∧ 0 < t.group ∧ t.span.lo ∈ rows9) : Good ((l.filter fun x => !meet7 x.span t.span) ++ [t]) := by
  refine ⟨fun x hx => ?_, List.pairwise_append.2 ⟨g.ap.filter _, List.pairwise_singleton _ _, fun x hx y hy => ?_⟩⟩
  · rcases List.mem_append.1 hx with hx | hx
    · exact g.ok x ((List.mem_filter.1 hx).1)
    · rw [List.mem_singleton.1 hx]; exact ht
  · rw [List.mem_singleton.1 hy]
    have := (List.mem_filter.1 hx).2
    simpa using this
theorem good_filter {l : List Tablet} (g : Good l) (p : Tablet → Bool) : Good (l.filter p) := ⟨fun t ht => g.ok t ((List.mem_filter.1 ht).1), g.ap.filter _⟩
end Go.Proofs.YtmhbdpgflomihaaGreat
