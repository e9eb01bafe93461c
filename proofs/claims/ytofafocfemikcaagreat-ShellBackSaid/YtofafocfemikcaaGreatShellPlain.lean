/- A part of a proof over the abstract machine. No conditions. -/
namespace ShellPlain
abbrev BL := List UInt8
structure It where
 k : Int
 g : Int
 n : Int
 c : Int
 b : BL
structure Sc where
 g : Int
 n : Int
 c : Int
 l : List It
def small (n : Int) : Bool := decide (0 ≤ n) && decide (n ≤ 255)
def num (n : Int) : Bool := decide (0 ≤ n) && decide (n ≤ 65535)
def okI (x : It) : Bool :=
 if x.k = 1 then small x.g && small x.c && num x.n
 else if x.k = 2 ∨ x.k = 3 ∨ x.k = 4 then num x.n
 else if x.k = 5 then small x.g && num x.n
 else if x.k = 6 then small x.c && decide (x.b.length ≤ 65535)
 else if x.k = 7 then decide (x.b.length ≤ 65535)
 else decide (x.k = 8)
def okS (s : Sc) : Bool := decide (s.l.length ≤ 256) && (small s.g && small s.n && small s.c) && s.l.all okI
def by1 (n : Int) : UInt8 := UInt8.ofNat (n % 256).toNat
def two (n : Int) : BL := [by1 (n / 256), by1 n]
def itB (x : It) : BL :=
 by1 x.k ::
 (if x.k = 1 then [by1 x.g, by1 x.c] ++ two x.n
 else if x.k = 2 ∨ x.k = 3 ∨ x.k = 4 then two x.n
 else if x.k = 5 then [by1 x.g] ++ two x.n
 else if x.k = 6 then [by1 x.c] ++ (two x.b.length ++ x.b)
 else if x.k = 7 then two x.b.length ++ x.b
 else [])
def scB (s : Sc) : BL := [by1 s.g, by1 s.n, by1 s.c] ++ s.l.flatMap itB
def int2 (a b : UInt8) : Int := (a.toNat * 256 + b.toNat : Nat)
def item (k : Nat) (r : BL) : Option (It × BL) :=
 if k = 1 then match r with
  | g :: c :: a :: b :: r => some (⟨1, g.toNat, int2 a b, c.toNat, []⟩, r)
  | _ => none
 else if k = 2 ∨ k = 3 ∨ k = 4 then match r with
  | a :: b :: r => some (⟨k, 0, int2 a b, 0, []⟩, r)
  | _ => none
 else if k = 5 then match r with
  | g :: a :: b :: r => some (⟨5, g.toNat, int2 a b, 0, []⟩, r)
  | _ => none
 else if k = 6 then match r with
  | c :: a :: b :: r => if a.toNat * 256 + b.toNat ≤ r.length then some (⟨6, 0, 0, c.toNat, r.take (a.toNat * 256 + b.toNat)⟩, r.drop (a.toNat * 256 + b.toNat)) else none
  | _ => none
 else if k = 7 then match r with
  | a :: b :: r => if a.toNat * 256 + b.toNat ≤ r.length then some (⟨7, 0, 0, 0, r.take (a.toNat * 256 + b.toNat)⟩, r.drop (a.toNat * 256 + b.toNat)) else none
  | _ => none
 else some (⟨k, 0, 0, 0, []⟩, r)
theorem item_le {k : Nat} {r r' : BL} {x : It} (h : item k r = some (x, r')) : r'.length ≤ r.length := by
 unfold item at h
 split at h
 ·split at h
  ·simp only [Option.some.injEq, Prod.mk.injEq] at h; obtain ⟨_, rfl⟩ := h; simp; omega
  ·cases h
 split at h
 ·split at h
  ·simp only [Option.some.injEq, Prod.mk.injEq] at h; obtain ⟨_, rfl⟩ := h; simp; omega
  ·cases h
 split at h
 ·split at h
  ·simp only [Option.some.injEq, Prod.mk.injEq] at h; obtain ⟨_, rfl⟩ := h; simp; omega
  ·cases h
 split at h
 ·split at h
  ·split at h
   ·simp only [Option.some.injEq, Prod.mk.injEq] at h; obtain ⟨_, rfl⟩ := h; simp; omega
   ·cases h
  ·cases h
 split at h
 ·split at h
  ·split at h
   ·simp only [Option.some.injEq, Prod.mk.injEq] at h; obtain ⟨_, rfl⟩ := h; simp; omega
   ·cases h
  ·cases h
 ·simp only [Option.some.injEq, Prod.mk.injEq] at h; obtain ⟨_, rfl⟩ := h; exact Nat.le_refl _
def items : Nat → Nat → BL → List It
 | 0, _, _ => []
 | _ + 1, _, [] => []
 | _ + 1, 0, _ :: _ => []
 | f + 1, m + 1, k :: r =>
  if k.toNat < 1 ∨ 8 < k.toNat then items f (m + 1) r
  else match item k.toNat r with
   | some (x, r') => x :: items f m r'
   | none => []
def parse (b : BL) : Option Sc := match b with
 | g :: n :: c :: r => some ⟨g.toNat, n.toNat, c.toNat, items (r.length + 1) 256 r⟩
 | _ => none
def asked (x : It) : It :=
 if x.k = 1 then ⟨x.k, x.g, x.n, x.c, []⟩
 else if x.k = 2 ∨ x.k = 3 ∨ x.k = 4 then ⟨x.k, 0, x.n, 0, []⟩
 else if x.k = 5 then ⟨x.k, x.g, x.n, 0, []⟩
 else if x.k = 6 then ⟨x.k, 0, 0, x.c, x.b⟩
 else if x.k = 7 then ⟨x.k, 0, 0, 0, x.b⟩
 else ⟨x.k, 0, 0, 0, []⟩
theorem by1_nat {n : Int} (h : 0 ≤ n) (h2 : n ≤ 255) : ((by1 n).toNat : Int) = n := by
 unfold by1
 rw [UInt8.toNat_ofNat', Nat.mod_eq_of_lt (by omega)]; omega
theorem two_int {n : Int} (h : 0 ≤ n) (h2 : n ≤ 65535) : int2 (by1 (n / 256)) (by1 n) = n := by
 unfold int2 by1
 rw [UInt8.toNat_ofNat', UInt8.toNat_ofNat', Nat.mod_eq_of_lt (by omega), Nat.mod_eq_of_lt (by omega)]; omega
theorem two_nat {n : Nat} (h2 : n ≤ 65535) : (by1 ((n : Int) / 256)).toNat * 256 + (by1 (n : Int)).toNat = n := by
 unfold by1
 rw [UInt8.toNat_ofNat', UInt8.toNat_ofNat', Nat.mod_eq_of_lt (by omega), Nat.mod_eq_of_lt (by omega)]; omega
theorem ok_kind {x : It} (h : okI x = true) : 1 ≤ x.k ∧ x.k ≤ 8 := by
 unfold okI at h
 split at h
 ·omega
 split at h
 ·omega
 split at h
 ·omega
 split at h
 ·omega
 split at h
 ·omega
 ·simp at h; omega
theorem item_back {x : It} (h : okI x = true) (r : BL) : ∃ k t, itB x = k :: t ∧ ¬ (k.toNat < 1 ∨ 8 < k.toNat) ∧ item k.toNat (t ++ r) = some (asked x, r) := by
 obtain ⟨h1, h8⟩ := ok_kind h
 have hk : (by1 x.k).toNat = x.k.toNat := by have := by1_nat (n := x.k) (by omega) (by omega); omega
 refine ⟨by1 x.k, _, rfl, by omega, ?_⟩
 rw [hk]
 obtain ⟨k, g, n, c, b⟩ := x
 simp only at *
 unfold okI at h
 unfold item asked
 simp only at h ⊢
 by_cases e1 : k = 1
 ·subst e1
  simp only [if_true, small, num, Bool.and_eq_true, decide_eq_true_eq] at h
  simp [two, by1_nat h.1.1.1 h.1.1.2, by1_nat h.1.2.1 h.1.2.2, two_int h.2.1 h.2.2]
 ·by_cases e2 : k = 2 ∨ k = 3 ∨ k = 4
  ·simp only [if_neg e1, if_pos e2, num, Bool.and_eq_true, decide_eq_true_eq] at h
   have q1 : ¬ k.toNat = 1 := by omega
   have q2 : k.toNat = 2 ∨ k.toNat = 3 ∨ k.toNat = 4 := by omega
   have q3 : ((k.toNat : Nat) : Int) = k := by omega
   simp [e1, e2, q1, q2, q3, two, two_int h.1 h.2]
  ·by_cases e5 : k = 5
   ·subst e5
    simp [num, small] at h
    simp [two, by1_nat h.1.1 h.1.2, two_int h.2.1 h.2.2]
   ·by_cases e6 : k = 6
    ·subst e6
     simp [small] at h
     simp [two, by1_nat h.1.1 h.1.2, two_nat h.2]
    ·by_cases e7 : k = 7
     ·subst e7
      simp at h
      simp [two, two_nat h]
     ·have e8 : k = 8 := by omega
      subst e8
      simp
theorem items_back : ∀ (l : List It) (f m : Nat), (∀ x ∈ l, okI x = true) → l.length ≤ m → (l.flatMap itB).length < f → items f m (l.flatMap itB) = l.map asked
 | [], f, m, _, _, hf => by
  cases f with
  | zero => simp at hf
  | succ f => simp [items]
 | x :: l, f, m, hx, hm, hf => by
  obtain ⟨k, t, e, hk, hi⟩ := item_back (hx x (by simp)) (l.flatMap itB)
  cases f with
  | zero => simp at hf
  | succ f =>
   cases m with
   | zero => simp at hm
   | succ m =>
    have he : (x :: l).flatMap itB = k :: (t ++ l.flatMap itB) := by rw [List.flatMap_cons, e]; rfl
    rw [he] at hf ⊢
    rw [items, if_neg hk, hi]
    simp only [List.map_cons]
    rw [items_back l f m (fun y hy => hx y (by simp [hy])) (by simpa using hm) (by rw [List.length_cons, List.length_append] at hf; omega)]
theorem parse_back {s : Sc} (h : okS s = true) : parse (scB s) = some ⟨s.g, s.n, s.c, s.l.map asked⟩ := by
 unfold okS at h
 simp only [Bool.and_eq_true, decide_eq_true_eq, List.all_eq_true, small] at h
 obtain ⟨⟨h1, ⟨h2, h3⟩, h4⟩, h5⟩ := h
 unfold scB parse
 simp only [List.cons_append, List.nil_append]
 rw [items_back _ _ _ h5 h1 (Nat.lt_succ_self _), by1_nat h2.1 h2.2, by1_nat h3.1 h3.2, by1_nat h4.1 h4.2]
theorem item_app {k : Nat} {q q' t : BL} {y : It} (hi : item k q = some (y, q')) : item k (q ++ t) = some (y, q' ++ t) := by
 unfold item at hi ⊢
 split at hi
 ·rename_i e; rw [if_pos e]
  split at hi
  ·simp only [Option.some.injEq, Prod.mk.injEq] at hi; obtain ⟨rfl, rfl⟩ := hi; simp
  ·cases hi
 ·rename_i e; rw [if_neg e]
  split at hi
  ·rename_i e; rw [if_pos e]
   split at hi
   ·simp only [Option.some.injEq, Prod.mk.injEq] at hi; obtain ⟨rfl, rfl⟩ := hi; simp
   ·cases hi
  ·rename_i e; rw [if_neg e]
   split at hi
   ·rename_i e; rw [if_pos e]
    split at hi
    ·simp only [Option.some.injEq, Prod.mk.injEq] at hi; obtain ⟨rfl, rfl⟩ := hi; simp
    ·cases hi
   ·rename_i e; rw [if_neg e]
    split at hi
    ·rename_i e; rw [if_pos e]
     split at hi
     ·split at hi
      ·rename_i hl
       simp only [Option.some.injEq, Prod.mk.injEq] at hi; obtain ⟨rfl, rfl⟩ := hi
       simp only [List.cons_append]
       rw [if_pos (by simp; omega), List.take_append_of_le_length hl, List.drop_append_of_le_length hl]
      ·cases hi
     ·cases hi
    ·rename_i e; rw [if_neg e]
     split at hi
     ·rename_i e; rw [if_pos e]
      split at hi
      ·split at hi
       ·rename_i hl
        simp only [Option.some.injEq, Prod.mk.injEq] at hi; obtain ⟨rfl, rfl⟩ := hi
        simp only [List.cons_append]
        rw [if_pos (by simp; omega), List.take_append_of_le_length hl, List.drop_append_of_le_length hl]
       ·cases hi
      ·cases hi
     ·rename_i e; rw [if_neg e]
      simp only [Option.some.injEq, Prod.mk.injEq] at hi; obtain ⟨rfl, rfl⟩ := hi; rfl
theorem item_cut {k : Nat} {r r' q : BL} {x : It} (h : item k r = some (x, r')) (hq : q <+: r) : (item k q = none) ∨ ∃ q', item k q = some (x, q') ∧ q' <+: r' := by
 obtain ⟨t, rfl⟩ := hq
 cases hi : item k q with
 | none => exact .inl rfl
 | some p =>
  right
  obtain ⟨y, q'⟩ := p
  rw [item_app hi] at h
  simp only [Option.some.injEq, Prod.mk.injEq] at h
  obtain ⟨rfl, rfl⟩ := h
  exact ⟨q', rfl, t, rfl⟩
theorem items_cut : ∀ (f f' m : Nat) (q r : BL), q <+: r → r.length < f → q.length < f' → items f' m q <+: items f m r
 | 0, _, _, _, _, _, h, _ => by omega
 | _ + 1, 0, _, _, _, _, _, h => by omega
 | f + 1, f' + 1, m, [], r, _, _, _ => by simp [items]
 | f + 1, f' + 1, 0, a :: q, [], hq, _, _ => by simp at hq
 | f + 1, f' + 1, m, a :: q, [], hq, _, _ => by simp at hq
 | f + 1, f' + 1, 0, a :: q, b :: r, hq, _, _ => by simp [items]
 | f + 1, f' + 1, m + 1, a :: q, b :: r, hq, h1, h2 => by
  rw [List.cons_prefix_cons] at hq
  obtain ⟨rfl, hq⟩ := hq
  simp only [List.length_cons] at h1 h2
  rw [items, items]
  split
  ·exact items_cut f f' (m + 1) q r hq (by omega) (by omega)
  ·cases hi : item a.toNat r with
   | none =>
    have : item a.toNat q = none := by
     cases hj : item a.toNat q with
     | none => rfl
     | some p =>
      exfalso
      obtain ⟨t, rfl⟩ := hq
      obtain ⟨x, q'⟩ := p
      rw [item_app hj] at hi; cases hi
    rw [this]
    exact List.prefix_refl _
   | some p =>
    obtain ⟨x, r'⟩ := p
    rcases item_cut hi hq with e | ⟨q', e, hp⟩
    ·rw [e]; exact List.nil_prefix
    ·rw [e]
     simp only
     rw [List.cons_prefix_cons]
     exact ⟨rfl, items_cut f f' m q' r' hp (by have := item_le hi; omega) (by have := item_le e; omega)⟩
end ShellPlain
