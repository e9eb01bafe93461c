/- A part of a proof over the abstract machine. No conditions. -/
namespace ShellPlain
abbrev BL := List UInt8
structure It where
 k : Int
 g : Int
 n : Int
 c : Int
 b : BL
structure Sc where
 g : Int
 n : Int
 c : Int
 l : List It
def small (n : Int) : Bool := decide (0 ≤ n) && decide (n ≤ 255)
def num (n : Int) : Bool := decide (0 ≤ n) && decide (n ≤ 65535)
def okI (x : It) : Bool :=
 if x.k = 1 then small x.g && small x.c && num x.n
 else if x.k = 2 ∨ x.k = 3 ∨ x.k = 4 then num x.n
 else if x.k = 5 then small x.g && num x.n
 else if x.k = 6 then small x.c && decide (x.b.length ≤ 65535)
 else if x.k = 7 then decide (x.b.length ≤ 65535)
 else decide (x.k = 8)
def okS (s : Sc) : Bool := decide (s.l.length ≤ 256) && (small s.g && small s.n && small s.c) && s.l.all okI
def by1 (n : Int) : UInt8 := UInt8.ofNat (n % 256).toNat
def two (n : Int) : BL := [by1 (n / 256), by1 n]
def itB (x : It) : BL :=
 by1 x.k ::
 (if x.k = 1 then [by1 x.g, by1 x.c] ++ two x.n
 else if x.k = 2 ∨ x.k = 3 ∨ x.k = 4 then two x.n
 else if x.k = 5 then [by1 x.g] ++ two x.n
 else if x.k = 6 then [by1 x.c] ++ (two x.b.length ++ x.b)
 else if x.k = 7 then two x.b.length ++ x.b
 else [])
def scB (s : Sc) : BL := [by1 s.g, by1 s.n, by1 s.c] ++ s.l.flatMap itB
def int2 (a b : UInt8) : Int := (a.toNat * 256 + b.toNat : Nat)
def item (k : Nat) (r : BL) : Option (It × BL) :=
 if k = 1 then match r with
  | g :: c :: a :: b :: r => some (⟨1, g.toNat, int2 a b, c.toNat, []⟩, r)
  | _ => none
 else if k = 2 ∨ k = 3 ∨ k = 4 then match r with
  | a :: b :: r => some (⟨k, 0, int2 a b, 0, []⟩, r)
  | _ => none
 else if k = 5 then match r with
  | g :: a :: b :: r => some (⟨5, g.toNat, int2 a b, 0, []⟩, r)
  | _ => none
 else if k = 6 then match r with
  | c :: a :: b :: r => if a.toNat * 256 + b.toNat ≤ r.length then some (⟨6, 0, 0, c.toNat, r.take (a.toNat * 256 + b.toNat)⟩, r.drop (a.toNat * 256 + b.toNat)) else none
  | _ => none
 else if k = 7 then match r with
  | a :: b :: r => if a.toNat * 256 + b.toNat ≤ r.length then some (⟨7, 0, 0, 0, r.take (a.toNat * 256 + b.toNat)⟩, r.drop (a.toNat * 256 + b.toNat)) else none
  | _ => none
 else some (⟨k, 0, 0, 0, []⟩, r)
def items : Nat → Nat → BL → List It
 | 0, _, _ => []
 | _ + 1, _, [] => []
 | _ + 1, 0, _ :: _ => []
 | f + 1, m + 1, k :: r =>
  if k.toNat < 1 ∨ 8 < k.toNat then items f (m + 1) r
  else match item k.toNat r with
   | some (x, r') => x :: items f m r'
   | none => []
def asked (x : It) : It :=
 if x.k = 1 then ⟨x.k, x.g, x.n, x.c, []⟩
 else if x.k = 2 ∨ x.k = 3 ∨ x.k = 4 then ⟨x.k, 0, x.n, 0, []⟩
 else if x.k = 5 then ⟨x.k, x.g, x.n, 0, []⟩
 else if x.k = 6 then ⟨x.k, 0, 0, x.c, x.b⟩
 else if x.k = 7 then ⟨x.k, 0, 0, 0, x.b⟩
 else ⟨x.k, 0, 0, 0, []⟩
theorem ok_kind {x : It} (h : okI x = true) : 1 ≤ x.k ∧ x.k ≤ 8 := by
 unfold okI at h
 split at h
 ·omega
 split at h
 ·omega
 split at h
 ·omega
 split at h
 ·omega
 split at h
 ·omega
 ·simp at h; omega
end ShellPlain
