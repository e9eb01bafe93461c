/- A part of a proof over the abstract machine. No conditions. -/
import Derived.Test.YtmhbdpgflomihaaGreatL4
namespace Go.Proofs.YtmhbdpgflomihaaGreat
open Go Go.Ab Wm NumPlain
set_option linter.unusedSimpArgs false
set_option linter.unnecessarySimpa false
set_option linter.unusedVariables false
set_option maxRecDepth 10000
set_option maxHeartbeats 4000000
structure St (h : H) (p b : Nat) (B : Blk) (c : Cl) : Prop where
  cl : ClAt h p c
  blk : h.f b = some B
  lt : b < h.next
  ne : b ≠ p
  q : clQ h p ≠ some b
theorem St.step {h h' : H} {p b : Nat} {B : Blk} {c c' : Cl} (s : St h p b B c) (a : ClAt h' p c') (e : Held h h' p) : St h' p b B c' := by
  obtain ⟨h1, h2, h3⟩ := e.other s.blk s.lt s.ne s.q
  exact ⟨a, h1, h2, s.ne, h3⟩
theorem St.new {h : H} {p b : Nat} {B : Blk} {c : Cl} (s : St h p b B c) (k : Blk) : St (h.new k) p b B c := by
  have hpn := s.cl.1
  have hb := s.lt
  refine ⟨s.cl.new k, by rw [new_at, if_neg (by omega)]; exact s.blk, by simp; omega, s.ne, ?_⟩
  have : clQ (h.new k) p = clQ h p := by simp only [clQ]; rw [new_at, if_neg (by omega)]
  rw [this]; exact s.q
abbrev zAns : Answer := ⟨0, none, ⟨[], []⟩, 0, 0, 0, 0, 0, [], none⟩
def cNew (k : Int) : Cl := ⟨k, 3, 0, false, [], none, 0, 0, [], 0, zAns⟩
def cAsk (k : Int) (row : BL) (op : BL) : Cl := ⟨k, 3, 1, true, row, some op, 1, 1, [], 0, zAns⟩
def ansN (code g n : Int) : Answer := ⟨code, none, ⟨[], []⟩, g, n, 0, 0, 0, [], none⟩
theorem ansN_is {code g n : Int} (h1 : 0 ≤ code ∧ code ≤ 255) (h2 : 0 ≤ g ∧ g ≤ 255) (h3 : 0 ≤ n ∧ n ≤ 1073741824) : AnsIs (ansN code g n) := by
  refine ⟨?_, rfl⟩
  have : lenB (none : Option BL) = 0 := rfl
  simp [ansN, ansOk0, inTo, spanOk, h1, h2, h3, this]
theorem whom_ask (k : Int) (row op : BL) : whom (cAsk k row op) = 0 ∧ what (cAsk k row op) = some (u8 7 :: textB row) := by simp [whom, what, cAsk]
end Go.Proofs.YtmhbdpgflomihaaGreat
