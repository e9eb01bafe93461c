/- A part of a proof over the abstract machine. No conditions. -/
import Derived.Test.YtmhbdpgflomihaaGreatL4
namespace Go.Proofs.YtmhbdpgflomihaaGreat
open Go Go.Ab Wm NumPlain
set_option linter.unusedSimpArgs false
set_option linter.unnecessarySimpa false
set_option linter.unusedVariables false
set_option maxRecDepth 10000
set_option maxHeartbeats 4000000
structure St (h : H) (p b : Nat) (B : Blk) (c : Cl) : Prop where
  cl : ClAt h p c
  blk : h.f b = some B
  lt : b < h.next
  ne : b ≠ p
  q : clQ h p ≠ some b
theorem St.step {h h' : H} {p b : Nat} {B : Blk} {c c' : Cl} (s : St h p b B c) (a : ClAt h' p c') (e : Held h h' p) : St h' p b B c' := by
  obtain ⟨h1, h2, h3⟩ := e.other s.blk s.lt s.ne s.q
  exact ⟨a, h1, h2, s.ne, h3⟩
theorem St.new {h : H} {p b : Nat} {B : Blk} {c : Cl} (s : St h p b B c) (k : Blk) : St (h.new k) p b B c := by
  have hpn := s.cl.1
  have hb := s.lt
  refine ⟨s.cl.new k, by rw [new_at, if_neg (by omega)]; exact s.blk, by simp; omega, s.ne, ?_⟩
  have : clQ (h.new k) p = clQ h p := by simp only [clQ]; rw [new_at, if_neg (by omega)]
  rw [this]; exact s.q
abbrev zAns : Answer := ⟨0, none, ⟨[], []⟩, 0, 0, 0, 0, 0, [], none⟩
def cNew (k : Int) : Cl := ⟨k, 3, 0, false, [], none, 0, 0, [], 0, zAns⟩
def cAsk (k : Int) (row : BL) (op : BL) : Cl := ⟨k, 3, 1, true, row, some op, 1, 1, [], 0, zAns⟩
def cAt (k : Int) (row : BL) (op : BL) (g n : Int) : Cl := ⟨k, 3, 1, true, row, some op, 1, 1, [⟨⟨[], []⟩, g, n⟩], 0, zAns⟩
def ansN (code g n : Int) : Answer := ⟨code, none, ⟨[], []⟩, g, n, 0, 0, 0, [], none⟩
theorem ansN_is {code g n : Int} (h1 : 0 ≤ code ∧ code ≤ 255) (h2 : 0 ≤ g ∧ g ≤ 255) (h3 : 0 ≤ n ∧ n ≤ 1073741824) : AnsIs (ansN code g n) := by
  refine ⟨?_, rfl⟩
  have : lenB (none : Option BL) = 0 := rfl
  simp [ansN, ansOk0, inTo, spanOk, h1, h2, h3, this]
theorem less_nil (a : BL) : Op.bytesLess a [] = false := by cases a <;> rfl
theorem has_all (n : BL) : hasName ⟨[], []⟩ n = true := by simp [hasName, blt, less_nil]
theorem on_loc (k : Int) (row op : BL) (g n : Int) : onC (cAsk k row op) 2 0 (100 + k) k 1 (some (norm (ansN 0 g n))) = (cAt k row op g n, true) := by
  simp [onC, cAsk, tookO, took, located, norm, ansN, has_all, isort, ins, insR, cAt]
theorem find_at (k : Int) (row op : BL) (g n : Int) : (cAt k row op g n).cached.findIdx? (fun t => hasName t.span (cAt k row op g n).row) = some 0 := by
  simp [cAt, List.findIdx?_cons, has_all]
theorem on_other (k : Int) (row op : BL) (g n g' code : Int) (hg : g' ≠ g) : onC (cAt k row op g n) 2 g' (100 + k) k 1 (some (norm (ansN code 0 0))) = (cAt k row op g n, false) := by
  have hf := find_at k row op g n
  simp only [onC, tookO, took, hf]
  simp [cAt, hg]
theorem on_old (k : Int) (row op : BL) (g n : Int) : onC (cAt k row op g n) 2 g (100 + k) k 1 (some (norm (ansN 27 0 0))) = (cAt k row op g n, false) := by
  have hf := find_at k row op g n
  simp only [onC, tookO, took, hf]
  simp [cAt, answered, norm, ansN]
theorem on_wrong (k : Int) (row op : BL) (g n : Int) : onC (cAt k row op g n) 2 g (100 + k) k 1 (some (norm (ansN 26 0 0))) = (cAsk k row op, true) := by
  have hf := find_at k row op g n
  simp only [onC, tookO, took, hf]
  simp [cAt, cAsk, answered, norm, ansN]
theorem on_cond (k : Int) (row op : BL) (g n : Int) : onC (cAt k row op g n) 2 g (100 + k) k 1 (some (norm (ansN 25 0 0))) = ({ cAt k row op g n with busy := false, told := 1, ans := norm (ansN 25 0 0) }, false) := by
  have hf := find_at k row op g n
  simp only [onC, tookO, took, hf]
  simp [cAt, answered, norm, ansN]
theorem whom_ask (k : Int) (row op : BL) : whom (cAsk k row op) = 0 ∧ what (cAsk k row op) = some (u8 7 :: textB row) := by simp [whom, what, cAsk]
theorem whom_at (k : Int) (row op : BL) (g n : Int) : whom (cAt k row op g n) = g ∧ what (cAt k row op g n) = some op := by simp [whom, what, cAt, has_all]
theorem ok_ask {k : Int} {row op : BL} (hk : 0 ≤ k ∧ k < 4) (hr : row.length ≤ 16) (ho : op.length ≤ 1048576) : ClOk (cAsk k row op) := ⟨hk, by simp [cAsk], by simp [cAsk], hr, ho, by simp [cAsk], by simp [cAsk], by simp [cAsk]⟩
theorem ok_at {k : Int} {row op : BL} {g n : Int} (hk : 0 ≤ k ∧ k < 4) (hr : row.length ≤ 16) (ho : op.length ≤ 1048576) : ClOk (cAt k row op g n) := ⟨hk, by simp [cAt], by simp [cAt], hr, ho, by simp [cAt], by simp [cAt], by simp [cAt]⟩
theorem on_st {h : H} {p b : Nat} {B : Blk} {c : Cl} (s : St h p b B c) (ok : ClOk c) (hl : c.cached.length < 12) (g : Int) (a : Answer) (ha : AnsIs a) :
    ∃ r, W K 14 [.one (.ptr p 0 0), .agg (msgC 2 g 1 (100 + c.id) 0 0 c.id 1 (some (ansB0 a)))] h = some r ∧ Rets (fun v h' => St h' p b B (onC c 2 g (100 + c.id) c.id 1 (some (norm a))).1 ∧ Asks h h' (onC c 2 g (100 + c.id) c.id 1 (some (norm a))).1 (onC c 2 g (100 + c.id) c.id 1 (some (norm a))).2 v) r := by
  obtain ⟨r, e, hr⟩ := on_cl s.cl ok 2 g 1 (100 + c.id) 0 0 c.id 1 (some (ansB0 a)) (some (norm a)) (fun x hx => by cases hx; exact ha.rows) (fun h => dec_c a ha h) (fun x _ => Nat.lt_of_le_of_lt (List.length_filter_le _ _) hl)
  obtain ⟨v, h', rfl, h1, h2, h3⟩ := hr.ret
  exact ⟨_, e, s.step h1 h2, h3⟩
end Go.Proofs.YtmhbdpgflomihaaGreat
