/- A part of a proof over the abstract machine. No conditions. -/
import Derived.Test.YtmhbdpgflomihaaGreatC7
import Derived.Test.YtmhbdpgflomihaaGreatC8
import Derived.Test.YtmhbdpgflomihaaGreatAb5
namespace Go.Proofs.YtmhbdpgflomihaaGreat
open Go Go.Ab Wm NumPlain
set_option linter.unusedSimpArgs false
set_option linter.unnecessarySimpa false
set_option linter.unusedVariables false
set_option maxRecDepth 10000
set_option maxHeartbeats 4000000
abbrev rT : Nat := 142
theorem slice_to (h : H) (l : BL) (n : Nat) (hn : n ≤ l.length) : sliceA h 1 (bs (some l)) none (some (.one (ii n))) none = some (bs (some (l.take n))) := by
  rw [bs_some, bs_some]
  have hq : (l.map byteS).length = l.length := by simp
  simp [sliceA, bound, sub, hn, Nat.min_eq_left hn]
theorem slice_from (h : H) (l : BL) (n : Nat) (hn : n ≤ l.length) : sliceA h 1 (bs (some l)) (some (.one (ii n))) none none = some (bs (some (l.drop n))) := by
  rw [bs_some, bs_some]
  have hq : (l.map byteS).length = l.length := by simp
  simp [sliceA, bound, sub, hn]
  exact List.take_of_length_le (by simp)
theorem take_c {h : H} {p : Nat} {l : BL} (n : Nat) (hn : n ≤ l.length) (hl : l.length ≤ 1099511627776) (hf : h.f p = some (rdB (some l))) : W K 134 [.one (.ptr p 0 0), .one (ii n)] h = some (.ret (.one (bs (some (l.take n)))) (h.set p (rdB (some (l.drop n))))) := by
  have hc := clone_g (some (l.take n)) (by simp; omega)
  have hc' := fun h => hc.pure hp h
  have h1 := fun h => slice_to h l n hn
  have h2 := fun h => slice_from h l n hn
  have hd : decide ((l.length : Int) < n) = false := by simp; omega
  have hd2 : ¬ (l.length : Int) < n := by omega
  refine W_does hp rfl rfl rfl Tryz.func134 rfl (by simp [Tryz.f134]) ?_
  simp only [Tryz.f134]
  refine hide ?_; intro Q1 hQ1
  repeat' (first
    | (replace hQ1 := hQ1; simp [hf, hc', h1, h2, hd, hd2, bs_size])
    | refine hQ1 _ _ _ ?_
    | (first | apply cF | apply wN | apply wS) <;> intro hcnd <;> (try simp only [hcnd]) <;> (try simp [-List.isEmpty_iff, -List.isEmpty_eq_false_iff] at hcnd))
theorem index_bs {l : BL} {i : Nat} (hi : i < l.length) : indexA Tryz.prog 29 (bs (some l)) i = some (.rp (l.map byteS) i) := by
  rw [bs_some]; simp [indexA, hi]
theorem sub_bs (a r : BL) (b : UInt8) : sub ((a ++ b :: r).map byteS) a.length 1 = some [byteS b] := by
  simp [sub]
theorem number_c {h : H} {p : Nat} {l : BL} (n : Nat) (hn8 : n ≤ 8) (hn : n ≤ l.length) (hl : l.length ≤ 1099511627776) (hf : h.f p = some (rdB (some l))) : W K 133 [.one (.ptr p 0 0), .one (ii n)] h = some (.ret (.one (.int .u64 (numB (l.take n)))) (h.set p (rdB (some (l.drop n))))) := by
  have ht := take_c n hn hl hf
  have htl : (l.take n).length = n := by simp; omega
  generalize l.take n = x at *
  refine W_does hp rfl rfl rfl Tryz.func133 rfl (by simp [Tryz.f133]) ?_
  simp only [Tryz.f133]
  refine hide ?_; intro Q2 hQ2
  repeat' (first
    | (replace hQ2 := hQ2; simp [ht])
    | refine hQ2 _ _ _ ?_
    | (first | apply cF | apply wN | apply wS) <;> intro hcnd <;> (try simp only [hcnd]) <;> (try simp [-List.isEmpty_iff, -List.isEmpty_eq_false_iff] at hcnd))
  refine does_each hp x (fun a r fr hh => ∃ j, fr = (j 0 :: j 1 :: j 2 :: j 3 :: j 4 :: (.one (.int .u64 (numB a))) :: j 6 :: j 7 :: j 8 :: j 9 :: (.one (bs (some x))) :: (.one (ii x.length)) :: (.one (ii a.length)) :: j 13 :: j 14 :: j 15 :: j 16 :: j 17 :: j 18 :: j 19 :: j 20 :: j 21 :: j 22 :: []) ∧ hh = h.set p (rdB (some (l.drop n)))) ?_ ?_ _ _ (ex_get (by simp) rfl)
  · rintro a b r fr hh hx ⟨j, rfl, hh2⟩
    subst hx
    have hi := index_bs (l := a ++ b :: r) (i := a.length) (by simp)
    have hr := sub_bs a r b
    generalize (a ++ b :: r).map byteS = M at hi hr
    have hw : IntKind.i64.wrap ((a.length : Int) + 1) = ((a ++ [b]).length : Int) := by rw [step_len]; exact step_wrap (by simp at htl; omega)
    have hb : b.toNat < 256 := b.toNat_lt
    have ha : numB a < 72057594037927936 := by
      have h1 := numB_lt a
      have h2 : 256 ^ a.length ≤ 256 ^ 7 := Nat.pow_le_pow_right (by omega) (by simp at htl; omega)
      have h3 : (256 : Nat) ^ 7 = 72057594037927936 := by decide
      omega
    have hs := shl_byte ha
    have ho : orI .u64 ((numB a : Int) * 256) b.toNat = (numB a : Int) * 256 + b.toNat := by have := or_byte ha hb; simpa using this
    have hc : IntKind.u64.wrap (b.toNat : Int) = b.toNat := wrap_u64 (by omega) (by omega)
    have hlt : decide ((a.length : Int) < (a ++ b :: r).length) = true := by simp; omega
    first | (refine hide ?_; intro Q3 hQ3) | have hQ3 := True.intro
    repeat' (first
      | (replace hQ3 := hQ3; simp [-List.length_append, hi, hr, hw, hs, ho, hc, convA, byteS, numB_snoc])
      | (refine hQ3 _ _ _ ?_; clear hQ3 Q3; first | simp only [] | simp [-List.length_append, hi, hr, hw, hs, ho, hc, convA, byteS, numB_snoc] | skip)
      | (refine hadQ (by assumption) ?_; (try clear hQ3); first | simp only [] | simp [-List.length_append, hi, hr, hw, hs, ho, hc, convA, byteS, numB_snoc] | skip)
      | ((fail_if_success replace hQ3 := hQ3); (first | refine hide ?_ | refine hideS ?_ | refine hideB ?_); intro Q3 hQ3)
      | (first | apply cF | apply wN | apply wS) <;> intro hcnd <;> (try simp only [hcnd]) <;> (try simp [-List.isEmpty_iff, -List.isEmpty_eq_false_iff] at hcnd))
    all_goals first | omega | exact ex_get (by simp [numB_snoc]) hh2 | trace_state
  · rintro fr hh ⟨j, rfl, hh2⟩
    first | (refine hide ?_; intro Q4 hQ4) | have hQ4 := True.intro
    repeat' (first
      | (replace hQ4 := hQ4; simp [hh2])
      | (refine hQ4 _ _ _ ?_; clear hQ4 Q4; first | simp only [] | simp [hh2] | skip)
      | (refine hadQ (by assumption) ?_; (try clear hQ4); first | simp only [] | simp [hh2] | skip)
      | ((fail_if_success replace hQ4 := hQ4); (first | refine hide ?_ | refine hideS ?_ | refine hideB ?_); intro Q4 hQ4)
      | (first | apply cF | apply wN | apply wS) <;> intro hcnd <;> (try simp only [hcnd]) <;> (try simp [-List.isEmpty_iff, -List.isEmpty_eq_false_iff] at hcnd))
    all_goals trace_state
theorem fail_c (h : H) (q : Nat) : W K 112 [.one (.ptr q 0 0)] h = some (.pan (.ifc rT (.ptr q 0 0)) h) := by
  refine W_does hp rfl rfl rfl Tryz.func112 rfl (by simp [Tryz.f112]) ?_
  simp only [Tryz.f112]
  refine hide ?_; intro Q5 hQ5
  repeat' (first
    | (replace hQ5 := hQ5; simp)
    | refine hQ5 _ _ _ ?_)
theorem take_f {h : H} {p : Nat} {o : Option BL} (n : Nat) (hn : (ls o).length < n) (hf : h.f p = some (rdB o)) : W K 134 [.one (.ptr p 0 0), .one (ii n)] h = some (.pan (.ifc rT (.ptr p 0 0)) h) := by
  have hd : decide (((ls o).length : Int) < n) = true := by simp; omega
  have hd2 : ((ls o).length : Int) < n := by omega
  have hx := fail_c h p
  refine W_does hp rfl rfl rfl Tryz.func134 rfl (by simp [Tryz.f134]) ?_
  simp only [Tryz.f134]
  refine hide ?_; intro Q6 hQ6
  repeat' (first
    | (replace hQ6 := hQ6; simp [hf, hd, hd2, hx])
    | refine hQ6 _ _ _ ?_
    | (first | apply cF | apply wN | apply wS) <;> intro hcnd <;> (try simp only [hcnd]) <;> (try simp [-List.isEmpty_iff, -List.isEmpty_eq_false_iff] at hcnd))
theorem number_f {h : H} {p : Nat} {o : Option BL} (n : Nat) (hn : (ls o).length < n) (hf : h.f p = some (rdB o)) : W K 133 [.one (.ptr p 0 0), .one (ii n)] h = some (.pan (.ifc rT (.ptr p 0 0)) h) := by
  have ht := take_f n hn hf
  refine W_does hp rfl rfl rfl Tryz.func133 rfl (by simp [Tryz.f133]) ?_
  simp only [Tryz.f133]
  refine hide ?_; intro Q7 hQ7
  repeat' (first
    | (replace hQ7 := hQ7; simp [ht])
    | refine hQ7 _ _ _ ?_
    | (first | apply cF | apply wN | apply wS) <;> intro hcnd <;> (try simp only [hcnd]) <;> (try simp [-List.isEmpty_iff, -List.isEmpty_eq_false_iff] at hcnd))
theorem ls_pos {α : Type} {o : Option (List α)} {n : Nat} (h : n + 1 ≤ (ls o).length) : ∃ l, o = some l := by
  cases o with
  | none => simp at h
  | some l => exact ⟨l, rfl⟩
theorem byte_r : Reads K rT 107 [] byteP (fun b => .one (byteS b)) := by
  intro h q o w
  cases hl : ls o with
  | nil =>
    have hn : W K 133 [.one (.ptr q 0 0), .one (.int .i64 1)] h = _ := number_f (h := h) (p := q) (o := o) 1 (by rw [hl]; simp) w.rd
    refine ⟨.pan (.ifc rT (.ptr q 0 0)) h, ?_, rd_no rfl w⟩
    refine W_does hp rfl rfl rfl Tryz.func107 rfl (by simp [Tryz.f107]) ?_
    simp only [Tryz.f107]
    refine hide ?_; intro Q8 hQ8
    repeat' (first
      | (replace hQ8 := hQ8; simp [hn])
      | refine hQ8 _ _ _ ?_)
  | cons b l =>
    have ho := w.room
    have hf := w.rd
    obtain rfl := ls_cons (a := []) hl
    have hn : W K 133 [.one (.ptr q 0 0), .one (.int .i64 1)] h = some (.ret (.one (.int .u64 b.toNat)) (h.set q (rdB (some l)))) := by
      have := number_c 1 (by omega) (by simp) ho hf
      simpa [numB_one] using this
    have hc : IntKind.u8.wrap (b.toNat : Int) = b.toNat := wrap_u8 (by omega) (by have := b.toNat_lt; omega)
    refine ⟨.ret (.one (byteS b)) (h.set q (rdB (some l))), ?_, rd_ok rfl (w.rdset (some l) (by simp at ho ⊢; omega)) rfl⟩
    refine W_does hp rfl rfl rfl Tryz.func107 rfl (by simp [Tryz.f107]) ?_
    simp only [Tryz.f107]
    refine hide ?_; intro Q9 hQ9
    repeat' (first
      | (replace hQ9 := hQ9; simp [hn, hc, convA, byteS])
      | refine hQ9 _ _ _ ?_)
theorem number_r (k : Nat) (hk : 1 ≤ k ∧ k ≤ 8) : Reads K rT 133 [.one (ii k)] (numP k) (fun n => .one (.int .u64 n)) := by
  intro h q o w
  unfold numP
  by_cases hn : k ≤ (ls o).length
  · obtain ⟨l, rfl⟩ := ls_pos (n := k - 1) (o := o) (by omega)
    rw [if_pos hn]
    exact ⟨_, number_c k hk.2 hn w.room w.rd, rd_ok rfl (w.rdset (some (l.drop k)) (by have := w.room; simp at this ⊢; omega)) rfl⟩
  · rw [if_neg hn]
    exact ⟨_, number_f k (by omega) w.rd, rd_no rfl w⟩
theorem numP_lt {k n : Nat} {l l' : BL} (h : numP k l = some (n, l')) : n < 256 ^ k ∧ l'.length + k = l.length := by
  unfold numP at h
  split at h
  · simp only [Option.some.injEq, Prod.mk.injEq] at h
    obtain ⟨rfl, rfl⟩ := h
    have := numB_lt (l.take k)
    rw [List.length_take, Nat.min_eq_left (by omega)] at this
    exact ⟨this, by simp; omega⟩
  · cases h
theorem num_r : Reads K rT 111 [] (numP 4) (fun n => .one (.int .u32 n)) := by
  intro h q o w
  obtain ⟨r, e, hx⟩ := number_r 4 (by omega) h q o w
  have e' : W K 133 [.one (.ptr q 0 0), .one (.int .i64 4)] h = some r := e
  unfold RdFin at hx
  split at hx
  · rename_i n l hpe
    obtain ⟨h', rfl, w'⟩ := hx
    simp only [] at e'
    have hc : IntKind.u32.wrap (n : Int) = n := wrap_u32 (by omega) (by have := (numP_lt hpe).1; omega)
    refine ⟨.ret (.one (.int .u32 n)) h', ?_, rd_ok hpe w' rfl⟩
    refine W_does hp rfl rfl rfl Tryz.func111 rfl (by simp [Tryz.f111]) ?_
    simp only [Tryz.f111]
    refine hide ?_; intro Q12 hQ12
    repeat' (first
      | (replace hQ12 := hQ12; simp [e', hc, convA])
      | refine hQ12 _ _ _ ?_)
  · rename_i hpe
    obtain ⟨h', o', rfl, w'⟩ := hx
    refine ⟨_, ?_, rd_no hpe w'⟩
    refine W_does hp rfl rfl rfl Tryz.func111 rfl (by simp [Tryz.f111]) ?_
    simp only [Tryz.f111]
    refine hide ?_; intro Q13 hQ13
    repeat' (first
      | (replace hQ13 := hQ13; simp [e', convA])
      | refine hQ13 _ _ _ ?_)
theorem text_r (most : Nat) (hm : most ≤ 1048576) : Reads K rT 108 [.one (ii most)] (textP most) (fun x => .one (bs (some x))) := by
  intro h q o w
  unfold textP
  obtain ⟨r, e, hx⟩ := num_r h q o w
  unfold RdFin at hx
  split at hx
  · rename_i n l hpe
    obtain ⟨h', rfl, w'⟩ := hx
    simp only [] at e
    simp only [hpe, Option.bind_some]
    have hn := (numP_lt hpe).1
    have hc : IntKind.i64.wrap (n : Int) = n := wrap_i64 (by omega) (by omega)
    by_cases h1 : 1048576 < n ∨ most < n
    · rw [if_pos h1]
      refine ⟨.pan (.ifc rT (.ptr q 0 0)) h', ?_, rd_no rfl w'⟩
      have hx := fail_c h' q
      have hd : (decide (1048576 < n) || decide (most < n)) = true := by simpa using h1
      rcases h1 with h1 | h1
      · have hd1 : decide (1048576 < n) = true := by simp; omega
        refine W_does hp rfl rfl rfl Tryz.func108 rfl (by simp [Tryz.f108]) ?_
        simp only [Tryz.f108]
        refine hide ?_; intro Q14 hQ14
        repeat' (first
          | (replace hQ14 := hQ14; simp [e, hc, h1, hd1, hx, convA])
          | refine hQ14 _ _ _ ?_
          | (first | apply cF | apply wN | apply wS) <;> intro hcnd <;> (try simp only [hcnd]) <;> (try simp [-List.isEmpty_iff, -List.isEmpty_eq_false_iff] at hcnd))
      · have hd1 : decide (most < n) = true := by simp; omega
        by_cases h2 : 1048576 < n
        · refine W_does hp rfl rfl rfl Tryz.func108 rfl (by simp [Tryz.f108]) ?_
          simp only [Tryz.f108]
          refine hide ?_; intro Q15 hQ15
          repeat' (first
            | (replace hQ15 := hQ15; simp [e, hc, h1, h2, hd1, hx, convA])
            | refine hQ15 _ _ _ ?_
            | (first | apply cF | apply wN | apply wS) <;> intro hcnd <;> (try simp only [hcnd]) <;> (try simp [-List.isEmpty_iff, -List.isEmpty_eq_false_iff] at hcnd))
        · refine W_does hp rfl rfl rfl Tryz.func108 rfl (by simp [Tryz.f108]) ?_
          simp only [Tryz.f108]
          refine hide ?_; intro Q16 hQ16
          repeat' (first
            | (replace hQ16 := hQ16; simp [e, hc, h1, h2, hd1, hx, convA])
            | refine hQ16 _ _ _ ?_
            | (first | apply cF | apply wN | apply wS) <;> intro hcnd <;> (try simp only [hcnd]) <;> (try simp [-List.isEmpty_iff, -List.isEmpty_eq_false_iff] at hcnd))
    · rw [if_neg h1]
      have hd1 : ¬ 1048576 < n := by omega
      have hd2 : ¬ most < n := by omega
      have hd3 : decide (1048576 < n) = false := by simp; omega
      have hd4 : decide (most < n) = false := by simp; omega
      by_cases h2 : n ≤ l.length
      · rw [if_pos h2]
        have ht := take_c n h2 w'.room w'.rd
        refine ⟨.ret (.one (bs (some (l.take n)))) (h'.set q (rdB (some (l.drop n)))), ?_, rd_ok rfl (w'.rdset (some (l.drop n)) (by have := w'.room; simp at this ⊢; omega)) rfl⟩
        refine W_does hp rfl rfl rfl Tryz.func108 rfl (by simp [Tryz.f108]) ?_
        simp only [Tryz.f108]
        refine hide ?_; intro Q17 hQ17
        repeat' (first
          | (replace hQ17 := hQ17; simp [e, ht, hc, hd1, hd2, hd3, hd4, convA])
          | refine hQ17 _ _ _ ?_
          | (first | apply cF | apply wN | apply wS) <;> intro hcnd <;> (try simp only [hcnd]) <;> (try simp [-List.isEmpty_iff, -List.isEmpty_eq_false_iff] at hcnd))
      · rw [if_neg h2]
        have ht := take_f (o := some l) n (by simp; omega) w'.rd
        refine ⟨_, ?_, rd_no rfl w'⟩
        refine W_does hp rfl rfl rfl Tryz.func108 rfl (by simp [Tryz.f108]) ?_
        simp only [Tryz.f108]
        refine hide ?_; intro Q18 hQ18
        repeat' (first
          | (replace hQ18 := hQ18; simp [e, ht, hc, hd1, hd2, hd3, hd4, convA])
          | refine hQ18 _ _ _ ?_
          | (first | apply cF | apply wN | apply wS) <;> intro hcnd <;> (try simp only [hcnd]) <;> (try simp [-List.isEmpty_iff, -List.isEmpty_eq_false_iff] at hcnd))
  · rename_i hpe
    obtain ⟨h', o', rfl, w'⟩ := hx
    simp only [hpe, Option.bind_none]
    refine ⟨_, ?_, rd_no rfl w'⟩
    refine W_does hp rfl rfl rfl Tryz.func108 rfl (by simp [Tryz.f108]) ?_
    simp only [Tryz.f108]
    refine hide ?_; intro Q19 hQ19
    repeat' (first
      | (replace hQ19 := hQ19; simp [e, convA])
      | refine hQ19 _ _ _ ?_
      | (first | apply cF | apply wN | apply wS) <;> intro hcnd <;> (try simp only [hcnd]) <;> (try simp [-List.isEmpty_iff, -List.isEmpty_eq_false_iff] at hcnd))
end Go.Proofs.YtmhbdpgflomihaaGreat
