/- A part of a proof over the abstract machine. No conditions. -/
import Derived.Test.YtmhbdpgflomihaaGreatK4
import Derived.Test.YtmhbdpgflomihaaGreatAb3
namespace Go.Proofs.YtmhbdpgflomihaaGreat
open Go Go.Ab Wm NumPlain
set_option linter.unusedSimpArgs false
set_option linter.unnecessarySimpa false
set_option linter.unusedVariables false
set_option maxRecDepth 10000
set_option maxHeartbeats 4000000
def took (c : Cl) (group : Int) (a : Answer) : Cl × Bool :=
  match c.cached.findIdx? (fun t => hasName t.span c.row) with
  | none => if group = 0 then located c a else (c, false)
  | some i => if group = (c.cached[i]?.map (·.group)).getD (-1) then answered c i a else (c, false)
def tookO (c : Cl) (group : Int) : Option Answer → Cl × Bool
  | none => (c, false)
  | some a => took c group a
def onC (c : Cl) (kind group to client seq : Int) (dec : Option Answer) : Cl × Bool :=
  if c.busy = true ∧ kind = 2 ∧ client = c.id ∧ to = 100 + c.id ∧ seq = c.seq then tookO c group dec else (c, false)
abbrev msgC (kind group frm to ballot slot client seq : Int) (b : Option BL) : List AS := [ii kind, ii group, ii frm, ii to, ii ballot, ii slot, ii client, ii seq, bs b, .nilslc]
theorem idx_some {α : Type} {p : α → Bool} {l : List α} {i : Nat} (h : l.findIdx? p = some i) : idx p l = i ∧ i < l.length := by
  constructor
  · unfold idx; rw [h]
  · rw [List.findIdx?_eq_some_iff_getElem] at h; exact h.1
theorem idx_none {α : Type} {p : α → Bool} {l : List α} (h : l.findIdx? p = none) : idx p l = -1 := by unfold idx; rw [h]
theorem on_cl {h : H} {p : Nat} {c : Cl} (ca : ClAt h p c) (ok : ClOk c) (kind group frm to ballot slot client seq : Int) (b : Option BL) (dec : Option Answer) (hrows : ∀ a, dec = some a → a.rows = none)
    (hdec : ∀ h, W K 35 [.one (bs b)] h = some (.ret (.tup [(true, ansC (dec.getD ⟨0, none, ⟨[], []⟩, 0, 0, 0, 0, 0, [], none⟩)), (false, [ii (if dec.isSome then 0 else 12)])]) h)) (hlen : ∀ a, dec = some a → (c.cached.filter fun t => !meetOk t.span a.span).length < 12) :
    ∃ r, W K 14 [.one (.ptr p 0 0), .agg (msgC kind group frm to ballot slot client seq b)] h = some r ∧ Rets (fun v h' => ClAt h' p (onC c kind group to client seq dec).1 ∧ Held h h' p ∧ Asks h h' (onC c kind group to client seq dec).1 (onC c kind group to client seq dec).2 v) r := by
  refine Rets.intro fun P hP => ?_
  have okid := ok.id
  have hcl := client_c c.id (by omega)
  have hpn := ca.1
  have hne : ¬ p = h.next := by omega
  have hne2 : ¬ h.next = p := by omega
  have hkeep : ∀ k, ClAt (h.new k) p c ∧ Held h (h.new k) p := fun k => ⟨ca.new k, by simp, fun b hb _ _ => by rw [new_at, if_neg (by omega)], fun b hb => .inl (by rw [clQ, new_at, if_neg hne] at hb; exact hb)⟩
  by_cases hall : c.busy = true ∧ kind = 2 ∧ client = c.id ∧ to = 100 + c.id ∧ seq = c.seq
  · have e1 : onC c kind group to client seq dec = tookO c group dec := by unfold onC; rw [if_pos hall]
    rw [e1] at hP
    obtain ⟨k1, k2, k3, k4, k5⟩ := hall
    subst k2 k3 k4 k5
    obtain ⟨A, hA⟩ : ∃ A : Answer, dec.getD ⟨0, none, ⟨[], []⟩, 0, 0, 0, 0, 0, [], none⟩ = A := ⟨_, rfl⟩
    rw [hA] at hdec
    have hs := new_set (h.new ⟨0, [10], true, msgC 2 group frm (100 + c.id) ballot slot c.id c.seq b⟩) ⟨0, [11], true, zA⟩ ⟨0, [11], true, ansC A⟩
    have ca2 : ClAt ((h.new ⟨0, [10], true, msgC 2 group frm (100 + c.id) ballot slot c.id c.seq b⟩).new ⟨0, [11], true, ansC A⟩) p c := (hkeep _).1.new _
    have held2 : Held h ((h.new ⟨0, [10], true, msgC 2 group frm (100 + c.id) ballot slot c.id c.seq b⟩).new ⟨0, [11], true, ansC A⟩) p := ⟨by simp; omega, fun b hb _ _ => by rw [new_at, if_neg (by simp; omega), new_at, if_neg (by omega)], fun b hb => .inl (by rw [clQ, new_at, if_neg (by simp; omega), new_at, if_neg hne] at hb; exact hb)⟩
    have hfi := find_c ca2 ok.cached
    have hnx : ((h.new ⟨0, [10], true, msgC 2 group frm (100 + c.id) ballot slot c.id c.seq b⟩).new ⟨0, [11], true, ansC A⟩).next = h.next + 1 + 1 := rfl
    generalize hBM : (⟨0, [10], true, msgC 2 group frm (100 + c.id) ballot slot c.id c.seq b⟩ : Blk) = BM at *
    have hne3 : ¬ p = h.next + 1 := by omega
    have hne4 : ¬ h.next + 1 = p := by omega
    simp only [new_next] at hs
    cases hdc : dec with
    | none =>
      rw [hdc] at hP hdec hA
      simp only [tookO] at hP
      have hq : P (.one .nilslc) ((h.new BM).new ⟨0, [11], true, ansC A⟩) := hP _ _ ⟨ca2, held2, .nilslc, rfl, rfl, by simp [ownB]⟩
      generalize hix : idx (fun t => hasName t.span c.row) c.cached = ix at hfi
      obtain ⟨_, s, hf, hsl, hos⟩ := ca
      obtain ⟨id, n, sq, busy, row, op, w, g, cached, told, ⟨a1, a2, ⟨a3, a4⟩, a5, a6, a7, a8, a9, a10, a11⟩⟩ := c
      obtain ⟨b1, b3, ⟨b4, b5⟩, b6, b7, b8, b9, b10, b11, b12⟩ := A
      simp only at k1
      subst k1
      simp only [clC, zA] at *
      subst hBM
      refine W_doesQ hp rfl rfl rfl Tryz.func14 rfl (by simp [Tryz.f14]) ?_
      simp only [Tryz.f14]
      refine hide ?_; intro Q1 hQ1
      repeat' (first
        | (replace hQ1 := hQ1; simp [hf, hne, hne2, hne3, hne4, hcl, hdec, hs, hfi])
        | refine hQ1 _ _ _ ?_
        | (first | refine dF (id := 1) [0, 1, 2, 3, 4, 5, 6, 7, 8, 9, 10, 11, 12, 13, 14, 15, 16, 17, 18, 19, 20, 21, 22, 23, 24, 25, 26, 27, 28, 29, 30, 31, 32, 33, 34, 35, 36, 37] [(21, 26)] ?_ | refine dF (id := 8) [0, 1, 2, 3, 4, 5, 6, 7, 8, 9, 10, 11, 12, 13, 14, 15] [] ?_)
        | (first | apply cF | apply wN | apply wS) <;> intro hcnd <;> (try simp only [hcnd]) <;> (try simp [-List.isEmpty_iff, -List.isEmpty_eq_false_iff] at hcnd))
      all_goals first | exact hq | trace_state
    | some a0 =>
      rw [hdc] at hP hdec hA
      have ha0 : a0 = A := by simpa using hA
      subst ha0
      simp only [tookO, took] at hP
      have hr0 := hrows a0 hdc
      have hl0 := hlen a0 hdc
      cases hfx : c.cached.findIdx? (fun t => hasName t.span c.row) with
      | none =>
        rw [idx_none hfx] at hfi
        simp only [hfx] at hP
        by_cases hg : group = 0
        · rw [if_pos hg] at hP
          obtain ⟨r, d1, hr⟩ := located_cl ca2 ok a0 hl0
          obtain ⟨v, h', rfl, ca3, he3, as3⟩ := hr.ret
          obtain ⟨s5, rfl, _⟩ := id as3
          have hq : P (.one s5) h' := hP _ _ ⟨ca3, held2.trans he3, as3.from (by rw [hnx]; omega)⟩
          obtain ⟨_, s, hf, hsl, hos⟩ := ca
          obtain ⟨id, n, sq, busy, row, op, w, g, cached, told, ⟨a1, a2, ⟨a3, a4⟩, a5, a6, a7, a8, a9, a10, a11⟩⟩ := c
          obtain ⟨b1, b3, ⟨b4, b5⟩, b6, b7, b8, b9, b10, b11, b12⟩ := a0
          simp only at k1
          subst k1 hg
          simp only [clC, zA] at *
          subst hBM
          refine W_doesQ hp rfl rfl rfl Tryz.func14 rfl (by simp [Tryz.f14]) ?_
          simp only [Tryz.f14]
          refine hide ?_; intro Q2 hQ2
          repeat' (first
            | (replace hQ2 := hQ2; simp [hf, hne, hne2, hne3, hne4, hcl, hdec, hs, hfi, d1])
            | refine hQ2 _ _ _ ?_
            | (first | refine dF (id := 1) [0, 1, 2, 3, 4, 5, 6, 7, 8, 9, 10, 11, 12, 13, 14, 15, 16, 17, 18, 19, 20, 21, 22, 23, 24, 25, 26, 27, 28, 29, 30, 31, 32, 33, 34, 35, 36, 37] [(21, 26)] ?_ | refine dF (id := 8) [0, 1, 2, 3, 4, 5, 6, 7, 8, 9, 10, 11, 12, 13, 14, 15] [] ?_)
            | (first | apply cF | apply wN | apply wS) <;> intro hcnd <;> (try simp only [hcnd]) <;> (try simp [-List.isEmpty_iff, -List.isEmpty_eq_false_iff] at hcnd))
          all_goals first | exact hq | trace_state
        · rw [if_neg hg] at hP
          have hq : P (.one .nilslc) ((h.new BM).new ⟨0, [11], true, ansC a0⟩) := hP _ _ ⟨ca2, held2, .nilslc, rfl, rfl, by simp [ownB]⟩
          have hgb : (group == 0) = false := by simp [hg]
          have hlt : decide ((-1 : Int) < 0) = true := by decide
          obtain ⟨_, s, hf, hsl, hos⟩ := ca
          obtain ⟨id, n, sq, busy, row, op, w, g, cached, told, ⟨a1, a2, ⟨a3, a4⟩, a5, a6, a7, a8, a9, a10, a11⟩⟩ := c
          obtain ⟨b1, b3, ⟨b4, b5⟩, b6, b7, b8, b9, b10, b11, b12⟩ := a0
          simp only at k1
          subst k1
          simp only [clC, zA] at *
          subst hBM
          refine W_doesQ hp rfl rfl rfl Tryz.func14 rfl (by simp [Tryz.f14]) ?_
          simp only [Tryz.f14]
          refine hide ?_; intro Q3 hQ3
          repeat' (first
            | (replace hQ3 := hQ3; simp [hf, hne, hne2, hne3, hne4, hcl, hdec, hs, hfi, hg, hgb])
            | refine hQ3 _ _ _ ?_
            | (first | refine dF (id := 1) [0, 1, 2, 3, 4, 5, 6, 7, 8, 9, 10, 11, 12, 13, 14, 15, 16, 17, 18, 19, 20, 21, 22, 23, 24, 25, 26, 27, 28, 29, 30, 31, 32, 33, 34, 35, 36, 37] [(21, 26)] ?_ | refine dF (id := 8) [0, 1, 2, 3, 4, 5, 6, 7, 8, 9, 10, 11, 12, 13, 14, 15] [] ?_)
            | (first | apply cF | apply wN | apply wS) <;> intro hcnd <;> (try simp only [hcnd]) <;> (try simp [-List.isEmpty_iff, -List.isEmpty_eq_false_iff] at hcnd))
          all_goals first | exact hq | trace_state
      | some i =>
        obtain ⟨hix, hil⟩ := idx_some hfx
        rw [hix] at hfi
        simp only [hfx, List.getElem?_eq_getElem hil, Option.map_some, Option.getD_some] at hP
        have hilt : decide ((i : Int) < 0) = false := by simp <;> omega
        have hige : (0 : Int) ≤ i := by omega
        have hilt2 : ¬ (i : Int) < 0 := by omega
        rcases id ca with ⟨_, s, hf, hsl, hos⟩
        rcases hsl with ⟨rfl, e0⟩ | ⟨b0, v0, z0, rfl, ar⟩
        · rw [e0] at hil; simp at hil
        have hbn := ar.1
        have hb1 : ¬ b0 = h.next := by omega
        have hb2 : ¬ b0 = h.next + 1 := by omega
        obtain ⟨fx, ex, Z, hfb, _, _, hrd, _⟩ := ar.cells len_tablet
        obtain ⟨q1, q2⟩ := hrd i hil
        have hi := arr_index (P := Tryz.prog) (size := 4) (b := b0) (v := v0) (n := c.cached.length) (i := i) Tryz.underlying66 (by simp) (by omega) hil
        have hr2 : sub Z (i * 4 + 2) 1 = some [ii (c.cached[i]).group] := by
          have := sub_part q2 (o := 2) (n := 1) (by omega)
          rw [this]; rfl
        have q3 : i * 4 + 2 + 1 ≤ Z.length := by omega
        generalize hgr : (c.cached[i]).group = gr at *
        by_cases hg : group = gr
        · rw [if_pos hg] at hP
          obtain ⟨r, d1, hr⟩ := answered_cl ca2 ok a0 hr0 i hil
          obtain ⟨v, h', rfl, ca3, he3, as3⟩ := hr.ret
          obtain ⟨s5, rfl, _⟩ := id as3
          have hq : P (.one s5) h' := hP _ _ ⟨ca3, held2.trans he3, as3.from (by rw [hnx]; omega)⟩
          clear hgr hkeep ca ca2 ca3 held2 he3 as3 hr hP hrows hlen ok
          obtain ⟨id, n, sq, busy, row, op, w, g, cached, told, ⟨a1, a2, ⟨a3, a4⟩, a5, a6, a7, a8, a9, a10, a11⟩⟩ := c
          obtain ⟨b1, b3, ⟨b4, b5⟩, b6, b7, b8, b9, b10, b11, b12⟩ := a0
          simp only at k1
          subst k1 hg
          simp only [clC, zA] at *
          subst hBM
          refine W_doesQ hp rfl rfl rfl Tryz.func14 rfl (by simp [Tryz.f14]) ?_
          simp only [Tryz.f14]
          refine hide ?_; intro Q4 hQ4
          repeat' (first
            | (replace hQ4 := hQ4; simp [hf, hfb, hne, hne2, hne3, hne4, hb1, hb2, hcl, hdec, hs, hfi, hilt, hige, hilt2, hi, hr2, q3, d1])
            | refine hQ4 _ _ _ ?_
            | (first | refine dF (id := 1) [0, 1, 2, 3, 4, 5, 6, 7, 8, 9, 10, 11, 12, 13, 14, 15, 16, 17, 18, 19, 20, 21, 22, 23, 24, 25, 26, 27, 28, 29, 30, 31, 32, 33, 34, 35, 36, 37] [(21, 26)] ?_ | refine dF (id := 8) [0, 1, 2, 3, 4, 5, 6, 7, 8, 9, 10, 11, 12, 13, 14, 15] [] ?_)
            | (first | apply cF | apply wN | apply wS) <;> intro hcnd <;> (try simp only [hcnd]) <;> (try simp [-List.isEmpty_iff, -List.isEmpty_eq_false_iff] at hcnd))
          all_goals first | exact hq | trace_state
        · rw [if_neg hg] at hP
          have hq : P (.one .nilslc) ((h.new BM).new ⟨0, [11], true, ansC a0⟩) := hP _ _ ⟨ca2, held2, .nilslc, rfl, rfl, by simp [ownB]⟩
          have hgb : (group == gr) = false := by simp [hg]
          clear hgr hkeep ca ca2 held2 hP hrows hlen ok
          obtain ⟨id, n, sq, busy, row, op, w, g, cached, told, ⟨a1, a2, ⟨a3, a4⟩, a5, a6, a7, a8, a9, a10, a11⟩⟩ := c
          obtain ⟨b1, b3, ⟨b4, b5⟩, b6, b7, b8, b9, b10, b11, b12⟩ := a0
          simp only at k1
          subst k1
          simp only [clC, zA] at *
          subst hBM
          refine W_doesQ hp rfl rfl rfl Tryz.func14 rfl (by simp [Tryz.f14]) ?_
          simp only [Tryz.f14]
          refine hide ?_; intro Q5 hQ5
          repeat' (first
            | (replace hQ5 := hQ5; simp [hf, hfb, hne, hne2, hne3, hne4, hb1, hb2, hcl, hdec, hs, hfi, hilt, hige, hilt2, hi, hr2, q3, hg, hgb])
            | refine hQ5 _ _ _ ?_
            | (first | refine dF (id := 1) [0, 1, 2, 3, 4, 5, 6, 7, 8, 9, 10, 11, 12, 13, 14, 15, 16, 17, 18, 19, 20, 21, 22, 23, 24, 25, 26, 27, 28, 29, 30, 31, 32, 33, 34, 35, 36, 37] [(21, 26)] ?_ | refine dF (id := 8) [0, 1, 2, 3, 4, 5, 6, 7, 8, 9, 10, 11, 12, 13, 14, 15] [] ?_)
            | (first | apply cF | apply wN | apply wS) <;> intro hcnd <;> (try simp only [hcnd]) <;> (try simp [-List.isEmpty_iff, -List.isEmpty_eq_false_iff] at hcnd))
          all_goals first | exact hq | trace_state
  · have e1 : onC c kind group to client seq dec = (c, false) := by unfold onC; rw [if_neg hall]
    rw [e1] at hP
    have hq : P (.one .nilslc) (h.new ⟨0, [10], true, msgC kind group frm to ballot slot client seq b⟩) := hP _ _ ⟨(hkeep _).1, (hkeep _).2, .nilslc, rfl, rfl, by simp [ownB]⟩
    obtain ⟨_, s, hf, hsl, hos⟩ := ca
    obtain ⟨id, n, sq, busy, row, op, w, g, cached, told, ⟨a1, a2, ⟨a3, a4⟩, a5, a6, a7, a8, a9, a10, a11⟩⟩ := c
    simp only [clC] at hf hcl
    simp only at hall
    cases busy
    · refine W_doesQ hp rfl rfl rfl Tryz.func14 rfl (by simp [Tryz.f14]) ?_
      simp only [Tryz.f14]
      refine hide ?_; intro Q6 hQ6
      repeat' (first
        | (replace hQ6 := hQ6; simp [hf, hne, hne2, hcl])
        | refine hQ6 _ _ _ ?_
        | (first | refine dF (id := 1) [0, 1, 2, 3, 4, 5, 6, 7, 8, 9, 10, 11, 12, 13, 14, 15, 16, 17, 18, 19, 20, 21, 22, 23, 24, 25, 26, 27, 28, 29, 30, 31, 32, 33, 34, 35, 36, 37] [(21, 26)] ?_ | refine dF (id := 8) [0, 1, 2, 3, 4, 5, 6, 7, 8, 9, 10, 11, 12, 13, 14, 15] [] ?_)
        | (first | apply cF | apply wN | apply wS) <;> intro hcnd <;> (try simp only [hcnd]) <;> (try simp [-List.isEmpty_iff, -List.isEmpty_eq_false_iff] at hcnd))
      all_goals exact hq
    · by_cases k2 : kind = 2
      · by_cases k3 : client = id
        · by_cases k4 : to = 100 + id
          · have k5 : ¬ seq = sq := fun e => hall ⟨rfl, k2, k3, k4, e⟩
            have b5 : (seq != sq) = true := by simp [k5]
            subst k2 k3 k4
            refine W_doesQ hp rfl rfl rfl Tryz.func14 rfl (by simp [Tryz.f14]) ?_
            simp only [Tryz.f14]
            refine hide ?_; intro Q7 hQ7
            repeat' (first
              | (replace hQ7 := hQ7; simp [hf, hne, hne2, hcl, k5, b5])
              | refine hQ7 _ _ _ ?_
              | (first | refine dF (id := 1) [0, 1, 2, 3, 4, 5, 6, 7, 8, 9, 10, 11, 12, 13, 14, 15, 16, 17, 18, 19, 20, 21, 22, 23, 24, 25, 26, 27, 28, 29, 30, 31, 32, 33, 34, 35, 36, 37] [(21, 26)] ?_ | refine dF (id := 8) [0, 1, 2, 3, 4, 5, 6, 7, 8, 9, 10, 11, 12, 13, 14, 15] [] ?_)
              | (first | apply cF | apply wN | apply wS) <;> intro hcnd <;> (try simp only [hcnd]) <;> (try simp [-List.isEmpty_iff, -List.isEmpty_eq_false_iff] at hcnd))
            all_goals exact hq
          · have b4 : (to != 100 + id) = true := by simp [k4]
            subst k2 k3
            refine W_doesQ hp rfl rfl rfl Tryz.func14 rfl (by simp [Tryz.f14]) ?_
            simp only [Tryz.f14]
            refine hide ?_; intro Q8 hQ8
            repeat' (first
              | (replace hQ8 := hQ8; simp [hf, hne, hne2, hcl, k4, b4])
              | refine hQ8 _ _ _ ?_
              | (first | refine dF (id := 1) [0, 1, 2, 3, 4, 5, 6, 7, 8, 9, 10, 11, 12, 13, 14, 15, 16, 17, 18, 19, 20, 21, 22, 23, 24, 25, 26, 27, 28, 29, 30, 31, 32, 33, 34, 35, 36, 37] [(21, 26)] ?_ | refine dF (id := 8) [0, 1, 2, 3, 4, 5, 6, 7, 8, 9, 10, 11, 12, 13, 14, 15] [] ?_)
              | (first | apply cF | apply wN | apply wS) <;> intro hcnd <;> (try simp only [hcnd]) <;> (try simp [-List.isEmpty_iff, -List.isEmpty_eq_false_iff] at hcnd))
            all_goals exact hq
        · have b3 : (client != id) = true := by simp [k3]
          subst k2
          refine W_doesQ hp rfl rfl rfl Tryz.func14 rfl (by simp [Tryz.f14]) ?_
          simp only [Tryz.f14]
          refine hide ?_; intro Q9 hQ9
          repeat' (first
            | (replace hQ9 := hQ9; simp [hf, hne, hne2, hcl, k3, b3])
            | refine hQ9 _ _ _ ?_
            | (first | refine dF (id := 1) [0, 1, 2, 3, 4, 5, 6, 7, 8, 9, 10, 11, 12, 13, 14, 15, 16, 17, 18, 19, 20, 21, 22, 23, 24, 25, 26, 27, 28, 29, 30, 31, 32, 33, 34, 35, 36, 37] [(21, 26)] ?_ | refine dF (id := 8) [0, 1, 2, 3, 4, 5, 6, 7, 8, 9, 10, 11, 12, 13, 14, 15] [] ?_)
            | (first | apply cF | apply wN | apply wS) <;> intro hcnd <;> (try simp only [hcnd]) <;> (try simp [-List.isEmpty_iff, -List.isEmpty_eq_false_iff] at hcnd))
          all_goals exact hq
      · have b2 : (kind != 2) = true := by simp [k2]
        refine W_doesQ hp rfl rfl rfl Tryz.func14 rfl (by simp [Tryz.f14]) ?_
        simp only [Tryz.f14]
        refine hide ?_; intro Q10 hQ10
        repeat' (first
          | (replace hQ10 := hQ10; simp [hf, hne, hne2, hcl, k2, b2])
          | refine hQ10 _ _ _ ?_
          | (first | refine dF (id := 1) [0, 1, 2, 3, 4, 5, 6, 7, 8, 9, 10, 11, 12, 13, 14, 15, 16, 17, 18, 19, 20, 21, 22, 23, 24, 25, 26, 27, 28, 29, 30, 31, 32, 33, 34, 35, 36, 37] [(21, 26)] ?_ | refine dF (id := 8) [0, 1, 2, 3, 4, 5, 6, 7, 8, 9, 10, 11, 12, 13, 14, 15] [] ?_)
          | (first | apply cF | apply wN | apply wS) <;> intro hcnd <;> (try simp only [hcnd]) <;> (try simp [-List.isEmpty_iff, -List.isEmpty_eq_false_iff] at hcnd))
        all_goals exact hq
end Go.Proofs.YtmhbdpgflomihaaGreat
